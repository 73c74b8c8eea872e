import PyProof.Rows.All
import Wide.All
import OpenK.AllK
import Wide.FinOn
import HandS.ForSpec
import HandS.Comp
import HandS.Wide
import HandS.EndBits
import HandS.IsInst
import HandS.Rev
import HandS.Iter
import HandS.Style
import HandS.ExcIs
import HandS.Flt
import HandS.Conv
import HandS.Deep
import PyProof.ListRange
import HandS.Dict
import HandS.ExcOwn
import HandS.SortInts
import HandS.SortRule
import HandS.TryMany
import HandS.Zip
import PySem.Challenge.RW_deeprests_k71_parts_found_back
set_option Elab.async false
set_option linter.all false
set_option maxRecDepth 100000
set_option maxHeartbeats 4000000
namespace Pz
open PySem PySem.Spec PyProof.Rows L2

/-! ### values and slots -/
/-- what an owned object holds -/
inductive Oc where
  | ls (ds : List PyData)
  | dc (kvs : List (Key × PyData))
  | dl (kvs : List (Key × PyData))
  | dt (kvs : List (List Key × PyData))
  | tl (d1 d2 : List PyData)
  | ob (P : Int) (kvs : List (Key × PyData))
/-- a slot, or a value: nothing known, frozen data, an owned object, a list that some slot owns (its items frozen), data that is readable now -/
inductive PV where
  | un | im (d : PyData) | ow (c : Oc) | lv (ds : List PyData) | rd (d : PyData) | xc (a : Addr)
abbrev Rho := List PV
def Oc.data : Oc → PyData
  | .ls ds => .list ds
  | .dc _ => .dict []
  | .dl _ => .dict []
  | .dt _ => .dict []
  | .tl _ _ => .dict []
  | .ob _ _ => .dict []
def PV.data : PV → PyData
  | .un => .dict [] | .im d => d | .ow c => c.data | .lv ds => .list ds | .rd d => d | .xc _ => .dict []

/-- what a slot may hold -/
def PV.keeps : PV → Bool
  | .im _ => true | .ow _ => true | _ => false

mutual
/-- data as they lie in the heap; odd: a dict, of which the kind alone is known -/
inductive Dp (K : PySem.W.Frag) (H : Hp) : V → PyData → Prop
  | non : Dp K H .non .none
  | bl (b : Bool) : Dp K H (.bl b) (.bool b)
  | int (i : Int) : Dp K H (.int i) (.int i)
  | str (x : Str) : Dp K H (.str x) (.str x)
  | lst {a : Addr} {xs : List V} {ds : List PyData} : SqL K H a xs → DpAll K H xs ds → Dp K H (.ref a) (.list ds)
  | tup {a : Addr} {xs : List V} {ds : List PyData} : SqT K H a xs → DpAll K H xs ds → Dp K H (.ref a) (.tuple ds)
  | odd {a : Addr} {kv : List (Key × V)} : H a = some (.dK kv) → Dp K H (.ref a) (.dict [(.none, .none)])
inductive DpAll (K : PySem.W.Frag) (H : Hp) : List V → List PyData → Prop
  | nil : DpAll K H [] []
  | cons {v : V} {vs : List V} {d : PyData} {ds : List PyData} : Dp K H v d → DpAll K H vs ds → DpAll K H (v :: vs) (d :: ds)
end
mutual
theorem dp_kit {K : PySem.W.Frag} {H : Hp} : ∀ {d : PyData} {v : V}, d.canLay0 = true → Dp K H v d → L2.Dp K H v d
  | _, _, _, .non => .non
  | _, _, _, .bl b => .bl b
  | _, _, _, .int i => .int i
  | _, _, _, .str x => .str x
  | _, _, c, .lst h a => .lst h (dpa_kit (by simpa [PyData.canLay0] using c) a)
  | _, _, c, .tup h a => .tup h (dpa_kit (by simpa [PyData.canLay0] using c) a)
  | _, _, c, .odd h => by simp [PyData.canLay0] at c
theorem dpa_kit {K : PySem.W.Frag} {H : Hp} : ∀ {ds : List PyData} {vs : List V}, PyData.canLayAll0 ds = true → DpAll K H vs ds → L2.DpAll K H vs ds
  | _, _, _, .nil => .nil
  | _, _, c, .cons h t => .cons (dp_kit (by simp [PyData.canLayAll0] at c; exact c.1) h) (dpa_kit (by simp [PyData.canLayAll0] at c; exact c.2) t)
end
mutual
theorem dp_own {K : PySem.W.Frag} {H : Hp} : ∀ {d : PyData} {v : V}, L2.Dp K H v d → Dp K H v d
  | _, _, .non => .non
  | _, _, .bl b => .bl b
  | _, _, .int i => .int i
  | _, _, .str x => .str x
  | _, _, .lst h a => .lst h (dpa_own a)
  | _, _, .tup h a => .tup h (dpa_own a)
theorem dpa_own {K : PySem.W.Frag} {H : Hp} : ∀ {ds : List PyData} {vs : List V}, L2.DpAll K H vs ds → DpAll K H vs ds
  | _, _, .nil => .nil
  | _, _, .cons h t => .cons (dp_own h) (dpa_own t)
end
theorem Same.sqT {K : PySem.W.Frag} {H H' : Hp} {a : Addr} {xs : List V} (e : Same H H') (h : SqT K H a xs) : SqT K H' a xs := by
  rcases h with (h | ⟨o, h⟩) | h
  · exact .inl (.inl (e _ _ h))
  · exact .inl (.inr ⟨o, e _ _ h⟩)
  · exact .inr h
mutual
theorem dp_mono {K : PySem.W.Frag} {H H' : Hp} (s : Same H H') : ∀ {d : PyData} {v : V}, Dp K H v d → Dp K H' v d
  | _, _, .non => .non
  | _, _, .bl b => .bl b
  | _, _, .int i => .int i
  | _, _, .str x => .str x
  | _, _, .lst h a => .lst (s.seq h) (dpAll_mono s a)
  | _, _, .tup h a => .tup (Same.sqT s h) (dpAll_mono s a)
  | _, _, .odd h => .odd (s _ _ h)
theorem dpAll_mono {K : PySem.W.Frag} {H H' : Hp} (s : Same H H') : ∀ {ds : List PyData} {vs : List V}, DpAll K H vs ds → DpAll K H' vs ds
  | _, _, .nil => .nil
  | _, _, .cons h t => .cons (dp_mono s h) (dpAll_mono s t)
end
section
variable {K : PySem.W.Frag} {H : Hp}
theorem dpa_len : ∀ {vs : List V} {ds : List PyData}, DpAll K H vs ds → vs.length = ds.length
  | _, _, .nil => rfl
  | _, _, .cons _ t => by rw [List.length_cons, List.length_cons, dpa_len t]
theorem dpa_get : ∀ {vs : List V} {ds : List PyData} {i : Nat} {d : PyData}, DpAll K H vs ds → ds[i]? = some d → ∃ v, vs[i]? = some v ∧ Dp K H v d
  | _, _, _, _, .nil, e => by simp at e
  | _, _, 0, d, .cons h _, e => by simp at e; subst e; exact ⟨_, rfl, h⟩
  | _, _, i + 1, d, .cons _ t, e => by
    obtain ⟨v, e1, h⟩ := dpa_get (i := i) (d := d) t (by simpa using e)
    exact ⟨v, by simpa using e1, h⟩
theorem dpa_app : ∀ {vs ws : List V} {ds es : List PyData}, DpAll K H vs ds → DpAll K H ws es → DpAll K H (vs ++ ws) (ds ++ es)
  | _, _, _, _, .nil, t => t
  | _, _, _, _, .cons h r, t => .cons h (dpa_app r t)
theorem dpa_take (n : Nat) : ∀ {vs : List V} {ds : List PyData}, DpAll K H vs ds → DpAll K H (vs.take n) (ds.take n) := by
  induction n with
  | zero => intro vs ds _; simp; exact .nil
  | succ n ih => intro vs ds h; cases h with
    | nil => simp; exact .nil
    | cons h t => simp; exact .cons h (ih t)
theorem dpa_drop (n : Nat) : ∀ {vs : List V} {ds : List PyData}, DpAll K H vs ds → DpAll K H (vs.drop n) (ds.drop n) := by
  induction n with
  | zero => intro vs ds h; exact h
  | succ n ih => intro vs ds h; cases h with
    | nil => simp; exact .nil
    | cons h t => simp; exact ih t
theorem dpa_set {v : V} {d : PyData} (hd : Dp K H v d) : ∀ {vs : List V} {ds : List PyData} (i : Nat), DpAll K H vs ds → DpAll K H (vs.set i v) (ds.set i d)
  | _, _, _, .nil => .nil
  | _, _, 0, .cons _ t => .cons hd t
  | _, _, i + 1, .cons h t => .cons h (dpa_set hd i t)
theorem dpa_dropLast {vs : List V} {ds : List PyData} (h : DpAll K H vs ds) : DpAll K H vs.dropLast ds.dropLast := by
  rw [List.dropLast_eq_take, List.dropLast_eq_take, dpa_len h]
  exact dpa_take _ h
theorem dpa_reverse : ∀ {vs : List V} {ds : List PyData}, DpAll K H vs ds → DpAll K H vs.reverse ds.reverse
  | _, _, .nil => .nil
  | _, _, .cons h t => by
    rw [List.reverse_cons, List.reverse_cons]
    exact dpa_app (dpa_reverse t) (.cons h .nil)
theorem dpa_ints : ∀ (ns : List Int), DpAll K H (ns.map V.int) (ns.map PyData.int)
  | [] => .nil
  | n :: r => .cons (.int n) (dpa_ints r)
theorem dpa_ints_inv : ∀ {vs : List V} {ns : List Int}, DpAll K H vs (ns.map PyData.int) → vs = ns.map V.int
  | _, [], h => by cases h; rfl
  | _, n :: r, h => by
    rw [List.map_cons] at h
    cases h with
    | cons h t => cases h; rw [List.map_cons, ← dpa_ints_inv t]
end

/-! ### the frozen part and how the heap grows -/
structure Ext (F H F' H' : Hp) : Prop where
  ff : Same F F'
  hh : Same H H'
  fh : Same F' H'
  nw : ∀ a o, H a = some o → F a = none → F' a = none
theorem Ext.refl {F H : Hp} (s : Same F H) : Ext F H F H := ⟨.refl _, .refl _, s, fun _ _ _ h => h⟩
theorem Ext.trans {F H F1 H1 F2 H2 : Hp} (a : Ext F H F1 H1) (b : Ext F1 H1 F2 H2) : Ext F H F2 H2 :=
  ⟨a.ff.trans b.ff, a.hh.trans b.hh, b.fh, fun x o h e => b.nw x o (a.hh x o h) (a.nw x o h e)⟩
theorem same_upd {H : Hp} {p : Addr} {o : HO} (h : H p = none) : Same H (upd H p o) := fun b x e => by
  rw [upd_ne (ne_of_none e h)]
  exact e
theorem same_upd2 {F H : Hp} {p : Addr} {o : HO} (s : Same F H) (h : F p = none) : Same F (upd H p o) := fun b x e => by
  rw [upd_ne (ne_of_none e h)]
  exact s b x e
theorem same_upd3 {F H : Hp} {p : Addr} {o : HO} (s : Same F H) : Same (upd F p o) (upd H p o) := fun b x e => by
  by_cases h : b = p
  · subst h; rw [upd_same] at e ⊢; exact e
  · rw [upd_ne h] at e ⊢; exact s b x e
theorem none_upd {F : Hp} {a p : Addr} {o : HO} (h : F a = none) (n : a ≠ p) : upd F p o a = none := by rw [upd_ne n]; exact h
/-- a new object, frozen -/
theorem Ext.new {F H : Hp} {p : Addr} {o : HO} (s : Same F H) (h : H p = none) : Ext F H (upd F p o) (upd H p o) :=
  ⟨same_upd (s.free h), same_upd h, same_upd3 s, fun a u e n => none_upd n (ne_of_none e h)⟩
/-- a new object, not frozen -/
theorem Ext.own {F H : Hp} {p : Addr} {o : HO} (s : Same F H) (h : H p = none) : Ext F H F (upd H p o) :=
  ⟨.refl _, same_upd h, s.trans (same_upd h), fun a u e n => n⟩

def DcAll (K : PySem.W.Frag) (F : Hp) (kv : List (Key × V)) (kvs : List (Key × PyData)) : Prop := kv.map (·.1) = kvs.map (·.1) ∧ DpAll K F (kv.map (·.2)) (kvs.map (·.2))
def DtAll (K : PySem.W.Frag) (F : Hp) (kv : List (List Key × V)) (kvs : List (List Key × PyData)) : Prop := kv.map (·.1) = kvs.map (·.1) ∧ DpAll K F (kv.map (·.2)) (kvs.map (·.2))
def Own (K : PySem.W.Frag) (F H : Hp) (p : Addr) (fp : List Addr) : Oc → Prop
  | .ls ds => fp = [p] ∧ ∃ vs, H p = some (.lst vs) ∧ DpAll K F vs ds
  | .dc kvs => fp = [p] ∧ ∃ kv, H p = some (.dK kv) ∧ DcAll K F kv kvs
  | .dl kvs => fp = [p] ∧ ∃ kv od, H p = some (.frz od (.dK kv)) ∧ DcAll K F kv kvs
  | .dt kvs => fp = [p] ∧ ∃ kv, H p = some (.dT kv) ∧ DtAll K F kv kvs
  | .tl d1 d2 => ∃ q1 q2 vs1 vs2, fp = [p, q1, q2] ∧ q1 ≠ q2 ∧ H p = some (.tup [.ref q1, .ref q2]) ∧ H q1 = some (.lst vs1) ∧ H q2 = some (.lst vs2) ∧ DpAll K F vs1 d1 ∧ DpAll K F vs2 d2
  | .ob P kvs => ∃ C dx q kv, fp = [p, dx, q] ∧ PySem.W.nsIn K mainGlobals "Desk" = some (some (.ref C)) ∧ H p = some (.ins C dx [("prime", .int P), ("kept", .ref q)]) ∧ H dx = some (.own p) ∧ H q = some (.dK kv) ∧ DcAll K F kv kvs
section
variable {K : PySem.W.Frag} {F F' H H' : Hp} {p : Addr} {fp : List Addr} {c : Oc}
theorem Own.mono (h : Own K F H p fp c) (s : Same F F') (k : ∀ a ∈ fp, H' a = H a) : Own K F' H' p fp c := by
  cases c with
  | ls ds =>
    obtain ⟨rfl, vs, e, d⟩ := h
    exact ⟨rfl, vs, (k p (by simp)).trans e, dpAll_mono s d⟩
  | dc kvs =>
    obtain ⟨rfl, kv, e, d⟩ := h
    exact ⟨rfl, kv, (k p (by simp)).trans e, d.1, dpAll_mono s d.2⟩
  | dl kvs =>
    obtain ⟨rfl, kv, od, e, d⟩ := h
    exact ⟨rfl, kv, od, (k p (by simp)).trans e, d.1, dpAll_mono s d.2⟩
  | dt kvs =>
    obtain ⟨rfl, kv, e, d⟩ := h
    exact ⟨rfl, kv, (k p (by simp)).trans e, d.1, dpAll_mono s d.2⟩
  | tl d1 d2 =>
    obtain ⟨q1, q2, vs1, vs2, rfl, n, e, e1, e2, a1, a2⟩ := h
    exact ⟨q1, q2, vs1, vs2, rfl, n, (k p (by simp)).trans e, (k q1 (by simp)).trans e1, (k q2 (by simp)).trans e2, dpAll_mono s a1, dpAll_mono s a2⟩
  | ob P kvs =>
    obtain ⟨C, dx, q, kv, rfl, n, e, e1, e2, d⟩ := h
    exact ⟨C, dx, q, kv, rfl, n, (k p (by simp)).trans e, (k dx (by simp)).trans e1, (k q (by simp)).trans e2, d.1, dpAll_mono s d.2⟩
end

/-- a value that has come: x, in the heap H (H0: the heap ahead of it) -/
def Out (K : PySem.W.Frag) (F' H0 H' : Hp) (v : V) : PV → Prop
  | .im d => Dp K F' v d
  | .rd d => Dp K H' v d
  | .lv ds => ∃ p vs, v = .ref p ∧ SqL K H' p vs ∧ DpAll K F' vs ds
  | .ow c => ∃ p fp, v = .ref p ∧ Own K F' H' p fp c ∧ ∀ a ∈ fp, H0 a = none ∧ F' a = none ∧ ∃ o, H' a = some o
  | .un => False
  | .xc _ => False
theorem Own.dp {K : PySem.W.Frag} {F H : Hp} {p : Addr} {fp : List Addr} {ds : List PyData} (s : Same F H) (h : Own K F H p fp (.ls ds)) : Dp K H (.ref p) (.list ds) := by
  obtain ⟨rfl, vs, e, d⟩ := h
  exact .lst (SqL.of e) (dpAll_mono s d)
section
variable {K : PySem.W.Frag} {F H F1 H1 F2 H2 : Hp} {v : V} {x : PV}
theorem Out.keep (o : Out K F1 H H1 v x) (e : Ext F1 H1 F2 H2) : Out K F2 H H2 v x := by
  cases x with
  | un => exact o
  | xc _ => exact o
  | im d => exact dp_mono e.ff o
  | rd d => exact dp_mono e.hh o
  | lv ds => obtain ⟨p, vs, h1, h2, h3⟩ := o; exact ⟨p, vs, h1, e.hh.seq h2, dpAll_mono e.ff h3⟩
  | ow c =>
    obtain ⟨p, fp, rfl, w, k⟩ := o
    exact ⟨p, fp, rfl, w.mono e.ff (fun a ha => by obtain ⟨_, _, u, hu⟩ := k a ha; rw [e.hh a u hu, hu]), fun a ha => by
      obtain ⟨h1, h2, u, hu⟩ := k a ha
      exact ⟨h1, e.nw a u hu h2, u, e.hh a u hu⟩⟩
theorem Out.earlier {H0 : Hp} (o : Out K F1 H H1 v x) (s : Same H0 H) : Out K F1 H0 H1 v x := by
  cases x with
  | un => exact o
  | xc _ => exact o
  | im d => exact o
  | rd d => exact o
  | lv ds => exact o
  | ow c =>
    obtain ⟨p, fp, rfl, w, k⟩ := o
    exact ⟨p, fp, rfl, w, fun a ha => ⟨s.free (k a ha).1, (k a ha).2⟩⟩
end

/-! ### the state -/
def SR (K : PySem.W.Frag) (F H : Hp) (fp : List Addr) (o : Option V) : PV → Prop
  | .un => fp = []
  | .im d => fp = [] ∧ ∃ v, o = some v ∧ Dp K F v d
  | .ow c => ∃ p, o = some (.ref p) ∧ Own K F H p fp c
  | .lv _ => False
  | .rd _ => False
  | .xc a => fp = [] ∧ o = some (.ref a)
structure RS (K : PySem.W.Frag) (F0 H0 F : Hp) (ρ : Rho) (σ : L2.St) (H : Hp) : Prop where
  ext : Ext F0 H0 F H
  len : ρ.length = σ.length
  sl : ∃ fps : Nat → List Addr, (∀ i x o, ρ[i]? = some x → σ[i]? = some o → SR K F H (fps i) o x) ∧
    (∀ i a, a ∈ fps i → H0 a = none ∧ F a = none ∧ ∃ o, H a = some o) ∧ ∀ i j a, a ∈ fps i → a ∈ fps j → i = j
section
variable {K : PySem.W.Frag} {F0 H0 F H F' H' : Hp} {ρ : Rho} {σ : L2.St} {v : V} {x : PV}
theorem SR.keep {fp : List Addr} {o : Option V} (h : SR K F H fp o x) (s : Same F F') (k : ∀ a ∈ fp, H' a = H a) : SR K F' H' fp o x := by
  cases x with
  | un => exact h
  | xc _ => exact h
  | im d => obtain ⟨rfl, v, e, d⟩ := h; exact ⟨rfl, v, e, dp_mono s d⟩
  | rd d => exact h
  | lv d => exact h
  | ow c => obtain ⟨p, e, w⟩ := h; exact ⟨p, e, w.mono s k⟩
theorem RS.grow (r : RS K F0 H0 F ρ σ H) (e : Ext F H F' H') : RS K F0 H0 F' ρ σ H' := by
  obtain ⟨fps, h1, h2, h3⟩ := r.sl
  refine ⟨r.ext.trans e, r.len, fps, fun i x o a b => (h1 i x o a b).keep e.ff fun q hq => ?_, fun i a ha => ?_, h3⟩
  · obtain ⟨_, _, u, hu⟩ := h2 i q hq
    rw [e.hh q u hu, hu]
  · obtain ⟨q1, q2, u, hu⟩ := h2 i a ha
    exact ⟨q1, e.nw a u hu q2, u, e.hh a u hu⟩
theorem RS.start {F H : Hp} (s : Same F H) {vs : List V} {ds : List PyData} (h : DpAll K F vs ds) {N : List Str} : RS K F H F (ds.map PV.im ++ List.replicate (N.length - ds.length) PV.un) (start N vs) H := by
  refine ⟨.refl s, by unfold L2.start; simp [dpa_len h], fun _ => [], fun i x o a b => ?_, fun _ _ z => (nomatch z), fun _ _ _ z => (nomatch z)⟩
  have hl := dpa_len h
  unfold L2.start at b
  by_cases hi : i < ds.length
  · rw [List.getElem?_append_left (by simpa using hi), List.getElem?_map] at a
    rw [List.getElem?_append_left (by simp; omega), List.getElem?_map] at b
    obtain ⟨d, hd⟩ : ∃ d, ds[i]? = some d := ⟨_, List.getElem?_eq_getElem hi⟩
    obtain ⟨v, hv, p⟩ := dpa_get h hd
    rw [hd] at a; rw [hv] at b
    cases a; cases b
    exact ⟨rfl, v, rfl, p⟩
  · rw [List.getElem?_append_right (by simpa using hi)] at a
    rw [List.getElem?_replicate] at a
    split at a
    · cases a; rfl
    · cases a
theorem RS.forget (r : RS K F0 H0 F ρ σ H) (i : Nat) (o : Option V) : RS K F0 H0 F (ρ.set i .un) (σ.set i o) H := by
  obtain ⟨fps, h1, h2, h3⟩ := r.sl
  refine ⟨r.ext, by simp [r.len], fun j => if j = i then [] else fps j, fun j y o' a b => ?_, fun j a ha => ?_, fun j k a hj hk => ?_⟩
  · by_cases hj : j = i
    · subst hj
      simp only [if_pos]
      by_cases hl : j < ρ.length
      · rw [List.getElem?_set_self hl] at a
        cases a
        rfl
      · rw [List.getElem?_eq_none (by simpa using hl)] at a
        cases a
    · simp only [if_neg hj]
      rw [List.getElem?_set_ne (Ne.symm hj)] at a b
      exact h1 j y o' a b
  · by_cases hj : j = i
    · simp only [if_pos hj] at ha; cases ha
    · simp only [if_neg hj] at ha
      exact h2 j a ha
  · by_cases hj' : j = i
    · simp only [if_pos hj'] at hj; cases hj
    · by_cases hk' : k = i
      · simp only [if_pos hk'] at hk; cases hk
      · simp only [if_neg hj'] at hj
        simp only [if_neg hk'] at hk
        exact h3 j k a hj hk
/-- a slot is stored; the value came since Hs -/
theorem RS.store {F1 Hs : Hp} {i : Nat} (r : RS K F0 H0 F1 ρ σ Hs) (e : Ext F1 Hs F H) (hx : Out K F Hs H v x) (nr : x.keeps = true) : RS K F0 H0 F (ρ.set i x) (σ.set i (some v)) H := by
  obtain ⟨fps, h1, h2, h3⟩ := r.sl
  have r2 := r.grow e
  obtain ⟨fp, sr, o1, o2⟩ : ∃ fp : List Addr, SR K F H fp (some v) x ∧ (∀ a ∈ fp, H0 a = none ∧ F a = none ∧ ∃ o, H a = some o) ∧ ∀ j a, a ∈ fps j → a ∈ fp → False := by
    cases x with
    | un => exact hx.elim
    | xc _ => exact hx.elim
    | rd d => cases nr
    | lv d => cases nr
    | im d => exact ⟨[], ⟨rfl, v, rfl, hx⟩, fun _ z => (nomatch z), fun _ _ _ z => (nomatch z)⟩
    | ow c =>
      obtain ⟨p, fp, rfl, w, k⟩ := hx
      refine ⟨fp, ⟨p, rfl, w⟩, fun a ha => ⟨r.ext.hh.free (k a ha).1, (k a ha).2⟩, fun j a hj ha => ?_⟩
      obtain ⟨_, _, o, ho⟩ := h2 j a hj
      rw [(k a ha).1] at ho
      cases ho
  refine ⟨r2.ext, by simp [r.len], fun j => if j = i then fp else fps j, fun j y o a b => ?_, fun j a ha => ?_, fun j k a hj hk => ?_⟩
  · by_cases hj : j = i
    · subst hj
      simp only [if_pos]
      by_cases hl : j < ρ.length
      · rw [List.getElem?_set_self hl] at a
        rw [List.getElem?_set_self (by rw [← r.len]; exact hl)] at b
        cases a; cases b
        exact sr
      · rw [List.getElem?_eq_none (by simpa using hl)] at a
        cases a
    · simp only [if_neg hj]
      rw [List.getElem?_set_ne (Ne.symm hj)] at a b
      refine (h1 j y o a b).keep e.ff fun q hq => ?_
      obtain ⟨_, _, u, hu⟩ := h2 j q hq
      rw [e.hh q u hu, hu]
  · by_cases hj : j = i
    · simp only [if_pos hj] at ha
      exact o1 a ha
    · simp only [if_neg hj] at ha
      obtain ⟨q1, q2, u, hu⟩ := h2 j a ha
      exact ⟨q1, e.nw a u hu q2, u, e.hh a u hu⟩
  · by_cases hj' : j = i
    · by_cases hk' : k = i
      · rw [hj', hk']
      · simp only [if_pos hj'] at hj
        simp only [if_neg hk'] at hk
        exact (o2 k a hk hj).elim
    · by_cases hk' : k = i
      · simp only [if_neg hj'] at hj
        simp only [if_pos hk'] at hk
        exact (o2 j a hj hk).elim
      · simp only [if_neg hj'] at hj
        simp only [if_neg hk'] at hk
        exact h3 j k a hj hk
/-- an owned object's slot changes its content: H is upd at p -/
theorem RS.write {i : Nat} {p : Addr} {o : HO} {c c' : Oc} (r : RS K F0 H0 F ρ σ H) (hi : ρ[i]? = some (.ow c)) (hp : σ[i]? = some (some (.ref p)))
    (hw : ∀ fp, Own K F H p fp c → p ∈ fp ∧ Own K F (upd H p o) p fp c') : RS K F0 H0 F (ρ.set i (.ow c')) σ (upd H p o) := by
  obtain ⟨fps, h1, h2, h3⟩ := r.sl
  obtain ⟨q, e, w⟩ := h1 i _ _ hi hp
  cases e
  obtain ⟨hm, w'⟩ := hw _ w
  obtain ⟨n0, nF, u, hu⟩ := h2 i p hm
  have nodup : ∀ j, j ≠ i → ∀ a ∈ fps j, a ≠ p := fun j hj a ha z => hj (h3 j i a ha (by rw [z]; exact hm))
  refine ⟨⟨r.ext.ff, same_upd2 r.ext.hh n0, same_upd2 r.ext.fh nF, r.ext.nw⟩, by simp [r.len], fps, fun j y o' a b => ?_, fun j a ha => ?_, h3⟩
  · by_cases hj : j = i
    · subst hj
      have hl : j < ρ.length := (List.getElem?_eq_some_iff.mp hi).1
      rw [List.getElem?_set_self hl] at a
      cases a
      rw [hp] at b
      cases b
      exact ⟨p, rfl, w'⟩
    · rw [List.getElem?_set_ne (Ne.symm hj)] at a
      exact (h1 j y o' a b).keep (.refl _) fun q hq => upd_ne (nodup j hj q hq)
  · obtain ⟨q1, q2, u', hu'⟩ := h2 j a ha
    refine ⟨q1, q2, ?_⟩
    by_cases hap : a = p
    · rw [hap, upd_same]; exact ⟨_, rfl⟩
    · rw [upd_ne hap]; exact ⟨_, hu'⟩
/-- an owned list's slot is frozen -/
theorem RS.freeze {i : Nat} {ds : List PyData} (r : RS K F0 H0 F ρ σ H) (hi : ρ[i]? = some (.ow (.ls ds))) : ∃ F', RS K F0 H0 F' (ρ.set i (.im (.list ds))) σ H := by
  obtain ⟨fps, h1, h2, h3⟩ := r.sl
  have hl : i < ρ.length := (List.getElem?_eq_some_iff.mp hi).1
  have hl2 : i < σ.length := by rw [← r.len]; exact hl
  obtain ⟨q, e, w⟩ := h1 i _ _ hi (List.getElem?_eq_getElem hl2)
  obtain ⟨efp, vs, hq, d⟩ := w
  have hm : q ∈ fps i := by rw [efp]; simp
  obtain ⟨n0, nF, _⟩ := h2 i q hm
  have sF : Same F (upd F q (.lst vs)) := same_upd nF
  refine ⟨upd F q (.lst vs), ⟨r.ext.ff.trans sF, r.ext.hh, ?_, ?_⟩, by simp [r.len], fun j => if j = i then [] else fps j, fun j y o a b => ?_, fun j a ha => ?_, fun j k a hj hk => ?_⟩
  · intro a o ha
    by_cases h : a = q
    · subst h; rw [upd_same] at ha; cases ha; exact hq
    · rw [upd_ne h] at ha; exact r.ext.fh a o ha
  · intro a o ha hn
    refine none_upd (r.ext.nw a o ha hn) fun z => ?_
    subst z
    rw [n0] at ha; cases ha
  · by_cases hj : j = i
    · subst hj
      rw [List.getElem?_set_self hl] at a
      cases a
      simp only [if_pos]
      rw [List.getElem?_eq_getElem hl2] at b
      refine ⟨rfl, .ref q, by rw [← Option.some.inj b, e], .lst (SqL.of upd_same) (dpAll_mono sF d)⟩
    · simp only [if_neg hj]
      rw [List.getElem?_set_ne (Ne.symm hj)] at a
      exact (h1 j y o a b).keep sF fun _ _ => rfl
  · by_cases hj : j = i
    · simp only [if_pos hj] at ha; cases ha
    · simp only [if_neg hj] at ha
      obtain ⟨q1, q2, q3⟩ := h2 j a ha
      exact ⟨q1, none_upd q2 fun z => hj (h3 j i a ha (by rw [z]; exact hm)), q3⟩
  · by_cases hj' : j = i
    · simp only [if_pos hj'] at hj; cases hj
    · by_cases hk' : k = i
      · simp only [if_pos hk'] at hk; cases hk
      · simp only [if_neg hj'] at hj
        simp only [if_neg hk'] at hk
        exact h3 j k a hj hk
end
end Pz

namespace Pz
open PySem PySem.Spec PyProof.Rows L2

/-! ### judgements -/
/-- the text's own exceptions -/
inductive Xn where
  | RestError | NoDepth | NoInverse | NoBall | NoSingle | TooDeep | NoSmall | NoParts | NoPrime | NoText | NoName | NoRow | TooGreat
  deriving DecidableEq
def Xn.nm : Xn → Str
  | .RestError => "RestError" | .NoDepth => "NoDepth" | .NoInverse => "NoInverse" | .NoBall => "NoBall" | .NoSingle => "NoSingle" | .TooDeep => "TooDeep" | .NoSmall => "NoSmall"
  | .NoParts => "NoParts" | .NoPrime => "NoPrime" | .NoText => "NoText" | .NoName => "NoName" | .NoRow => "NoRow" | .TooGreat => "TooGreat"
abbrev XW := Xn → Rho → Prop
abbrev RE := XW → Rho → (PV → Prop) → Prop
abbrev RT := XW → Rho → (Bool → Prop) → Prop
abbrev RA := XW → Rho → (List PyData → Prop) → Prop
structure PEnds where
  nx : Rho → Prop
  rt : PV → Rho → Prop
  ex : XW
  bk : Rho → Prop := fun _ => False
  ct : Rho → Prop := fun _ => False
abbrev RC := PEnds → Rho → Prop
structure Zp where
  F0 : Hp
  H0 : Hp
  cl : Xn → Addr
abbrev RSz (K : PySem.W.Frag) (Z : Zp) : Hp → Rho → L2.St → Hp → Prop := RS K Z.F0 Z.H0
def lE (K : PySem.W.Frag) (Z : Zp) (t : Rho → (PV → Prop) → Prop) : TE := fun σ H Q => ∃ F ρ Q', RSz K Z F ρ σ H ∧ t ρ Q' ∧ ∀ x v F' H', Q' x → Ext F H F' H' → Out K F' H H' v x → Q v H'
def lT (K : PySem.W.Frag) (Z : Zp) (t : Rho → (Bool → Prop) → Prop) : TT := fun σ H Q => ∃ F ρ Q', RSz K Z F ρ σ H ∧ t ρ Q' ∧ ∀ b F' H', Q' b → Ext F H F' H' → Q b H'
/-- frozen arguments; readable ones -/
def lA (K : PySem.W.Frag) (Z : Zp) (n : Nat) (t : Rho → (List PyData → Prop) → Prop) : TA := fun σ H Q => ∃ F ρ Q', RSz K Z F ρ σ H ∧ t ρ Q' ∧ ∀ ds vs F' H', Q' ds → ds.length = n → Ext F H F' H' → DpAll K F' vs ds → Q vs H'
def lR (K : PySem.W.Frag) (Z : Zp) (t : Rho → (List PyData → Prop) → Prop) : TA := fun σ H Q => ∃ F ρ Q', RSz K Z F ρ σ H ∧ t ρ Q' ∧ ∀ ds vs F' H', Q' ds → Ext F H F' H' → DpAll K H' vs ds → Q vs H'
def lS (K : PySem.W.Frag) (Z : Zp) (ex : XW) (t : RC) : TS := fun D σ H => ∃ F ρ D', RSz K Z F ρ σ H ∧ t D' ρ ∧ D'.ex = ex ∧
  (∀ F ρ σ H, RSz K Z F ρ σ H → D'.nx ρ → D.nx σ H) ∧ (∀ F ρ σ H, RSz K Z F ρ σ H → D'.bk ρ → D.bk σ H) ∧ (∀ F ρ σ H, RSz K Z F ρ σ H → D'.ct ρ → D.ct σ H) ∧
  ∀ x v F' ρ' σ' H', D'.rt x ρ' → RSz K Z F' ρ' σ' H' → Out K F' Z.H0 H' v x → D.rt v H'
structure PX (X : Cx) (Z : Zp) (ex : XW) : Prop where
  tk : Takes X (fun cls d σ H => ∃ c F ρ, cls = .ref (Z.cl c) ∧ d = none ∧ RSz X.K Z F ρ σ H ∧ ex c ρ)
  po : PassesOwn (model X.prog X.w) X.A X.env X.xe
def CE (X : Cx) (Z : Zp) (e : Expr) (t : RE) : Prop := ∀ ex, PX X Z ex → PE X e (lE X.K Z (t ex))
def CT (X : Cx) (Z : Zp) (e : Expr) (t : RT) : Prop := ∀ ex, PX X Z ex → PT X e (lT X.K Z (t ex))
def CA (X : Cx) (Z : Zp) (es : List Expr) (t : RA) : Prop := ∀ ex, PX X Z ex → PA X es (lA X.K Z es.length (t ex))
def CR (X : Cx) (Z : Zp) (es : List Expr) (t : RA) : Prop := ∀ ex, PX X Z ex → PA X es (lR X.K Z (t ex))
def CS (X : Cx) (Z : Zp) (s : Stmt) (t : RC) : Prop := ∀ ex, PX X Z ex → PS X s (lS X.K Z ex t)
def CSs (X : Cx) (Z : Zp) (s : List Stmt) (t : RC) : Prop := ∀ ex, PX X Z ex → PSs X s (lS X.K Z ex t)

section
variable {X : Cx} {Z : Zp} {e : Expr} {es : List Expr} {s : Stmt} {ss : List Stmt}
theorem pe_imp {t u : TE} (h : PE X e t) (i : ∀ σ H Q, u σ H Q → t σ H Q) : PE X e u := ⟨fun p s σ H Q I q => h.run p s σ H Q I (i σ H Q q)⟩
theorem pt_imp {t u : TT} (h : PT X e t) (i : ∀ σ H Q, u σ H Q → t σ H Q) : PT X e u := ⟨fun p s σ H Q I q => h.run p s σ H Q I (i σ H Q q)⟩
theorem pa_imp {t u : TA} (h : PA X es t) (i : ∀ σ H Q, u σ H Q → t σ H Q) : PA X es u := ⟨fun pp p s σ H Q I q => h.run pp p s σ H Q I (i σ H Q q)⟩
theorem ps_imp {t u : TS} (h : PS X s t) (i : ∀ D σ H, u D σ H → t D σ H) : PS X s u := ⟨fun p s σ H D I q => h.run p s σ H D I (i D σ H q)⟩
theorem pss_imp {t u : TS} (h : PSs X ss t) (i : ∀ D σ H, u D σ H → t D σ H) : PSs X ss u := ⟨fun p s σ H D I q => h.run p s σ H D I (i D σ H q)⟩
end

/-! ### where one stands -/
/-- a def's (or a block's) body: its names, its scope -/
structure Wh (X : Cx) (N : List Str) (sc : Scope) : Prop where
  hN : X.N = N
  nd : N.Nodup
  hs : X.env.scope = sc
/-- a def's own body -/
structure WhD (X : Cx) (N : List Str) (sc : Scope) : Prop extends Wh X N sc where
  fn : ∀ x, X.fn x = true
  stk : X.stack = X.env :: X.outer
  frm : X.env.frame = some X.env.locals
  kind : sc.kind = .function

/-- a global name of the scope -/
def GlN (sc : Scope) (x : Str) : Prop := sc.names.lookup x = some .globalImplicit

/-! ### values -/
section
variable {K : PySem.W.Frag} {F H0 H : Hp} {v : V} {x : PV}
theorem Out.dd (o : Out K F H0 H v x) (s : Same F H) : Dp K H v x.data ∨ ∃ k, x.data = .dict k := by
  cases x with
  | un => exact o.elim
  | xc _ => exact o.elim
  | im d => exact .inl (dp_mono s o)
  | rd d => exact .inl o
  | lv ds => obtain ⟨p, vs, rfl, h2, h3⟩ := o; exact .inl (.lst h2 (dpAll_mono s h3))
  | ow c =>
    cases c with
    | ls ds => obtain ⟨p, fp, rfl, w, k⟩ := o; exact .inl (w.dp s)
    | dc _ => exact .inr ⟨_, rfl⟩
    | dl _ => exact .inr ⟨_, rfl⟩
    | dt _ => exact .inr ⟨_, rfl⟩
    | tl _ _ => exact .inr ⟨_, rfl⟩
    | ob _ _ => exact .inr ⟨_, rfl⟩
theorem Out.dd2 (o : Out K F H0 H v x) (s : Same F H) : Dp K H v x.data ∨ x.data = .dict [] := by
  cases x with
  | un => exact o.elim
  | xc _ => exact o.elim
  | im d => exact .inl (dp_mono s o)
  | rd d => exact .inl o
  | lv ds => obtain ⟨p, vs, rfl, h2, h3⟩ := o; exact .inl (.lst h2 (dpAll_mono s h3))
  | ow c =>
    cases c with
    | ls ds => obtain ⟨p, fp, rfl, w, k⟩ := o; exact .inl (w.dp s)
    | dc _ => exact .inr rfl
    | dl _ => exact .inr rfl
    | dt _ => exact .inr rfl
    | tl _ _ => exact .inr rfl
    | ob _ _ => exact .inr rfl
theorem Out.int {i : Int} (o : Out K F H0 H v x) (s : Same F H) (h : x.data = .int i) : v = .int i := by
  rcases o.dd s with d | ⟨k, d⟩
  · rw [h] at d; cases d; rfl
  · rw [h] at d; cases d
theorem Out.boo {i : Bool} (o : Out K F H0 H v x) (s : Same F H) (h : x.data = .bool i) : v = .bl i := by
  rcases o.dd s with d | ⟨k, d⟩
  · rw [h] at d; cases d; rfl
  · rw [h] at d; cases d
theorem Out.non (o : Out K F H0 H v x) (s : Same F H) (h : x.data = .none) : v = .non := by
  rcases o.dd s with d | ⟨k, d⟩
  · rw [h] at d; cases d; rfl
  · rw [h] at d; cases d
theorem Out.str {i : Str} (o : Out K F H0 H v x) (s : Same F H) (h : x.data = .str i) : v = .str i := by
  rcases o.dd s with d | ⟨k, d⟩
  · rw [h] at d; cases d; rfl
  · rw [h] at d; cases d
/-- the elements' frozen (or readable) data -/
theorem Out.lst {ds : List PyData} (o : Out K F H0 H v x) (s : Same F H) (h : x.data = .list ds) : ∃ p vs, v = .ref p ∧ SqL K H p vs ∧ DpAll K H vs ds := by
  rcases o.dd s with d | ⟨k, d⟩
  · rw [h] at d
    cases d with
    | lst h a => exact ⟨_, _, rfl, h, a⟩
  · rw [h] at d; cases d
theorem Out.tup {ds : List PyData} (o : Out K F H0 H v x) (s : Same F H) (h : x.data = .tuple ds) : ∃ p vs, v = .ref p ∧ SqT K H p vs ∧ DpAll K H vs ds := by
  rcases o.dd s with d | ⟨k, d⟩
  · rw [h] at d
    cases d with
    | tup h a => exact ⟨_, _, rfl, h, a⟩
  · rw [h] at d; cases d
/-- frozen elements: of a value that is no readable one -/
def PV.fz : PV → Bool
  | .rd _ => false | _ => true
theorem Out.lstF {ds : List PyData} (o : Out K F H0 H v x) (s : Same F H) (h : x.data = .list ds) (z : x.fz = true) : ∃ p vs, v = .ref p ∧ SqL K H p vs ∧ DpAll K F vs ds := by
  cases x with
  | un => exact o.elim
  | xc _ => exact o.elim
  | rd d => cases z
  | lv es =>
    have h' : PyData.list es = .list ds := h
    cases h'
    exact o
  | im d =>
    have o' : Dp K F v d := o
    have h' : d = .list ds := h
    subst h'
    cases o' with
    | lst h a => exact ⟨_, _, rfl, s.seq h, a⟩
  | ow c =>
    cases c with
    | ls es =>
      have h' : PyData.list es = .list ds := h
      cases h'
      obtain ⟨p, fp, rfl, ⟨_, vs, e, a⟩, k⟩ := o
      exact ⟨p, vs, rfl, SqL.of e, a⟩
    | dc _ => cases h
    | dl _ => cases h
    | dt _ => cases h
    | tl _ _ => cases h
    | ob _ _ => cases h
theorem Out.tupF {ds : List PyData} (o : Out K F H0 H v x) (s : Same F H) (h : x.data = .tuple ds) (z : x.fz = true) : ∃ p vs, v = .ref p ∧ SqT K H p vs ∧ DpAll K F vs ds := by
  cases x with
  | un => exact o.elim
  | xc _ => exact o.elim
  | rd d => cases z
  | lv es => cases h
  | im d =>
    have o' : Dp K F v d := o
    have h' : d = .tuple ds := h
    subst h'
    cases o' with
    | tup h a => exact ⟨_, _, rfl, Same.sqT s h, a⟩
  | ow c =>
    cases c with
    | ls es => cases h
    | dc _ => cases h
    | dl _ => cases h
    | dt _ => cases h
    | tl _ _ => cases h
    | ob _ _ => cases h
end
section
variable {K : PySem.W.Frag} {F H0 H : Hp} {v : V} {x : PV}
/-- both at once -/
theorem Out.lstB {ds : List PyData} (o : Out K F H0 H v x) (s : Same F H) (h : x.data = .list ds) : ∃ p vs, v = .ref p ∧ SqL K H p vs ∧ DpAll K H vs ds ∧ (x.fz = true → DpAll K F vs ds) := by
  cases x with
  | rd d => obtain ⟨p, vs, h1, h2, h3⟩ := o.lst s h; exact ⟨p, vs, h1, h2, h3, fun z => by cases z⟩
  | un => exact o.elim
  | xc _ => exact o.elim
  | im d => obtain ⟨p, vs, h1, h2, h3⟩ := o.lstF s h rfl; exact ⟨p, vs, h1, h2, dpAll_mono s h3, fun _ => h3⟩
  | ow c => obtain ⟨p, vs, h1, h2, h3⟩ := o.lstF s h rfl; exact ⟨p, vs, h1, h2, dpAll_mono s h3, fun _ => h3⟩
  | lv c => obtain ⟨p, vs, h1, h2, h3⟩ := o.lstF s h rfl; exact ⟨p, vs, h1, h2, dpAll_mono s h3, fun _ => h3⟩
theorem Out.tupB {ds : List PyData} (o : Out K F H0 H v x) (s : Same F H) (h : x.data = .tuple ds) : ∃ p vs, v = .ref p ∧ SqT K H p vs ∧ DpAll K H vs ds ∧ (x.fz = true → DpAll K F vs ds) := by
  cases x with
  | rd d => obtain ⟨p, vs, h1, h2, h3⟩ := o.tup s h; exact ⟨p, vs, h1, h2, h3, fun z => by cases z⟩
  | un => exact o.elim
  | xc _ => exact o.elim
  | im d => obtain ⟨p, vs, h1, h2, h3⟩ := o.tupF s h rfl; exact ⟨p, vs, h1, h2, dpAll_mono s h3, fun _ => h3⟩
  | ow c => obtain ⟨p, vs, h1, h2, h3⟩ := o.tupF s h rfl; exact ⟨p, vs, h1, h2, dpAll_mono s h3, fun _ => h3⟩
  | lv c => cases h
end
/-- a scalar's data holds in any heap -/
def scl : PyData → Bool
  | .none => true | .bool _ => true | .int _ => true | .str _ => true | _ => false
theorem scl_dp {K : PySem.W.Frag} {H F : Hp} {v : V} {d : PyData} (h : scl d = true) (x : Dp K H v d) : Dp K F v d := by
  cases x with
  | non => exact .non
  | bl b => exact .bl b
  | int i => exact .int i
  | str y => exact .str y
  | lst _ _ => cases h
  | tup _ _ => cases h
  | odd _ => cases h
/-- an element of a readable thing -/
def nrm (fz : Bool) (d : PyData) : PV := if fz || scl d then .im d else .rd d
theorem out_nrm {K : PySem.W.Frag} {F H0 H : Hp} {v : V} {d : PyData} {fz : Bool} (hF : fz = true → Dp K F v d) (hH : Dp K H v d) : Out K F H0 H v (nrm fz d) := by
  unfold nrm
  cases fz with
  | true => exact hF rfl
  | false =>
    cases hs : scl d with
    | true => exact scl_dp hs hH
    | false => exact hH

/-! ### names and constants -/
section
variable {X : Cx} {Z : Zp} {N : List Str} {sc : Scope} {pos : Pos}
def rVar (i : Nat) : RE := fun _ ρ Q => match ρ[i]? with
  | some (.im d) => Q (.im d)
  | some (.ow (.ls ds)) => Q (.lv ds)
  | some (.ow (.tl d1 d2)) => Q (.rd (.tuple [.list d1, .list d2]))
  | _ => False
theorem ce_var (A : Wh X N sc) (i : Nat) {x : Str} (hi : N[i]? = some x) (hv : Vis sc x) (hd : (x == ("__debug__" : Str)) = false) (hcd : (x == ("__classdict__" : Str)) = false) : CE X Z (.Name x pos) (rVar i) := fun ex px => by
  refine pe_imp (pe_var (i := i) (by rw [A.hN]; exact hi) (by rw [A.hs]; exact hv) hd hcd) ?_
  rintro σ H Q ⟨F, ρ, Q', r, t, q⟩
  obtain ⟨fps, h1, h2, h3⟩ := r.sl
  unfold rVar at t
  split at t
  · rename_i d e
    have hl : i < σ.length := by rw [← r.len]; exact (List.getElem?_eq_some_iff.mp e).1
    obtain ⟨_, v, ev, dv⟩ := h1 i _ _ e (List.getElem?_eq_getElem hl)
    exact ⟨v, by rw [List.getElem?_eq_getElem hl, ev], q _ v F H t (.refl r.ext.fh) dv⟩
  · rename_i ds e
    have hl : i < σ.length := by rw [← r.len]; exact (List.getElem?_eq_some_iff.mp e).1
    obtain ⟨p, ev, w⟩ := h1 i _ _ e (List.getElem?_eq_getElem hl)
    obtain ⟨_, vs, e2, a2⟩ := w
    exact ⟨.ref p, by rw [List.getElem?_eq_getElem hl, ev], q _ _ F H t (.refl r.ext.fh) ⟨p, vs, rfl, SqL.of e2, a2⟩⟩
  · rename_i d1 d2 e
    have hl : i < σ.length := by rw [← r.len]; exact (List.getElem?_eq_some_iff.mp e).1
    obtain ⟨p, ev, w⟩ := h1 i _ _ e (List.getElem?_eq_getElem hl)
    obtain ⟨q1, q2, vs1, vs2, _, _, e1, e2, e3, a2, a3⟩ := w
    exact ⟨.ref p, by rw [List.getElem?_eq_getElem hl, ev], q _ _ F H t (.refl r.ext.fh) (show Dp X.K H _ _ from .tup (.inl (.inl e1)) (.cons (.lst (SqL.of e2) (dpAll_mono r.ext.fh a2)) (.cons (.lst (SqL.of e3) (dpAll_mono r.ext.fh a3)) .nil)))⟩
  · exact t.elim
def rC (d : PyData) : RE := fun _ _ Q => Q (.im d)
theorem ce_const {e : Expr} {v : V} {d : PyData} (h : PE X e (tC v)) (hd : ∀ K H, Dp K H v d) : CE X Z e (rC d) := fun ex px => by
  refine pe_imp h ?_
  rintro σ H Q ⟨F, ρ, Q', r, t, q⟩
  exact q _ v F H t (.refl r.ext.fh) (hd _ _)
theorem ce_int {i j} : CE X Z (.Constant (.int i) j pos) (rC (.int i)) := ce_const pe_int fun _ _ => .int _
theorem ce_bl {b j} : CE X Z (.Constant (.bool b) j pos) (rC (.bool b)) := ce_const pe_bl fun _ _ => .bl _
theorem ce_non {j} : CE X Z (.Constant .none j pos) (rC .none) := ce_const pe_non fun _ _ => .non
theorem ce_str {x j} : CE X Z (.Constant (.str x) j pos) (rC (.str x)) := ce_const pe_str fun _ _ => .str _
/-- a module's int -/
theorem ce_glob {x : Str} {i : Int} {t : Tok} (A : Wh X N sc) (hg : GlN sc x) (hm : X.mg x = some (.int i t)) (hd : (x == ("__debug__" : Str)) = false) : CE X Z (.Name x pos) (rC (.int i)) :=
  ce_const (pe_glob (v := .int i) (show X.env.scope.names.lookup x = _ by rw [A.hs]; exact hg) hm ⟨t, rfl⟩ hd) fun _ _ => .int _
end

/-! ### operators on values -/
/-- an operation on two values, by its reading on data -/
def OpG (X : Cx) (r : R2) (g : PV → PV → (PV → Prop) → Prop) : Prop :=
  ∀ (F H0 H : Hp) (x y : PV) (v u : V) (Q' : PV → Prop) (Q : VK), Same F H → Out X.K F H0 H v x → Out X.K F H0 H u y → g x y Q' →
    (∀ z w F' H', Q' z → Ext F H F' H' → Out X.K F' H H' w z → Q w H') → r v u H Q
def rOp (g : PV → PV → (PV → Prop) → Prop) (ta tb : RE) : RE := fun ex ρ Q => ta ex ρ fun x => tb ex ρ fun y => g x y Q
section
variable {X : Cx} {Z : Zp} {a b : Expr} {ta tb : RE} {pos : Pos} {r : R2} {g : PV → PV → (PV → Prop) → Prop}
theorem lE_op (hg : OpG X r g) {ex : XW} {σ : L2.St} {H : Hp} {Q : VK} (h : lE X.K Z (rOp g ta tb ex) σ H Q) : tOp r (lE X.K Z (ta ex)) (lE X.K Z (tb ex)) σ H Q := by
  obtain ⟨F, ρ, Q', rs, t, q⟩ := h
  refine ⟨F, ρ, _, rs, t, fun x v F1 H1 q1 e1 o1 => ?_⟩
  refine ⟨F1, ρ, _, rs.grow e1, q1, fun y u F2 H2 q2 e2 o2 => ?_⟩
  refine hg F2 H H2 x y v u Q' Q e2.fh (o1.keep e2) (o2.earlier e1.hh) q2 fun z w F' H' qz e3 o3 => ?_
  exact q z w F' H' qz ((e1.trans e2).trans e3) (o3.earlier (e1.hh.trans e2.hh))
theorem ce_op {op : Operator} (ho : OpR X (binaryOp op) r) (hg : OpG X r g) (ha : CE X Z a ta) (hb : CE X Z b tb) : CE X Z (.BinOp a op b pos) (rOp g ta tb) := fun ex px =>
  pe_imp (pe_op ho (ha ex px) (hb ex px)) fun σ H Q h => lE_op hg h
end
/-- ints in, an int out -/
def gI (C : Int → Int → Prop) (f : Int → Int → Int) : PV → PV → (PV → Prop) → Prop := fun x y Q => match x.data, y.data with
  | .int i, .int j => C i j ∧ Q (.im (.int (f i j)))
  | _, _ => False
def gI0 (f : Int → Int → Int) : PV → PV → (PV → Prop) → Prop := fun x y Q => match x.data, y.data with
  | .int i, .int j => Q (.im (.int (f i j)))
  | _, _ => False
def gSub : PV → PV → (PV → Prop) → Prop := fun x y Q => match x.data, y.data with
  | .int i, .int j => Q (.im (.int (i - j)))
  | _, _ => False
def gMod : PV → PV → (PV → Prop) → Prop := fun x y Q => match x.data, y.data with
  | .int i, .int j => 0 < j ∧ Q (.im (.int (i % j)))
  | _, _ => False
def gDiv : PV → PV → (PV → Prop) → Prop := fun x y Q => match x.data, y.data with
  | .int i, .int j => CDivW i j ∧ Q (.im (.int (i / j)))
  | _, _ => False
def gPow : PV → PV → (PV → Prop) → Prop := fun x y Q => match x.data, y.data with
  | .int i, .int j => CPow i j ∧ Q (.im (.int (i ^ j.toNat)))
  | _, _ => False
theorem gSub_eq : gSub = gI0 fun i j => i - j := rfl
theorem gMod_eq : gMod = gI (fun _ j => 0 < j) fun i j => i % j := rfl
theorem gDiv_eq : gDiv = gI CDivW fun i j => i / j := rfl
theorem gPow_eq : gPow = gI CPow fun i j => i ^ j.toNat := rfl
section
variable {X : Cx} {Z : Zp} {a b : Expr} {ta tb : RE} {pos : Pos}
theorem opg_I {C : Int → Int → Prop} {f : Int → Int → Int} : OpG X (rI C fun i j => .int (f i j)) (gI C f) := by
  intro F H0 H x y v u Q' Q s ox oy h q
  unfold gI at h
  split at h
  · rename_i i j hx hy
    exact ⟨i, j, ox.int s hx, oy.int s hy, h.1, q _ _ F H h.2 (.refl s) (Dp.int _)⟩
  · exact h.elim
theorem opg_I0 {f : Int → Int → Int} : OpG X (rI0 fun i j => .int (f i j)) (gI0 f) := by
  intro F H0 H x y v u Q' Q s ox oy h q
  unfold gI0 at h
  split at h
  · rename_i i j hx hy
    exact ⟨i, j, ox.int s hx, oy.int s hy, q _ _ F H h (.refl s) (Dp.int _)⟩
  · exact h.elim
/-- of together less than 2 ^ 26 bits -/
def CMulB (i j : Int) : Prop := i.natAbs.log2 + j.natAbs.log2 < 67108864
theorem CMulB.ok {i j : Int} (h : CMulB i j) : IntMulOk i j := by
  have b : ∀ x : Int, Builtin.Int.intBits x ≤ x.natAbs.log2 + 1 := fun x => by
    unfold Builtin.Int.intBits
    split <;> omega
  have h1 := b i
  have h2 := b j
  have h3 : i.natAbs.log2 + j.natAbs.log2 < 67108864 := h
  have e : bitsLine = 134217728 := by decide
  unfold IntMulOk
  intro z
  rw [Bool.and_eq_true] at z
  have z2 := z.2
  unfold Builtin.Int.intTooBig at z2
  have z3 := of_decide_eq_true z2
  rw [e] at z3
  omega
theorem op_mulB : OpR X (binaryOp .Mult) (rI CMulB fun i j => .int (i * j)) := opI fun _ _ _ _ _ _ _ hc q => mul_int q hc.ok
theorem ce_sub (ha : CE X Z a ta) (hb : CE X Z b tb) : CE X Z (.BinOp a .Sub b pos) (rOp gSub ta tb) := gSub_eq ▸ ce_op op_sub opg_I0 ha hb
theorem ce_mod (ha : CE X Z a ta) (hb : CE X Z b tb) : CE X Z (.BinOp a .Mod b pos) (rOp gMod ta tb) := gMod_eq ▸ ce_op op_mod opg_I ha hb
theorem ce_fdiv (ha : CE X Z a ta) (hb : CE X Z b tb) : CE X Z (.BinOp a .FloorDiv b pos) (rOp gDiv ta tb) := gDiv_eq ▸ ce_op op_fdivW opg_I ha hb
theorem ce_pow (ha : CE X Z a ta) (hb : CE X Z b tb) : CE X Z (.BinOp a .Pow b pos) (rOp gPow ta tb) := gPow_eq ▸ ce_op op_pow opg_I ha hb
end
end Pz

namespace Pz
open PySem PySem.Spec PyProof.Rows L2

/-! ### + and * of ints, lists, texts -/
section
variable {X : Cx} {Z : Zp} {a b : Expr} {ta tb : RE} {pos : Pos}
/-- list + list, of any readable lists -/
def rCatS (K : PySem.W.Frag) : R2 := fun x y H Q => ∃ l b xs zs, x = .ref l ∧ y = .ref b ∧ SqL K H l xs ∧ SqL K H b zs ∧ xs.length + zs.length ≤ sizeLine ∧ ∀ p, H p = none → Q (.ref p) (upd H p (.lst (xs ++ zs)))
theorem op_catS : OpR X (binaryOp .Add) (rCatS X.K) := by
  intro pins s σ H x y v u Q I rx ry h
  obtain ⟨l, b, xs, zs, rfl, rfl, hH, hB, hz, q⟩ := h
  cases rx
  cases ry
  obtain ⟨its, r, pl, z⟩ := I.list hH
  obtain ⟨its2, r2, pl2, z2⟩ := I.list hB
  obtain ⟨⟨cls, dd, data, sl⟩, ho, hc, n, hd⟩ := pl.isList
  obtain ⟨⟨cls2, dd2, data2, sl2⟩, ho2, hc2, n2, hd2⟩ := pl2.isList
  simp only at hc hd hc2 hd2
  subst hc hd hc2 hd2
  have h1 := r.length
  have h2 := r2.length
  have e : its.toArray ++ its2.toArray = (its ++ its2).toArray := by simp
  refine PySem.concat_meets ⟨_, ho, rfl⟩ ⟨_, ho2, rfl⟩ noFill_list_add seq_list_add PySem.F.slot_list_add PySem.F.entry_list_add (PySem.F.args_list_add_2 _ _) (PyProof.Rows.list_addW l b its.toArray its2.toArray n n2 dd dd2 sl sl2 (by simp only [List.size_toArray]; omega)) ⟨ho, ho2, ?_⟩
  rw [e]
  exact ⟨.ref _, _, I.lnew (t' := s.toks) (r.append r2) (by rw [List.length_append]; omega), rfl, q _ I.fresh⟩
def gAdd : PV → PV → (PV → Prop) → Prop := fun x y Q => match x.data, y.data with
  | .int i, .int j => Q (.im (.int (i + j)))
  | .list ds, .list es => (x.fz = true ∧ y.fz = true) ∧ ds.length + es.length ≤ sizeLine ∧ Q (.ow (.ls (ds ++ es)))
  | .str i, .str j => i.length + j.length ≤ sizeLine ∧ Q (.im (.str (i ++ j)))
  | _, _ => False
def rAdd2 (K : PySem.W.Frag) : R2 := fun x y H Q => (rI0 (fun i j => .int (i + j)) x y H Q ∨ rCatS K x y H Q) ∨ ∃ i j, x = .str i ∧ y = .str j ∧ i.length + j.length ≤ sizeLine ∧ Q (.str (i ++ j)) H
/-- a new list of frozen items, owned by nobody yet -/
theorem out_new {K : PySem.W.Frag} {F H : Hp} {p : Addr} {vs : List V} {ds : List PyData} (hp : H p = none) (s : Same F H) (d : DpAll K F vs ds) : Out K F H (upd H p (.lst vs)) (.ref p) (.ow (.ls ds)) :=
  ⟨p, [p], rfl, ⟨rfl, vs, upd_same, d⟩, fun a ha => by
    have e : a = p := by simpa using ha
    subst e
    exact ⟨hp, s.free hp, _, upd_same⟩⟩
theorem opg_add : OpG X (rAdd2 X.K) gAdd := by
  intro F H0 H x y v u Q' Q s ox oy h q
  unfold gAdd at h
  split at h
  · rename_i i j hx hy
    exact .inl (.inl ⟨i, j, ox.int s hx, oy.int s hy, q _ _ F H h (.refl s) (Dp.int _)⟩)
  · rename_i ds es hx hy
    obtain ⟨p, vs, rfl, a1, d1⟩ := ox.lstF s hx h.1.1
    obtain ⟨p2, vs2, rfl, a2, d2⟩ := oy.lstF s hy h.1.2
    exact .inl (.inr ⟨p, p2, vs, vs2, rfl, rfl, a1, a2, by rw [dpa_len d1, dpa_len d2]; exact h.2.1, fun l hl => q _ _ F _ h.2.2 (.own s hl) (out_new hl s (dpa_app d1 d2))⟩)
  · rename_i i j hx hy
    exact .inr ⟨i, j, ox.str s hx, oy.str s hy, h.1, q _ _ F H h.2 (.refl s) (Dp.str _)⟩
  · exact h.elim
theorem ce_add (ha : CE X Z a ta) (hb : CE X Z b tb) : CE X Z (.BinOp a .Add b pos) (rOp gAdd ta tb) := ce_op ((op_add.or op_catS).or op_add_str) opg_add ha hb
def gMul : PV → PV → (PV → Prop) → Prop := fun x y Q => match x, y.data with
  | .ow (.ls ds), .int k => (-(2 ^ 63) ≤ k ∧ k < 2 ^ 63 ∧ ds.length * k.toNat ≤ sizeLine) ∧ Q (.ow (.ls (List.replicate k.toNat ds).flatten))
  | x, .int j => match x.data with
    | .int i => CMulB i j ∧ Q (.im (.int (i * j)))
    | _ => False
  | _, _ => False
theorem dpa_rep {K : PySem.W.Frag} {H : Hp} {vs : List V} {ds : List PyData} (h : DpAll K H vs ds) : ∀ n : Nat, DpAll K H (List.replicate n vs).flatten (List.replicate n ds).flatten
  | 0 => by simp; exact .nil
  | n + 1 => by
    rw [List.replicate_succ, List.replicate_succ, List.flatten_cons, List.flatten_cons]
    exact dpa_app h (dpa_rep h n)
theorem opg_mul : OpG X (fun x y H Q => rRep x y H Q ∨ rI CMulB (fun i j => .int (i * j)) x y H Q) gMul := by
  intro F H0 H x y v u Q' Q s ox oy h q
  unfold gMul at h
  split at h
  · rename_i ds k hy
    obtain ⟨p, fp, rfl, ⟨_, vs, e, d⟩, _⟩ := ox
    refine .inl ⟨p, k, vs, rfl, oy.int s hy, e, h.1.1, h.1.2.1, by rw [dpa_len d]; exact h.1.2.2, fun l hl => q _ _ F _ h.2 (.own s hl) (out_new hl s (dpa_rep d _))⟩
  · rename_i j _ hy
    split at h
    · rename_i i hx
      exact .inr ⟨i, j, ox.int s hx, oy.int s hy, h.1, q _ _ F H h.2 (.refl s) (Dp.int _)⟩
    · exact h.elim
  · exact h.elim
theorem ce_mul (ha : CE X Z a ta) (hb : CE X Z b tb) : CE X Z (.BinOp a .Mult b pos) (rOp gMul ta tb) := ce_op (op_rep.or op_mulB) opg_mul ha hb
def rNeg (ta : RE) : RE := fun ex ρ Q => ta ex ρ fun x => match x.data with
  | .int i => Q (.im (.int (-i)))
  | _ => False
theorem ce_neg (ha : CE X Z a ta) : CE X Z (.UnaryOp .USub a pos) (rNeg ta) := fun ex px => by
  refine pe_imp (pe_un un_neg (ha ex px)) ?_
  rintro σ H Q ⟨F, ρ, Q', r, t, q⟩
  refine ⟨F, ρ, _, r, t, fun x v F1 H1 q1 e1 o1 => ?_⟩
  split at q1
  · rename_i i hx
    exact ⟨i, o1.int e1.fh hx, q _ _ F1 H1 q1 e1 (Dp.int _)⟩
  · exact q1.elim
end

/-! ### comparisons -/
abbrev CmpP := PyData → PyData → (Bool → Prop) → Prop
def CmpG (X : Cx) (r : R2) (p : CmpP) : Prop :=
  ∀ (F H0 H : Hp) (x y : PV) (v u : V) (Q' : Bool → Prop) (Q : VK), Same F H → Out X.K F H0 H v x → Out X.K F H0 H u y → p x.data y.data Q' → (∀ k, Q' k → Q (.bl k) H) → r v u H Q
def rCmp (p : CmpP) (ta tb : RE) : RE := fun ex ρ Q => ta ex ρ fun x => tb ex ρ fun y => p x.data y.data fun k => Q (.im (.bool k))
def rCmpT (p : CmpP) (ta tb : RE) : RT := fun ex ρ Q => ta ex ρ fun x => tb ex ρ fun y => p x.data y.data Q
section
variable {X : Cx} {Z : Zp} {a b : Expr} {ta tb : RE} {pos : Pos} {r : R2} {p : CmpP}
theorem ce_cmp {op : CmpOp} (ho : OpR X (compareOp op) r) (hg : CmpG X r p) (hm : behindInMarks op b = false) (ha : CE X Z a ta) (hb : CE X Z b tb) : CE X Z (.Compare a [op] [b] pos) (rCmp p ta tb) := fun ex px => by
  refine pe_imp (pe_cmpR ho (ha ex px) (hb ex px) hm) ?_
  rintro σ H Q ⟨F, ρ, Q', rs, t, q⟩
  refine ⟨F, ρ, _, rs, t, fun x v F1 H1 q1 e1 o1 => ?_⟩
  refine ⟨F1, ρ, _, rs.grow e1, q1, fun y u F2 H2 q2 e2 o2 => ?_⟩
  exact hg F2 H H2 x y v u _ Q e2.fh (o1.keep e2) (o2.earlier e1.hh) q2 fun k qk => q _ _ F2 H2 qk (e1.trans e2) (Dp.bl k)
theorem ct_cmp {op : CmpOp} (ho : OpR X (compareOp op) r) (hg : CmpG X r p) (hm : behindInMarks op b = false) (ha : CE X Z a ta) (hb : CE X Z b tb) : CT X Z (.Compare a [op] [b] pos) (rCmpT p ta tb) := fun ex px => by
  refine pt_imp (pt_cmpR ho (ha ex px) (hb ex px) hm) ?_
  rintro σ H Q ⟨F, ρ, Q', rs, t, q⟩
  refine ⟨F, ρ, _, rs, t, fun x v F1 H1 q1 e1 o1 => ?_⟩
  refine ⟨F1, ρ, _, rs.grow e1, q1, fun y u F2 H2 q2 e2 o2 => ?_⟩
  exact hg F2 H H2 x y v u _ _ e2.fh (o1.keep e2) (o2.earlier e1.hh) q2 fun k qk => ⟨k, rfl, q _ F2 H2 qk (e1.trans e2)⟩
end
def iiP (f : Int → Int → Bool) : CmpP := fun x y Q => match x, y with
  | .int i, .int j => Q (f i j)
  | _, _ => False
def eqP : CmpP := fun x y Q => match x, y with
  | .int i, .int j => Q (decide (i = j))
  | .bool i, .bool j => Q (decide (i = j))
  | .tuple [.int a, .int b], .tuple [.int c, .int d] => Q (decide (a = c ∧ b = d))
  | x, y => SeqAt.shaped x = true ∧ SeqAt.shaped y = true ∧ Q (PyData.eqv x y)
def neP : CmpP := fun x y Q => match x, y with
  | .int i, .int j => Q (!decide (i = j))
  | .bool i, .bool j => Q (!decide (i = j))
  | .tuple [.int a, .int b], .tuple [.int c, .int d] => Q (!decide (a = c ∧ b = d))
  | x, y => SeqAt.shaped x = true ∧ SeqAt.shaped y = true ∧ Q (!PyData.eqv x y)
/-- the right one is None -/
def isP : CmpP := fun x y Q => match x, y with
  | .none, .none => Q true
  | .int _, .none => Q false
  | .bool _, .none => Q false
  | .str _, .none => Q false
  | .list _, .none => Q false
  | .tuple _, .none => Q false
  | _, _ => False
def isnP : CmpP := fun x y Q => isP x y fun k => Q (!k)
section
variable {X : Cx}
theorem cmpg_ii {f : Int → Int → Bool} : CmpG X (rI0 fun i j => .bl (f i j)) (iiP f) := by
  intro F H0 H x y v u Q' Q s ox oy h q
  unfold iiP at h
  split at h
  · rename_i i j hx hy
    exact ⟨i, j, ox.int s hx, oy.int s hy, q _ h⟩
  · exact h.elim
theorem shaped_dp {K : PySem.W.Frag} {F H0 H : Hp} {v : V} {x : PV} (o : Out K F H0 H v x) (s : Same F H) (h : SeqAt.shaped x.data = true) : L2.Dp K H v x.data := by
  rcases o.dd s with d | ⟨k, d⟩
  · exact dp_kit (SeqAt.canLay_of_shaped h) d
  · rw [d] at h
    have := SeqAt.canLay_of_shaped h
    simp [PyData.canLay0] at this
theorem eqv_int (i j : Int) : PyData.eqv (.int i) (.int j) = decide (i = j) := by unfold PyData.eqv; rw [Bool.beq_eq_decide_eq]
theorem eqv_bool (i j : Bool) : PyData.eqv (.bool i) (.bool j) = decide (i = j) := by unfold PyData.eqv; rw [Bool.beq_eq_decide_eq]
theorem shaped_int (i : Int) : SeqAt.shaped (.int i) = true := by simp [SeqAt.shaped, PyData.canLay0, PyData.depth]
theorem shaped_bool (i : Bool) : SeqAt.shaped (.bool i) = true := by simp [SeqAt.shaped, PyData.canLay0, PyData.depth]
theorem eqv_pairP (a b c d : Int) : PyData.eqv (.tuple [.int a, .int b]) (.tuple [.int c, .int d]) = decide (a = c ∧ b = d) := by
  simp [PyData.eqv, PyData.eqvAll, Bool.beq_eq_decide_eq]
theorem shaped_pairP (a b : Int) : SeqAt.shaped (.tuple [.int a, .int b]) = true := by simp [SeqAt.shaped, PyData.canLay0, PyData.canLayAll0, PyData.depth, PyData.depthAll]
theorem eqP_all {x y : PyData} {Q : Bool → Prop} (h : eqP x y Q) : SeqAt.shaped x = true ∧ SeqAt.shaped y = true ∧ Q (PyData.eqv x y) := by
  unfold eqP at h
  split at h
  · rename_i i j; exact ⟨shaped_int i, shaped_int j, by rw [eqv_int]; exact h⟩
  · rename_i i j; exact ⟨shaped_bool i, shaped_bool j, by rw [eqv_bool]; exact h⟩
  · exact ⟨shaped_pairP _ _, shaped_pairP _ _, by rw [eqv_pairP]; exact h⟩
  · exact h
theorem neP_all {x y : PyData} {Q : Bool → Prop} (h : neP x y Q) : SeqAt.shaped x = true ∧ SeqAt.shaped y = true ∧ Q (!PyData.eqv x y) := by
  unfold neP at h
  split at h
  · rename_i i j; exact ⟨shaped_int i, shaped_int j, by rw [eqv_int]; exact h⟩
  · rename_i i j; exact ⟨shaped_bool i, shaped_bool j, by rw [eqv_bool]; exact h⟩
  · exact ⟨shaped_pairP _ _, shaped_pairP _ _, by rw [eqv_pairP]; exact h⟩
  · exact h
theorem cmpg_eq : CmpG X (rEqD X.K) eqP := by
  intro F H0 H x y v u Q' Q s ox oy h q
  obtain ⟨h1, h2, h3⟩ := eqP_all h
  exact ⟨x.data, y.data, shaped_dp ox s h1, shaped_dp oy s h2, h1, h2, q _ h3⟩
theorem cmpg_ne : CmpG X (rNeD X.K) neP := by
  intro F H0 H x y v u Q' Q s ox oy h q
  obtain ⟨h1, h2, h3⟩ := neP_all h
  exact ⟨x.data, y.data, shaped_dp ox s h1, shaped_dp oy s h2, h1, h2, q _ h3⟩
theorem isP_ok {F H0 H : Hp} {x y : PV} {v u : V} {Q : Bool → Prop} (s : Same F H) (ox : Out X.K F H0 H v x) (oy : Out X.K F H0 H u y) (h : isP x.data y.data Q) : u = .non ∧ Q (decide (v = .non)) := by
  unfold isP at h
  split at h
  · rename_i hx hy; refine ⟨oy.non s hy, ?_⟩; rw [ox.non s hx]; exact h
  · rename_i i hx hy; refine ⟨oy.non s hy, ?_⟩; rw [ox.int s hx]; exact h
  · rename_i i hx hy; refine ⟨oy.non s hy, ?_⟩; rw [ox.boo s hx]; exact h
  · rename_i i hx hy; refine ⟨oy.non s hy, ?_⟩; rw [ox.str s hx]; exact h
  · rename_i i hx hy; refine ⟨oy.non s hy, ?_⟩; obtain ⟨p, vs, rfl, _⟩ := ox.lst s hx; exact h
  · rename_i i hx hy; refine ⟨oy.non s hy, ?_⟩; obtain ⟨p, vs, rfl, _⟩ := ox.tup s hx; exact h
  · exact h.elim
theorem cmpg_is : CmpG X (fun x y H Q => y = .non ∧ Q (.bl (decide (x = .non))) H) isP := by
  intro F H0 H x y v u Q' Q s ox oy h q
  obtain ⟨h1, h2⟩ := isP_ok s ox oy h
  exact ⟨h1, q _ h2⟩
theorem cmpg_isn : CmpG X (fun x y H Q => y = .non ∧ Q (.bl (!decide (x = .non))) H) isnP := by
  intro F H0 H x y v u Q' Q s ox oy h q
  obtain ⟨h1, h2⟩ := isP_ok s ox oy h
  exact ⟨h1, q _ h2⟩
end
section
variable {X : Cx} {Z : Zp} {a b : Expr} {ta tb : RE} {pos : Pos}
def ltP : CmpP := fun x y Q => match x, y with
  | .int i, .int j => Q (decide (i < j))
  | _, _ => False
def leP : CmpP := fun x y Q => match x, y with
  | .int i, .int j => Q (decide (i ≤ j))
  | _, _ => False
def gtP : CmpP := fun x y Q => match x, y with
  | .int i, .int j => Q (decide (j < i))
  | _, _ => False
def geP : CmpP := fun x y Q => match x, y with
  | .int i, .int j => Q (decide (j ≤ i))
  | _, _ => False
theorem ce_lt (ha : CE X Z a ta) (hb : CE X Z b tb) : CE X Z (.Compare a [.Lt] [b] pos) (rCmp ltP ta tb) := ce_cmp op_lt (show CmpG X _ ltP from cmpg_ii) (nomark _) ha hb
theorem ce_le (ha : CE X Z a ta) (hb : CE X Z b tb) : CE X Z (.Compare a [.LtE] [b] pos) (rCmp leP ta tb) := ce_cmp op_le (show CmpG X _ leP from cmpg_ii) (nomark _) ha hb
theorem ce_gt (ha : CE X Z a ta) (hb : CE X Z b tb) : CE X Z (.Compare a [.Gt] [b] pos) (rCmp gtP ta tb) := ce_cmp op_gt (show CmpG X _ gtP from cmpg_ii) (nomark _) ha hb
theorem ce_ge (ha : CE X Z a ta) (hb : CE X Z b tb) : CE X Z (.Compare a [.GtE] [b] pos) (rCmp geP ta tb) := ce_cmp op_ge (show CmpG X _ geP from cmpg_ii) (nomark _) ha hb
theorem ce_eq (hu : X.A.units + 64 < cLine) (ha : CE X Z a ta) (hb : CE X Z b tb) : CE X Z (.Compare a [.Eq] [b] pos) (rCmp eqP ta tb) := ce_cmp (op_eqD hu) cmpg_eq (nomark _) ha hb
theorem ce_ne (hu : X.A.units + 64 < cLine) (ha : CE X Z a ta) (hb : CE X Z b tb) : CE X Z (.Compare a [.NotEq] [b] pos) (rCmp neP ta tb) := ce_cmp (op_neD hu) cmpg_ne (nomark _) ha hb
theorem ce_is (ha : CE X Z a ta) (hb : CE X Z b tb) : CE X Z (.Compare a [.Is] [b] pos) (rCmp isP ta tb) := ce_cmp op_isN cmpg_is (nomark _) ha hb
theorem ce_isn (ha : CE X Z a ta) (hb : CE X Z b tb) : CE X Z (.Compare a [.IsNot] [b] pos) (rCmp isnP ta tb) := ce_cmp op_notN cmpg_isn (nomark _) ha hb
theorem ct_lt (ha : CE X Z a ta) (hb : CE X Z b tb) : CT X Z (.Compare a [.Lt] [b] pos) (rCmpT ltP ta tb) := ct_cmp op_lt (show CmpG X _ ltP from cmpg_ii) (nomark _) ha hb
theorem ct_le (ha : CE X Z a ta) (hb : CE X Z b tb) : CT X Z (.Compare a [.LtE] [b] pos) (rCmpT leP ta tb) := ct_cmp op_le (show CmpG X _ leP from cmpg_ii) (nomark _) ha hb
theorem ct_gt (ha : CE X Z a ta) (hb : CE X Z b tb) : CT X Z (.Compare a [.Gt] [b] pos) (rCmpT gtP ta tb) := ct_cmp op_gt (show CmpG X _ gtP from cmpg_ii) (nomark _) ha hb
theorem ct_ge (ha : CE X Z a ta) (hb : CE X Z b tb) : CT X Z (.Compare a [.GtE] [b] pos) (rCmpT geP ta tb) := ct_cmp op_ge (show CmpG X _ geP from cmpg_ii) (nomark _) ha hb
theorem ct_eq (hu : X.A.units + 64 < cLine) (ha : CE X Z a ta) (hb : CE X Z b tb) : CT X Z (.Compare a [.Eq] [b] pos) (rCmpT eqP ta tb) := ct_cmp (op_eqD hu) cmpg_eq (nomark _) ha hb
theorem ct_ne (hu : X.A.units + 64 < cLine) (ha : CE X Z a ta) (hb : CE X Z b tb) : CT X Z (.Compare a [.NotEq] [b] pos) (rCmpT neP ta tb) := ct_cmp (op_neD hu) cmpg_ne (nomark _) ha hb
theorem ct_is (ha : CE X Z a ta) (hb : CE X Z b tb) : CT X Z (.Compare a [.Is] [b] pos) (rCmpT isP ta tb) := ct_cmp op_isN cmpg_is (nomark _) ha hb
theorem ct_isn (ha : CE X Z a ta) (hb : CE X Z b tb) : CT X Z (.Compare a [.IsNot] [b] pos) (rCmpT isnP ta tb) := ct_cmp op_notN cmpg_isn (nomark _) ha hb
end

/-! ### tests -/
def CW (X : Cx) (Z : Zp) (e : Expr) (t : RT) : Prop := ∀ ex, PX X Z ex → PW X e (lT X.K Z (t ex))
def rTV (ta : RE) : RT := fun ex ρ Q => ta ex ρ fun x => match x.data with
  | .bool k => Q k
  | _ => False
def rAnd (ta tb : RT) : RT := fun ex ρ Q => ta ex ρ fun c => (c = true → tb ex ρ Q) ∧ (c = false → Q false)
def rOr (ta tb : RT) : RT := fun ex ρ Q => ta ex ρ fun c => (c = true → Q true) ∧ (c = false → tb ex ρ Q)
def rNot (ta : RT) : RT := fun ex ρ Q => ta ex ρ fun c => Q (!c)
section
variable {X : Cx} {Z : Zp} {a b : Expr} {rest : List Expr} {ta tb : RT} {te tf : RE} {pos : Pos}
theorem ct_val (h : CE X Z a te) (he : ∀ whole, isTrue a X.env whole = (do let v ← whole; standAt a.pos; holding [v] (truthy v))) : CT X Z a (rTV te) := fun ex px => by
  refine pt_imp (pt_val (h ex px) he) ?_
  rintro σ H Q ⟨F, ρ, Q', rs, t, q⟩
  refine ⟨F, ρ, _, rs, t, fun x v F1 H1 q1 e1 o1 => ?_⟩
  split at q1
  · rename_i k hx
    exact ⟨k, o1.boo e1.fh hx, q _ F1 H1 q1 e1⟩
  · exact q1.elim
theorem ct_w (h : CW X Z a ta) : CT X Z a ta := fun ex px => (h ex px).pt
theorem cw_and1 (h : CT X Z a ta) : CW X Z (.BoolOp .And [a] pos) ta := fun ex px => pw_and1 (h ex px)
theorem cw_or1 (h : CT X Z a ta) : CW X Z (.BoolOp .Or [a] pos) ta := fun ex px => pw_or1 (h ex px)
theorem pw_imp {e : Expr} {t u : TT} (h : PW X e t) (i : ∀ σ H Q, u σ H Q → t σ H Q) : PW X e u := ⟨fun w p s σ H Q I q => h.run w p s σ H Q I (i σ H Q q)⟩
theorem cw_and (ha : CT X Z a ta) (hb : CW X Z (.BoolOp .And (b :: rest) pos) tb) : CW X Z (.BoolOp .And (a :: b :: rest) pos) (rAnd ta tb) := fun ex px => by
  refine pw_imp (pw_and (ha ex px) (hb ex px)) ?_
  rintro σ H Q ⟨F, ρ, Q', rs, t, q⟩
  refine ⟨F, ρ, _, rs, t, fun c F1 H1 q1 e1 => ?_⟩
  cases c with
  | true => rw [if_pos rfl]; exact ⟨F1, ρ, _, rs.grow e1, q1.1 rfl, fun k F2 H2 qk e2 => q k F2 H2 qk (e1.trans e2)⟩
  | false => rw [if_neg Bool.false_ne_true]; exact q _ F1 H1 (q1.2 rfl) e1
theorem cw_or (ha : CT X Z a ta) (hb : CW X Z (.BoolOp .Or (b :: rest) pos) tb) : CW X Z (.BoolOp .Or (a :: b :: rest) pos) (rOr ta tb) := fun ex px => by
  refine pw_imp (pw_or (ha ex px) (hb ex px)) ?_
  rintro σ H Q ⟨F, ρ, Q', rs, t, q⟩
  refine ⟨F, ρ, _, rs, t, fun c F1 H1 q1 e1 => ?_⟩
  cases c with
  | true => rw [if_pos rfl]; exact q _ F1 H1 (q1.1 rfl) e1
  | false => rw [if_neg Bool.false_ne_true]; exact ⟨F1, ρ, _, rs.grow e1, q1.2 rfl, fun k F2 H2 qk e2 => q k F2 H2 qk (e1.trans e2)⟩
theorem ct_not (ha : CT X Z a ta) : CT X Z (.UnaryOp .Not a pos) (rNot ta) := fun ex px => by
  refine pt_imp (pt_not (ha ex px)) ?_
  rintro σ H Q ⟨F, ρ, Q', rs, t, q⟩
  exact ⟨F, ρ, _, rs, t, fun c F1 H1 q1 e1 => q _ F1 H1 q1 e1⟩
/-- as values, of bools -/
def rAndV (te tf : RE) : RE := fun ex ρ Q => te ex ρ fun x => match x.data with
  | .bool c => (c = true → tf ex ρ Q) ∧ (c = false → Q (.im (.bool false)))
  | _ => False
def rOrV (te tf : RE) : RE := fun ex ρ Q => te ex ρ fun x => match x.data with
  | .bool c => (c = true → Q (.im (.bool true))) ∧ (c = false → tf ex ρ Q)
  | _ => False
def rNotV (te : RE) : RE := fun ex ρ Q => te ex ρ fun x => match x.data with
  | .bool c => Q (.im (.bool !c))
  | _ => False
theorem ce_one {op} (h : CE X Z a te) : CE X Z (.BoolOp op [a] pos) te := fun ex px => pe_one (h ex px)
theorem ce_and (ha : CE X Z a te) (hb : CE X Z (.BoolOp .And (b :: rest) pos) tf) : CE X Z (.BoolOp .And (a :: b :: rest) pos) (rAndV te tf) := fun ex px => by
  refine pe_imp (pe_and (ha ex px) (hb ex px)) ?_
  rintro σ H Q ⟨F, ρ, Q', rs, t, q⟩
  refine ⟨F, ρ, _, rs, t, fun x v F1 H1 q1 e1 o1 => ?_⟩
  split at q1
  · rename_i c hx
    refine ⟨c, o1.boo e1.fh hx, ?_⟩
    cases c with
    | true => rw [if_pos rfl]; exact ⟨F1, ρ, _, rs.grow e1, q1.1 rfl, fun y w F2 H2 qk e2 o2 => q y w F2 H2 qk (e1.trans e2) (o2.earlier e1.hh)⟩
    | false => rw [if_neg Bool.false_ne_true]; exact q _ _ F1 H1 (q1.2 rfl) e1 (Dp.bl _)
  · exact q1.elim
theorem ce_or (ha : CE X Z a te) (hb : CE X Z (.BoolOp .Or (b :: rest) pos) tf) : CE X Z (.BoolOp .Or (a :: b :: rest) pos) (rOrV te tf) := fun ex px => by
  refine pe_imp (pe_or (ha ex px) (hb ex px)) ?_
  rintro σ H Q ⟨F, ρ, Q', rs, t, q⟩
  refine ⟨F, ρ, _, rs, t, fun x v F1 H1 q1 e1 o1 => ?_⟩
  split at q1
  · rename_i c hx
    refine ⟨c, o1.boo e1.fh hx, ?_⟩
    cases c with
    | true => rw [if_pos rfl]; exact q _ _ F1 H1 (q1.1 rfl) e1 (Dp.bl _)
    | false => rw [if_neg Bool.false_ne_true]; exact ⟨F1, ρ, _, rs.grow e1, q1.2 rfl, fun y w F2 H2 qk e2 o2 => q y w F2 H2 qk (e1.trans e2) (o2.earlier e1.hh)⟩
  · exact q1.elim
theorem ce_not (ha : CE X Z a te) : CE X Z (.UnaryOp .Not a pos) (rNotV te) := fun ex px => by
  refine pe_imp (pe_not (ha ex px)) ?_
  rintro σ H Q ⟨F, ρ, Q', rs, t, q⟩
  refine ⟨F, ρ, _, rs, t, fun x v F1 H1 q1 e1 o1 => ?_⟩
  split at q1
  · rename_i c hx
    exact ⟨c, o1.boo e1.fh hx, q _ _ F1 H1 q1 e1 (Dp.bl _)⟩
  · exact q1.elim
end
end Pz

namespace Pz
open PySem PySem.Spec PyProof.Rows L2

/-! ### arguments, displays -/
def PV.frz : PV → (PyData → Prop) → Prop
  | .im d, Q => Q d
  | .ow (.ls ds), Q => Q (.list ds)
  | .ow (.dc _), Q => Q (.dict [(.none, .none)])
  | _, _ => False
def PV.rdd : PV → (PyData → Prop) → Prop
  | .im d, Q => Q d
  | .ow (.ls ds), Q => Q (.list ds)
  | .lv ds, Q => Q (.list ds)
  | .rd d, Q => Q d
  | _, _ => False
theorem Out.frz {K : PySem.W.Frag} {F H0 H F1 : Hp} {v : V} {x : PV} {Q : PyData → Prop} (o : Out K F H0 H v x) (e : Ext F1 H0 F H) (h : x.frz Q) : ∃ d F', Q d ∧ Ext F1 H0 F' H ∧ Dp K F' v d := by
  cases x with
  | im d => exact ⟨d, F, h, e, o⟩
  | ow c =>
    cases c with
    | ls ds =>
      obtain ⟨p, fp, rfl, ⟨efp, vs, hv, a⟩, k⟩ := o
      subst efp
      obtain ⟨n0, nF, _⟩ := k p (by simp)
      have sF : Same F (upd F p (.lst vs)) := same_upd nF
      have fh : Same (upd F p (.lst vs)) H := fun b u hb => by
        by_cases hbp : b = p
        · subst hbp; rw [upd_same] at hb; cases hb; exact hv
        · rw [upd_ne hbp] at hb; exact e.fh b u hb
      refine ⟨.list ds, upd F p (.lst vs), h, ⟨e.ff.trans sF, e.hh, fh, fun b u hb hn => none_upd (e.nw b u hb hn) (ne_of_none hb n0)⟩, .lst (SqL.of upd_same) (dpAll_mono sF a)⟩
    | dc kvs =>
      obtain ⟨p, fp, rfl, ⟨efp, kv, hv, a⟩, k⟩ := o
      subst efp
      obtain ⟨n0, nF, _⟩ := k p (by simp)
      have sF : Same F (upd F p (.dK kv)) := same_upd nF
      have fh : Same (upd F p (.dK kv)) H := fun b u hb => by
        by_cases hbp : b = p
        · subst hbp; rw [upd_same] at hb; cases hb; exact hv
        · rw [upd_ne hbp] at hb; exact e.fh b u hb
      exact ⟨.dict [(.none, .none)], upd F p (.dK kv), h, ⟨e.ff.trans sF, e.hh, fh, fun b u hb hn => none_upd (e.nw b u hb hn) (ne_of_none hb n0)⟩, .odd upd_same⟩
    | dl _ => exact h.elim
    | dt _ => exact h.elim
    | tl _ _ => exact h.elim
    | ob _ _ => exact h.elim
  | un => exact h.elim
  | xc _ => exact h.elim
  | lv _ => exact h.elim
  | rd _ => exact h.elim
theorem Out.rdd {K : PySem.W.Frag} {F H0 H : Hp} {v : V} {x : PV} {Q : PyData → Prop} (o : Out K F H0 H v x) (s : Same F H) (h : x.rdd Q) : ∃ d, Q d ∧ Dp K H v d := by
  have hd : ∀ d, x.data = d → (∀ k, d ≠ .dict k) → Q d → ∃ d, Q d ∧ Dp K H v d := fun d e n q => by
    rcases o.dd s with z | ⟨k, z⟩
    · exact ⟨d, q, by rw [← e]; exact z⟩
    · exact (n k (by rw [← e, z])).elim
  cases x with
  | im d => exact ⟨d, h, dp_mono s o⟩
  | rd d => exact ⟨d, h, o⟩
  | lv ds => exact hd (.list ds) rfl (fun k z => by cases z) h
  | un => exact h.elim
  | xc _ => exact h.elim
  | ow c =>
    cases c with
    | ls ds => exact hd (.list ds) rfl (fun k z => by cases z) h
    | dc _ => exact h.elim
    | dl _ => exact h.elim
    | dt _ => exact h.elim
    | tl _ _ => exact h.elim
    | ob _ _ => exact h.elim
section
variable {X : Cx} {Z : Zp} {e : Expr} {es : List Expr} {te : RE} {ta : RA} {pos : Pos}
def rNil : RA := fun _ _ Q => Q []
def rCons (te : RE) (tr : RA) : RA := fun ex ρ Q => te ex ρ fun x => x.frz fun d => tr ex ρ fun ds => Q (d :: ds)
def rConsR (te : RE) (tr : RA) : RA := fun ex ρ Q => te ex ρ fun x => x.rdd fun d => tr ex ρ fun ds => Q (d :: ds)
theorem ca_nil : CA X Z [] rNil := fun ex px => by
  refine pa_imp pa_nil ?_
  rintro σ H Q ⟨F, ρ, Q', rs, t, q⟩
  exact q [] [] F H t rfl (.refl rs.ext.fh) .nil
theorem cr_nil : CR X Z [] rNil := fun ex px => by
  refine pa_imp pa_nil ?_
  rintro σ H Q ⟨F, ρ, Q', rs, t, q⟩
  exact q [] [] F H t (.refl rs.ext.fh) .nil
theorem ca_cons (he : CE X Z e te) (hr : CA X Z es ta) (hs : ∀ env, starEach (e :: es) env = (false, eval e env) :: starEach es env := by intro _; rfl) : CA X Z (e :: es) (rCons te ta) := fun ex px => by
  refine pa_imp (pa_cons (he ex px) (hr ex px) (hs _)) ?_
  rintro σ H Q ⟨F, ρ, Q', rs, t, q⟩
  refine ⟨F, ρ, _, rs, t, fun x v F1 H1 q1 e1 o1 => ?_⟩
  obtain ⟨d, F2, q2, e2, d2⟩ := o1.frz e1 q1
  refine ⟨F2, ρ, _, rs.grow e2, q2, fun ds vs F3 H3 q3 hl e3 a3 => ?_⟩
  exact q _ _ F3 H3 q3 (by rw [List.length_cons, List.length_cons, hl]) (e2.trans e3) (.cons (dp_mono e3.ff d2) a3)
theorem cr_cons (he : CE X Z e te) (hr : CR X Z es ta) (hs : ∀ env, starEach (e :: es) env = (false, eval e env) :: starEach es env := by intro _; rfl) : CR X Z (e :: es) (rConsR te ta) := fun ex px => by
  refine pa_imp (pa_cons (he ex px) (hr ex px) (hs _)) ?_
  rintro σ H Q ⟨F, ρ, Q', rs, t, q⟩
  refine ⟨F, ρ, _, rs, t, fun x v F1 H1 q1 e1 o1 => ?_⟩
  obtain ⟨d, q2, d2⟩ := o1.rdd e1.fh q1
  refine ⟨F1, ρ, _, rs.grow e1, q2, fun ds vs F3 H3 q3 e3 a3 => ?_⟩
  exact q _ _ F3 H3 q3 (e1.trans e3) (.cons (dp_mono e3.hh d2) a3)
def rLst (ta : RA) : RE := fun ex ρ Q => ta ex ρ fun ds => Q (.ow (.ls ds))
def rTup (ta : RA) : RE := fun ex ρ Q => ta ex ρ fun ds => Q (.im (.tuple ds))
theorem small_line {n : Nat} (h : n ≤ 1000) : n ≤ sizeLine := Nat.le_of_lt (small1000 h)
theorem ce_lst (h : CA X Z es ta) (hl : es.length ≤ 1000 := by decide) : CE X Z (.List es pos) (rLst ta) := fun ex px => by
  refine pe_imp (pe_lst (h ex px)) ?_
  rintro σ H Q ⟨F, ρ, Q', rs, t, q⟩
  refine ⟨F, ρ, _, rs, t, fun ds vs F1 H1 q1 l1 e1 a1 => ⟨small_line (by rw [dpa_len a1, l1]; exact hl), fun p hp => ?_⟩⟩
  exact q _ _ F1 _ q1 (e1.trans (.own e1.fh hp)) ((out_new hp e1.fh a1).earlier e1.hh)
theorem ce_tup {k} (h : CA X Z es ta) (hl : es.length ≤ 1000 := by decide) : CE X Z (.Tuple es k pos) (rTup ta) := fun ex px => by
  refine pe_imp (pe_tup (h ex px)) ?_
  rintro σ H Q ⟨F, ρ, Q', rs, t, q⟩
  refine ⟨F, ρ, _, rs, t, fun ds vs F1 H1 q1 l1 e1 a1 => ⟨small_line (by rw [dpa_len a1, l1]; exact hl), fun p hp => ?_⟩⟩
  exact q _ _ _ _ q1 (e1.trans (.new e1.fh hp)) (show Dp X.K _ _ _ from .tup (SqT.of upd_same) (dpAll_mono (same_upd (e1.fh.free hp)) a1))
end

/-! ### subscripts, slices, len -/
def gIx : PV → PV → (PV → Prop) → Prop := fun x y Q => match x.data, y.data with
  | .list ds, .int i => ∃ d, atI ds i = some d ∧ Q (nrm x.fz d)
  | .tuple ds, .int i => ∃ d, atI ds i = some d ∧ Q (nrm x.fz d)
  | .str z, .int i => z.length ≤ sizeLine ∧ ∃ c, atI z.cps.toList i = some c ∧ Q (.im (.str ⟨#[c]⟩))
  | _, _ => False
theorem dpa_at {K : PySem.W.Frag} {H : Hp} {vs : List V} {ds : List PyData} {i : Int} {d : PyData} (a : DpAll K H vs ds) (h : atI ds i = some d) : ∃ v, atI vs i = some v ∧ Dp K H v d := by
  unfold atI at h ⊢
  rw [dpa_len a]
  cases hx : ixN ds.length i with
  | none => rw [hx] at h; cases h
  | some j =>
    rw [hx] at h
    exact dpa_get a h
theorem dpa_at2 {K : PySem.W.Frag} {F : Hp} {vs : List V} {ds : List PyData} {i : Int} {v : V} {d : PyData} (a : DpAll K F vs ds) (h : atI ds i = some d) (hv : atI vs i = some v) : Dp K F v d := by
  obtain ⟨w, e, q⟩ := dpa_at a h
  rw [hv] at e
  cases e
  exact q
section
variable {X : Cx} {Z : Zp} {a b : Expr} {ta tb : RE} {pos : Pos}
theorem opg_ix : OpG X (rIx X.K) gIx := by
  intro F H0 H x y v u Q' Q s ox oy h q
  unfold gIx at h
  split at h
  · rename_i ds i hx hy
    obtain ⟨d, hat, hq⟩ := h
    obtain ⟨p, vs, rfl, hS, a, af⟩ := ox.lstB s hx
    obtain ⟨w, hw, dw⟩ := dpa_at a hat
    exact .inl ⟨p, vs, i, w, rfl, oy.int s hy, hS, hw, q _ _ F H hq (.refl s) (out_nrm (fun z => dpa_at2 (af z) hat hw) dw)⟩
  · rename_i ds i hx hy
    obtain ⟨d, hat, hq⟩ := h
    obtain ⟨p, vs, rfl, hS, a, af⟩ := ox.tupB s hx
    obtain ⟨w, hw, dw⟩ := dpa_at a hat
    exact .inr (.inl ⟨p, vs, i, w, rfl, oy.int s hy, hS, hw, q _ _ F H hq (.refl s) (out_nrm (fun z => dpa_at2 (af z) hat hw) dw)⟩)
  · rename_i z i hx hy
    obtain ⟨hl, c, hc, hq⟩ := h
    exact .inr (.inr ⟨z, i, c, ox.str s hx, oy.int s hy, hl, hc, q _ _ F H hq (.refl s) (Dp.str _)⟩)
  · exact h.elim
theorem ce_ix (ha : CE X Z a ta) (hb : CE X Z b tb) (hs : ∀ o i, subscripted b false o i = operate [o, i] (getItem o i)) : CE X Z (.Subscript a b pos) (rOp gIx ta tb) := fun ex px =>
  pe_imp (pe_ix ix_seq (ha ex px) (hb ex px) hs) fun σ H Q h => lE_op opg_ix h
/-- a part of a slice -/
abbrev RO := XW → Rho → (Option Int → Prop) → Prop
def lO (K : PySem.W.Frag) (Z : Zp) (t : Rho → (Option Int → Prop) → Prop) : TO := fun σ H Q => ∃ F ρ Q', RSz K Z F ρ σ H ∧ t ρ Q' ∧ ∀ o F' H', Q' o → Ext F H F' H' → Q o H'
def CO (X : Cx) (Z : Zp) (e : Option Expr) (t : RO) : Prop := ∀ ex, PX X Z ex → PO X e (lO X.K Z (t ex))
def rNoPart : RO := fun _ _ Q => Q none
def rPart (te : RE) : RO := fun ex ρ Q => te ex ρ fun x => match x.data with
  | .int i => Q (some i)
  | _ => False
theorem po_imp {e : Option Expr} {t u : TO} (h : PO X e t) (i : ∀ σ H Q, u σ H Q → t σ H Q) : PO X e u := ⟨fun p s σ H Q I q => h.run p s σ H Q I (i σ H Q q)⟩
theorem co_none : CO X Z none rNoPart := fun ex px => by
  refine po_imp po_none ?_
  rintro σ H Q ⟨F, ρ, Q', rs, t, q⟩
  exact q _ F H t (.refl rs.ext.fh)
theorem co_some (h : CE X Z a ta) : CO X Z (some a) (rPart ta) := fun ex px => by
  refine po_imp (po_some (h ex px)) ?_
  rintro σ H Q ⟨F, ρ, Q', rs, t, q⟩
  refine ⟨F, ρ, _, rs, t, fun x v F1 H1 q1 e1 o1 => ?_⟩
  split at q1
  · rename_i i hx
    exact ⟨i, o1.int e1.fh hx, q _ F1 H1 q1 e1⟩
  · exact q1.elim
/-- the items of a slice of step one -/
def cutD {α : Type} (xs : List α) (lo hi : Option Int) : List α := (xs.drop (HT.sIx xs.length 0 lo)).take (HT.sIx xs.length xs.length hi - HT.sIx xs.length 0 lo)
theorem dpa_cut {K : PySem.W.Frag} {H : Hp} {vs : List V} {ds : List PyData} (a : DpAll K H vs ds) (lo hi : Option Int) : DpAll K H (cutV vs lo hi) (cutD ds lo hi) := by
  unfold cutV cutD
  rw [dpa_len a]
  exact dpa_take _ (dpa_drop _ a)
/-- of a list (its items frozen): a new list -/
def gSl : PV → Option Int → Option Int → (PV → Prop) → Prop := fun x lo hi Q => match x.data with
  | .list ds => x.fz = true ∧ Q (.ow (.ls (cutD ds lo hi)))
  | _ => False
def rSl (ta : RE) (tl th : RO) : RE := fun ex ρ Q => ta ex ρ fun x => tl ex ρ fun lo => th ex ρ fun hi => gSl x lo hi Q
theorem ce_slice {lo hi : Option Expr} {tl th : RO} {p2 : Pos} (ha : CE X Z a ta) (hl : CO X Z lo tl) (hh : CO X Z hi th) : CE X Z (.Subscript a (.Slice lo hi none p2) pos) (rSl ta tl th) := fun ex px => by
  refine pe_imp (pe_slice sl_list (ha ex px) (hl ex px) (hh ex px)) ?_
  rintro σ H Q ⟨F, ρ, Q', rs, t, q⟩
  refine ⟨F, ρ, _, rs, t, fun x v F1 H1 q1 e1 o1 => ?_⟩
  refine ⟨F1, ρ, _, rs.grow e1, q1, fun l F2 H2 q2 e2 => ?_⟩
  refine ⟨F2, ρ, _, rs.grow (e1.trans e2), q2, fun u F3 H3 q3 e3 => ?_⟩
  unfold gSl at q3
  split at q3
  · rename_i ds hx
    obtain ⟨p, vs, rfl, hS, a⟩ := (o1.keep (e2.trans e3)).lstF e3.fh hx q3.1
    exact ⟨p, vs, rfl, hS, fun n hn => q _ _ F3 _ q3.2 (((e1.trans e2).trans e3).trans (.own e3.fh hn)) ((out_new hn e3.fh (dpa_cut a l u)).earlier ((e1.trans e2).trans e3).hh)⟩
  · exact q3.elim

/-! ### built-in functions by name -/
/-- a call of one argument, by its reading on a value -/
def Fn1 (X : Cx) (r : List V → Hp → VK → Prop) (g : PV → (PV → Prop) → Prop) : Prop :=
  ∀ (F H0 H : Hp) (x : PV) (v : V) (Q' : PV → Prop) (Q : VK), Same F H → Out X.K F H0 H v x → g x Q' → (∀ z w F' H', Q' z → Ext F H F' H' → Out X.K F' H H' w z → Q w H') → r [v] H Q
def rFn1 (g : PV → (PV → Prop) → Prop) (ta : RE) : RE := fun ex ρ Q => ta ex ρ fun x => g x Q
/-- of two arguments -/
def Fn2 (X : Cx) (r : List V → Hp → VK → Prop) (g : PV → PV → (PV → Prop) → Prop) : Prop :=
  ∀ (F H0 H : Hp) (x y : PV) (v u : V) (Q' : PV → Prop) (Q : VK), Same F H → Out X.K F H0 H v x → Out X.K F H0 H u y → g x y Q' → (∀ z w F' H', Q' z → Ext F H F' H' → Out X.K F' H H' w z → Q w H') → r [v, u] H Q
theorem lE_fn1 {r : List V → Hp → VK → Prop} {g : PV → (PV → Prop) → Prop} (hg : Fn1 X r g) {ex : XW} {σ : L2.St} {H : Hp} {Q : VK} (h : lE X.K Z (rFn1 g ta ex) σ H Q) : tCB r (tCons (lE X.K Z (ta ex)) tNil) σ H Q := by
  obtain ⟨F, ρ, Q', rs, t, q⟩ := h
  refine ⟨F, ρ, _, rs, t, fun x v F1 H1 q1 e1 o1 => ?_⟩
  exact hg F1 H H1 x v Q' Q e1.fh o1 q1 fun z w F' H' qz e3 o3 => q z w F' H' qz (e1.trans e3) (o3.earlier e1.hh)
theorem lE_fn2 {r : List V → Hp → VK → Prop} {g : PV → PV → (PV → Prop) → Prop} (hg : Fn2 X r g) {ex : XW} {σ : L2.St} {H : Hp} {Q : VK} (h : lE X.K Z (rOp g ta tb ex) σ H Q) : tCB r (tCons (lE X.K Z (ta ex)) (tCons (lE X.K Z (tb ex)) tNil)) σ H Q := by
  obtain ⟨F, ρ, Q', rs, t, q⟩ := h
  refine ⟨F, ρ, _, rs, t, fun x v F1 H1 q1 e1 o1 => ?_⟩
  refine ⟨F1, ρ, _, rs.grow e1, q1, fun y u F2 H2 q2 e2 o2 => ?_⟩
  exact hg F2 H H2 x y v u Q' Q e2.fh (o1.keep e2) (o2.earlier e1.hh) q2 fun z w F' H' qz e3 o3 => q z w F' H' qz ((e1.trans e2).trans e3) (o3.earlier (e1.hh.trans e2.hh))
variable {N : List Str} {sc : Scope} {f : Str} {p : Pos} {r : List V → Hp → VK → Prop}
theorem ce_bi1 {id : String} {g : PV → (PV → Prop) → Prop} (A : Wh X N sc) (hg : Fn1 X r g) (hc : CallR X (.builtin id) r) (hf : GlN sc f) (hm : X.mg f = none) (hv : bootBuiltins f = some (.builtin id)) (ha : CE X Z a ta)
    (hn : f ≠ "__name__") (hdb : (f == ("__debug__" : Str)) = false) (hs : ∀ env, starEach [a] env = (false, eval a env) :: starEach [] env := by intro _; rfl) : CE X Z (.Call (.Name f p) [a] [] pos) (rFn1 g ta) := fun ex px =>
  pe_imp (pe_callB hc (show X.env.scope.names.lookup f = _ by rw [A.hs]; exact hf) hm hv (pa_cons (ha ex px) pa_nil (hs _)) hn hdb (hs _) rfl) fun σ H Q h => lE_fn1 hg h
theorem ce_ty1 {T : String} {g : PV → (PV → Prop) → Prop} (A : Wh X N sc) (hg : Fn1 X r g) (hc : CallR X (.type T) r) (hf : GlN sc f) (hm : X.mg f = none) (hv : bootBuiltins f = some (.type T)) (ha : CE X Z a ta)
    (hn : f ≠ "__name__") (hdb : (f == ("__debug__" : Str)) = false) (hs : ∀ env, starEach [a] env = (false, eval a env) :: starEach [] env := by intro _; rfl) : CE X Z (.Call (.Name f p) [a] [] pos) (rFn1 g ta) := fun ex px =>
  pe_imp (pe_callTy hc (show X.env.scope.names.lookup f = _ by rw [A.hs]; exact hf) hm hv (pa_cons (ha ex px) pa_nil (hs _)) hn hdb (hs _) rfl) fun σ H Q h => lE_fn1 hg h
theorem ce_bi2 {id : String} {g : PV → PV → (PV → Prop) → Prop} (A : Wh X N sc) (hg : Fn2 X r g) (hc : CallR X (.builtin id) r) (hf : GlN sc f) (hm : X.mg f = none) (hv : bootBuiltins f = some (.builtin id)) (ha : CE X Z a ta) (hb : CE X Z b tb)
    (hn : f ≠ "__name__") (hdb : (f == ("__debug__" : Str)) = false) (hs : ∀ env, starEach [a, b] env = (false, eval a env) :: starEach [b] env := by intro _; rfl) (hs2 : ∀ env, starEach [b] env = (false, eval b env) :: starEach [] env := by intro _; rfl) : CE X Z (.Call (.Name f p) [a, b] [] pos) (rOp g ta tb) := fun ex px =>
  pe_imp (pe_callB hc (show X.env.scope.names.lookup f = _ by rw [A.hs]; exact hf) hm hv (pa_cons (ha ex px) (pa_cons (hb ex px) pa_nil (hs2 _)) (hs _)) hn hdb (hs _) (by rw [hs2]; rfl)) fun σ H Q h => lE_fn2 hg h
end

/-! ### which -/
def gLen : PV → (PV → Prop) → Prop := fun x Q => match x.data with
  | .list ds => Q (.im (.int ds.length))
  | .tuple ds => Q (.im (.int ds.length))
  | .str z => z.length ≤ sizeLine ∧ Q (.im (.int z.length))
  | _ => False
def gAbs : PV → (PV → Prop) → Prop := fun x Q => match x.data with
  | .int i => Q (.im (.int (if i < 0 then -i else i)))
  | _ => False
def gInt : PV → (PV → Prop) → Prop := fun x Q => match x.data with
  | .int i => Q (.im (.int i))
  | .bool k => Q (.im (.int (if k then 1 else 0)))
  | _ => False
def gMax : PV → PV → (PV → Prop) → Prop := fun x y Q => match x.data, y.data with
  | .int i, .int j => Q (.im (.int (if j > i then j else i)))
  | _, _ => False
def gMin : PV → PV → (PV → Prop) → Prop := fun x y Q => match x.data, y.data with
  | .int i, .int j => Q (.im (.int (if j < i then j else i)))
  | _, _ => False
/-- list(x): a new list -/
def gList : PV → (PV → Prop) → Prop := fun x Q => match x.data with
  | .list ds => x.fz = true ∧ Q (.ow (.ls ds))
  | .tuple ds => x.fz = true ∧ Q (.ow (.ls ds))
  | _ => False
/-- lists of ints -/
def intsOf : List PyData → Option (List Int)
  | [] => some []
  | .int i :: r => (intsOf r).map (i :: ·)
  | _ => none
theorem intsOf_map (ns : List Int) : intsOf (ns.map PyData.int) = some ns := by
  induction ns with
  | nil => rfl
  | cons n r ih => rw [List.map_cons]; unfold intsOf; rw [ih]; rfl
theorem intsOf_inv : ∀ {ds : List PyData} {ns : List Int}, intsOf ds = some ns → ds = ns.map PyData.int
  | [], ns, h => by cases h; rfl
  | d :: r, ns, h => by
    cases d with
    | int i =>
      unfold intsOf at h
      cases hr : intsOf r with
      | none => rw [hr] at h; cases h
      | some ms =>
        rw [hr] at h
        cases h
        rw [List.map_cons, intsOf_inv hr]
    | _ => cases h
def gSum : PV → (PV → Prop) → Prop := fun x Q => match x.data with
  | .list ds => ∃ ns : List Int, ds = ns.map PyData.int ∧ Q (.im (.int ns.sum))
  | _ => False
def gMaxL : PV → (PV → Prop) → Prop := fun x Q => match x.data with
  | .list ds => ∃ ns : List Int, ds = ns.map PyData.int ∧ 0 < ns.length ∧ ∀ m, m ∈ ns → (∀ y, y ∈ ns → y ≤ m) → Q (.im (.int m))
  | _ => False
def gMinL : PV → (PV → Prop) → Prop := fun x Q => match x.data with
  | .list ds => ∃ ns : List Int, ds = ns.map PyData.int ∧ 0 < ns.length ∧ ∀ m, m ∈ ns → (∀ y, y ∈ ns → m ≤ y) → Q (.im (.int m))
  | _ => False
section
variable {X : Cx}
theorem fn_len : Fn1 X (fun xs H Q => ∃ x n, xs = [x] ∧ LenV X.K x H n ∧ Q (.int n) H) gLen := by
  intro F H0 H x v Q' Q s o h q
  unfold gLen at h
  split at h
  · rename_i ds hx
    obtain ⟨p, vs, rfl, hS, a⟩ := o.lst s hx
    exact ⟨_, ds.length, rfl, .inl ⟨vs, hS, (dpa_len a).symm⟩, q _ _ F H h (.refl s) (Dp.int _)⟩
  · rename_i ds hx
    obtain ⟨p, vs, rfl, hS, a⟩ := o.tup s hx
    exact ⟨_, ds.length, rfl, .inr ⟨vs, hS, (dpa_len a).symm⟩, q _ _ F H h (.refl s) (Dp.int _)⟩
  · rename_i z hx
    have e := o.str s hx
    subst e
    exact ⟨_, z.length, rfl, ⟨h.1, rfl⟩, q _ _ F H h.2 (.refl s) (Dp.int _)⟩
  · exact h.elim
theorem fn_abs : Fn1 X (fun xs H Q => ∃ i, xs = [.int i] ∧ Q (.int (if i < 0 then -i else i)) H) gAbs := by
  intro F H0 H x v Q' Q s o h q
  unfold gAbs at h
  split at h
  · rename_i i hx
    exact ⟨i, by rw [o.int s hx], q _ _ F H h (.refl s) (Dp.int _)⟩
  · exact h.elim
theorem fn_int : Fn1 X (fun xs H Q => (∃ i, xs = [.int i] ∧ Q (.int i) H) ∨ ∃ k, xs = [.bl k] ∧ Q (.int (if k then 1 else 0)) H) gInt := by
  intro F H0 H x v Q' Q s o h q
  unfold gInt at h
  split at h
  · rename_i i hx
    exact .inl ⟨i, by rw [o.int s hx], q _ _ F H h (.refl s) (Dp.int _)⟩
  · rename_i i hx
    exact .inr ⟨i, by rw [o.boo s hx], q _ _ F H h (.refl s) (Dp.int _)⟩
  · exact h.elim
theorem fn_max : Fn2 X (fun xs H Q => ∃ i j, xs = [.int i, .int j] ∧ Q (.int (if j > i then j else i)) H) gMax := by
  intro F H0 H x y v u Q' Q s ox oy h q
  unfold gMax at h
  split at h
  · rename_i i j hx hy
    exact ⟨i, j, by rw [ox.int s hx, oy.int s hy], q _ _ F H h (.refl s) (Dp.int _)⟩
  · exact h.elim
theorem fn_min : Fn2 X (fun xs H Q => ∃ i j, xs = [.int i, .int j] ∧ Q (.int (if j < i then j else i)) H) gMin := by
  intro F H0 H x y v u Q' Q s ox oy h q
  unfold gMin at h
  split at h
  · rename_i i j hx hy
    exact ⟨i, j, by rw [ox.int s hx, oy.int s hy], q _ _ F H h (.refl s) (Dp.int _)⟩
  · exact h.elim
theorem fn_list : Fn1 X (fun xs H Q => ∃ p ys, xs = [.ref p] ∧ (SqL X.K H p ys ∨ SqT X.K H p ys) ∧ ∀ l, H l = none → Q (.ref l) (upd H l (.lst ys))) gList := by
  intro F H0 H x v Q' Q s o h q
  unfold gList at h
  split at h
  · rename_i ds hx
    obtain ⟨p, vs, rfl, hS, a⟩ := o.lstF s hx h.1
    exact ⟨p, vs, rfl, .inl hS, fun l hl => q _ _ F _ h.2 (.own s hl) (out_new hl s a)⟩
  · rename_i ds hx
    obtain ⟨p, vs, rfl, hS, a⟩ := o.tupF s hx h.1
    exact ⟨p, vs, rfl, .inr hS, fun l hl => q _ _ F _ h.2 (.own s hl) (out_new hl s a)⟩
  · exact h.elim
theorem fn_sum : Fn1 X (rSum X.K) gSum := by
  intro F H0 H x v Q' Q s o h q
  unfold gSum at h
  split at h
  · rename_i ds hx
    obtain ⟨ns, rfl, h⟩ := h
    obtain ⟨p, vs, rfl, hS, a⟩ := o.lst s hx
    have e := dpa_ints_inv a
    subst e
    exact ⟨p, ns, rfl, hS, q _ _ F H h (.refl s) (Dp.int _)⟩
  · exact h.elim
theorem fn_maxL : Fn1 X (rMax X.K) gMaxL := by
  intro F H0 H x v Q' Q s o h q
  unfold gMaxL at h
  split at h
  · rename_i ds hx
    obtain ⟨ns, rfl, h0, h⟩ := h
    obtain ⟨p, vs, rfl, hS, a⟩ := o.lst s hx
    have e := dpa_ints_inv a
    subst e
    exact ⟨p, ns, rfl, hS, h0, fun m h1 h2 => q _ _ F H (h m h1 h2) (.refl s) (Dp.int _)⟩
  · exact h.elim
theorem fn_minL : Fn1 X (rMin X.K) gMinL := by
  intro F H0 H x v Q' Q s o h q
  unfold gMinL at h
  split at h
  · rename_i ds hx
    obtain ⟨ns, rfl, h0, h⟩ := h
    obtain ⟨p, vs, rfl, hS, a⟩ := o.lst s hx
    have e := dpa_ints_inv a
    subst e
    exact ⟨p, ns, rfl, hS, h0, fun m h1 h2 => q _ _ F H (h m h1 h2) (.refl s) (Dp.int _)⟩
  · exact h.elim
end
end Pz

namespace Pz
open PySem PySem.Spec PyProof.Rows L2

/-! ### isinstance against a built-in type -/
inductive Tn where
  | int | bool | list | tuple | str
def Tn.nm : Tn → String
  | .int => "int" | .bool => "bool" | .list => "list" | .tuple => "tuple" | .str => "str"
def isi : Tn → PyData → Option Bool
  | .int, .int _ => some true | .int, .bool _ => some true | .int, .dict [] => none | .int, .dict (_ :: _) => some false | .int, _ => some false
  | .bool, .bool _ => some true | .bool, .dict [] => none | .bool, .dict (_ :: _) => some false | .bool, _ => some false
  | .list, .list _ => some true | .list, .dict [] => none | .list, .dict (_ :: _) => some false | .list, _ => some false
  | .tuple, .tuple _ => some true | .tuple, .dict [] => none | .tuple, .dict (_ :: _) => some false | .tuple, _ => some false
  | .str, .str _ => some true | .str, .dict [] => none | .str, .dict (_ :: _) => some false | .str, _ => some false
def gIsi (T : Tn) : PV → (PV → Prop) → Prop := fun x Q => match isi T x.data with
  | some b => Q (.im (.bool b))
  | none => False
section
variable {X : Cx} {Z : Zp} {N : List Str} {sc : Scope} {a : Expr} {ta : RE} {pos p p2 : Pos} {f tn : Str}
theorem tyx_list {K : PySem.W.Frag} {H : Hp} {q : Addr} {xs : List V} (h : SqL K H q xs) : TyX K H (.ref q) (.type "list") := by
  rcases h with (h | ⟨o, h⟩) | ⟨o, its, n, e, c, _⟩
  · exact .base (.lst h)
  · exact .base (.frz h)
  · exact .kList e c
theorem tyx_tup {K : PySem.W.Frag} {H : Hp} {q : Addr} {xs : List V} (h : SqT K H q xs) : TyX K H (.ref q) (.type "tuple") := by
  rcases h with (h | ⟨o, h⟩) | ⟨o, its, n, e, c, _⟩
  · exact .base (.tup h)
  · exact .fTuple h
  · exact .kTuple e c
theorem isi_ok {K : PySem.W.Frag} {F H0 H : Hp} {v : V} {x : PV} {T : Tn} {b : Bool} (o : Out K F H0 H v x) (s : Same F H) (h : isi T x.data = some b) : ∃ t, TyX K H v t ∧ PySem.W.kitOne K t (.type T.nm) = some b := by
  rcases o.dd2 s with d | d
  · generalize x.data = e at d h
    cases d with
    | non => refine ⟨.type "NoneType", .base .non, ?_⟩; cases T <;> cases h <;> exact kit_ty (by decide +kernel)
    | bl _ => refine ⟨.type "bool", .base (.bl _), ?_⟩; cases T <;> cases h <;> exact kit_ty (by decide +kernel)
    | int _ => refine ⟨.type "int", .base (.int _), ?_⟩; cases T <;> cases h <;> exact kit_ty (by decide +kernel)
    | str _ => refine ⟨.type "str", .base (.str _), ?_⟩; cases T <;> cases h <;> exact kit_ty (by decide +kernel)
    | lst hq _ => refine ⟨.type "list", tyx_list hq, ?_⟩; cases T <;> cases h <;> exact kit_ty (by decide +kernel)
    | tup hq _ => refine ⟨.type "tuple", tyx_tup hq, ?_⟩; cases T <;> cases h <;> exact kit_ty (by decide +kernel)
    | odd hq => refine ⟨.type "dict", .base (.dK hq), ?_⟩; cases T <;> cases h <;> exact kit_ty (by decide +kernel)
  · rw [d] at h
    cases T <;> cases h
theorem ce_isi {T : Tn} (A : Wh X N sc) (hf : GlN sc f) (hm : X.mg f = none) (hv : bootBuiltins f = some (.builtin "isinstance")) (ht : GlN sc tn) (hmt : X.mg tn = none) (hvt : bootBuiltins tn = some (.type T.nm)) (ha : CE X Z a ta)
    (hn : f ≠ "__name__") (hdb : (f == ("__debug__" : Str)) = false) (hn2 : tn ≠ "__name__") (hdb2 : (tn == ("__debug__" : Str)) = false)
    (hs : ∀ env, starEach [a, .Name tn p2] env = (false, eval a env) :: starEach [.Name tn p2] env := by intro _; rfl) : CE X Z (.Call (.Name f p) [a, .Name tn p2] [] pos) (rFn1 (gIsi T) ta) := fun ex px => by
  refine pe_imp (pe_callB call_isi (show X.env.scope.names.lookup f = _ by rw [A.hs]; exact hf) hm hv (pa_cons (ha ex px) (pa_cons (pe_bltn (v := .ty T.nm) (show X.env.scope.names.lookup tn = _ by rw [A.hs]; exact ht) hmt hvt rfl hn2 hdb2) pa_nil rfl) (hs _)) hn hdb (hs _) rfl) ?_
  rintro σ H Q ⟨F, ρ, Q', rs, t, q⟩
  refine ⟨F, ρ, _, rs, t, fun x v F1 H1 q1 e1 o1 => ?_⟩
  unfold gIsi at q1
  split at q1
  · rename_i b hb
    obtain ⟨t', ty, kk⟩ := isi_ok o1 e1.fh hb
    exact ⟨v, .ty T.nm, t', _, b, rfl, .ty _, ty, kk, q _ _ F1 H1 q1 e1 (Dp.bl b)⟩
  · exact q1.elim
end

/-! ### the text's own defs -/
abbrev PSp := List PyData → (PV → Prop) → (Xn → Prop) → Prop
def lSp (K : PySem.W.Frag) (cl : Xn → Addr) (sp : PSp) : Sp := fun vs H Q E => ∃ F ds Q' E', Same F H ∧ DpAll K F vs ds ∧ sp ds Q' E' ∧ (∀ x v F' H', Q' x → Ext F H F' H' → Out K F' H H' v x → Q v H') ∧ ∀ c H', E' c → Same H H' → E (.ref (cl c)) none H'
/-- a def of the text stands at its name and keeps the promise sp, at the level k -/
def FnAt (P : Program) (w : World) (K : PySem.W.Frag) (mg : Str → Option Value) (base : Heap) (cl : Xn → Addr) (k : Nat) (x : Str) (ps : List Str) (sp : PSp) : Prop :=
  ∃ f fd, mg x = some (.ref f) ∧ PySem.W.keepIn K (.ref f) = true ∧ Binds K fd ps [] ∧ FnOk P w K mg base (L2.CX P w) k f fd ps (lSp K cl sp)
def rCall (sp : PSp) (ta : RA) : RE := fun ex ρ Q => ta ex ρ fun ds => sp ds Q fun c => ex c ρ
def PV.weak : PV → (PV → Prop) → Prop
  | .im d, Q => Q (nrm false d)
  | .ow (.ls ds), Q => Q (.rd (.list ds))
  | .lv ds, Q => Q (.rd (.list ds))
  | .rd d, Q => Q (.rd d)
  | _, _ => False
/-- a new list of scalars stays owned -/
def PV.weakO : PV → (PV → Prop) → Prop
  | .im d, Q => Q (nrm false d)
  | .ow (.ls ds), Q => (∀ d ∈ ds, scl d = true) ∧ Q (.ow (.ls ds))
  | _, _ => False
def rCallO (sp : PSp) (ta : RA) : RE := fun ex ρ Q => ta ex ρ fun ds => sp ds (fun x => x.weakO Q) fun c => ex c ρ
def rCallR (sp : PSp) (ta : RA) : RE := fun ex ρ Q => ta ex ρ fun ds => sp ds (fun x => x.weak Q) fun c => ex c ρ
section
variable {X : Cx} {Z : Zp} {N : List Str} {sc : Scope} {e : Expr} {es : List Expr} {ta : RA} {pos p : Pos} {x : Str} {k : Nat} {ps : List Str} {sp : PSp}
theorem ext_same {F H H' : Hp} (s : Same F H) (k : Same H H') : Ext F H F H' := ⟨.refl _, k, s.trans k, fun _ _ _ h => h⟩
theorem ce_call (G : FnAt X.prog X.w X.K X.mg X.base Z.cl k x ps sp) (A : Wh X N sc) (hr : Room k X.A) (hg : GlN sc x) (ha : CA X Z (e :: es) ta) (hdb : (x == ("__debug__" : Str)) = false)
    (he : ∀ env, starEach (e :: es) env = (false, eval e env) :: starEach es env := by intro _; rfl) (hpl : ∀ env, (backTo pos (starEach es env)).any (·.1) = false := by intro _; rfl) : CE X Z (.Call (.Name x p) (e :: es) [] pos) (rCall sp ta) := fun ex px => by
  obtain ⟨f, fd, hm, hk, hb, G⟩ := G
  refine pe_imp (pe_callS G hr (show X.env.scope.names.lookup x = _ by rw [A.hs]; exact hg) hm hk hb (fun σ => passAt px.tk σ) (ha ex px) hdb (he _) (hpl _)) ?_
  rintro σ H Q ⟨F, ρ, Q', rs, t, q⟩
  refine ⟨F, ρ, _, rs, t, fun ds vs F1 H1 q1 l1 e1 a1 => ?_⟩
  exact ⟨F1, ds, Q', _, e1.fh, a1, q1, fun y v F' H' qy e2 o2 => q y v F' H' qy (e1.trans e2) (o2.earlier e1.hh), fun c H' hc s => ⟨c, F1, ρ, rfl, rfl, (rs.grow e1).grow (ext_same e1.fh s), hc⟩⟩
theorem ce_callR (G : FnAt X.prog X.w X.K X.mg X.base Z.cl k x ps sp) (A : Wh X N sc) (hr : Room k X.A) (hg : GlN sc x) (ha : CR X Z (e :: es) ta) (hdb : (x == ("__debug__" : Str)) = false)
    (he : ∀ env, starEach (e :: es) env = (false, eval e env) :: starEach es env := by intro _; rfl) (hpl : ∀ env, (backTo pos (starEach es env)).any (·.1) = false := by intro _; rfl) : CE X Z (.Call (.Name x p) (e :: es) [] pos) (rCallR sp ta) := fun ex px => by
  obtain ⟨f, fd, hm, hk, hb, G⟩ := G
  refine pe_imp (pe_callS G hr (show X.env.scope.names.lookup x = _ by rw [A.hs]; exact hg) hm hk hb (fun σ => passAt px.tk σ) (ha ex px) hdb (he _) (hpl _)) ?_
  rintro σ H Q ⟨F, ρ, Q', rs, t, q⟩
  refine ⟨F, ρ, _, rs, t, fun ds vs F1 H1 q1 e1 a1 => ?_⟩
  refine ⟨H1, ds, _, _, .refl _, a1, q1, fun y v F' H' qy e2 o2 => ?_, fun c H' hc s => ⟨c, F1, ρ, rfl, rfl, (rs.grow e1).grow (ext_same e1.fh s), hc⟩⟩
  have e3 := e1.trans (ext_same e1.fh e2.hh)
  cases y with
  | un => exact qy.elim
  | xc _ => exact qy.elim
  | im d => exact q _ v F1 H' qy e3 (out_nrm (fun z => by cases z) (dp_mono e2.fh o2))
  | rd d => exact q _ v F1 H' qy e3 o2
  | lv ds =>
    obtain ⟨p, vs, rfl, h2, h3⟩ := o2
    exact q _ _ F1 H' qy e3 (show Dp X.K H' _ _ from .lst h2 (dpAll_mono e2.fh h3))
  | ow c =>
    cases c with
    | ls ds =>
      obtain ⟨p, fp, rfl, w, _⟩ := o2
      exact q _ _ F1 H' qy e3 (w.dp e2.fh)
    | dc _ => exact qy.elim
    | dl _ => exact qy.elim
    | dt _ => exact qy.elim
    | tl _ _ => exact qy.elim
    | ob _ _ => exact qy.elim
theorem scl_dpa {K : PySem.W.Frag} {H F : Hp} : ∀ {vs : List V} {ds : List PyData}, (∀ d ∈ ds, scl d = true) → DpAll K H vs ds → DpAll K F vs ds
  | _, _, _, .nil => .nil
  | _, _, h, .cons x t => .cons (scl_dp (h _ List.mem_cons_self) x) (scl_dpa (fun d hd => h d (List.mem_cons_of_mem _ hd)) t)
theorem ce_callO (G : FnAt X.prog X.w X.K X.mg X.base Z.cl k x ps sp) (A : Wh X N sc) (hr : Room k X.A) (hg : GlN sc x) (ha : CR X Z (e :: es) ta) (hdb : (x == ("__debug__" : Str)) = false)
    (he : ∀ env, starEach (e :: es) env = (false, eval e env) :: starEach es env := by intro _; rfl) (hpl : ∀ env, (backTo pos (starEach es env)).any (·.1) = false := by intro _; rfl) : CE X Z (.Call (.Name x p) (e :: es) [] pos) (rCallO sp ta) := fun ex px => by
  obtain ⟨f, fd, hm, hk, hb, G⟩ := G
  refine pe_imp (pe_callS G hr (show X.env.scope.names.lookup x = _ by rw [A.hs]; exact hg) hm hk hb (fun σ => passAt px.tk σ) (ha ex px) hdb (he _) (hpl _)) ?_
  rintro σ H Q ⟨F, ρ, Q', rs, t, q⟩
  refine ⟨F, ρ, _, rs, t, fun ds vs F1 H1 q1 e1 a1 => ?_⟩
  refine ⟨H1, ds, _, _, .refl _, a1, q1, fun y v F' H' qy e2 o2 => ?_, fun c H' hc s => ⟨c, F1, ρ, rfl, rfl, (rs.grow e1).grow (ext_same e1.fh s), hc⟩⟩
  have e3 := e1.trans (ext_same e1.fh e2.hh)
  cases y with
  | un => exact qy.elim
  | xc _ => exact qy.elim
  | im d => exact q _ v F1 H' qy e3 (out_nrm (fun z => by cases z) (dp_mono e2.fh o2))
  | rd d => exact qy.elim
  | lv ds => exact qy.elim
  | ow c =>
    cases c with
    | ls ds =>
      obtain ⟨hs, qy⟩ := qy
      obtain ⟨p, fp, rfl, ⟨rfl, vs, hp, a⟩, k⟩ := o2
      refine q _ _ F1 H' qy e3 ⟨p, [p], rfl, ⟨rfl, vs, hp, scl_dpa hs a⟩, fun a ha => ?_⟩
      obtain ⟨h1, h2, h3⟩ := k a ha
      exact ⟨e1.hh.free h1, e1.fh.free h1, h3⟩
    | dc _ => exact qy.elim
    | dl _ => exact qy.elim
    | dt _ => exact qy.elim
    | tl _ _ => exact qy.elim
    | ob _ _ => exact qy.elim
end

/-! ### statements -/
def PV.sto : PV → (PV → Prop) → Prop
  | .im d, Q => Q (.im d)
  | .ow c, Q => Q (.ow c)
  | _, _ => False
theorem PV.sto_ok {x : PV} {Q : PV → Prop} (h : x.sto Q) : x.keeps = true ∧ Q x := by
  cases x with
  | im d => exact ⟨rfl, h⟩
  | ow c => exact ⟨rfl, h⟩
  | un => exact h.elim
  | xc _ => exact h.elim
  | lv _ => exact h.elim
  | rd _ => exact h.elim
def rSkip : RC := fun D ρ => D.nx ρ
def rSeq (t u : RC) : RC := fun D ρ => t { D with nx := fun ρ' => u D ρ' } ρ
def rDrop (te : RE) : RC := fun D ρ => te D.ex ρ fun _ => D.nx ρ
def rRet (te : RE) : RC := fun D ρ => te D.ex ρ fun x => D.rt x ρ
def rRetV (i : Nat) : RC := fun D ρ => match ρ[i]? with
  | some (.im d) => D.rt (.im d) ρ
  | some (.ow c) => D.rt (.ow c) (ρ.set i .un)
  | _ => False
def rRetN : RC := fun D ρ => D.rt (.im .none) ρ
def rIf (c : RT) (t u : RC) : RC := fun D ρ => c D.ex ρ fun b => (b = true → t D ρ) ∧ (b = false → u D ρ)
def rSet (i : Nat) (te : RE) : RC := fun D ρ => te D.ex ρ fun x => x.sto fun y => D.nx (ρ.set i y)
/-- a slot's list is frozen from here on -/
def rFz (i : Nat) : RC := fun D ρ => match ρ[i]? with
  | some (.ow (.ls ds)) => D.nx (ρ.set i (.im (.list ds)))
  | _ => D.nx ρ
/-- a slot is forgotten -/
def rUn (i : Nat) : RC := fun D ρ => D.nx (ρ.set i .un)
def rCont : RC := fun D ρ => D.ct ρ
def rBreak : RC := fun D ρ => D.bk ρ
section
variable {X : Cx} {Z : Zp} {N : List Str} {sc : Scope} {a e : Expr} {te : RE} {c : RT} {t u : RC} {s : Stmt} {ss rest : List Stmt} {pos : Pos}
theorem css_nil : CSs X Z [] rSkip := fun ex px => by
  refine pss_imp pss_nil ?_
  rintro D σ H ⟨F, ρ, D', rs, t, _, n, _⟩
  exact n F ρ σ H rs t
theorem css_cons (h1 : CS X Z s t) (h2 : CSs X Z rest u) : CSs X Z (s :: rest) (rSeq t u) := fun ex px => by
  refine pss_imp (pss_cons (h1 ex px) (h2 ex px)) ?_
  rintro D σ H ⟨F, ρ, D', rs, t, hx, n, b, k, r⟩
  exact ⟨F, ρ, _, rs, t, hx, fun F ρ σ H rs q => ⟨F, ρ, D', rs, q, hx, n, b, k, r⟩, b, k, r⟩
theorem css_one (h1 : CS X Z s t) : CSs X Z [s] t := fun ex px => pss_one (h1 ex px)
/-- a step of the proof alone, ahead of a block -/
theorem css_fz (i : Nat) (h : CSs X Z ss t) : CSs X Z ss (rSeq (rFz i) t) := fun ex px => by
  refine pss_imp (h ex px) ?_
  rintro D σ H ⟨F, ρ, D', rs, t, hx, n, b, k, r⟩
  unfold rSeq rFz at t
  split at t
  · rename_i ds e
    obtain ⟨F', rs'⟩ := rs.freeze e
    exact ⟨F', _, D', rs', t, hx, n, b, k, r⟩
  · exact ⟨F, ρ, D', rs, t, hx, n, b, k, r⟩
theorem cs_expr (he : CE X Z e te) (hs : ∀ env, swapsWith e none pos.line env = pure false := by intro _; rfl) : CS X Z (.Expr e pos) (rDrop te) := fun ex px => by
  refine ps_imp (ps_expr (he ex px) (hs _)) ?_
  rintro D σ H ⟨F, ρ, D', rs, t, hx, n, b, k, r⟩
  subst hx
  exact ⟨F, ρ, _, rs, t, fun x v F' H' q e o => n F' ρ σ H' (rs.grow e) q⟩
theorem cs_ret (he : CE X Z e te) : CS X Z (.Return (some e) pos) (rRet te) := fun ex px => by
  refine ps_imp (ps_ret (he ex px)) ?_
  rintro D σ H ⟨F, ρ, D', rs, t, hx, n, b, k, r⟩
  subst hx
  exact ⟨F, ρ, _, rs, t, fun x v F' H' q e o => r x v F' ρ σ H' q (rs.grow e) (o.earlier rs.ext.hh)⟩
theorem cs_retV (A : Wh X N sc) (i : Nat) {x : Str} {p2 : Pos} (hi : N[i]? = some x) (hv : Vis sc x) (hd : (x == ("__debug__" : Str)) = false) (hcd : (x == ("__classdict__" : Str)) = false) : CS X Z (.Return (some (.Name x p2)) pos) (rRetV i) := fun ex px => by
  refine ps_imp (ps_ret (pe_var (i := i) (by rw [A.hN]; exact hi) (by rw [A.hs]; exact hv) hd hcd)) ?_
  rintro D σ H ⟨F, ρ, D', rs, t, hx, n, b, k, r⟩
  obtain ⟨fps, h1, h2, h3⟩ := rs.sl
  unfold rRetV at t
  split at t
  · rename_i d e
    have hl : i < σ.length := by rw [← rs.len]; exact (List.getElem?_eq_some_iff.mp e).1
    obtain ⟨_, v, ev, dv⟩ := h1 i _ _ e (List.getElem?_eq_getElem hl)
    exact ⟨v, by rw [List.getElem?_eq_getElem hl, ev], r _ v F ρ σ H t rs dv⟩
  · rename_i c e
    have hl : i < σ.length := by rw [← rs.len]; exact (List.getElem?_eq_some_iff.mp e).1
    obtain ⟨p, ev, w⟩ := h1 i _ _ e (List.getElem?_eq_getElem hl)
    exact ⟨.ref p, by rw [List.getElem?_eq_getElem hl, ev], r _ _ F _ _ H t (rs.forget i none) ⟨p, _, rfl, w, fun a ha => h2 i a ha⟩⟩
  · exact t.elim
theorem cs_retN : CS X Z (.Return none pos) rRetN := fun ex px => by
  refine ps_imp ps_retN ?_
  rintro D σ H ⟨F, ρ, D', rs, t, hx, n, b, k, r⟩
  exact r _ _ F ρ σ H t rs (Dp.non)
theorem cs_if {body els : List Stmt} (hc : CT X Z e c) (ha : CSs X Z body t) (hb : CSs X Z els u) : CS X Z (.If e body els pos) (rIf c t u) := fun ex px => by
  refine ps_imp (ps_if (hc ex px) (ha ex px) (hb ex px)) ?_
  rintro D σ H ⟨F, ρ, D', rs, t, hx, n, b, k, r⟩
  subst hx
  refine ⟨F, ρ, _, rs, t, fun z F' H' q e => ?_⟩
  cases z with
  | true => rw [if_pos rfl]; exact ⟨F', ρ, D', rs.grow e, q.1 rfl, rfl, n, b, k, r⟩
  | false => rw [if_neg Bool.false_ne_true]; exact ⟨F', ρ, D', rs.grow e, q.2 rfl, rfl, n, b, k, r⟩
theorem cs_pass : CS X Z (.Pass pos) rSkip := fun ex px => by
  refine ps_imp ps_pass ?_
  rintro D σ H ⟨F, ρ, D', rs, t, _, n, _⟩
  exact n F ρ σ H rs t
theorem cs_cont : CS X Z (.Continue pos) rCont := fun ex px => by
  refine ps_imp ps_continue ?_
  rintro D σ H ⟨F, ρ, D', rs, t, _, n, b, k, _⟩
  exact k F ρ σ H rs t
theorem cs_break : CS X Z (.Break pos) rBreak := fun ex px => by
  refine ps_imp ps_break ?_
  rintro D σ H ⟨F, ρ, D', rs, t, _, n, b, k, _⟩
  exact b F ρ σ H rs t
/-- a name that a def (or a block) stores -/
structure Sto (X : Cx) (N : List Str) (sc : Scope) (i : Nat) (x : Str) : Prop where
  nd : X.N.Nodup
  hi : X.N[i]? = some x
  hx : Loc X.env.scope x
  hf : X.fn x = true ∨ X.env.scope.names.lookup x = some .local
theorem WhD.sto (A : WhD X N sc) {i : Nat} {x : Str} (hi : N[i]? = some x) (hx : Loc sc x) : Sto X N sc i x :=
  ⟨by rw [A.hN]; exact A.nd, by rw [A.hN]; exact hi, by rw [A.hs]; exact hx, by
    rcases hx with h | h
    · exact .inr (by rw [A.hs]; exact h)
    · exact .inl (A.fn x)⟩
theorem cs_set (A : WhD X N sc) (i : Nat) {x : Str} {p2 : Pos} (hi : N[i]? = some x) (hx : Loc sc x) (he : CE X Z e te) (hs : ∀ env, swapsWith e (some (.Name x p2)) pos.line env = pure false := by intro _; rfl) : CS X Z (.Assign [.Name x p2] e pos) (rSet i te) := fun ex px => by
  have S := A.sto hi hx
  refine ps_imp (ps_set S.nd S.hi S.hx (he ex px) (hs _) S.hf) ?_
  rintro D σ H ⟨F, ρ, D', rs, t, hx, n, b, k, r⟩
  subst hx
  refine ⟨F, ρ, _, rs, t, fun x v F' H' q e o => ?_⟩
  obtain ⟨hk, q⟩ := PV.sto_ok q
  exact n F' _ _ H' (rs.store e o hk) q
end
end Pz

namespace Pz
open PySem PySem.Spec PyProof.Rows L2

/-! ### targets -/
inductive Tgt where
  | nm (i : Nat) | tp (is : List Nat)
def Tgt.slots : Tgt → List Nat
  | .nm i => [i] | .tp is => is
def setAll (ρ : Rho) : List Nat → List PyData → Rho
  | i :: is, d :: ds => setAll (ρ.set i (.im d)) is ds
  | _, _ => ρ
def Tgt.go : Tgt → PyData → Rho → (Rho → Prop) → Prop
  | .nm i, d, ρ, Q => Q (ρ.set i (.im d))
  | .tp is, .tuple ds, ρ, Q => ds.length = is.length ∧ Q (setAll ρ is ds)
  | .tp is, .list ds, ρ, Q => ds.length = is.length ∧ Q (setAll ρ is ds)
  | _, _, _, _ => False
def tgN : List Nat → TGs
  | [] => gNil
  | i :: is => gCons (gName i) (tgN is)
def tgV (K : PySem.W.Frag) : Tgt → TG
  | .nm i => gName i
  | .tp is => fun v σ H Q => gTup K is.length (tgN is) v σ H Q ∨ gLst K is.length (tgN is) v σ H Q
theorem wipe_get {σ : L2.St} : ∀ {vs : List Nat} {j : Nat}, (wipe σ vs)[j]? = if j ∈ vs ∧ j < σ.length then some none else σ[j]?
  | [], j => by simp [wipe]
  | v :: vs, j => by
    unfold wipe
    by_cases e : v = j
    · subst e
      by_cases h : v < σ.length
      · rw [List.getElem?_set_self (by rw [wipe_length]; exact h), if_pos ⟨by simp, h⟩]
      · rw [List.getElem?_eq_none (by rw [List.length_set, wipe_length]; omega), if_neg (fun z => h z.2), List.getElem?_eq_none (by omega)]
    · rw [List.getElem?_set_ne e, wipe_get]
      by_cases h : j ∈ vs ∧ j < σ.length
      · rw [if_pos h, if_pos ⟨List.mem_cons_of_mem _ h.1, h.2⟩]
      · rw [if_neg h, if_neg]
        rintro ⟨h1, h2⟩
        rcases List.mem_cons.mp h1 with z | z
        · exact e z.symm
        · exact h ⟨z, h2⟩
theorem wipe_set {σ : L2.St} {vs : List Nat} {i : Nat} {x : Option V} (h : i ∈ vs) : wipe (σ.set i x) vs = wipe σ vs := by
  refine List.ext_getElem? fun j => ?_
  rw [wipe_get, wipe_get, List.length_set]
  by_cases e : i = j
  · subst e
    by_cases hl : i < σ.length
    · rw [if_pos ⟨h, hl⟩, if_pos ⟨h, hl⟩]
    · rw [if_neg (fun z => hl z.2), if_neg (fun z => hl z.2), List.getElem?_eq_none (by rw [List.length_set]; omega), List.getElem?_eq_none (by omega)]
  · rw [List.getElem?_set_ne e]
theorem wipe_wipe {σ : L2.St} {vs : List Nat} : wipe (wipe σ vs) vs = wipe σ vs := by
  refine List.ext_getElem? fun j => ?_
  rw [wipe_get, wipe_length, wipe_get]
  by_cases h : j ∈ vs ∧ j < σ.length
  · simp [h]
  · rw [if_neg h, if_neg h]
section
variable {K : PySem.W.Frag} {F0 H0 F H : Hp} {ρ : Rho} {σ : L2.St}
theorem RS.setIm {i : Nat} {v : V} {d : PyData} (r : RS K F0 H0 F ρ σ H) (h : Dp K F v d) : RS K F0 H0 F (ρ.set i (.im d)) (σ.set i (some v)) H := r.store (.refl r.ext.fh) (show Out K F H H v (.im d) from h) rfl
theorem tgN_ok : ∀ (is : List Nat) {xs : List V} {ds : List PyData} {ρ : Rho} {σ : L2.St} {Q : L2.St → Hp → Prop}, RS K F0 H0 F ρ σ H → DpAll K F xs ds → ds.length = is.length →
    (∀ σ', RS K F0 H0 F (setAll ρ is ds) σ' H → (∀ vs : List Nat, (∀ i ∈ is, i ∈ vs) → wipe σ' vs = wipe σ vs) → Q σ' H) → tgN is xs σ H Q
  | [], _, _, ρ, σ, Q, r, .nil, _, q => ⟨rfl, q σ r fun _ _ => rfl⟩
  | [], _, _, ρ, σ, Q, r, .cons _ _, e, q => by cases e
  | i :: is, _, _, ρ, σ, Q, r, .nil, e, q => by cases e
  | i :: is, _, _, ρ, σ, Q, r, .cons (v := v) (vs := vs) (d := d) (ds := ds) h t, e, q => by
    refine ⟨v, vs, rfl, ?_⟩
    show tgN is vs (σ.set i (some v)) H Q
    exact tgN_ok is (r.setIm h) t (by simpa using e) fun σ' r' w => q σ' r' fun ws hw => (w ws fun j hj => hw j (List.mem_cons_of_mem _ hj)).trans (wipe_set (hw i List.mem_cons_self))
theorem tgt_ok {tg : Tgt} {v : V} {d : PyData} {Q' : Rho → Prop} {Q : L2.St → Hp → Prop} (r : RS K F0 H0 F ρ σ H) (h : Dp K F v d) (g : tg.go d ρ Q')
    (q : ∀ ρ' σ', RS K F0 H0 F ρ' σ' H → Q' ρ' → (∀ vs : List Nat, (∀ i ∈ tg.slots, i ∈ vs) → wipe σ' vs = wipe σ vs) → Q σ' H) : tgV K tg v σ H Q := by
  cases tg with
  | nm i => exact q _ _ (r.setIm h) g fun vs hv => wipe_set (hv i (by simp [Tgt.slots]))
  | tp is =>
    cases h with
    | tup hS a => exact .inl ⟨_, _, rfl, Same.sqT r.ext.fh hS, by rw [dpa_len a]; exact g.1, tgN_ok is r a g.1 fun σ' r' w => q _ _ r' g.2 w⟩
    | lst hS a => exact .inr ⟨_, _, rfl, r.ext.fh.seq hS, by rw [dpa_len a]; exact g.1, tgN_ok is r a g.1 fun σ' r' w => q _ _ r' g.2 w⟩
    | non => exact g.elim
    | bl _ => exact g.elim
    | int _ => exact g.elim
    | str _ => exact g.elim
    | odd _ => exact g.elim
end
/-- a target -/
def CG (X : Cx) (e : Expr) (tg : Tgt) : Prop := PG X e (tgV X.K tg)
def CGs (X : Cx) (es : List Expr) (is : List Nat) : Prop := PGs X es (tgN is)
section
variable {X : Cx} {Z : Zp} {N : List Str} {sc : Scope} {pos : Pos} {es : List Expr} {is : List Nat}
theorem pg_or {e : Expr} {t u : TG} (h : PG X e t) (h' : PG X e u) : PG X e (fun v σ H Q => t v σ H Q ∨ u v σ H Q) :=
  ⟨fun p s σ H v u Q I r q => q.elim (h.run p s σ H v u Q I r) (h'.run p s σ H v u Q I r)⟩
theorem cg_name {i : Nat} {x : Str} (S : Sto X N sc i x) : CG X (.Name x pos) (.nm i) := pg_name S.nd S.hi S.hx S.hf
theorem cgs_nil : CGs X [] [] := pgs_nil
theorem cgs_cons {i : Nat} {x : Str} (S : Sto X N sc i x) (h : CGs X es is) : CGs X (.Name x pos :: es) (i :: is) := pgs_cons (pg_name S.nd S.hi S.hx S.hf) h rfl
theorem cg_tup {k : Nat} (hc : X.calm = true) (h : CGs X es is) (hl : es.length = is.length) (hn : ∀ env, (assignEach es env).length = es.length := by intro _; rfl) (hst : ∀ env, (assignEach es env).findIdx? (·.1) = none := by intro _; rfl) : CG X (.Tuple es k pos) (.tp is) :=
  pg_or (pg_tup hc h ((hn _).trans hl) (hst _)) (pg_lst hc h ((hn _).trans hl) (hst _))
/-- a block's own name -/
theorem Wh.sto (A : Wh X N sc) {i : Nat} {x : Str} (hi : N[i]? = some x) (hx : sc.names.lookup x = some .local) : Sto X N sc i x :=
  ⟨by rw [A.hN]; exact A.nd, by rw [A.hN]; exact hi, .inl (by rw [A.hs]; exact hx), .inr (by rw [A.hs]; exact hx)⟩
end

/-! ### what is walked -/
abbrev RI := XW → Rho → (List PyData → Prop) → Prop
def ItOk (K : PySem.W.Frag) (J : It) (ds : List PyData) (F1 : Hp) : Prop := ∀ F2 H2, Same F1 F2 → Same F2 H2 → ∀ i : Nat, (i < ds.length → J.go i H2) ∧
  (∀ d x H', ds[i]? = some d → J.yld i H2 x H' → ∃ F', Ext F2 H2 F' H' ∧ Dp K F' x d) ∧ (ds.length ≤ i → J.stop i H2)
def lI (K : PySem.W.Frag) (Z : Zp) (t : Rho → (List PyData → Prop) → Prop) : TI := fun σ H R => ∃ F ρ Q', RSz K Z F ρ σ H ∧ t ρ Q' ∧ ∀ ds F1 H1 J, Q' ds → Ext F H F1 H1 → ItOk K J ds F1 → R J H1
def CI (X : Cx) (Z : Zp) (tg e : Expr) (t : RI) : Prop := ∀ ex, PX X Z ex → PI X tg e (lI X.K Z (t ex))
def rIt (te : RE) : RI := fun ex ρ Q => te ex ρ fun x => x.frz fun d => match d with
  | .list ds => Q ds
  | .tuple ds => Q ds
  | _ => False
def upto (n : Nat) (f : Nat → PyData) : List PyData := (List.range n).map f
theorem upto_get {n : Nat} {f : Nat → PyData} {i : Nat} {d : PyData} (h : (upto n f)[i]? = some d) : i < n ∧ d = f i := by
  unfold upto at h
  rw [List.getElem?_map] at h
  by_cases hi : i < n
  · rw [List.getElem?_range hi] at h
    cases h
    exact ⟨hi, rfl⟩
  · rw [List.getElem?_eq_none (by simpa using hi)] at h
    cases h
theorem upto_len (n : Nat) (f : Nat → PyData) : (upto n f).length = n := by simp [upto]
def rRng1 (te : RE) : RI := fun ex ρ Q => te ex ρ fun x => match x.data with
  | .int j => (-(2 ^ 62) ≤ j ∧ j < 2 ^ 62) ∧ Q (upto j.toNat fun i => .int i)
  | _ => False
def rRng2 (ta tb : RE) : RI := fun ex ρ Q => ta ex ρ fun x => tb ex ρ fun y => match x.data, y.data with
  | .int i, .int j => (-(2 ^ 62) ≤ i ∧ i < 2 ^ 62 ∧ -(2 ^ 62) ≤ j ∧ j < 2 ^ 62) ∧ Q (upto (j - i).toNat fun k => .int (i + k))
  | _, _ => False
def rRng3 (ta tb tc : RE) : RI := fun ex ρ Q => ta ex ρ fun x => tb ex ρ fun y => tc ex ρ fun z => match x.data, y.data, z.data with
  | .int i, .int j, .int c => ∃ n, RgC i j c n ∧ Q (upto n fun k => .int (i + (k : Nat) * c))
  | _, _, _ => False
def rRev (te : RE) : RI := fun ex ρ Q => te ex ρ fun x => x.frz fun d => match d with
  | .list ds => Q ds.reverse
  | .tuple ds => Q ds.reverse
  | _ => False
def rEnum (te : RE) : RI := fun ex ρ Q => te ex ρ fun x => x.frz fun d => match d with
  | .list ds => Q (ds.zipIdx.map fun p => .tuple [.int (p.2 : Nat), p.1])
  | _ => False
section
variable {K : PySem.W.Frag} {F1 : Hp} {a : Addr} {vs : List V} {ds : List PyData}
theorem itok_list (hS : SqL K F1 a vs) (ha : DpAll K F1 vs ds) : ItOk K (Itl K a) ds F1 := fun F2 H2 s2 h2 i => by
  have hS2 := h2.seq (s2.seq hS)
  refine ⟨fun hi => ?_, fun d x H' hd hy => ?_, fun hi => ⟨vs, hS2, by rw [dpa_len ha]; exact hi⟩⟩
  · exact ⟨vs, vs[i]'(by rw [dpa_len ha]; exact hi), hS2, by simp⟩
  · obtain ⟨rfl, f⟩ := hy
    obtain ⟨w, hw, dw⟩ := dpa_get ha hd
    rw [f vs hS2] at hw
    cases hw
    exact ⟨F2, .refl h2, dp_mono s2 dw⟩
theorem itok_tup (hS : SqT K F1 a vs) (ha : DpAll K F1 vs ds) : ItOk K (Itt K a) ds F1 := fun F2 H2 s2 h2 i => by
  have hS2 := Same.sqT h2 (Same.sqT s2 hS)
  refine ⟨fun hi => ?_, fun d x H' hd hy => ?_, fun hi => ⟨vs, hS2, by rw [dpa_len ha]; exact hi⟩⟩
  · exact ⟨vs, vs[i]'(by rw [dpa_len ha]; exact hi), hS2, by simp⟩
  · obtain ⟨rfl, f⟩ := hy
    obtain ⟨w, hw, dw⟩ := dpa_get ha hd
    rw [f vs hS2] at hw
    cases hw
    exact ⟨F2, .refl h2, dp_mono s2 dw⟩
theorem itok_rng (lo : Int) (n : Nat) : ItOk K (Itr lo n) (upto n fun k => .int (lo + k)) F1 := fun F2 H2 s2 h2 i => by
  refine ⟨fun hi => by rw [upto_len] at hi; exact hi, fun d x H' hd hy => ?_, fun hi => by rw [upto_len] at hi; exact hi⟩
  obtain ⟨rfl, rfl⟩ := hy
  obtain ⟨_, rfl⟩ := upto_get hd
  exact ⟨F2, .refl h2, .int _⟩
theorem itok_rngC (lo c : Int) (n : Nat) : ItOk K (Itc lo c n) (upto n fun k => .int (lo + (k : Nat) * c)) F1 := fun F2 H2 s2 h2 i => by
  refine ⟨fun hi => by rw [upto_len] at hi; exact hi, fun d x H' hd hy => ?_, fun hi => by rw [upto_len] at hi; exact hi⟩
  obtain ⟨rfl, rfl⟩ := hy
  obtain ⟨_, rfl⟩ := upto_get hd
  exact ⟨F2, .refl h2, .int _⟩
theorem itok_rev (hS : SqL K F1 a vs) (ha : DpAll K F1 vs ds) : ItOk K (Itv K a vs.length) ds.reverse F1 := fun F2 H2 s2 h2 i => by
  have hS2 := h2.seq (s2.seq hS)
  have hl := dpa_len ha
  refine ⟨fun hi => ?_, fun d x H' hd hy => ?_, fun hi => ?_⟩
  · rw [List.length_reverse] at hi
    exact ⟨by omega, vs, vs[vs.length - 1 - i]'(by omega), hS2, by simp⟩
  · obtain ⟨rfl, f⟩ := hy
    have hi : i < ds.length := by have := (List.getElem?_eq_some_iff.mp hd).1; simpa using this
    rw [List.getElem?_reverse hi] at hd
    obtain ⟨w, hw, dw⟩ := dpa_get ha hd
    have := f vs hS2
    rw [hl, hw] at this
    cases this
    exact ⟨F2, .refl h2, dp_mono s2 dw⟩
  · rw [List.length_reverse] at hi
    show vs.length ≤ i
    omega
theorem itok_revT (hS : SqT K F1 a vs) (ha : DpAll K F1 vs ds) : ItOk K (RT.ItvT K a vs.length) ds.reverse F1 := fun F2 H2 s2 h2 i => by
  have hS2 := Same.sqT h2 (Same.sqT s2 hS)
  have hl := dpa_len ha
  refine ⟨fun hi => ?_, fun d x H' hd hy => ?_, fun hi => ?_⟩
  · rw [List.length_reverse] at hi
    exact ⟨by omega, vs, vs[vs.length - 1 - i]'(by omega), hS2, by simp⟩
  · obtain ⟨rfl, f⟩ := hy
    have hi : i < ds.length := by have := (List.getElem?_eq_some_iff.mp hd).1; simpa using this
    rw [List.getElem?_reverse hi] at hd
    obtain ⟨w, hw, dw⟩ := dpa_get ha hd
    have := f vs hS2
    rw [hl, hw] at this
    cases this
    exact ⟨F2, .refl h2, dp_mono s2 dw⟩
  · rw [List.length_reverse] at hi
    show vs.length ≤ i
    omega
theorem itok_enum (hS : SqL K F1 a vs) (ha : DpAll K F1 vs ds) : ItOk K (Ite K a) (ds.zipIdx.map fun p => .tuple [.int (p.2 : Nat), p.1]) F1 := fun F2 H2 s2 h2 i => by
  have hS2 := h2.seq (s2.seq hS)
  have hl := dpa_len ha
  refine ⟨fun hi => ?_, fun d x H' hd hy => ?_, fun hi => ⟨vs, hS2, by simp at hi; omega⟩⟩
  · have hi' : i < vs.length := by simp at hi; omega
    exact ⟨vs, vs[i]'hi', hS2, by simp⟩
  · obtain ⟨T, y, rfl, hT, rfl, f⟩ := hy
    rw [List.getElem?_map, List.getElem?_zipIdx] at hd
    cases he : ds[i]? with
    | none => rw [he] at hd; cases hd
    | some e =>
      rw [he] at hd
      cases hd
      obtain ⟨w, hw, dw⟩ := dpa_get ha he
      rw [f vs hS2] at hw
      cases hw
      have s3 : Same F2 (upd F2 T (.tup [.int ((0 + i : Nat) : Int), y])) := same_upd (h2.free hT)
      refine ⟨upd F2 T (.tup [.int ((0 + i : Nat) : Int), y]), ?_, .tup (SqT.of upd_same) (.cons (.int _) (.cons (dp_mono (s2.trans s3) dw) .nil))⟩
      rw [show ((0 + i : Nat) : Int) = ((i : Nat) : Int) by omega]
      exact .new h2 hT
/-- zip of two lists -/
def zipT : List PyData → List PyData → List PyData
  | a :: r, b :: s => .tuple [a, b] :: zipT r s
  | _, _ => []
theorem zipT_get : ∀ {xs ys : List PyData} {i : Nat} {d : PyData}, (zipT xs ys)[i]? = some d → ∃ a b, xs[i]? = some a ∧ ys[i]? = some b ∧ d = .tuple [a, b]
  | [], _, _, _, h => by simp [zipT] at h
  | _ :: _, [], _, _, h => by simp [zipT] at h
  | a :: r, b :: s, 0, d, h => by simp [zipT] at h; exact ⟨a, b, rfl, rfl, h.symm⟩
  | a :: r, b :: s, i + 1, d, h => by
    obtain ⟨x, y, h1, h2, h3⟩ := zipT_get (xs := r) (ys := s) (i := i) (d := d) (by simpa [zipT] using h)
    exact ⟨x, y, by simpa using h1, by simpa using h2, h3⟩
theorem zipT_len : ∀ (xs ys : List PyData), (zipT xs ys).length = min xs.length ys.length
  | [], ys => by simp [zipT]
  | _ :: _, [] => by simp [zipT]
  | a :: r, b :: s => by simp [zipT, zipT_len r s]
theorem itok_zip {b : Addr} {ws : List V} {es : List PyData} (hS : SqL K F1 a vs) (ha : DpAll K F1 vs ds) (hS' : SqL K F1 b ws) (hb : DpAll K F1 ws es) : ItOk K (Itz K a b) (zipT ds es) F1 := fun F2 H2 s2 h2 i => by
  have hA := h2.seq (s2.seq hS)
  have hB := h2.seq (s2.seq hS')
  have hl := dpa_len ha
  have hl' := dpa_len hb
  refine ⟨fun hi => ?_, fun d x H' hd hy => ?_, fun hi => ⟨vs, ws, hA, hB, by rw [zipT_len] at hi; omega⟩⟩
  · rw [zipT_len] at hi
    exact ⟨vs, ws, vs[i]'(by omega), ws[i]'(by omega), hA, hB, by simp, by simp⟩
  · obtain ⟨T, y, z, rfl, hT, rfl, f, g⟩ := hy
    obtain ⟨p, q, e1, e2, rfl⟩ := zipT_get hd
    obtain ⟨w, hw, dw⟩ := dpa_get ha e1
    obtain ⟨w', hw', dw'⟩ := dpa_get hb e2
    rw [f vs hA] at hw
    rw [g ws hB] at hw'
    cases hw; cases hw'
    have s3 : Same F2 (upd F2 T (.tup [y, z])) := same_upd (h2.free hT)
    exact ⟨_, .new h2 hT, .tup (SqT.of upd_same) (.cons (dp_mono (s2.trans s3) dw) (.cons (dp_mono (s2.trans s3) dw') .nil))⟩
end
def rZip (ta tb : RE) : RI := fun ex ρ Q => ta ex ρ fun x => x.frz fun d => tb ex ρ fun y => y.frz fun e => match d, e with
  | .list ds, .list es => Q (zipT ds es)
  | _, _ => False
section
variable {X : Cx} {Z : Zp} {N : List Str} {sc : Scope} {tg a b c : Expr} {ta tb tc : RE} {pos p tpos : Pos} {f : Str}
theorem pi_imp {t u : TI} (h : PI X tg a t) (i : ∀ σ H R, u σ H R → t σ H R) : PI X tg a u := ⟨fun p s σ H R I q => h.run p s σ H R I (i σ H R q)⟩
theorem pi_or {t u : TI} (h : PI X tg a t) (h' : PI X tg a u) : PI X tg a (fun σ H R => t σ H R ∨ u σ H R) := ⟨fun p s σ H R I q => q.elim (h.run p s σ H R I) (h'.run p s σ H R I)⟩
/-- what one reading leads to, either kind -/
def iEither (K : PySem.W.Frag) (te : TE) : TI := fun σ H R => te σ H fun x H1 => ∃ a, x = .ref a ∧ (((∃ xs, SqL K H1 a xs) ∧ R (Itl K a) H1) ∨ ((∃ xs, SqT K H1 a xs) ∧ R (Itt K a) H1))
theorem pi_either {l : Expr} {tl : TE} (hl : PE X l tl) : PI X tg l (iEither X.K tl) := by
  refine ⟨fun pins s σ H R I h => ?_⟩
  refine thn (hl.run pins s σ H _ I h) fun v s1 ⟨x, H1, I1, r1, q1⟩ => ?_
  obtain ⟨a, e, q⟩ := q1
  subst e
  cases r1
  rcases q with ⟨⟨xs, hq⟩, q⟩ | ⟨⟨xs, hq⟩, q⟩
  · obtain ⟨its, rv, p, hz⟩ := I1.list hq
    refine wpAny_pyIter_list p.isList ?_
    refine ⟨s1.heap.objs.size, [s1.heap.objs.size], _, _, H1, rfl, I1.kept (t' := s1.toks) fun b o e => Heap.get?_push_of_some _ e, turn_list a _, ⟨_, Heap.get?_push_size _ rfl, rfl, rfl⟩, fun b hb => ?_, q⟩
    have e : b = s1.heap.objs.size := by simpa using hb
    subst e
    exact I1.fpOk (Nat.le_refl _) (I1.hok.fresh (Nat.le_refl _))
  · obtain ⟨its, rv, p, hz⟩ := I1.tuple hq
    refine wpAny_pyIter_tuple (show s1.heap.IsTuple a its.toArray from p) ?_
    refine ⟨s1.heap.objs.size, [s1.heap.objs.size], _, _, H1, rfl, I1.kept (t' := s1.toks) fun b o e => Heap.get?_push_of_some _ e, turn_tuple a _, ⟨_, Heap.get?_push_size _ rfl, rfl, rfl⟩, fun b hb => ?_, q⟩
    have e : b = s1.heap.objs.size := by simpa using hb
    subst e
    exact I1.fpOk (Nat.le_refl _) (I1.hok.fresh (Nat.le_refl _))
theorem ci_val (ha : CE X Z a ta) : CI X Z tg a (rIt ta) := fun ex px => by
  refine pi_imp (pi_either (ha ex px)) ?_
  rintro σ H R ⟨F, ρ, Q', rs, t, q⟩
  refine ⟨F, ρ, _, rs, t, fun x v F1 H1 q1 e1 o1 => ?_⟩
  obtain ⟨d, F2, q2, e2, d2⟩ := o1.frz e1 q1
  cases d2 with
  | lst hS a => exact ⟨_, rfl, .inl ⟨⟨_, e2.fh.seq hS⟩, q _ F2 H1 _ q2 e2 (itok_list hS a)⟩⟩
  | tup hS a => exact ⟨_, rfl, .inr ⟨⟨_, Same.sqT e2.fh hS⟩, q _ F2 H1 _ q2 e2 (itok_tup hS a)⟩⟩
  | non => exact q2.elim
  | bl _ => exact q2.elim
  | int _ => exact q2.elim
  | str _ => exact q2.elim
  | odd _ => exact q2.elim
theorem ci_range1 (A : Wh X N sc) (hg : GlN sc "range") (hm : X.mg "range" = none) (ha : CE X Z a ta) (hs : ∀ env, starEach [a] env = [(false, eval a env)] := by intro _; rfl) : CI X Z tg (.Call (.Name "range" p) [a] [] pos) (rRng1 ta) := fun ex px => by
  refine pi_imp (pi_range1 (show X.env.scope.names.lookup _ = _ by rw [A.hs]; exact hg) hm (pa_cons (ha ex px) pa_nil (hs _)) (hs _)) ?_
  rintro σ H R ⟨F, ρ, Q', rs, t, q⟩
  refine ⟨F, ρ, _, rs, t, fun x v F1 H1 q1 e1 o1 => ?_⟩
  split at q1
  · rename_i j hx
    refine ⟨j, by rw [o1.int e1.fh hx], q1.1.1, q1.1.2, q _ F1 H1 _ q1.2 e1 ?_⟩
    have := itok_rng (K := X.K) (F1 := F1) 0 j.toNat
    simpa using this
  · exact q1.elim
theorem ci_range2 (A : Wh X N sc) (hg : GlN sc "range") (hm : X.mg "range" = none) (ha : CE X Z a ta) (hb : CE X Z b tb) (hs : ∀ env, starEach [a, b] env = [(false, eval a env), (false, eval b env)] := by intro _; rfl) (hs2 : ∀ env, starEach [b] env = [(false, eval b env)] := by intro _; rfl) :
    CI X Z tg (.Call (.Name "range" p) [a, b] [] pos) (rRng2 ta tb) := fun ex px => by
  refine pi_imp (pi_range2 (show X.env.scope.names.lookup _ = _ by rw [A.hs]; exact hg) hm (pa_cons (ha ex px) (pa_cons (hb ex px) pa_nil (hs2 _)) (by rw [hs, hs2])) (hs _) (hs2 _)) ?_
  rintro σ H R ⟨F, ρ, Q', rs, t, q⟩
  refine ⟨F, ρ, _, rs, t, fun x v F1 H1 q1 e1 o1 => ?_⟩
  refine ⟨F1, ρ, _, rs.grow e1, q1, fun y u F2 H2 q2 e2 o2 => ?_⟩
  split at q2
  · rename_i i j hx hy
    exact ⟨i, j, by rw [o1.int e1.fh hx, o2.int e2.fh hy], q2.1, q _ F2 H2 _ q2.2 (e1.trans e2) (itok_rng i _)⟩
  · exact q2.elim
theorem ci_range3 (A : Wh X N sc) (hg : GlN sc "range") (hm : X.mg "range" = none) (ha : CE X Z a ta) (hb : CE X Z b tb) (hc : CE X Z c tc) (hs : ∀ env, starEach [a, b, c] env = (false, eval a env) :: starEach [b, c] env := by intro _; rfl) (hs2 : ∀ env, starEach [b, c] env = (false, eval b env) :: starEach [c] env := by intro _; rfl) (hs3 : ∀ env, starEach [c] env = (false, eval c env) :: starEach [] env := by intro _; rfl) :
    CI X Z tg (.Call (.Name "range" p) [a, b, c] [] pos) (rRng3 ta tb tc) := fun ex px => by
  refine pi_imp (pi_range3 (show X.env.scope.names.lookup _ = _ by rw [A.hs]; exact hg) hm (pa_cons (ha ex px) (pa_cons (hb ex px) (pa_cons (hc ex px) pa_nil (hs3 _)) (hs2 _)) (hs _)) (hs _) (by rw [hs2, hs3]; rfl)) ?_
  rintro σ H R ⟨F, ρ, Q', rs, t, q⟩
  refine ⟨F, ρ, _, rs, t, fun x v F1 H1 q1 e1 o1 => ?_⟩
  refine ⟨F1, ρ, _, rs.grow e1, q1, fun y u F2 H2 q2 e2 o2 => ?_⟩
  refine ⟨F2, ρ, _, rs.grow (e1.trans e2), q2, fun z w F3 H3 q3 e3 o3 => ?_⟩
  split at q3
  · rename_i i j c hx hy hz
    obtain ⟨n, hr, q3⟩ := q3
    have e4 := (e1.trans e2).trans e3
    exact ⟨i, j, c, n, by rw [o1.int e1.fh hx, o2.int e2.fh hy, o3.int e3.fh hz], hr, q _ F3 H3 _ q3 e4 (itok_rngC i c n)⟩
  · exact q3.elim
theorem ci_rev (A : Wh X N sc) (hg : GlN sc "reversed") (hm : X.mg "reversed" = none) (ha : CE X Z a ta) (hs : ∀ env, starEach [a] env = (false, eval a env) :: starEach [] env := by intro _; rfl) : CI X Z tg (.Call (.Name "reversed" p) [a] [] pos) (rRev ta) := fun ex px => by
  refine pi_imp (RT.pi_revA (show X.env.scope.names.lookup _ = _ by rw [A.hs]; exact hg) hm (ha ex px) (hs _)) ?_
  rintro σ H R ⟨F, ρ, Q', rs, t, q⟩
  refine ⟨F, ρ, _, rs, t, fun x v F1 H1 q1 e1 o1 => ?_⟩
  obtain ⟨d, F2, q2, e2, d2⟩ := o1.frz e1 q1
  cases d2 with
  | lst hS a => exact ⟨_, _, rfl, .inl ⟨e2.fh.seq hS, q _ F2 H1 _ q2 e2 (itok_rev hS a)⟩⟩
  | tup hS a => exact ⟨_, _, rfl, .inr ⟨Same.sqT e2.fh hS, q _ F2 H1 _ q2 e2 (itok_revT hS a)⟩⟩
  | non => exact q2.elim
  | bl _ => exact q2.elim
  | int _ => exact q2.elim
  | str _ => exact q2.elim
  | odd _ => exact q2.elim
theorem ci_enum {elts : List Expr} {kk : Nat} (A : Wh X N sc) (hg : GlN sc "enumerate") (hm : X.mg "enumerate" = none) (ha : CE X Z a ta) (hs : ∀ env, starEach [a] env = (false, eval a env) :: starEach [] env := by intro _; rfl) : CI X Z (.Tuple elts kk tpos) (.Call (.Name "enumerate" p) [a] [] pos) (rEnum ta) := fun ex px => by
  refine pi_imp (pi_enum (show X.env.scope.names.lookup _ = _ by rw [A.hs]; exact hg) hm (pa_cons (ha ex px) pa_nil (hs _)) (hs _)) ?_
  rintro σ H R ⟨F, ρ, Q', rs, t, q⟩
  refine ⟨F, ρ, _, rs, t, fun x v F1 H1 q1 e1 o1 => ?_⟩
  obtain ⟨d, F2, q2, e2, d2⟩ := o1.frz e1 q1
  cases d2 with
  | lst hS a => exact ⟨_, _, rfl, e2.fh.seq hS, q _ F2 H1 _ q2 e2 (itok_enum hS a)⟩
  | tup hS a => exact q2.elim
  | non => exact q2.elim
  | bl _ => exact q2.elim
  | int _ => exact q2.elim
  | str _ => exact q2.elim
  | odd _ => exact q2.elim
theorem ci_zip {elts : List Expr} {kk : Nat} (A : Wh X N sc) (hg : GlN sc "zip") (hm : X.mg "zip" = none) (ha : CE X Z a ta) (hb : CE X Z b tb) (hs : ∀ env, starEach [a, b] env = (false, eval a env) :: starEach [b] env := by intro _; rfl) (hs2 : ∀ env, starEach [b] env = (false, eval b env) :: starEach [] env := by intro _; rfl) :
    CI X Z (.Tuple elts kk tpos) (.Call (.Name "zip" p) [a, b] [] pos) (rZip ta tb) := fun ex px => by
  refine pi_imp (pi_zip (show X.env.scope.names.lookup _ = _ by rw [A.hs]; exact hg) hm (pa_cons (ha ex px) (pa_cons (hb ex px) pa_nil (hs2 _)) (hs _)) (hs _) (by rw [hs2]; rfl)) ?_
  rintro σ H R ⟨F, ρ, Q', rs, t, q⟩
  refine ⟨F, ρ, _, rs, t, fun x v F1 H1 q1 e1 o1 => ?_⟩
  obtain ⟨d, F2, q2, e2, d2⟩ := o1.frz e1 q1
  refine ⟨F2, ρ, _, rs.grow e2, q2, fun y u F3 H3 q3 e3 o3 => ?_⟩
  obtain ⟨d', F4, q4, e4, d4⟩ := o3.frz e3 q3
  have d2' := dp_mono e4.ff d2
  split at q4
  · cases d2' with
    | lst hS a =>
      cases d4 with
      | lst hS' a' => exact ⟨_, _, _, _, rfl, e4.fh.seq hS, e4.fh.seq hS', q _ F4 H3 _ q4 (e2.trans e4) (itok_zip hS a hS' a')⟩
  · exact q4.elim
end

/-! ### for, while -/
def forR (g : PyData → Rho → (Rho → Prop) → Prop) (body : RC) (D : PEnds) : List PyData → Rho → Prop
  | [], ρ => D.nx ρ
  | d :: r, ρ => g d ρ fun ρ1 => body { D with nx := forR g body D r, ct := forR g body D r, bk := D.nx } ρ1
/-- the same, not opened by steps -/
@[irreducible] def forL (g : PyData → Rho → (Rho → Prop) → Prop) (body : RC) (D : PEnds) (ds : List PyData) (ρ : Rho) : Prop := forR g body D ds ρ
theorem forL_eq {g : PyData → Rho → (Rho → Prop) → Prop} {body : RC} {D : PEnds} {ds : List PyData} {ρ : Rho} : forL g body D ds ρ = forR g body D ds ρ := by unfold forL; rfl
def rFor (it : RI) (tg : Tgt) (body : RC) : RC := fun D ρ => it D.ex ρ fun ds => forL tg.go body D ds ρ
def whileL (c : RT) (body : RC) (D : PEnds) : Nat → Rho → Prop
  | 0, _ => False
  | n + 1, ρ => c D.ex ρ fun b => (b = true → body { D with nx := whileL c body D n, ct := whileL c body D n, bk := D.nx } ρ) ∧ (b = false → D.nx ρ)
def rWhile (c : RT) (body : RC) : RC := fun D ρ => ∃ n, whileL c body D n ρ
/-- more is frozen -/
def Zp.at (Z : Zp) (F : Hp) : Zp := { Z with F0 := F }
def ZLe (Z : Zp) (F : Hp) : Prop := Same Z.F0 F ∧ ∀ a o, Z.H0 a = some o → Z.F0 a = none → F a = none
section
variable {K : PySem.W.Frag} {Z : Zp} {F1 F H : Hp} {ρ : Rho} {σ : L2.St}
theorem ZLe.ext (h : ZLe Z F1) (e : Ext F1 Z.H0 F H) : Ext Z.F0 Z.H0 F H := ⟨h.1.trans e.ff, e.hh, e.fh, fun a o x y => e.nw a o x (h.2 a o x y)⟩
theorem ZLe.rs (h : ZLe Z F1) (r : RSz K (Z.at F1) F ρ σ H) : RSz K Z F ρ σ H := ⟨h.ext r.ext, r.len, r.sl⟩
theorem RS.at (r : RSz K Z F ρ σ H) : ZLe Z F ∧ RSz K (Z.at F) F ρ σ H := ⟨⟨r.ext.ff, fun a o x y => r.ext.nw a o x y⟩, ⟨⟨.refl _, r.ext.hh, r.ext.fh, fun _ _ _ h => h⟩, r.len, r.sl⟩⟩
theorem PX.at {X : Cx} {ex : XW} (h : ZLe Z F1) (p : PX X Z ex) : PX X (Z.at F1) ex := ⟨p.tk.imp fun c d σ H ⟨n, F, ρ, h1, h2, h3, h4⟩ => ⟨n, F, ρ, h1, h2, h.rs h3, h4⟩, p.po⟩
end
section
variable {X : Cx} {Z : Zp} {N : List Str} {sc : Scope} {tg it : Expr} {ti : RI} {g : Tgt} {body : List Stmt} {tb : RC} {pos : Pos} {c : Expr} {tc : RT}
def lSx (K : PySem.W.Frag) (Z : Zp) (ex : XW) (t : RC) : TS := fun D σ H => ∃ F1, ZLe Z F1 ∧ lS K (Z.at F1) ex t D σ H
theorem cs_for (hc : X.calm = true) (hi : CI X Z tg it ti) (hg : CG X tg g) (hb : ∀ F1, CSs X (Z.at F1) body tb) (hs : ∀ env x, foldedSetIterable it env x = pure x := by intro _ _; rfl) : CS X Z (.For tg it body [] pos) (rFor ti g tb) := fun ex px => by
  have hb' : PSs X body (lSx X.K Z ex tb) := ⟨fun p s σ H D I ⟨F1, le, h⟩ => (hb F1 ex (px.at le)).run p s σ H D I h⟩
  refine ps_imp (ps_for px.po hc (hi ex px) hg hb' (hs _)) ?_
  rintro D σ H ⟨F, ρ, D', rs, t, hx, n, b, k, r⟩
  subst hx
  refine ⟨F, ρ, _, rs, t, fun ds F1 H1 J q e ok => ?_⟩
  obtain ⟨le, rs1⟩ := (rs.grow e).at
  have q := forL_eq.mp q
  refine ⟨fun i m σ H => m = ds.length - i ∧ i ≤ ds.length ∧ ∃ F ρ, RSz X.K (Z.at F1) F ρ σ H ∧ forR g.go tb D' (ds.drop i) ρ, ⟨_, rfl, Nat.zero_le _, F1, ρ, rs1, q⟩, ?_⟩
  rintro i m σ H ⟨rfl, hi, F2, ρ2, rs2, q2⟩
  obtain ⟨o1, o2, o3⟩ := ok F2 H rs2.ext.ff rs2.ext.fh i
  by_cases hlt : i < ds.length
  · rw [List.drop_eq_getElem_cons hlt] at q2
    refine .inr ⟨o1 hlt, fun σ' H' => ∃ F ρ, RSz X.K (Z.at F1) F ρ σ' H' ∧ forR g.go tb D' (ds.drop (i + 1)) ρ, fun σ' H' z => ⟨ds.length - (i + 1), by omega, rfl, hlt, z⟩, fun x H' hy => ?_⟩
    obtain ⟨F', e', dp⟩ := o2 _ x H' (List.getElem?_eq_getElem hlt) hy
    refine tgt_ok (rs2.grow e') dp q2 fun ρ' σ' rs' q' _ => ?_
    exact ⟨F1, le, F', ρ', _, rs', q', rfl, fun F ρ σ H rs q => ⟨F, ρ, rs, q⟩, fun F ρ σ H rs q => n F ρ σ H (le.rs rs) q, fun F ρ σ H rs q => ⟨F, ρ, rs, q⟩, fun x v F' ρ' σ' H' q rs o => r x v F' ρ' σ' H' q (le.rs rs) o⟩
  · rw [List.drop_eq_nil_of_le (by omega)] at q2
    exact .inl ⟨o3 (by omega), n F2 ρ2 σ H (le.rs rs2) q2⟩
theorem cs_while (hc : CT X Z c tc) (hb : CSs X Z body tb) : CS X Z (.While c body [] pos) (rWhile tc tb) := fun ex px => by
  refine ps_imp (ps_while px.po (hc ex px) (hb ex px)) ?_
  rintro D σ H ⟨F, ρ, D', rs, ⟨n0, t⟩, hx, n, b, k, r⟩
  subst hx
  refine ⟨fun m σ H => ∃ F ρ, RSz X.K Z F ρ σ H ∧ whileL tc tb D' m ρ, ⟨n0, F, ρ, rs, t⟩, ?_⟩
  rintro m σ H ⟨F2, ρ2, rs2, q2⟩
  cases m with
  | zero => exact q2.elim
  | succ m =>
    refine ⟨F2, ρ2, _, rs2, q2, fun z F' H' q e => ?_⟩
    cases z with
    | false => rw [if_neg Bool.false_ne_true]; exact n F' ρ2 σ H' (rs2.grow e) (q.2 rfl)
    | true =>
      rw [if_pos rfl]
      refine ⟨fun σ' H' => ∃ F ρ, RSz X.K Z F ρ σ' H' ∧ whileL tc tb D' m ρ, fun σ' H' z => ⟨m, Nat.lt_succ_self _, z⟩, F', ρ2, _, rs2.grow e, q.1 rfl, rfl, fun F ρ σ H rs q => ⟨F, ρ, rs, q⟩, n, fun F ρ σ H rs q => ⟨F, ρ, rs, q⟩, r⟩
end
end Pz

namespace Pz
open PySem PySem.Spec PyProof.Rows L2

/-! ### stores -/
/-- target(s) = e, e's value frozen -/
def rUnp (te : RE) (tg : Tgt) : RC := fun D ρ => te D.ex ρ fun x => x.frz fun d => tg.go d ρ D.nx
def rPar (i j : Nat) (ta tb : RE) : RC := fun D ρ => ta D.ex ρ fun x => x.sto fun x' => tb D.ex ρ fun y => y.sto fun y' => D.nx ((ρ.set i x').set j y')
def rAugAdd (i : Nat) (te : RE) : RC := fun D ρ => match ρ[i]? with
  | some (.im (.int a)) => te D.ex ρ fun y => match y.data with
    | .int b => D.nx (ρ.set i (.im (.int (a + b))))
    | _ => False
  | _ => False
def rAugSub (i : Nat) (te : RE) : RC := fun D ρ => match ρ[i]? with
  | some (.im (.int a)) => te D.ex ρ fun y => match y.data with
    | .int b => D.nx (ρ.set i (.im (.int (a - b))))
    | _ => False
  | _ => False
def rAugMul (i : Nat) (te : RE) : RC := fun D ρ => match ρ[i]? with
  | some (.im (.int a)) => te D.ex ρ fun y => match y.data with
    | .int b => CMulB a b ∧ D.nx (ρ.set i (.im (.int (a * b))))
    | _ => False
  | _ => False
/-- x op= e, ints -/
def rAug (f : Int → Int → Int) (C : Int → Int → Prop) (i : Nat) (te : RE) : RC := fun D ρ => match ρ[i]? with
  | some (.im (.int a)) => te D.ex ρ fun y => match y.data with
    | .int b => C a b ∧ D.nx (ρ.set i (.im (.int (f a b))))
    | _ => False
  | _ => False
/-- l[k] = e, l the list of slot i -/
def rSetIx (i : Nat) (te ti : RE) : RC := fun D ρ => te D.ex ρ fun x => x.frz fun d => match ρ[i]? with
  | some (.ow (.ls ds)) => ti D.ex ρ fun y => match y.data with
    | .int k => ∃ j, ixN ds.length k = some j ∧ D.nx (ρ.set i (.ow (.ls (ds.set j d))))
    | _ => False
  | _ => False
/-- l[k] += e -/
def rAugIx (i : Nat) (ti te : RE) : RC := fun D ρ => match ρ[i]? with
  | some (.ow (.ls ds)) => ti D.ex ρ fun y => match y.data with
    | .int k => ∃ j a, ixN ds.length k = some j ∧ ds[j]? = some (.int a) ∧ te D.ex ρ fun x => match x.data with
      | .int b => D.nx (ρ.set i (.ow (.ls (ds.set j (.int (a + b))))))
      | _ => False
    | _ => False
  | _ => False
def rApp (i : Nat) (te : RE) : RC := fun D ρ => match ρ[i]? with
  | some (.ow (.ls ds)) => te D.ex ρ fun x => x.frz fun d => ds.length < sizeLine ∧ D.nx (ρ.set i (.ow (.ls (ds ++ [d]))))
  | _ => False
/-- l.pop(), dropped, or into a target -/
def rPop (i : Nat) : RC := fun D ρ => match ρ[i]? with
  | some (.ow (.ls ds)) => ds ≠ [] ∧ D.nx (ρ.set i (.ow (.ls ds.dropLast)))
  | _ => False
def rPopTo (i : Nat) (tg : Tgt) : RC := fun D ρ => match ρ[i]? with
  | some (.ow (.ls ds)) => ∃ d, ds[ds.length - 1]? = some d ∧ tg.go d (ρ.set i (.ow (.ls ds.dropLast))) D.nx
  | _ => False
def rClear (i : Nat) : RC := fun D ρ => match ρ[i]? with
  | some (.ow (.ls _)) => D.nx (ρ.set i (.ow (.ls [])))
  | _ => False
section
variable {X : Cx} {Z : Zp} {N : List Str} {sc : Scope} {a b e k : Expr} {ta tb te ti : RE} {pos p2 apos cpos tpos : Pos} {g : Tgt} {tg : Expr}
theorem cs_unp (he : CE X Z e te) (hg : CG X tg g) (hs : ∀ env, swapsWithSole [tg] e pos.line env = pure false) (hw : ∀ env, swappedStores [tg] e env = pure none) (h1 : ∀ env, (assignEach [tg] env).map (·.2) = [assign tg env] := by intro _; rfl) : CS X Z (.Assign [tg] e pos) (rUnp te g) := fun ex px => by
  refine ps_imp (ps_asg (he ex px) hg (hs _) (hw _) (h1 _)) ?_
  rintro D σ H ⟨F, ρ, D', rs, t, hx, n, b, k, r⟩
  subst hx
  refine ⟨F, ρ, _, rs, t, fun x v F' H' q e o => ?_⟩
  obtain ⟨d, F2, q2, e2, d2⟩ := o.frz e q
  exact tgt_ok (rs.grow e2) d2 q2 fun ρ' σ' rs' q' _ => n F2 ρ' σ' H' rs' q'
theorem cs_par (A : WhD X N sc) (hc : X.calm = true) (i j : Nat) {x y : Str} {px py pt : Pos} {kt k2 pt2} (hi : N[i]? = some x) (hj : N[j]? = some y) (hij : i ≠ j) (hx : sc.names.lookup x = some .local) (hy : sc.names.lookup y = some .local) (ha : CE X Z a ta) (hb : CE X Z b tb)
    (hw : ∀ env : Env, env.scope = sc → swappedStores [.Tuple [.Name x px, .Name y py] kt pt] (.Tuple [a, b] k2 pt2) env = pure (some [x, y]))
    (hs : ∀ env, swapsWithSole [.Tuple [.Name x px, .Name y py] kt pt] (.Tuple [a, b] k2 pt2) pos.line env = pure false := by intro _; rfl)
    (h1 : ∀ env, starEach [a, b] env = (false, eval a env) :: starEach [b] env := by intro _; rfl) (h2 : ∀ env, starEach [b] env = (false, eval b env) :: starEach [] env := by intro _; rfl) :
    CS X Z (.Assign [.Tuple [.Name x px, .Name y py] kt pt] (.Tuple [a, b] k2 pt2) pos) (rPar i j ta tb) := fun ex px => by
  refine ps_imp (ps_par (i := i) (j := j) hc (by rw [A.hN]; exact A.nd) (by rw [A.hN]; exact hi) (by rw [A.hN]; exact hj) hij (by rw [A.hs]; exact hx) (by rw [A.hs]; exact hy) (pa_cons (ha ex px) (pa_cons (hb ex px) pa_nil (h2 _)) (h1 _)) (hw _ A.hs) (hs _)) ?_
  rintro D σ H ⟨F, ρ, D', rs, t, hx, n, b, k, r⟩
  subst hx
  refine ⟨F, ρ, _, rs, t, fun x v F1 H1 q1 e1 o1 => ?_⟩
  obtain ⟨k1, q1⟩ := PV.sto_ok q1
  refine ⟨F1, ρ, _, rs.grow e1, q1, fun y u F2 H2 q2 e2 o2 => ?_⟩
  obtain ⟨k2, q2⟩ := PV.sto_ok q2
  refine ⟨v, u, rfl, n F2 _ _ H2 ?_ q2⟩
  -- the first one stood ahead of the second: store them in turn
  have r1 := rs.store e1 o1 k1 (i := i)
  exact r1.store e2 o2 k2
theorem cs_aug {op : Operator} {f : Int → Int → Int} {C : Int → Int → Prop} (A : WhD X N sc) (i : Nat) {x : Str} (hi : N[i]? = some x) (hx : Loc sc x) (ho : OpR X (inplaceOp op) (rI C fun i j => .int (f i j))) (he : CE X Z e te) : CS X Z (.AugAssign (.Name x p2) op e pos) (rAug f C i te) := fun ex px => by
  have S := A.sto hi hx
  refine ps_imp (ps_aug S.nd S.hi S.hx (he ex px) ho S.hf) ?_
  rintro D σ H ⟨F, ρ, D', rs, t, hx, n, b, k, r⟩
  subst hx
  unfold rAug at t
  obtain ⟨fps, h1, h2, h3⟩ := rs.sl
  split at t
  · rename_i a ea
    have hl : i < σ.length := by rw [← rs.len]; exact (List.getElem?_eq_some_iff.mp ea).1
    obtain ⟨_, v, ev, dv⟩ := h1 i _ _ ea (List.getElem?_eq_getElem hl)
    cases dv
    refine ⟨.int a, by rw [List.getElem?_eq_getElem hl, ev], F, ρ, _, rs, t, fun y u F' H' q e o => ?_⟩
    split at q
    · rename_i b hb
      exact ⟨a, b, rfl, o.int e.fh hb, q.1, n F' _ _ H' ((rs.grow e).setIm (Dp.int _)) q.2⟩
    · exact q.elim
  · exact t.elim
theorem iop_mulB : OpR X (inplaceOp .Mult) (rI CMulB fun i j => .int (i * j)) := opI fun _ _ _ _ _ _ _ hc q => imul_int q hc.ok
theorem iop_addC : OpR X (inplaceOp .Add) (rI (fun _ _ => True) fun i j => .int (i + j)) := opI fun _ _ _ _ _ _ _ _ q => iadd_int q
theorem rAugAdd_eq (i : Nat) (te : RE) : rAugAdd i te = rAug (fun i j => i + j) (fun _ _ => True) i te := by
  funext D ρ
  unfold rAugAdd rAug
  split <;> simp only [true_and]
theorem rAugSub_eq (i : Nat) (te : RE) : rAugSub i te = rAug (fun i j => i - j) (fun _ _ => True) i te := by
  funext D ρ
  unfold rAugSub rAug
  split <;> simp only [true_and]
theorem rAugMul_eq (i : Nat) (te : RE) : rAugMul i te = rAug (fun i j => i * j) CMulB i te := rfl
theorem iop_subC : OpR X (inplaceOp .Sub) (rI (fun _ _ => True) fun i j => .int (i - j)) := opI fun _ _ _ _ _ _ _ _ q => isub_int q
theorem cs_augAdd (A : WhD X N sc) (i : Nat) {x : Str} (hi : N[i]? = some x) (hx : Loc sc x) (he : CE X Z e te) : CS X Z (.AugAssign (.Name x p2) .Add e pos) (rAugAdd i te) := rAugAdd_eq i te ▸ cs_aug A i hi hx iop_addC he
theorem cs_augSub (A : WhD X N sc) (i : Nat) {x : Str} (hi : N[i]? = some x) (hx : Loc sc x) (he : CE X Z e te) : CS X Z (.AugAssign (.Name x p2) .Sub e pos) (rAugSub i te) := rAugSub_eq i te ▸ cs_aug A i hi hx iop_subC he
theorem cs_augMul (A : WhD X N sc) (i : Nat) {x : Str} (hi : N[i]? = some x) (hx : Loc sc x) (he : CE X Z e te) : CS X Z (.AugAssign (.Name x p2) .Mult e pos) (rAugMul i te) := rAugMul_eq i te ▸ cs_aug A i hi hx iop_mulB he
/-- what stands in an owned slot -/
theorem RS.owned {K : PySem.W.Frag} {F0 H0 F H : Hp} {ρ : Rho} {σ : L2.St} {i : Nat} {ds : List PyData} (r : RS K F0 H0 F ρ σ H) (h : ρ[i]? = some (.ow (.ls ds))) : ∃ p vs, σ[i]? = some (some (.ref p)) ∧ H p = some (.lst vs) ∧ DpAll K F vs ds ∧
    ∀ vs' ds', DpAll K F vs' ds' → RS K F0 H0 F (ρ.set i (.ow (.ls ds'))) σ (upd H p (.lst vs')) := by
  obtain ⟨fps, h1, h2, h3⟩ := id r.sl
  have hl : i < σ.length := by rw [← r.len]; exact (List.getElem?_eq_some_iff.mp h).1
  obtain ⟨p, ev, _, vs, e, a⟩ := h1 i _ _ h (List.getElem?_eq_getElem hl)
  have ep : σ[i]? = some (some (.ref p)) := by rw [List.getElem?_eq_getElem hl, ev]
  exact ⟨p, vs, ep, e, a, fun vs' ds' a' => r.write h ep fun fp w => by
    obtain ⟨rfl, _⟩ := w
    exact ⟨by simp, rfl, vs', upd_same, a'⟩⟩
/-- the slot stays owned while expressions are asked -/
theorem cs_setIx (A : Wh X N sc) (i : Nat) {x : Str} (hi : N[i]? = some x) (hv : Vis sc x) (hd : (x == ("__debug__" : Str)) = false) (hcd : (x == ("__classdict__" : Str)) = false) (he : CE X Z e te) (hk : CE X Z k ti)
    (ha : ∀ env v, assign (.Subscript (.Name x p2) k tpos) env v = (do
      let ov ← holding [v] (eval (.Name x p2) env)
      let iv ← holding [v, ov] (eval k env)
      standAt tpos
      holding [v, ov, iv] (setItem ov iv v)
      release [v, ov, iv] []) := by intro _ _; rfl)
    (hs : ∀ env, swapsWithSole [.Subscript (.Name x p2) k tpos] e pos.line env = pure false := by intro _; rfl) (hw : ∀ env, swappedStores [.Subscript (.Name x p2) k tpos] e env = pure none := by intro _; rfl) :
    CS X Z (.Assign [.Subscript (.Name x p2) k tpos] e pos) (rSetIx i te ti) := fun ex px => by
  refine ps_imp (ps_asg (he ex px) (pg_sub (pe_var (i := i) (by rw [A.hN]; exact hi) (by rw [A.hs]; exact hv) hd hcd) (hk ex px) set_list (ha _)) (hs _) (hw _) rfl) ?_
  rintro D σ H ⟨F, ρ, D', rs, t, hx, n, b, k, r⟩
  subst hx
  refine ⟨F, ρ, _, rs, t, fun x v F1 H1 q1 e1 o1 => ?_⟩
  obtain ⟨d, F2, q2, e2, d2⟩ := o1.frz e1 q1
  have rs2 := rs.grow e2
  split at q2
  · rename_i ds hρ
    obtain ⟨p0, vs0, ep0, _, _, _⟩ := rs2.owned hρ
    refine ⟨.ref p0, ep0, F2, ρ, _, rs2, q2, fun y u F3 H3 q3 e3 o3 => ?_⟩
    split at q3
    · rename_i k hk
      obtain ⟨j, hj, q3⟩ := q3
      obtain ⟨p, vs, ep, hp, a3, w⟩ := (rs2.grow e3).owned hρ
      rw [ep0] at ep
      cases ep
      exact ⟨p0, vs, k, j, rfl, o3.int e3.fh hk, hp, by rw [dpa_len a3]; exact hj, n F3 _ σ _ (w _ _ (dpa_set (dp_mono e3.ff d2) j a3)) q3⟩
    · exact q3.elim
  · exact q2.elim
theorem get_list : PGet X (rIxL X.K) := by
  intro pins s σ H x y v u Q I rx ry h
  obtain ⟨p, xs, i, z, rfl, rfl, hq, he, q⟩ := h
  cases rx
  obtain ⟨t, rfl⟩ := ry
  obtain ⟨its, r, pl, hz⟩ := I.list hq
  obtain ⟨j, h1, h2, h3, h4, h5⟩ := atI_get he
  obtain ⟨w, ew, rw'⟩ := r.get h2
  have hl := r.length
  have hn := line63
  have fin : EP X pins σ Q w s := ⟨z, H, I, rw', q⟩
  by_cases h0 : 0 ≤ i
  · have hj : i.toNat = j := by
      rw [seqIndex_of h0 h5] at h1
      exact Option.some.inj h1
    exact wpAny_getItem_list pl.isList h0 (by omega) (by rw [hj]; simpa using ew) fin
  · have hj : (i + (its.toArray.size : Int)).toNat = j := by
      rw [seqIndex_neg (by omega) h4] at h1
      rw [List.size_toArray, ← hl]
      exact Option.some.inj h1
    exact wpAny_getItem_list_neg pl.isList (by omega) (by rw [List.size_toArray] <;> omega) (by omega) (by rw [hj]; simpa using ew) fin
theorem cs_augIx (A : WhD X N sc) (i : Nat) {x : Str} (hi : N[i]? = some x) (hv : Vis sc x) (hd : (x == ("__debug__" : Str)) = false) (hcd : (x == ("__classdict__" : Str)) = false) (he : CE X Z e te) (hk : CE X Z k ti)
    (ha : ∀ ov iv new, augStore k ov iv new = (do holding [new, ov, iv] (setItem ov iv new); release [new, ov, iv] []; pure .next) := by intros; rfl) :
    CS X Z (.AugAssign (.Subscript (.Name x p2) k tpos) .Add e pos) (rAugIx i ti te) := fun ex px => by
  refine ps_imp (ps_augS (pe_var (i := i) (by rw [A.hN]; exact hi) (by rw [A.hs]; exact hv) hd hcd) (hk ex px) get_list (he ex px) (iop_add (X := X)) set_list ha) ?_
  rintro D σ H ⟨F, ρ, D', rs, t, hx, n, b, k, r⟩
  subst hx
  unfold rAugIx at t
  split at t
  · rename_i ds hρ
    obtain ⟨p0, vs0, ep0, _, _, _⟩ := rs.owned hρ
    refine ⟨.ref p0, ep0, F, ρ, _, rs, t, fun y u F1 H1 q1 e1 o1 => ?_⟩
    split at q1
    · rename_i kk hk
      obtain ⟨j, a, hj, ha, q1⟩ := q1
      have rs1 := rs.grow e1
      obtain ⟨p, vs, ep, hp, a1, _⟩ := rs1.owned hρ
      rw [ep0] at ep
      cases ep
      obtain ⟨w, hw, dw⟩ := dpa_get a1 ha
      cases dw
      refine ⟨p0, vs, kk, .int a, rfl, o1.int e1.fh hk, SqL.of hp, by unfold atI; rw [dpa_len a1, hj]; exact hw, F1, ρ, _, rs1, q1, fun z u' F2 H2 q2 e2 o2 => ?_⟩
      split at q2
      · rename_i b hb
        obtain ⟨p, vs, ep, hp, a2, wr⟩ := (rs1.grow e2).owned hρ
        rw [ep0] at ep
        cases ep
        exact ⟨a, b, rfl, o2.int e2.fh hb, p0, vs, kk, j, rfl, o1.int e1.fh hk, hp, by rw [dpa_len a2]; exact hj, n F2 _ σ _ (wr _ _ (dpa_set (Dp.int _) j a2)) q2⟩
      · exact q2.elim
    · exact q1.elim
  · exact t.elim

/-! ### methods of lists that change them -/
theorem cs_append (A : WhD X N sc) (i : Nat) {x : Str} (hi : N[i]? = some x) (hv : Vis sc x) (hd : (x == ("__debug__" : Str)) = false) (hcd : (x == ("__classdict__" : Str)) = false) (he : CE X Z e te)
    (hbase : ∀ env, attributeBase (.Name x p2) "append" env (eval (.Name x p2) env) = eval (.Name x p2) env := by intro _; rfl)
    (hfew : ∀ env, ((backTo cpos (starEach [e] env)).all (fun x => !x.1) && (backToKw cpos (keywordEach [] env)).all (fun x => x.1.isSome)
      && decide ([e].length + ([] : List Keyword).length + (if ([] : List Keyword).isEmpty then 0 else 1) < 30)) = true := by intro _; rfl)
    (hline : (apos.endLine == cpos.line) = true) (hs : ∀ env, starEach [e] env = (false, eval e env) :: starEach [] env := by intro _; rfl) :
    CS X Z (.Expr (.Call (.Attribute (.Name x p2) "append" apos) [e] [] cpos) pos) (rApp i te) := fun ex px => by
  refine ps_imp (ps_expr (pe_bm PySem.F.plainAttrs_list PySem.F.slot_list_append PySem.F.type_list_append mt_append (pe_var (i := i) (by rw [A.hN]; exact hi) (by rw [A.hs]; exact hv) hd hcd) (pa_cons (he ex px) pa_nil (hs _)) (hbase _) (hfew _) hline (hs _) rfl) rfl) ?_
  rintro D σ H ⟨F, ρ, D', rs, t, hx, n, b, k, r⟩
  subst hx
  unfold rApp at t
  split at t
  · rename_i ds hρ
    obtain ⟨p0, vs0, ep0, hp0, _, _⟩ := rs.owned hρ
    refine ⟨.ref p0, ep0, .inl ⟨rfl, _, SqL.of hp0⟩, F, ρ, _, rs, t, fun y u F1 H1 q1 e1 o1 => ?_⟩
    obtain ⟨d, F2, q2, e2, d2⟩ := o1.frz e1 q1
    obtain ⟨p, vs, ep, hp, a2, w⟩ := (rs.grow e2).owned hρ
    rw [ep0] at ep
    cases ep
    exact ⟨p0, vs, u, rfl, rfl, hp, by rw [dpa_len a2]; exact q2.1, n F2 _ σ _ (w _ _ (dpa_app a2 (.cons d2 .nil))) q2.2⟩
  · exact t.elim
theorem dpa_last {K : PySem.W.Frag} {H : Hp} {vs : List V} {ds : List PyData} {d : PyData} (a : DpAll K H vs ds) (h : ds[ds.length - 1]? = some d) : ∃ v, vs[vs.length - 1]? = some v ∧ Dp K H v d := by
  rw [dpa_len a]
  exact dpa_get a h
theorem last_some {α : Type} {ds : List α} (h : ds ≠ []) : ∃ d, ds[ds.length - 1]? = some d := by
  cases ds with
  | nil => exact absurd rfl h
  | cons d r => exact ⟨_, List.getElem?_eq_getElem (by simp)⟩
theorem cs_pop (A : WhD X N sc) (i : Nat) {x : Str} (hi : N[i]? = some x) (hv : Vis sc x) (hd : (x == ("__debug__" : Str)) = false) (hcd : (x == ("__classdict__" : Str)) = false)
    (hbase : ∀ env, attributeBase (.Name x p2) "pop" env (eval (.Name x p2) env) = eval (.Name x p2) env := by intro _; rfl) (hline : (apos.endLine == cpos.line) = true) :
    CS X Z (.Expr (.Call (.Attribute (.Name x p2) "pop" apos) [] [] cpos) pos) (rPop i) := fun ex px => by
  refine ps_imp (ps_expr (pe_bm0 PySem.F.plainAttrs_list PySem.F.slot_list_pop PySem.F.type_list_pop mt_pop (pe_var (i := i) (by rw [A.hN]; exact hi) (by rw [A.hs]; exact hv) hd hcd) (hbase _) hline) rfl) ?_
  rintro D σ H ⟨F, ρ, D', rs, t, hx, n, b, k, r⟩
  subst hx
  unfold rPop at t
  split at t
  · rename_i ds hρ
    obtain ⟨p0, vs0, ep0, hp0, a0, w⟩ := rs.owned hρ
    obtain ⟨d, hd⟩ := last_some t.1
    obtain ⟨v, hv, _⟩ := dpa_last a0 hd
    exact ⟨.ref p0, ep0, .inl ⟨rfl, _, SqL.of hp0⟩, p0, vs0, v, rfl, rfl, hp0, hv, n F _ σ _ (w _ _ (dpa_dropLast a0)) t.2⟩
  · exact t.elim
theorem cs_popTo (A : WhD X N sc) (i : Nat) {x : Str} (hi : N[i]? = some x) (hv : Vis sc x) (hd : (x == ("__debug__" : Str)) = false) (hcd : (x == ("__classdict__" : Str)) = false) (hg : CG X tg g)
    (hbase : ∀ env, attributeBase (.Name x p2) "pop" env (eval (.Name x p2) env) = eval (.Name x p2) env := by intro _; rfl) (hline : (apos.endLine == cpos.line) = true)
    (hs : ∀ env, swapsWithSole [tg] (.Call (.Attribute (.Name x p2) "pop" apos) [] [] cpos) pos.line env = pure false) (hw : ∀ env, swappedStores [tg] (.Call (.Attribute (.Name x p2) "pop" apos) [] [] cpos) env = pure none) (h1 : ∀ env, (assignEach [tg] env).map (·.2) = [assign tg env] := by intro _; rfl) :
    CS X Z (.Assign [tg] (.Call (.Attribute (.Name x p2) "pop" apos) [] [] cpos) pos) (rPopTo i g) := fun ex px => by
  refine ps_imp (ps_asg (pe_bm0 PySem.F.plainAttrs_list PySem.F.slot_list_pop PySem.F.type_list_pop mt_pop (pe_var (i := i) (by rw [A.hN]; exact hi) (by rw [A.hs]; exact hv) hd hcd) (hbase _) hline) hg (hs _) (hw _) (h1 _)) ?_
  rintro D σ H ⟨F, ρ, D', rs, t, hx, n, b, k, r⟩
  subst hx
  unfold rPopTo at t
  split at t
  · rename_i ds hρ
    obtain ⟨d, hd, t⟩ := t
    obtain ⟨p0, vs0, ep0, hp0, a0, w⟩ := rs.owned hρ
    obtain ⟨v, hv, dv⟩ := dpa_last a0 hd
    exact ⟨.ref p0, ep0, .inl ⟨rfl, _, SqL.of hp0⟩, p0, vs0, v, rfl, rfl, hp0, hv, tgt_ok (w _ _ (dpa_dropLast a0)) dv t fun ρ' σ' rs' q' _ => n F ρ' σ' _ rs' q'⟩
  · exact t.elim
theorem cs_clear (A : WhD X N sc) (i : Nat) {x : Str} (hi : N[i]? = some x) (hv : Vis sc x) (hd : (x == ("__debug__" : Str)) = false) (hcd : (x == ("__classdict__" : Str)) = false)
    (hbase : ∀ env, attributeBase (.Name x p2) "clear" env (eval (.Name x p2) env) = eval (.Name x p2) env := by intro _; rfl) (hline : (apos.endLine == cpos.line) = true) :
    CS X Z (.Expr (.Call (.Attribute (.Name x p2) "clear" apos) [] [] cpos) pos) (rClear i) := fun ex px => by
  refine ps_imp (ps_expr (pe_bm0 PySem.F.plainAttrs_list PySem.F.slot_list_clear PySem.F.type_list_clear mt_clear (pe_var (i := i) (by rw [A.hN]; exact hi) (by rw [A.hs]; exact hv) hd hcd) (hbase _) hline) rfl) ?_
  rintro D σ H ⟨F, ρ, D', rs, t, hx, n, b, k, r⟩
  subst hx
  unfold rClear at t
  split at t
  · rename_i ds hρ
    obtain ⟨p0, vs0, ep0, hp0, a0, w⟩ := rs.owned hρ
    exact ⟨.ref p0, ep0, .inl ⟨rfl, _, SqL.of hp0⟩, p0, vs0, rfl, rfl, hp0, n F _ σ _ (w _ _ .nil) t⟩
  · exact t.elim
end

/-! ### comprehensions -/
def wipeP (ρ : Rho) : List Nat → Rho
  | [] => ρ
  | v :: vs => (wipeP ρ vs).set v .un
def lcR (g : PyData → Rho → (Rho → Prop) → Prop) (tt : RT) (te : RE) (ρ : Rho) : List PyData → List PyData → (PV → Prop) → Prop
  | [], acc, Q => Q (.ow (.ls acc))
  | d :: r, acc, Q => g d ρ fun ρ1 => tt (fun _ _ => False) ρ1 fun b => (b = true → te (fun _ _ => False) ρ1 fun x => x.frz fun y => lcR g tt te ρ r (acc ++ [y]) Q) ∧ (b = false → lcR g tt te ρ r acc Q)
@[irreducible] def lcL (g : PyData → Rho → (Rho → Prop) → Prop) (tt : RT) (te : RE) (ρ : Rho) (ds acc : List PyData) (Q : PV → Prop) : Prop := lcR g tt te ρ ds acc Q
theorem lcL_eq {g : PyData → Rho → (Rho → Prop) → Prop} {tt : RT} {te : RE} {ρ : Rho} {ds acc : List PyData} {Q : PV → Prop} : lcL g tt te ρ ds acc Q = lcR g tt te ρ ds acc Q := by unfold lcL; rfl
def rLc (it : RI) (tg : Tgt) (tt : RT) (te : RE) (vs : List Nat) : RE := fun ex ρ Q => it ex ρ fun ds => ds.length ≤ sizeLine ∧ lcL tg.go tt te (wipeP ρ vs) ds [] Q
def rYes : RT := fun _ _ Q => Q true
section
variable {K : PySem.W.Frag} {F0 H0 F H : Hp} {ρ : Rho} {σ : L2.St}
theorem RS.wipe (r : RS K F0 H0 F ρ σ H) : ∀ vs : List Nat, RS K F0 H0 F (wipeP ρ vs) (L2.wipe σ vs) H
  | [] => r
  | v :: vs => (RS.wipe r vs).forget v none
end
theorem px_no {X : Cx} {Z : Zp} (h : X.xe = fun _ _ => False) : PX X Z (fun _ _ => False) :=
  ⟨fun u s' x => by
    obtain ⟨_, _, _, _, _, _, _, _, _, _, _, _, _, _, _, _, z⟩ := x
    obtain ⟨_, _, _, _, _, _, z⟩ := z
    exact z.elim, by rw [h]; exact PassesOwn.never⟩
section
variable {X : Cx} {Z : Zp} {N : List Str} {sc scope : Scope} {tg it elt c : Expr} {ti : RI} {g : Tgt} {te : RE} {tc : RT} {pos spos py : Pos} {own : List (Str × Nat)}
/-- a block's scope as it runs -/
theorem Wh.blk (A : Wh X N sc) (s : Shared) (H : Hp) (C : Addr) (cl : List (Str × Addr)) (fp : List Addr) : Wh (X.blk s H scope (compEnvC scope cl C X.env) fp) N (relS scope sc) :=
  ⟨A.hN, A.nd, by rw [← A.hs]; rfl⟩
/-- the block's tests -/
def CTs (X : Cx) (Z : Zp) (ifs : List Expr) (t : RT) : Prop := ∀ ex, PX X Z ex → PTs X ifs (lT X.K Z (t ex))
theorem cts_nil : CTs X Z [] rYes := fun ex px => by
  refine ⟨fun p s σ H Q I h => pts_nil.run p s σ H Q I ?_⟩
  obtain ⟨F, ρ, Q', rs, t, q⟩ := h
  exact q true F H t (.refl rs.ext.fh)
theorem cts_one (h : CT X Z c tc) : CTs X Z [c] tc := fun ex px => pts_one (h ex px)
theorem lc_ok {ex : XW} {σ : L2.St} {H : Hp} {Q : VK} (hv : ∀ i ∈ g.slots, i ∈ own.map (·.2)) (h : lE X.K Z (rLc ti g tc te (own.map (·.2)) ex) σ H Q) :
    tLc (lI X.K Z (ti ex)) (tgV X.K g) (lT X.K Z (tc fun _ _ => False)) (lE X.K Z (te fun _ _ => False)) (own.map (·.2)) σ H Q := by
  obtain ⟨F, ρ, Q', rs, t, q⟩ := h
  refine ⟨F, ρ, _, rs, t, fun ds F1 H1 J q1 e1 ok D hD => ?_⟩
  have hFD : F1 D = none := e1.fh.free hD
  have e2 : Ext F1 H1 F1 (upd H1 D (.lst [])) := .own e1.fh hD
  refine ⟨fun i m H => m = ds.length - i ∧ i ≤ ds.length ∧ ∃ F acc vs, Ext F1 H1 F H ∧ F D = none ∧ H D = some (.lst vs) ∧ DpAll X.K F vs acc ∧ acc.length ≤ i ∧ lcR g.go tc te (wipeP ρ (own.map (·.2))) (ds.drop i) acc Q',
    ⟨_, rfl, Nat.zero_le _, F1, [], [], e2, hFD, upd_same, .nil, Nat.le_refl _, lcL_eq.mp q1.2⟩, ?_⟩
  rintro i m H2 ⟨rfl, hi, F2, acc, vs, e3, nD, hvs, da, hacc, q2⟩
  obtain ⟨o1, o2, o3⟩ := ok F2 H2 e3.ff e3.fh i
  by_cases hlt : i < ds.length
  · rw [List.drop_eq_getElem_cons hlt] at q2
    refine .inr ⟨o1 hlt, fun H' => ∃ F acc vs, Ext F1 H1 F H' ∧ F D = none ∧ H' D = some (.lst vs) ∧ DpAll X.K F vs acc ∧ acc.length ≤ i + 1 ∧ lcR g.go tc te (wipeP ρ (own.map (·.2))) (ds.drop (i + 1)) acc Q', fun H' z => ⟨ds.length - (i + 1), by omega, rfl, hlt, z⟩, fun x H' hy => ?_⟩
    obtain ⟨F', e', dp⟩ := o2 _ x H' (List.getElem?_eq_getElem hlt) hy
    have e4 := e3.trans e'
    have rw' := (rs.grow (e1.trans e4)).wipe (own.map (·.2))
    refine tgt_ok rw' dp q2 fun ρ' σ' rs' q' hw => ⟨(hw _ hv).trans wipe_wipe, F', ρ', _, rs', q', fun z F3 H3 q3 e5 => ?_⟩
    have hD3 : ∀ {F H : Hp}, Ext F' H' F H → H D = some (.lst vs) ∧ F D = none := fun e => ⟨e.hh _ _ (e'.hh _ _ hvs), e.nw _ _ (e'.hh _ _ hvs) (e'.nw _ _ hvs nD)⟩
    cases z with
    | true =>
      refine iteT ?_
      refine ⟨F3, ρ', _, rs'.grow e5, q3.1 rfl, fun y v F4 H4 q4 e6 o4 => ?_⟩
      obtain ⟨d, F5, q5, e7, d5⟩ := o4.frz e6 q4
      have e8 := e5.trans e7
      obtain ⟨hv4, hn4⟩ := hD3 e8
      have e9 := e4.trans e8
      have s5 : Same F2 F5 := e'.ff.trans e8.ff
      refine ⟨vs, hv4, ?_, F5, acc ++ [d], vs ++ [v], ⟨e9.ff, same_upd2 e9.hh hD, same_upd2 e9.fh hn4, e9.nw⟩, hn4, upd_same, dpa_app (dpAll_mono s5 da) (.cons d5 .nil), by rw [List.length_append, List.length_singleton]; omega, q5⟩
      rw [dpa_len da]
      have := q1.1
      omega
    | false =>
      refine iteF ?_
      obtain ⟨hv4, hn4⟩ := hD3 e5
      exact ⟨F3, acc, vs, e4.trans e5, hn4, hv4, dpAll_mono (e'.ff.trans e5.ff) da, by omega, q3.2 rfl⟩
  · rw [List.drop_eq_nil_of_le (by omega)] at q2
    refine .inl ⟨o3 (by omega), q _ _ F2 H2 q2 (e1.trans e3) ⟨D, [D], rfl, ⟨rfl, vs, hvs, da⟩, fun a ha => ?_⟩⟩
    have e : a = D := by simpa using ha
    subst e
    exact ⟨e1.hh.free hD, nD, _, hvs⟩
theorem ce_lc {ifs : List Expr} (A : Wh X N sc) (hc : X.calm = true) (hi : CI X Z tg it ti) (ok : BlkOk N sc scope own) (hv : ∀ i ∈ g.slots, i ∈ own.map (·.2))
    (hg : ∀ (s : Shared) (H : Hp) (C : Addr) (cl : List (Str × Addr)) (fp : List Addr), CG (X.blk s H scope (compEnvC scope cl C X.env) fp) tg g)
    (ht : ∀ (s : Shared) (H : Hp) (C : Addr) (cl : List (Str × Addr)) (fp : List Addr), CTs (X.blk s H scope (compEnvC scope cl C X.env) fp) Z ifs tc)
    (he : ∀ (s : Shared) (H : Hp) (C : Addr) (cl : List (Str × Addr)) (fp : List Addr), CE (X.blk s H scope (compEnvC scope cl C X.env) fp) Z elt te)
    (hs : ∀ env x, foldedSetIterable it env x = pure x := by intro _ _; rfl) : CE X Z (.ListComp elt [⟨tg, it, ifs, 0⟩] scope pos) (rLc ti g tc te (own.map (·.2))) := fun ex px =>
  pe_imp (pe_lc (g := tgV X.K g) (tt := lT X.K Z (tc fun _ _ => False)) (te := lE X.K Z (te fun _ _ => False)) hc (by rw [A.hN]; exact A.nd) (hi ex px) (by rw [A.hN, A.hs]; exact ok) hg (fun s H C cl fp => ht s H C cl fp _ (px_no rfl)) (fun s H C cl fp => he s H C cl fp _ (px_no rfl)) (hs _)) fun σ H Q h => lc_ok hv h
/-- name = [..], the name a local -/
theorem cs_setLc {ifs : List Expr} (A : WhD X N sc) (hc : X.calm = true) (i : Nat) {y : Str} (hy : N[i]? = some y) (hyl : sc.names.lookup y = some .local) (hl : (py.line == pos.line) = true) (hn : (scope.names.any fun (n, k) => n == y && (k == .local || k == .cell)) = false)
    (hln : (py.line == pos.line) = true) (hi : CI X Z tg it ti) (ok : BlkOk N sc scope own) (hv : ∀ i ∈ g.slots, i ∈ own.map (·.2))
    (hg : ∀ (s : Shared) (H : Hp) (C : Addr) (cl : List (Str × Addr)) (fp : List Addr), CG (X.blk s H scope (compEnvC scope cl C X.env) fp) tg g)
    (ht : ∀ (s : Shared) (H : Hp) (C : Addr) (cl : List (Str × Addr)) (fp : List Addr), CTs (X.blk s H scope (compEnvC scope cl C X.env) fp) Z ifs tc)
    (he : ∀ (s : Shared) (H : Hp) (C : Addr) (cl : List (Str × Addr)) (fp : List Addr), CE (X.blk s H scope (compEnvC scope cl C X.env) fp) Z elt te)
    (hs : ∀ env x, foldedSetIterable it env x = pure x := by intro _ _; rfl) : CS X Z (.Assign [.Name y py] (.ListComp elt [⟨tg, it, ifs, 0⟩] scope pos) spos) (rSet i (rLc ti g tc te (own.map (·.2)))) := fun ex px => by
  refine ps_imp (ps_setLc (i := i) (g := tgV X.K g) (tt := lT X.K Z (tc fun _ _ => False)) (te := lE X.K Z (te fun _ _ => False)) hc (by rw [A.hN]; exact A.nd) (by rw [A.hN]; exact hy) (by rw [A.hs]; exact hyl) (sw_true (by rw [A.hs]; exact A.kind) (by rw [A.hs]; exact hyl) hl hn) (hi ex px) (by rw [A.hN, A.hs]; exact ok) hg (fun s H C cl fp => ht s H C cl fp _ (px_no rfl)) (fun s H C cl fp => he s H C cl fp _ (px_no rfl)) (hs _)) ?_
  rintro D σ H ⟨F, ρ, D', rs, t, hx, n, b, k, r⟩
  subst hx
  refine lc_ok hv ⟨F, ρ, _, rs, t, fun x v F' H' q e o => ?_⟩
  obtain ⟨hk, q⟩ := PV.sto_ok q
  exact n F' _ _ H' (rs.store e o hk) q
/-- name = [..], the name a cell: a plain assignment -/
theorem sw_cell {elt : Expr} {gs : List Comprehension} {scope : Scope} {pos py : Pos} {y : Str} {l : Nat} {env : Env} (hy : env.scope.names.lookup y = some .cell) : swapsWith (.ListComp elt gs scope pos) (some (.Name y py)) l env = pure false := by
  have e : (env.kindOf y == some NameKind.local) = false := by
    show (env.scope.names.lookup y == some NameKind.local) = false
    rw [hy]; rfl
  show (pure (env.blockKind == .function && env.kindOf y == some .local && py.line == pos.line && !(scope.names.any fun (n, k) => n == y && (k == .local || k == .cell))) : Sem Bool) = pure false
  rw [e]
  simp
end
end Pz

namespace Pz
open PySem PySem.Spec PyProof.Rows L2

/-! ### exceptions -/
def subX : Xn → Xn → Bool
  | _, .RestError => true
  | a, b => decide (a = b)
/-- a class that may be raised -/
structure ExcF (K : PySem.W.Frag) (mg : Str → Option Value) (cl : Xn → Addr) (c : Xn) : Prop where
  g : mg c.nm = some (.ref (cl c))
  k : PySem.W.keepIn K (.ref (cl c)) = true
  x : PySem.W.excIn K (cl c) [.type "ValueError", .type "Exception", .type "BaseException", .type "object"] "ValueError.__new__" = true
  b : PySem.W.subIn K (.ref (cl c)) (.type "BaseException") = some true
  t : PySem.W.typeIn K (.ref (cl c)) = some (.type "type")
/-- a class that is named by an except clause or asked for -/
structure ExcT (K : PySem.W.Frag) (mg : Str → Option Value) (cl : Xn → Addr) (c : Xn) : Prop where
  g : mg c.nm = some (.ref (cl c))
  b : PySem.W.subIn K (.ref (cl c)) (.type "BaseException") = some true
  t : PySem.W.typeIn K (.ref (cl c)) = some (.type "type")
  i : PySem.W.isClsIn K (cl c) = true
def rRaise (c : Xn) : RC := fun D ρ => D.ex c ρ
/-- try: body, except h as (slot i): suite; R: what may come -/
def rTryAs (tb : RC) (h : Xn) (R : List Xn) (i : Nat) (ts : Xn → Addr → RC) : RC := fun D ρ => tb { D with ex := fun c ρ' => c ∈ R ∧
  (subX c h = true → ∀ a, ts c a { nx := fun ρ => D.nx (ρ.set i .un), rt := D.rt, ex := fun _ _ => False, bk := fun ρ => D.bk (ρ.set i .un), ct := fun ρ => D.ct (ρ.set i .un) } (ρ'.set i (.xc a))) ∧ (subX c h = false → D.ex c ρ') } ρ
/-- .. without a name -/
def rTry (tb : RC) (h : Xn) (R : List Xn) (ts : RC) : RC := fun D ρ => tb { D with ex := fun c ρ' => c ∈ R ∧
  (subX c h = true → ts { D with ex := fun _ _ => False } ρ') ∧ (subX c h = false → D.ex c ρ') } ρ
section
variable {X : Cx} {Z : Zp} {N : List Str} {sc : Scope} {c h : Xn} {R : List Xn} {p p2 np pos pos' : Pos}
theorem cs_raise {m : Str} {j : Nat} (G : ExcF X.K X.mg Z.cl c) (A : Wh X N sc) (hc : X.calm = true) (hg : GlN sc c.nm) (hdb : (c.nm == ("__debug__" : Str)) = false) : CS X Z (.Raise (some (.Call (.Name c.nm p) [.Constant (.str m) j p2] [] pos)) none pos') (rRaise c) := fun ex px => by
  refine ps_imp (ps_raise hc px.tk (pmk_own PySem.F.excBase_ValueError G.x G.g G.k (raises_own G.b G.t) (show X.env.scope.names.lookup _ = _ by rw [A.hs]; exact hg) hdb)) ?_
  rintro D σ H ⟨F, ρ, D', rs, t, hx, n, b, k, r⟩
  subst hx
  exact ⟨c, F, ρ, rfl, rfl, rs, t⟩
theorem kit_exc {K : PySem.W.Frag} {mg : Str → Option Value} {cl : Xn → Addr} {c h : Xn} (T : ExcT K mg cl h) (hs : PySem.W.subIn K (.ref (cl c)) (.ref (cl h)) = some (subX c h)) : PySem.W.kitCls K (.ref (cl c)) (.ref (cl h)) = some (subX c h) := by
  have i : (PySem.W.clsIn K (cl h)).isSome = true := T.i
  have e2 : ((PySem.W.clsIn K (cl h)).isSome && PySem.W.typeIn K (.ref (cl h)) == some (.type "type")) = true := by rw [i, T.t]; rfl
  show (if _ then _ else _) = _
  rw [if_pos e2]
  exact hs
theorem exm_exc {K : PySem.W.Frag} {mg : Str → Option Value} {cl : Xn → Addr} {c h : Xn} (T : ExcT K mg cl h) (hs : PySem.W.subIn K (.ref (cl c)) (.ref (cl h)) = some (subX c h)) : PySem.W.exmOne K (.ref (cl c)) (.ref (cl h)) = some (subX c h) := by
  have e1 : (PySem.W.subIn K (.ref (cl h)) (.type "BaseException") == some true) = true := by rw [T.b]; rfl
  show (if _ then _ else _) = _
  rw [if_pos e1]
  exact kit_exc T hs
theorem WhD.tr (A : WhD X N sc) (pn : List (Addr × Obj)) (xe : Value → Shared → Prop) : WhD (X.tr pn xe) N sc := ⟨⟨A.hN, A.nd, A.hs⟩, A.fn, A.stk, A.frm, A.kind⟩
theorem WhD.suite (A : WhD X N sc) (a : Addr) (pn : List (Addr × Obj)) : WhD (X.suite a pn) N sc := ⟨⟨A.hN, A.nd, A.hs⟩, A.fn, A.stk, A.frm, A.kind⟩
/-- the body's reading, by the wish -/
def lTb (K : PySem.W.Frag) (Z : Zp) (tb : RC) (W : WX) : TS := fun D σ H => ∃ ex' : XW, (∀ cls d σ H, (∃ c F ρ, cls = .ref (Z.cl c) ∧ d = none ∧ RSz K Z F ρ σ H ∧ ex' c ρ) → W cls d σ H) ∧ lS K Z ex' tb D σ H
theorem tb_ok {body : List Stmt} {tb : RC} (hb : ∀ (pn : List (Addr × Obj)) (xe : Value → Shared → Prop), CSs (X.tr pn xe) Z body tb) (W : WX) (pn : List (Addr × Obj)) (xe : Value → Shared → Prop) (tk : Takes (X.tr pn xe) W) (po : PassesOwn (model X.prog X.w) X.A X.env xe) : PSs (X.tr pn xe) body (lTb X.K Z tb W) :=
  ⟨fun p s σ H D I ⟨ex', hW, q⟩ => (hb pn xe ex' ⟨tk.imp hW, po⟩).run p s σ H D I q⟩
theorem RS.exc {K : PySem.W.Frag} {F0 H0 F H : Hp} {ρ : Rho} {σ : L2.St} (r : RS K F0 H0 F ρ σ H) (i : Nat) (a : Addr) : RS K F0 H0 F (ρ.set i (.xc a)) (σ.set i (some (.ref a))) H := by
  obtain ⟨fps, h1, h2, h3⟩ := r.sl
  refine ⟨r.ext, by simp [r.len], fun j => if j = i then [] else fps j, fun j y o' a b => ?_, fun j a ha => ?_, fun j k a hj hk => ?_⟩
  · by_cases hj : j = i
    · subst hj
      simp only [if_pos]
      by_cases hl : j < ρ.length
      · rw [List.getElem?_set_self hl] at a
        rw [List.getElem?_set_self (by rw [← r.len]; exact hl)] at b
        cases a; cases b
        exact ⟨rfl, rfl⟩
      · rw [List.getElem?_eq_none (by simpa using hl)] at a
        cases a
    · simp only [if_neg hj]
      rw [List.getElem?_set_ne (Ne.symm hj)] at a b
      exact h1 j y o' a b
  · by_cases hj : j = i
    · simp only [if_pos hj] at ha; cases ha
    · simp only [if_neg hj] at ha
      exact h2 j a ha
  · by_cases hj' : j = i
    · simp only [if_pos hj'] at hj; cases hj
    · by_cases hk' : k = i
      · simp only [if_pos hk'] at hk; cases hk
      · simp only [if_neg hj'] at hj
        simp only [if_neg hk'] at hk
        exact h3 j k a hj hk
theorem cs_tryAs {n : Str} {body suite : List Stmt} {b₀ : Stmt} {tb : RC} {ts : Xn → Addr → RC} (A : WhD X N sc) (i : Nat) (hi : N[i]? = some n) (hln : sc.names.lookup n = some .local) (T : ExcT X.K X.mg Z.cl h) (hg : GlN sc h.nm) (hdb : (h.nm == ("__debug__" : Str)) = false)
    (hR : ∀ c ∈ R, PySem.W.subIn X.K (.ref (Z.cl c)) (.ref (Z.cl h)) = some (subX c h))
    (hb : ∀ (pn : List (Addr × Obj)) (xe : Value → Shared → Prop), CSs (X.tr pn xe) Z body tb)
    (hsu : ∀ (a : Addr) (oe : Obj) (c : Xn) (pn : List (Addr × Obj)), c ∈ R → subX c h = true → Zc (.ref (Z.cl c)) none oe → (∃ vs, oe.data = .fields vs) → CSs (X.suite a ((a, oe) :: pn)) Z (b₀ :: suite) (ts c a)) :
    CS X Z (.Try body [.ExceptHandler (some (.Name h.nm np)) (some n) (b₀ :: suite) pos'] [] [] pos) (rTryAs tb h R i ts) := fun ex px => by
  refine ps_imp (ps_try_as (i := i) (tb := lTb X.K Z tb) (ts := fun a cls d D σ H => ∃ c, c ∈ R ∧ subX c h = true ∧ cls = .ref (Z.cl c) ∧ d = none ∧ lS X.K Z (fun _ _ => False) (ts c a) D σ H) A.stk A.frm (by rw [A.hN]; exact A.nd) (by rw [A.hN]; exact hi) (show X.env.scope.names.lookup _ = _ by rw [A.hs]; exact hln) (c := .ref (Z.cl h)) ⟨show X.env.scope.names.lookup _ = _ by rw [A.hs]; exact hg, hdb, .inl T.g⟩ px.tk (tb_ok hb) ?_) ?_
  · intro a oe cls d pn hz hf
    refine ⟨fun p s σ H D I ⟨c, hc, hsx, e1, e2, q⟩ => ?_⟩
    subst e1 e2
    exact (hsu a oe c pn hc hsx hz hf _ (px_no rfl)).run p s σ H D I q
  · rintro D σ H ⟨F, ρ, D', rs, t, hx, n, b, k, r⟩
    subst hx
    refine ⟨_, ?_, F, ρ, _, rs, t, rfl, n, b, k, r⟩
    rintro cls d σ1 H1 ⟨c, F1, ρ1, rfl, rfl, rs1, hc, hc1, hc2⟩
    refine ⟨subX c h, exm_exc T (hR c hc), fun hs a ha => ⟨c, hc, hs, rfl, rfl, F1, _, _, rs1.exc i a, hc1 hs a, rfl, ?_, ?_, ?_, r⟩, fun hs => ⟨c, F1, ρ1, rfl, rfl, rs1, hc2 hs⟩⟩
    · exact fun F ρ σ H rs q => n F _ _ H (rs.forget i none) q
    · exact fun F ρ σ H rs q => b F _ _ H (rs.forget i none) q
    · exact fun F ρ σ H rs q => k F _ _ H (rs.forget i none) q
theorem cs_try {body suite : List Stmt} {b₀ : Stmt} {tb ts : RC} (A : WhD X N sc) (T : ExcT X.K X.mg Z.cl h) (hg : GlN sc h.nm) (hdb : (h.nm == ("__debug__" : Str)) = false)
    (hR : ∀ c ∈ R, PySem.W.subIn X.K (.ref (Z.cl c)) (.ref (Z.cl h)) = some (subX c h))
    (hb : ∀ (pn : List (Addr × Obj)) (xe : Value → Shared → Prop), CSs (X.tr pn xe) Z body tb)
    (hsu : ∀ (a : Addr) (oe : Obj) (pn : List (Addr × Obj)), CSs (X.suite a ((a, oe) :: pn)) Z (b₀ :: suite) ts) :
    CS X Z (.Try body [.ExceptHandler (some (.Name h.nm np)) none (b₀ :: suite) pos'] [] [] pos) (rTry tb h R ts) := fun ex px => by
  refine ps_imp (ps_try_only (tb := lTb X.K Z tb) (ts := fun a cls d => lS X.K Z (fun _ _ => False) ts) A.stk A.frm (c := .ref (Z.cl h)) ⟨show X.env.scope.names.lookup _ = _ by rw [A.hs]; exact hg, hdb, .inl T.g⟩ px.tk (tb_ok hb) (fun a oe cls d pn hz hf => hsu a oe pn _ (px_no rfl))) ?_
  rintro D σ H ⟨F, ρ, D', rs, t, hx, n, b, k, r⟩
  subst hx
  refine ⟨_, ?_, F, ρ, _, rs, t, rfl, n, b, k, r⟩
  rintro cls d σ1 H1 ⟨c, F1, ρ1, rfl, rfl, rs1, hc, hc1, hc2⟩
  exact ⟨subX c h, exm_exc T (hR c hc), fun hs a ha => ⟨F1, _, _, rs1, hc1 hs, rfl, n, b, k, r⟩, fun hs => ⟨c, F1, ρ1, rfl, rfl, rs1, hc2 hs⟩⟩
/-- isinstance(e, C) in a suite, C an own class, or a built-in one -/
def rIsE (i : Nat) (a : Addr) (b : Bool) : RE := fun _ ρ Q => ρ[i]? = some (.xc a) ∧ Q (.im (.bool b))
theorem ce_isE {f n : Str} {a : Addr} {oe : Obj} {pn : List (Addr × Obj)} {e2 : Expr} {tc : V} {cv : Value} {b : Bool} (A : Wh (X.suite a ((a, oe) :: pn)) N sc) (i : Nat) (hi : N[i]? = some n) (hv : Vis sc n) (hd : (n == ("__debug__" : Str)) = false) (hcd : (n == ("__classdict__" : Str)) = false)
    (C : ExcC X.K (Z.cl c)) (hz : Zc (.ref (Z.cl c)) none oe) (hf : ∃ vs, oe.data = .fields vs) (hfn : GlN sc f) (hm : X.mg f = none) (hvf : bootBuiltins f = some (.builtin "isinstance")) (hn : f ≠ "__name__") (hdb : (f == ("__debug__" : Str)) = false)
    (he : PE (X.suite a ((a, oe) :: pn)) e2 (tC tc)) (hcv : ∀ u, RelV tc u → u = cv) (hk : PySem.W.kitOne X.K (.ref (Z.cl c)) cv = some b)
    (hs : ∀ env, starEach [.Name n p2, e2] env = (false, eval (.Name n p2) env) :: starEach [e2] env := by intro _; rfl) (hs2 : ∀ env, starEach [e2] env = (false, eval e2 env) :: starEach [] env := by intro _; rfl) :
    CE (X.suite a ((a, oe) :: pn)) Z (.Call (.Name f p) [.Name n p2, e2] [] pos) (rIsE i a b) := fun ex px => by
  refine pe_imp (pe_callB (call_isE C hz hf) (show X.env.scope.names.lookup f = _ by rw [A.hs]; exact hfn) hm hvf (pa_cons (pe_var (i := i) (by rw [A.hN]; exact hi) (by rw [A.hs]; exact hv) hd hcd) (pa_cons he pa_nil (hs2 _)) (hs _)) hn hdb (hs _) (by rw [hs2]; rfl)) ?_
  rintro σ H Q ⟨F, ρ, Q', rs, ⟨t1, t2⟩, q⟩
  obtain ⟨fps, h1, h2, h3⟩ := rs.sl
  have hl : i < σ.length := by rw [← rs.len]; exact (List.getElem?_eq_some_iff.mp t1).1
  obtain ⟨_, ev⟩ := h1 i _ _ t1 (List.getElem?_eq_getElem hl)
  exact ⟨.ref a, by rw [List.getElem?_eq_getElem hl, ev], tc, cv, b, rfl, hcv, hk, q _ _ F H t2 (.refl rs.ext.fh) (Dp.bl b)⟩
theorem kitOne_exc {K : PySem.W.Frag} {mg : Str → Option Value} {cl : Xn → Addr} {c h : Xn} (T : ExcT K mg cl h) (hs : PySem.W.subIn K (.ref (cl c)) (.ref (cl h)) = some (subX c h)) (hne : c ≠ h → cl c ≠ cl h) : PySem.W.kitOne K (.ref (cl c)) (.ref (cl h)) = some (subX c h) := by
  unfold PySem.W.kitOne
  by_cases e : c = h
  · subst e
    rw [if_pos (by simp)]
    cases c <;> rfl
  · rw [if_neg (by simp; exact hne e)]
    exact kit_exc T hs
theorem all_nil {P : Xn → Prop} : ∀ c ∈ ([] : List Xn), P c := fun _ h => nomatch h
theorem all_cons {P : Xn → Prop} {a : Xn} {l : List Xn} (h : P a) (t : ∀ c ∈ l, P c) : ∀ c ∈ a :: l, P c := fun c hc => by
  rcases List.mem_cons.1 hc with rfl | hc
  · exact h
  · exact t c hc
/-- isinstance(e, D), D an own class -/
theorem ce_isX {f n : Str} {a : Addr} {oe : Obj} {pn : List (Addr × Obj)} {d : Xn} (A : Wh (X.suite a ((a, oe) :: pn)) N sc) (i : Nat) (hi : N[i]? = some n) (hv : Vis sc n) (hd : (n == ("__debug__" : Str)) = false) (hcd : (n == ("__classdict__" : Str)) = false)
    (C : ExcC X.K (Z.cl c)) (hz : Zc (.ref (Z.cl c)) none oe) (hf : ∃ vs, oe.data = .fields vs) (hfn : GlN sc f) (hm : X.mg f = none) (hvf : bootBuiltins f = some (.builtin "isinstance")) (hn : f ≠ "__name__") (hdb : (f == ("__debug__" : Str)) = false)
    (T : ExcT X.K X.mg Z.cl d) (hgd : GlN sc d.nm) (hdd : (d.nm == ("__debug__" : Str)) = false) (hsd : PySem.W.subIn X.K (.ref (Z.cl c)) (.ref (Z.cl d)) = some (subX c d)) (hcc : PySem.W.subIn X.K (.ref (Z.cl c)) (.ref (Z.cl c)) = some true)
    (hs : ∀ env, starEach [.Name n p2, .Name d.nm np] env = (false, eval (.Name n p2) env) :: starEach [.Name d.nm np] env := by intro _; rfl) (hs2 : ∀ env, starEach [.Name d.nm np] env = (false, eval (.Name d.nm np) env) :: starEach [] env := by intro _; rfl) :
    CE (X.suite a ((a, oe) :: pn)) Z (.Call (.Name f p) [.Name n p2, .Name d.nm np] [] pos) (rIsE i a (subX c d)) := by
  refine ce_isE (tc := .ref (Z.cl d)) (cv := .ref (Z.cl d)) A i hi hv hd hcd C hz hf hfn hm hvf hn hdb (pe_glob (v := .ref (Z.cl d)) (show (X.suite a ((a, oe) :: pn)).env.scope.names.lookup d.nm = _ by rw [A.hs]; exact hgd) T.g rfl hdd) (fun u h => h) ?_ hs hs2
  unfold PySem.W.kitOne
  by_cases e : ((Value.ref (Z.cl c)) == (Value.ref (Z.cl d))) = true
  · rw [if_pos e]
    have e' : Z.cl c = Z.cl d := Value.ref.inj (beq_iff_eq.mp e)
    rw [← e', hcc] at hsd
    exact hsd
  · rw [if_neg e]
    exact kit_exc T hsd
/-- isinstance(e, ValueError) -/
theorem ce_isV {f n : Str} {a : Addr} {oe : Obj} {pn : List (Addr × Obj)} (A : Wh (X.suite a ((a, oe) :: pn)) N sc) (i : Nat) (hi : N[i]? = some n) (hv : Vis sc n) (hd : (n == ("__debug__" : Str)) = false) (hcd : (n == ("__classdict__" : Str)) = false)
    (C : ExcC X.K (Z.cl c)) (hz : Zc (.ref (Z.cl c)) none oe) (hf : ∃ vs, oe.data = .fields vs) (hfn : GlN sc f) (hm : X.mg f = none) (hvf : bootBuiltins f = some (.builtin "isinstance")) (hn : f ≠ "__name__") (hdb : (f == ("__debug__" : Str)) = false)
    (hgd : GlN sc "ValueError") (hmd : X.mg "ValueError" = none) (hsd : PySem.W.subIn X.K (.ref (Z.cl c)) (.type "ValueError") = some true)
    (hs : ∀ env, starEach [.Name n p2, .Name "ValueError" np] env = (false, eval (.Name n p2) env) :: starEach [.Name "ValueError" np] env := by intro _; rfl) (hs2 : ∀ env, starEach [.Name "ValueError" np] env = (false, eval (.Name "ValueError" np) env) :: starEach [] env := by intro _; rfl) :
    CE (X.suite a ((a, oe) :: pn)) Z (.Call (.Name f p) [.Name n p2, .Name "ValueError" np] [] pos) (rIsE i a true) := by
  refine ce_isE (tc := .ty "ValueError") (cv := .type "ValueError") A i hi hv hd hcd C hz hf hfn hm hvf hn hdb (pe_bltn (v := .ty "ValueError") (u := .type "ValueError") (show (X.suite a ((a, oe) :: pn)).env.scope.names.lookup _ = _ by rw [A.hs]; exact hgd) hmd (by decide +kernel) rfl (by decide) (by decide +kernel)) (fun u h => h) ?_ hs hs2
  unfold PySem.W.kitOne
  rw [if_neg (fun h => by cases (beq_iff_eq.mp h))]
  show (if PySem.W.kitMeta "ValueError" = true then PySem.W.subIn X.K (.ref (Z.cl c)) (.type "ValueError") else none) = some true
  rw [if_pos (by decide +kernel)]
  exact hsd
end

/-! ### a def keeps its promise -/
section
variable {P : Program} {w : World} {K : PySem.W.Frag} {mg : Str → Option Value} {base : Heap} {cl : Xn → Addr}
/-- what a def's body has around it -/
structure Bd (P : Program) (w : World) (K : PySem.W.Frag) (mg : Str → Option Value) (base : Heap) (k : Nat) (X : Cx) (N : List Str) (sc : Scope) : Prop where
  A : WhD X N sc
  hc : X.calm = true
  hr : Room k X.A
  prog : X.prog = P
  w : X.w = w
  K : X.K = K
  mg : X.mg = mg
  base : X.base = base
def start0 (N : List Str) (ds : List PyData) : Rho := ds.map PV.im ++ List.replicate (N.length - ds.length) PV.un
/-- the ends of a def's body -/
def dEnds (Q : PV → Prop) (E : Xn → Prop) : PEnds := { nx := fun _ => Q (.im .none), rt := fun x _ => Q x, ex := fun c _ => E c }
theorem fn_ok {x qual : Str} {st : Stmt} {f : Addr} {fd : FuncData} {N ps : List Str} {k : Nat} {sp : PSp} {rd : RC} (F : Fun K x qual st f fd) (S : FnScope N ps (defScope st)) (len : ∀ ds Q E, sp ds Q E → ds.length = ps.length)
    (der : ∀ (X : Cx) (Z : Zp), Z.cl = cl → Bd P w K mg base k X N (defScope st) → CSs X Z (defBody st) rd)
    (pure : ∀ ds Q E, sp ds Q E → rd (dEnds Q E) (start0 N ds)) : FnOk P w K mg base (L2.CX P w) (k + 1) f fd ps (lSp K cl sp) := by
  refine F.okX S (fun vs H Q E h => ?_) (fun cdv A outer s H vs Q E hr h => ?_)
  · obtain ⟨F, ds, Q', E', _, a, q, _⟩ := h
    rw [dpa_len a]
    exact len ds Q' E' q
  · obtain ⟨F0, ds, Q', E', sF, a, q, post, epost⟩ := h
    have hp := pure ds Q' E' q
    refine ⟨_, der _ ⟨F0, H, cl⟩ rfl ⟨⟨⟨rfl, S.nd, rfl⟩, fun _ => rfl, rfl, rfl, S.kind⟩, rfl, hr, rfl, rfl, rfl, rfl, rfl⟩ (fun c _ => E' c) ⟨?_, passes_of rfl⟩, F0, _, _, RS.start sF a, hp, rfl, ?_, ?_, ?_, ?_⟩
    · refine (takes_of rfl rfl rfl rfl).imp ?_
      rintro cls d σ H' ⟨c, F', ρ, rfl, rfl, rs, hE⟩
      exact epost c H' hE rs.ext.hh
    · exact fun F' ρ σ H' rs q => post _ _ F' H' q rs.ext (Dp.non)
    · exact fun F' ρ σ H' rs q => q.elim
    · exact fun F' ρ σ H' rs q => q.elim
    · exact fun x v F' ρ σ H' q rs o => post x v F' H' q rs.ext o
end
end Pz

namespace Pz
open PySem PySem.Spec PyProof.Rows L2
def visB (sc : Scope) (x : Str) : Bool := match sc.names.lookup x with
  | some .local => true | some .cell => true | some .free => true | _ => false
theorem vis_of {sc : Scope} {x : Str} (h : visB sc x = true) : Vis sc x := by
  unfold visB at h
  unfold Vis
  split at h
  · exact .inl (by assumption)
  · exact .inr (.inl (by assumption))
  · exact .inr (.inr (by assumption))
  · cases h
theorem gl_of {sc : Scope} {x : Str} (h : sc.names.lookup x = some .globalImplicit) : GlN sc x := h
theorem bo_len : bootBuiltins "len" = some (.builtin "len") := by decide +kernel
theorem bo_isinstance : bootBuiltins "isinstance" = some (.builtin "isinstance") := by decide +kernel
theorem bo_abs : bootBuiltins "abs" = some (.builtin "abs") := by decide +kernel
theorem bo_sum : bootBuiltins "sum" = some (.builtin "sum") := by decide +kernel
theorem bo_min : bootBuiltins "min" = some (.builtin "min") := by decide +kernel
theorem bo_max : bootBuiltins "max" = some (.builtin "max") := by decide +kernel
theorem bo_sorted : bootBuiltins "sorted" = some (.builtin "sorted") := by decide +kernel
theorem bo_int : bootBuiltins "int" = some (.type "int") := by decide +kernel
theorem bo_bool : bootBuiltins "bool" = some (.type "bool") := by decide +kernel
theorem bo_list : bootBuiltins "list" = some (.type "list") := by decide +kernel
theorem bo_tuple : bootBuiltins "tuple" = some (.type "tuple") := by decide +kernel
theorem bo_str : bootBuiltins "str" = some (.type "str") := by decide +kernel
theorem sw_par {sc : Scope} {env : Env} {x y : Str} {px py pt : Pos} {a b : Expr} {kt k2 pt2} (hk : sc.kind = .function) (hx : sc.names.lookup x = some .local) (hy : sc.names.lookup y = some .local) (hne : (x == y) = false) (hl1 : (px.line == px.line) = true) (hl2 : (py.line == px.line) = true)
    (hs : ([a, b].any fun | .Starred .. => true | _ => false) = false) (hf : ([a, b].all (foldedForSure 8)) = false) (hc : ([a, b].all (constantsAlone 8)) = false) (he : env.scope = sc) :
    swappedStores [.Tuple [.Name x px, .Name y py] kt pt] (.Tuple [a, b] k2 pt2) env = pure (some [x, y]) := by
  have h1 : env.kindOf x = some .local := by show env.scope.names.lookup x = _; rw [he]; exact hx
  have h2 : env.kindOf y = some .local := by show env.scope.names.lookup y = _; rw [he]; exact hy
  have h3 : env.blockKind = .function := by
    unfold Env.blockKind
    rw [he, hk]
    rfl
  have hxy : ¬ x = y := by
    intro e
    rw [e] at hne
    simp at hne
  have e0 : (some NameKind.local == some NameKind.local) = true := by decide
  have e1 : ((x :: [y]).eraseDups.length != 1 + 1) = false := by
    have hyx : (y == x) = false := by
      cases z : (y == x) with
      | false => rfl
      | true => exact absurd (by simpa using z : y = x).symm hxy
    simp [List.eraseDups_cons, hyx, hne]
    try (intro z; exact absurd z.symm hxy)
  unfold swappedStores
  simp only [List.length_cons, List.length_nil, h3, List.head?_cons, Option.map_some, Option.getD_some, Expr.pos, List.filterMap_cons, List.filterMap_nil, h1, h2, hl1, hl2, hf, hc, e0, Bool.true_and, if_true]
  rw [if_neg (by decide), if_neg (fun z => by
    have z' : ([a, b].any fun | .Starred .. => true | _ => false) = true := z
    rw [hs] at z'
    cases z')]
  rw [if_neg (by
    rw [Bool.or_eq_true]
    rintro (z | z)
    · simp at z
    · have z' : ((x :: [y]).eraseDups.length != 1 + 1) = true := z
      rw [e1] at z'
      cases z')]
  rfl
theorem Bd.mono {P : Program} {w : World} {K : PySem.W.Frag} {mg : Str → Option Value} {base : Heap} {j k : Nat} {X : Cx} {N : List Str} {sc : Scope} (B : Bd P w K mg base k X N sc) (h : j ≤ k) : Bd P w K mg base j X N sc := ⟨B.A, B.hc, B.hr.mono h, B.prog, B.w, B.K, B.mg, B.base⟩

/-! ### the text's ends -/
def FunK (K : PySem.W.Frag) (x : Str) (st : Stmt) : Prop := ∃ (f : Addr) (oc : Value) (od an : Option Addr) (sl : Array (Option Value)) (kV dc pm cd ct : Value), PySem.W.nsIn K mainGlobals x = some (some (.ref f)) ∧
  K.lookup f = some ⟨oc, od, .func (PySem.W.fnOf x x (defArgs st) (defBody st) (defScope st) .none kV dc pm an cd ct), sl⟩ ∧ PySem.W.codeIn K cd x = true ∧ PySem.W.keepIn K (.ref f) = true
def clOf (mg : Str → Option Value) (c : Xn) : Addr := match mg c.nm with
  | some (.ref a) => a
  | _ => 0
section
variable {P : Program} {w : World} {K : PySem.W.Frag} {mg : Str → Option Value} {base : Heap} {cl : Xn → Addr}
/-- a def that stands in the text keeps its promise -/
theorem fn_at {x : Str} {st : Stmt} {N ps : List Str} {k : Nat} {sp : PSp} {rd : RC} {h : Heap} (X : K.In h) (G : h.Ns mainGlobals mg) (F : FunK K x st) (S : FnScope N ps (defScope st)) (len : ∀ ds Q E, sp ds Q E → ds.length = ps.length)
    (bind : ∀ (kV doc pm : Value) (an : Option Addr) (cdv ct : Value) (us : List Value), us.length = ps.length → bindArgs (PySem.W.fnOf x x (defArgs st) (defBody st) (defScope st) .none kV doc pm an cdv ct) ⟨us, []⟩ = pure (ps.zip us))
    (der : ∀ (X : Cx) (Z : Zp), Z.cl = cl → Bd P w K mg base k X N (defScope st) → CSs X Z (defBody st) rd)
    (pure : ∀ ds Q E, sp ds Q E → rd (dEnds Q E) (start0 N ds)) : FnAt P w K mg base cl (k + 1) x ps sp := by
  obtain ⟨f, oc, od, an, sl, kV, dc, pm, cd, ct, a, l, c, kp⟩ := F
  have F := fun_mk (st := st) l c kp
  exact ⟨f, _, PySem.W.mg_of X G a, kp, F.binds bind, fn_ok F S len der pure⟩
/-- the law's own promise -/
def spL (K : PySem.W.Frag) : Sp := fun vs H Q _ => ∃ (a : Addr) (ns : List Int), vs = [.ref a] ∧ SqL K H a (ns.map V.int) ∧ ns.length ≤ 63 ∧ (∀ z ∈ ns, Builtin.Int.intBits z ≤ 1048576) ∧ ∀ H', Q (.bl true) H'
def sp_law : PSp := fun ds Q _ => ∃ ns : List Int, ds = [.list (ns.map .int)] ∧ ns.length ≤ 63 ∧ (∀ z ∈ ns, Builtin.Int.intBits z ≤ 1048576) ∧ Q (.im (.bool true))
theorem len_law : ∀ ds Q E, sp_law ds Q E → ds.length = (["script"] : List Str).length := by
  rintro ds Q E ⟨ns, rfl, _⟩
  rfl
/-- the law's def, by its body -/
theorem law_ok {st : Stmt} {f : Addr} {fd : FuncData} {N : List Str} {k : Nat} {rd : RC} (F : Fun K "law" "law" st f fd) (S : FnScope N ["script"] (defScope st))
    (der : ∀ (X : Cx) (Z : Zp), Z.cl = cl → Bd P w K mg base k X N (defScope st) → CSs X Z (defBody st) rd)
    (pure : ∀ ds Q E, sp_law ds Q E → rd (dEnds Q E) (start0 N ds)) : FnOk P w K mg base (L2.CX P w) (k + 1) f fd ["script"] (spL K) := by
  refine (fn_ok F S len_law der pure).imp fun vs H Q E h => ?_
  obtain ⟨a, ns, rfl, hS, hl, hb, q⟩ := h
  refine ⟨H, [.list (ns.map .int)], fun x => x = .im (.bool true), fun _ => False, .refl _, .cons (.lst hS (dpa_ints ns)) .nil, ⟨ns, rfl, hl, hb, rfl⟩, ?_, fun _ _ z => z.elim⟩
  rintro x v F' H' rfl e o
  cases (show Dp K F' v (.bool true) from o)
  exact q H'
theorem cx_no {H : Hp} {s : Shared} {e : Value} {s' : Shared} (h : L2.CX P w [] H s (fun _ _ _ => False) e s') : False := by
  obtain ⟨_, _, _, _, _, _, _, _, _, _, _, _, z⟩ := h
  exact z
def ExcFK (K : PySem.W.Frag) (x : Str) : Prop := ∃ a, PySem.W.nsIn K mainGlobals x = some (some (.ref a)) ∧ PySem.W.keepIn K (.ref a) = true ∧
  PySem.W.excIn K a [.type "ValueError", .type "Exception", .type "BaseException", .type "object"] "ValueError.__new__" = true ∧ PySem.W.subIn K (.ref a) (.type "BaseException") = some true ∧ PySem.W.typeIn K (.ref a) = some (.type "type")
def ExcTK (K : PySem.W.Frag) (x : Str) : Prop := ∃ a, PySem.W.nsIn K mainGlobals x = some (some (.ref a)) ∧ PySem.W.subIn K (.ref a) (.type "BaseException") = some true ∧ PySem.W.typeIn K (.ref a) = some (.type "type") ∧ PySem.W.isClsIn K a = true
def SubK (K : PySem.W.Frag) (x y : Str) (b : Bool) : Prop := ∃ a c, PySem.W.nsIn K mainGlobals x = some (some (.ref a)) ∧ PySem.W.nsIn K mainGlobals y = some (some (.ref c)) ∧ PySem.W.subIn K (.ref a) (.ref c) = some b
theorem exctk_mk {K : PySem.W.Frag} {x : Str} {a : Addr} (h1 : PySem.W.nsIn K mainGlobals x = some (some (.ref a))) (h2 : PySem.W.subIn K (.ref a) (.type "BaseException") = some true) (h3 : PySem.W.typeIn K (.ref a) = some (.type "type")) (h4 : PySem.W.isClsIn K a = true) : ExcTK K x := ⟨a, h1, h2, h3, h4⟩
theorem excfk_mk {K : PySem.W.Frag} {x : Str} {a : Addr} (h1 : PySem.W.nsIn K mainGlobals x = some (some (.ref a))) (h2 : PySem.W.keepIn K (.ref a) = true)
  (h3 : PySem.W.excIn K a [.type "ValueError", .type "Exception", .type "BaseException", .type "object"] "ValueError.__new__" = true) (h4 : PySem.W.subIn K (.ref a) (.type "BaseException") = some true) (h5 : PySem.W.typeIn K (.ref a) = some (.type "type")) : ExcFK K x := ⟨a, h1, h2, h3, h4, h5⟩
theorem subk_mk {K : PySem.W.Frag} {x y : Str} {b : Bool} {a c : Addr} (h1 : PySem.W.nsIn K mainGlobals x = some (some (.ref a))) (h2 : PySem.W.nsIn K mainGlobals y = some (some (.ref c))) (h3 : PySem.W.subIn K (.ref a) (.ref c) = some b) : SubK K x y b := ⟨a, c, h1, h2, h3⟩
def ExcCK (K : PySem.W.Frag) (x : Str) : Prop := ∃ a, PySem.W.nsIn K mainGlobals x = some (some (.ref a)) ∧ ExcC K a
theorem excck_mk {K : PySem.W.Frag} {x : Str} {a : Addr} (h0 : PySem.W.nsIn K mainGlobals x = some (some (.ref a))) (h1 : PySem.W.findIn K (.ref a) "__getattribute__" = some (some (.builtin "BaseException.__getattribute__"))) (h2 : PySem.W.findIn K (.ref a) "__getattr__" = some none)
  (h3 : PySem.W.subIn K (.ref a) (.type "BaseException") = some true) (h4 : PySem.W.hasDictIn K a = true) (h5 : PySem.W.findIn K (.ref a) "__class__" = some (some (.builtin "object.__class__"))) (h6 : PySem.W.specialIn K (.builtin "object.__class__") "__get__" = some (some (.builtin "getset_descriptor.__get__")))
  (h7 : PySem.W.takesIn K (.builtin "object.__class__") = some true) (h8 : PySem.W.mroIn K a (.type "object") = some true) : ExcCK K x := ⟨a, h0, h1, h2, h3, h4, h5, h6, h7, h8⟩
def SubVK (K : PySem.W.Frag) (x : Str) : Prop := ∃ a, PySem.W.nsIn K mainGlobals x = some (some (.ref a)) ∧ PySem.W.subIn K (.ref a) (.type "ValueError") = some true
theorem subvk_mk {K : PySem.W.Frag} {x : Str} {a : Addr} (h1 : PySem.W.nsIn K mainGlobals x = some (some (.ref a))) (h2 : PySem.W.subIn K (.ref a) (.type "ValueError") = some true) : SubVK K x := ⟨a, h1, h2⟩
theorem const_mk {K : PySem.W.Frag} {x : Str} {i : Int} {t : Tok} (h1 : PySem.W.nsIn K mainGlobals x = some (some (.int i t))) : ∃ t, PySem.W.nsIn K mainGlobals x = some (some (.int i t)) := ⟨t, h1⟩
theorem funk_mk {K : PySem.W.Frag} {x : Str} {st : Stmt} {f : Addr} {oc : Value} {od an : Option Addr} {sl : Array (Option Value)} {kV dc pm cd ct : Value} (h1 : PySem.W.nsIn K mainGlobals x = some (some (.ref f)))
  (h2 : K.lookup f = some ⟨oc, od, .func (PySem.W.fnOf x x (defArgs st) (defBody st) (defScope st) .none kV dc pm an cd ct), sl⟩) (h3 : PySem.W.codeIn K cd x = true) (h4 : PySem.W.keepIn K (.ref f) = true) : FunK K x st := ⟨f, oc, od, an, sl, kV, dc, pm, cd, ct, h1, h2, h3, h4⟩
theorem cl_of {c : Xn} {a : Addr} (h : mg c.nm = some (.ref a)) : clOf mg c = a := by unfold clOf; rw [h]
theorem excF_mk {h : Heap} (X : K.In h) (G : h.Ns mainGlobals mg) (c : Xn) (e : ExcFK K c.nm) : ExcF K mg (clOf mg) c := by
  obtain ⟨a, h1, h2, h3, h4, h5⟩ := e
  have m := PySem.W.mg_of X G h1
  have q := cl_of m
  exact ⟨by rw [q]; exact m, by rw [q]; exact h2, by rw [q]; exact h3, by rw [q]; exact h4, by rw [q]; exact h5⟩
theorem excT_mk {h : Heap} (X : K.In h) (G : h.Ns mainGlobals mg) (c : Xn) (e : ExcTK K c.nm) : ExcT K mg (clOf mg) c := by
  obtain ⟨a, h1, h2, h3, h4⟩ := e
  have m := PySem.W.mg_of X G h1
  have q := cl_of m
  exact ⟨by rw [q]; exact m, by rw [q]; exact h2, by rw [q]; exact h3, by rw [q]; exact h4⟩
theorem excC_mk {h : Heap} (X : K.In h) (G : h.Ns mainGlobals mg) (c : Xn) (e : ExcCK K c.nm) : ExcC K (clOf mg c) := by
  obtain ⟨a, h1, h2⟩ := e
  rw [cl_of (PySem.W.mg_of X G h1)]
  exact h2
theorem subV_mk {h : Heap} (X : K.In h) (G : h.Ns mainGlobals mg) (c : Xn) (e : SubVK K c.nm) : PySem.W.subIn K (.ref (clOf mg c)) (.type "ValueError") = some true := by
  obtain ⟨a, h1, h2⟩ := e
  rw [cl_of (PySem.W.mg_of X G h1)]
  exact h2
theorem subX_mk {h : Heap} (X : K.In h) (G : h.Ns mainGlobals mg) (c d : Xn) {b : Bool} (e : SubK K c.nm d.nm b) : PySem.W.subIn K (.ref (clOf mg c)) (.ref (clOf mg d)) = some b := by
  obtain ⟨a, a', h1, h2, h3⟩ := e
  rw [cl_of (PySem.W.mg_of X G h1), cl_of (PySem.W.mg_of X G h2)]
  exact h3
end
end Pz


namespace Pz
open PySem PySem.Spec PyProof.Rows L2

/-! ### loops, by what is left -/
theorem forR_ind {g : PyData → Rho → (Rho → Prop) → Prop} {b : RC} {D : PEnds} (P : List PyData → Rho → Prop) (h0 : ∀ ρ, P [] ρ → D.nx ρ)
    (h1 : ∀ d r ρ (K : Rho → Prop), P (d :: r) ρ → (∀ ρ', P r ρ' → K ρ') → g d ρ fun ρ1 => b { D with nx := K, ct := K, bk := D.nx } ρ1) : ∀ ds ρ, P ds ρ → forR g b D ds ρ
  | [], ρ, h => h0 ρ h
  | d :: r, ρ, h => h1 d r ρ (forR g b D r) h (forR_ind P h0 h1 r)
theorem forL_ind {g : PyData → Rho → (Rho → Prop) → Prop} {b : RC} {D : PEnds} (P : List PyData → Rho → Prop) (h0 : ∀ ρ, P [] ρ → D.nx ρ)
    (h1 : ∀ d r ρ (K : Rho → Prop), P (d :: r) ρ → (∀ ρ', P r ρ' → K ρ') → g d ρ fun ρ1 => b { D with nx := K, ct := K, bk := D.nx } ρ1) (ds : List PyData) (ρ : Rho) (h : P ds ρ) : forL g b D ds ρ := forL_eq.mpr (forR_ind P h0 h1 ds ρ h)
/-- its step first, then what follows -/
theorem forL_st {g : PyData → Rho → (Rho → Prop) → Prop} {b : RC} {D : PEnds} {ds : List PyData} {ρ : Rho} (P : List PyData → Rho → Prop) (hP : P ds ρ)
    (h1 : ∀ d r ρ (K : Rho → Prop), P (d :: r) ρ → (∀ ρ', P r ρ' → K ρ') → g d ρ fun ρ1 => b { D with nx := K, ct := K, bk := D.nx } ρ1) (h0 : ∀ ρ, P [] ρ → D.nx ρ) : forL g b D ds ρ := forL_ind P h0 h1 ds ρ hP
theorem whileL_ind {c : RT} {b : RC} {D : PEnds} (P : Nat → Rho → Prop)
    (h : ∀ n ρ (K : Rho → Prop), P n ρ → (∀ m ρ', m < n → P m ρ' → K ρ') → c D.ex ρ fun z => (z = true → b { D with nx := K, ct := K, bk := D.nx } ρ) ∧ (z = false → D.nx ρ)) : ∀ N n ρ, n < N → P n ρ → whileL c b D N ρ
  | 0, _, _, h0, _ => absurd h0 (Nat.not_lt_zero _)
  | N + 1, n, ρ, h0, p => h n ρ (whileL c b D N) p fun m ρ' hm p' => whileL_ind P h N m ρ' (by omega) p'
theorem rWhile_ind {c : RT} {b : RC} {D : PEnds} {ρ : Rho} (P : Nat → Rho → Prop) (n : Nat) (p : P n ρ)
    (h : ∀ n ρ (K : Rho → Prop), P n ρ → (∀ m ρ', m < n → P m ρ' → K ρ') → c D.ex ρ fun z => (z = true → b { D with nx := K, ct := K, bk := D.nx } ρ) ∧ (z = false → D.nx ρ)) : rWhile c b D ρ :=
  ⟨n + 1, whileL_ind P h (n + 1) n ρ (Nat.lt_succ_self _) p⟩
theorem lcR_ind {g : PyData → Rho → (Rho → Prop) → Prop} {tt : RT} {te : RE} {ρ : Rho} {Q : PV → Prop} (P : List PyData → List PyData → Prop) (h0 : ∀ acc, P [] acc → Q (.ow (.ls acc)))
    (h1 : ∀ d r acc (K : List PyData → Prop), P (d :: r) acc → (∀ a, P r a → K a) → g d ρ fun ρ1 => tt (fun _ _ => False) ρ1 fun b => (b = true → te (fun _ _ => False) ρ1 fun x => x.frz fun y => K (acc ++ [y])) ∧ (b = false → K acc)) : ∀ ds acc, P ds acc → lcR g tt te ρ ds acc Q
  | [], acc, h => h0 acc h
  | d :: r, acc, h => h1 d r acc (fun a => lcR g tt te ρ r a Q) h (fun a => lcR_ind P h0 h1 r a)

theorem lcL_ind {g : PyData → Rho → (Rho → Prop) → Prop} {tt : RT} {te : RE} {ρ : Rho} {Q : PV → Prop} (P : List PyData → List PyData → Prop) (h0 : ∀ acc, P [] acc → Q (.ow (.ls acc)))
    (h1 : ∀ d r acc (K : List PyData → Prop), P (d :: r) acc → (∀ a, P r a → K a) → g d ρ fun ρ1 => tt (fun _ _ => False) ρ1 fun b => (b = true → te (fun _ _ => False) ρ1 fun x => x.frz fun y => K (acc ++ [y])) ∧ (b = false → K acc)) (ds acc : List PyData) (h : P ds acc) : lcL g tt te ρ ds acc Q := lcL_eq.mpr (lcR_ind P h0 h1 ds acc h)
theorem lcL_st {g : PyData → Rho → (Rho → Prop) → Prop} {tt : RT} {te : RE} {ρ : Rho} {Q : PV → Prop} {ds acc : List PyData} (P : List PyData → List PyData → Prop) (hP : P ds acc)
    (h1 : ∀ d r acc (K : List PyData → Prop), P (d :: r) acc → (∀ a, P r a → K a) → g d ρ fun ρ1 => tt (fun _ _ => False) ρ1 fun b => (b = true → te (fun _ _ => False) ρ1 fun x => x.frz fun y => K (acc ++ [y])) ∧ (b = false → K acc)) (h0 : ∀ acc, P [] acc → Q (.ow (.ls acc))) : lcL g tt te ρ ds acc Q := lcL_ind P h0 h1 ds acc hP

/-! ### how big -/
structure Bt (n : Nat) (x : Int) : Prop where
  out : x.natAbs < 2 ^ n
theorem Bt.mono {a b : Nat} {x : Int} (h : Bt a x) (k : a ≤ b) : Bt b x := ⟨Nat.lt_of_lt_of_le h.out (Nat.pow_le_pow_right (by decide) k)⟩
theorem Bt.add {a : Nat} {x y : Int} (h : Bt a x) (k : Bt a y) : Bt (a + 1) (x + y) := ⟨by
  have := h.out
  have := k.out
  have : 2 ^ (a + 1) = 2 ^ a + 2 ^ a := by rw [Nat.pow_succ]; omega
  omega⟩
theorem Bt.sub {a : Nat} {x y : Int} (h : Bt a x) (k : Bt a y) : Bt (a + 1) (x - y) := ⟨by
  have := h.out
  have := k.out
  have : 2 ^ (a + 1) = 2 ^ a + 2 ^ a := by rw [Nat.pow_succ]; omega
  omega⟩
theorem Bt.neg {a : Nat} {x : Int} (h : Bt a x) : Bt a (-x) := ⟨by
  have := h.out
  omega⟩
theorem Bt.mul {a b : Nat} {x y : Int} (h : Bt a x) (k : Bt b y) : Bt (a + b) (x * y) := ⟨by
  rw [Int.natAbs_mul, Nat.pow_add]
  exact Nat.mul_lt_mul'' h.out k.out⟩
theorem Bt.of_le {a : Nat} {x y : Int} (h : Bt a y) (k : x.natAbs ≤ y.natAbs) : Bt a x := ⟨Nat.lt_of_le_of_lt k h.out⟩
theorem Bt.div {a : Nat} {x y : Int} (h : Bt a x) (hy : 0 < y) : Bt a (x / y) := by
  refine h.of_le ?_
  rcases Int.le_total 0 x with hx | hx
  · have h1 : 0 ≤ x / y := Int.ediv_nonneg hx (by omega)
    have h2 : x / y ≤ x := Int.ediv_le_self _ hx
    omega
  · have h1 : x / y ≤ 0 := by
      rcases Int.lt_or_eq_of_le hx with h | h
      · exact Int.le_of_lt (Int.ediv_neg_of_neg_of_pos h hy)
      · rw [h]; simp
    have h2 : x ≤ x / y := by
      rw [Int.le_ediv_iff_mul_le hy]
      calc x * y ≤ x * 1 := Int.mul_le_mul_of_nonpos_left hx (by omega)
        _ = x := Int.mul_one x
    omega
theorem Bt.mod {a : Nat} {x y : Int} (h : Bt a y) (hy : 0 < y) : Bt a (x % y) := by
  refine h.of_le ?_
  have h1 := Int.emod_nonneg x (show y ≠ 0 by omega)
  have h2 := Int.emod_lt_of_pos x hy
  omega
theorem Bt.num {n : Nat} {x : Int} (h : x.natAbs < 2 ^ n) : Bt n x := ⟨h⟩
theorem Bt.bits {x : Int} {n : Nat} (h : Builtin.Int.intBits x ≤ n) : Bt n x := ⟨by
  unfold Builtin.Int.intBits at h
  split at h
  · rename_i e
    have e' : x.natAbs = 0 := by simpa using e
    rw [e']
    exact Nat.two_pow_pos n
  · rename_i e
    have e' : x.natAbs ≠ 0 := by simpa using e
    exact (Nat.log2_lt e').mp (by omega)⟩
theorem log2_le_of_lt {m n : Nat} (h : m < 2 ^ n) : m.log2 ≤ n := by
  by_cases e : m = 0
  · subst e; simp
  · have := (Nat.log2_lt e).mpr h
    omega
theorem Bt.ok {a b : Nat} {x y : Int} (h : Bt a x) (k : Bt b y) (l : a + b < 67108864) : CMulB x y := by
  have h1 := log2_le_of_lt h.out
  have h2 := log2_le_of_lt k.out
  unfold CMulB
  omega
theorem Bt.dv {b : Nat} {x y : Int} (k : Bt b y) (h : 0 < y) (l : b < 9000) : CDivW x y := ⟨h, by
  have := log2_le_of_lt k.out
  omega⟩
theorem Bt.pow {p : Int} {a : Nat} (h : Bt a p) (ha : 0 < a) : ∀ e : Nat, Bt (a * e + 1) (p ^ e)
  | 0 => ⟨by simp⟩
  | e + 1 => by
    rw [Int.pow_succ]
    refine ((Bt.pow h ha e).mul h).mono ?_
    rw [Nat.mul_succ]; omega

/-! ### places of written lists -/
theorem at0 {a : PyData} {l : List PyData} {Q : PyData → Prop} : (∃ d, atI (a :: l) 0 = some d ∧ Q d) ↔ Q a := by
  have : atI (a :: l) 0 = some a := by unfold atI ixN; rw [if_pos (by decide), if_pos (by simp only [List.length_cons]; omega)]; rfl
  constructor
  · rintro ⟨d, e, q⟩; rw [this] at e; cases e; exact q
  · exact fun q => ⟨a, this, q⟩
theorem at1 {a b : PyData} {l : List PyData} {Q : PyData → Prop} : (∃ d, atI (a :: b :: l) 1 = some d ∧ Q d) ↔ Q b := by
  have : atI (a :: b :: l) 1 = some b := by unfold atI ixN; rw [if_pos (by decide), if_pos (by simp only [List.length_cons]; omega)]; rfl
  constructor
  · rintro ⟨d, e, q⟩; rw [this] at e; cases e; exact q
  · exact fun q => ⟨b, this, q⟩
theorem nrm_t {d : PyData} : nrm true d = .im d := rfl
theorem nrm_i {z : Bool} {i : Int} : nrm z (.int i) = .im (.int i) := by unfold nrm; simp [scl]
theorem nrm_b {z : Bool} {i : Bool} : nrm z (.bool i) = .im (.bool i) := by unfold nrm; simp [scl]
/-- a place of a list of ints -/
theorem atI_ints {ns : List Int} {k : Int} {v : Int} (h : atI ns k = some v) : atI (ns.map PyData.int) k = some (.int v) := by
  unfold atI at *
  rw [List.length_map]
  cases e : ixN ns.length k with
  | none => rw [e] at h; cases h
  | some j =>
    rw [e] at h
    show (ns.map PyData.int)[j]? = _
    rw [List.getElem?_map, show ns[j]? = some v from h]
    rfl
theorem atI_some {α : Type} {xs : List α} {k : Int} (h0 : 0 ≤ k) (h1 : k < xs.length) : ∃ v, atI xs k = some v ∧ v ∈ xs := by
  unfold atI ixN
  rw [if_pos h0, if_pos h1]
  have h : k.toNat < xs.length := by omega
  exact ⟨xs[k.toNat], by simp [h], List.getElem_mem h⟩
end Pz
namespace Pz
open PySem PySem.Spec PyProof.Rows L2
/-! ### == of what is made of ints -/
theorem eqvAll_ints : ∀ xs ys : List Int, PyData.eqvAll (xs.map .int) (ys.map .int) = decide (xs = ys)
  | [], [] => by simp [PyData.eqvAll]
  | [], _ :: _ => by simp [PyData.eqvAll]
  | _ :: _, [] => by simp [PyData.eqvAll]
  | x :: xs, y :: ys => by
    rw [List.map_cons, List.map_cons]
    unfold PyData.eqvAll
    rw [eqv_int, eqvAll_ints xs ys]
    by_cases h : x = y <;> simp [h]
theorem eqv_lints (xs ys : List Int) : PyData.eqv (.list (xs.map .int)) (.list (ys.map .int)) = decide (xs = ys) := by unfold PyData.eqv; exact eqvAll_ints xs ys
theorem eqv_tints (xs ys : List Int) : PyData.eqv (.tuple (xs.map .int)) (.tuple (ys.map .int)) = decide (xs = ys) := by unfold PyData.eqv; exact eqvAll_ints xs ys
theorem canLayAll_ints : ∀ xs : List Int, PyData.canLayAll0 (xs.map .int) = true
  | [] => by simp [PyData.canLayAll0]
  | x :: xs => by simp [PyData.canLayAll0, PyData.canLay0]; exact canLayAll_ints xs
theorem depthAll_ints : ∀ xs : List Int, PyData.depthAll (xs.map .int) ≤ 1
  | [] => by simp [PyData.depthAll]
  | x :: xs => by
    have := depthAll_ints xs
    simp only [List.map_cons, PyData.depthAll, PyData.depth]
    omega
theorem shaped_lints (xs : List Int) : SeqAt.shaped (.list (xs.map .int)) = true := by
  have := depthAll_ints xs
  have h2 := canLayAll_ints xs
  simp only [SeqAt.shaped, PyData.canLay0, h2, PyData.depth, Bool.true_and]
  exact decide_eq_true (by omega)
theorem shaped_tints (xs : List Int) : SeqAt.shaped (.tuple (xs.map .int)) = true := by
  have := depthAll_ints xs
  have h2 := canLayAll_ints xs
  simp only [SeqAt.shaped, PyData.canLay0, h2, PyData.depth, Bool.true_and]
  exact decide_eq_true (by omega)
theorem eqv_pair (a b c d : Int) : PyData.eqv (.tuple [.int a, .int b]) (.tuple [.int c, .int d]) = decide (a = c ∧ b = d) := by
  have := eqv_tints [a, b] [c, d]
  simpa using this
theorem shaped_pair (a b : Int) : SeqAt.shaped (.tuple [.int a, .int b]) = true := shaped_tints [a, b]
def primes25 : List Int := [2, 3, 5, 7, 11, 13, 17, 19, 23, 29, 31, 37, 41, 43, 47, 53, 59, 61, 67, 71, 73, 79, 83, 89, 97]
theorem primes25_le {p : Int} (h : p ∈ primes25) : 2 ≤ p ∧ p ≤ 97 := by
  revert p
  decide
end Pz
namespace Pz
open PySem PySem.Spec PyProof.Rows L2
theorem data_im {d : PyData} : PV.data (.im d) = d := rfl
theorem data_lv {d : List PyData} : PV.data (.lv d) = .list d := rfl
theorem data_ls {d : List PyData} : PV.data (.ow (.ls d)) = .list d := rfl
theorem data_rd {d : PyData} : PV.data (.rd d) = d := rfl
theorem fz_im {d : PyData} : PV.fz (.im d) = true := rfl
theorem fz_lv {d : List PyData} : PV.fz (.lv d) = true := rfl
theorem fz_ow {c : Oc} : PV.fz (.ow c) = true := rfl
theorem fz_rd {d : PyData} : PV.fz (.rd d) = false := rfl
theorem frz_im {d : PyData} {Q : PyData → Prop} : PV.frz (.im d) Q = Q d := rfl
theorem frz_ls {d : List PyData} {Q : PyData → Prop} : PV.frz (.ow (.ls d)) Q = Q (.list d) := rfl
theorem rdd_im {d : PyData} {Q : PyData → Prop} : PV.rdd (.im d) Q = Q d := rfl
theorem rdd_ls {d : List PyData} {Q : PyData → Prop} : PV.rdd (.ow (.ls d)) Q = Q (.list d) := rfl
theorem rdd_lv {d : List PyData} {Q : PyData → Prop} : PV.rdd (.lv d) Q = Q (.list d) := rfl
theorem rdd_rd {d : PyData} {Q : PyData → Prop} : PV.rdd (.rd d) Q = Q d := rfl
theorem sto_im {d : PyData} {Q : PV → Prop} : PV.sto (.im d) Q = Q (.im d) := rfl
theorem sto_ow {c : Oc} {Q : PV → Prop} : PV.sto (.ow c) Q = Q (.ow c) := rfl
theorem weak_im {d : PyData} {Q : PV → Prop} : PV.weak (.im d) Q = Q (nrm false d) := rfl
theorem weak_ls {d : List PyData} {Q : PV → Prop} : PV.weak (.ow (.ls d)) Q = Q (.rd (.list d)) := rfl
theorem weak_rd {d : PyData} {Q : PV → Prop} : PV.weak (.rd d) Q = Q (.rd d) := rfl
theorem two_cast (n : Nat) : ((n + 1 : Nat) : Int) = (n : Int) + 1 := by omega
end Pz
namespace Pz
open PySem PySem.Spec PyProof.Rows L2
theorem primes25_len : (primes25.length : Int) = 25 := rfl
theorem cdivw {x y : Int} (h : 0 < y) (k : y.natAbs.log2 < 9000) : L2.CDivW x y := ⟨h, k⟩
/-- a place of a written list of ints, by what all its items are -/
theorem at_lits {P : Int → Prop} {ns : List Int} {k : Int} {Q : PyData → Prop} (h0 : 0 ≤ k) (h1 : k < ns.length) (hP : ∀ v ∈ ns, P v) (q : ∀ v, P v → Q (.int v)) : ∃ d, L2.atI (ns.map PySem.PyData.int) k = some d ∧ Q d := by
  obtain ⟨v, hv, hm⟩ := atI_some h0 h1
  exact ⟨_, atI_ints hv, q v (hP v hm)⟩
/-- .. within bounds -/
theorem at_litB {lo hi : Int} (ns : List Int) {k : Int} {Q : PyData → Prop} (h0 : 0 ≤ k) (h1 : k < ns.length) (hP : ∀ v ∈ ns, lo ≤ v ∧ v ≤ hi) (q : ∀ v, lo ≤ v → v ≤ hi → Q (.int v)) : ∃ d, L2.atI (ns.map PySem.PyData.int) k = some d ∧ Q d :=
  at_lits (P := fun v => lo ≤ v ∧ v ≤ hi) h0 h1 hP fun v h => q v h.1 h.2
theorem upto_mem {n : Nat} {f : Nat → PySem.PyData} {d : PySem.PyData} (h : d ∈ upto n f) : ∃ i, i < n ∧ d = f i := by
  unfold upto at h
  rw [List.mem_map] at h
  obtain ⟨i, hi, rfl⟩ := h
  exact ⟨i, List.mem_range.mp hi, rfl⟩
theorem primes4 : ∀ v ∈ ([2, 3, 5, 7] : List Int), v ∈ primes25 := by
  intro v hv
  simp only [List.mem_cons, List.not_mem_nil, or_false] at hv
  rcases hv with rfl | rfl | rfl | rfl <;> simp [primes25]
end Pz

namespace Pz
open PySem PySem.Spec PyProof.Rows L2
/-! ### more constructs -/
/-- min(a, b, c) -/
def mi2 (i j : Int) : Int := if j < i then j else i
def ma2 (i j : Int) : Int := if j > i then j else i
theorem nuMin2_int (i j : Int) : nuMin2 (.int i) (.int j) = some (.int (mi2 i j)) := by
  unfold nuMin2 mi2
  show Option.map _ (some (decide (j < i))) = _
  by_cases h : j < i
  · rw [decide_eq_true h, if_pos h]; rfl
  · rw [decide_eq_false h, if_neg h]; rfl
theorem call_min3i {X : Cx} (hc : X.calm = true) : CallR X (.builtin "min") (fun xs H Q => ∃ i j k, xs = [.int i, .int j, .int k] ∧ Q (.int (mi2 (mi2 i j) k)) H) := by
  intro pins s σ H xs us Q I r h
  obtain ⟨i, j, k, rfl, q⟩ := h
  refine call_min3Nu hc pins s σ H _ us Q I r ⟨_, _, _, _, rfl, ?_, q⟩
  unfold nuMin3
  rw [nuMin2_int]
  exact nuMin2_int _ _
def gMin3 : PV → PV → PV → (PV → Prop) → Prop := fun x y z Q => match x.data, y.data, z.data with
  | .int i, .int j, .int k => Q (.im (.int (mi2 (mi2 i j) k)))
  | _, _, _ => False
def rOp3 (g : PV → PV → PV → (PV → Prop) → Prop) (ta tb tc : RE) : RE := fun ex ρ Q => ta ex ρ fun x => tb ex ρ fun y => tc ex ρ fun z => g x y z Q
section
variable {X : Cx} {Z : Zp} {N : List Str} {sc : Scope} {a b c : Expr} {ta tb tc : RE} {f : Str} {p pos : Pos}
theorem ce_min3 (A : Wh X N sc) (hc : X.calm = true) (hf : GlN sc f) (hm : X.mg f = none) (hv : bootBuiltins f = some (.builtin "min")) (ha : CE X Z a ta) (hb : CE X Z b tb) (hcc : CE X Z c tc)
    (hn : f ≠ "__name__") (hdb : (f == ("__debug__" : Str)) = false) (hs : ∀ env, starEach [a, b, c] env = (false, eval a env) :: starEach [b, c] env := by intro _; rfl) (hs2 : ∀ env, starEach [b, c] env = (false, eval b env) :: starEach [c] env := by intro _; rfl) (hs3 : ∀ env, starEach [c] env = (false, eval c env) :: starEach [] env := by intro _; rfl) :
    CE X Z (.Call (.Name f p) [a, b, c] [] pos) (rOp3 gMin3 ta tb tc) := fun ex px => by
  refine pe_imp (pe_callB (call_min3i hc) (show X.env.scope.names.lookup f = _ by rw [A.hs]; exact hf) hm hv (pa_cons (ha ex px) (pa_cons (hb ex px) (pa_cons (hcc ex px) pa_nil (hs3 _)) (hs2 _)) (hs _)) hn hdb (hs _) (by rw [hs2, hs3]; rfl)) ?_
  rintro σ H Q ⟨F, ρ, Q', rs, t, q⟩
  refine ⟨F, ρ, _, rs, t, fun x v F1 H1 q1 e1 o1 => ?_⟩
  refine ⟨F1, ρ, _, rs.grow e1, q1, fun y u F2 H2 q2 e2 o2 => ?_⟩
  refine ⟨F2, ρ, _, rs.grow (e1.trans e2), q2, fun z w F3 H3 q3 e3 o3 => ?_⟩
  unfold gMin3 at q3
  split at q3
  · rename_i i j k hx hy hz
    exact ⟨i, j, k, by rw [o1.int e1.fh hx, o2.int e2.fh hy, o3.int e3.fh hz], q _ _ F3 H3 q3 ((e1.trans e2).trans e3) (Dp.int _)⟩
  · exact q3.elim
/-- list(range(..)) -/
def rLrg2 (ta tb : RE) : RE := fun ex ρ Q => ta ex ρ fun x => tb ex ρ fun y => match x.data, y.data with
  | .int i, .int j => RgOk i j ∧ Q (.ow (.ls (upto (j - i).toNat fun k => .int (i + (k : Nat)))))
  | _, _ => False
def rLrg1 (ta : RE) : RE := fun ex ρ Q => ta ex ρ fun x => match x.data with
  | .int j => RgOk 0 j ∧ Q (.ow (.ls (upto j.toNat fun k => .int (k : Nat))))
  | _ => False
theorem dpa_upto {K : PySem.W.Frag} {H : Hp} (f : Nat → Int) : ∀ xs : List Nat, DpAll K H (xs.map fun k => V.int (f k)) (xs.map fun k => PyData.int (f k))
  | [] => .nil
  | x :: r => .cons (.int _) (dpa_upto f r)
theorem ce_lrg2 {p2 p3 : Pos} (A : Wh X N sc) (hc : X.calm = true) (hg : GlN sc "list") (hm : X.mg "list" = none) (hg2 : GlN sc "range") (hm2 : X.mg "range" = none) (ha : CE X Z a ta) (hb : CE X Z b tb)
    (hs : ∀ env, starEach [a, b] env = (false, eval a env) :: starEach [b] env := by intro _; rfl) (hs2 : ∀ env, starEach [b] env = (false, eval b env) :: starEach [] env := by intro _; rfl)
    (hs3 : ∀ env, starEach [.Call (.Name "range" p2) [a, b] [] p3] env = (false, eval (.Call (.Name "range" p2) [a, b] [] p3) env) :: starEach [] env := by intro _; rfl) :
    CE X Z (.Call (.Name "list" p) [.Call (.Name "range" p2) [a, b] [] p3] [] pos) (rLrg2 ta tb) := fun ex px => by
  refine pe_imp (pe_listRg hc (show X.env.scope.names.lookup _ = _ by rw [A.hs]; exact hg) hm (prg_2 (show X.env.scope.names.lookup _ = _ by rw [A.hs]; exact hg2) hm2 (ha ex px) (hb ex px) (hs _) (hs2 _) (by rw [hs2]; rfl)) (hs3 _)) ?_
  rintro σ H Q ⟨F, ρ, Q', rs, t, q⟩
  refine ⟨F, ρ, _, rs, t, fun x v F1 H1 q1 e1 o1 => ?_⟩
  refine ⟨F1, ρ, _, rs.grow e1, q1, fun y u F2 H2 q2 e2 o2 => ?_⟩
  split at q2
  · rename_i i j hx hy
    exact ⟨i, j, o1.int e1.fh hx, o2.int e2.fh hy, q2.1, fun l hl => q _ _ F2 _ q2.2 ((e1.trans e2).trans (.own e2.fh hl)) ((out_new hl e2.fh (dpa_upto (fun k => i + (k : Nat)) _)).earlier (e1.hh.trans e2.hh))⟩
  · exact q2.elim
theorem ce_lrg1 {p2 p3 : Pos} (A : Wh X N sc) (hc : X.calm = true) (hg : GlN sc "list") (hm : X.mg "list" = none) (hg2 : GlN sc "range") (hm2 : X.mg "range" = none) (ha : CE X Z a ta)
    (hs : ∀ env, starEach [a] env = (false, eval a env) :: starEach [] env := by intro _; rfl)
    (hs3 : ∀ env, starEach [.Call (.Name "range" p2) [a] [] p3] env = (false, eval (.Call (.Name "range" p2) [a] [] p3) env) :: starEach [] env := by intro _; rfl) :
    CE X Z (.Call (.Name "list" p) [.Call (.Name "range" p2) [a] [] p3] [] pos) (rLrg1 ta) := fun ex px => by
  refine pe_imp (pe_listRg hc (show X.env.scope.names.lookup _ = _ by rw [A.hs]; exact hg) hm (prg_1 (show X.env.scope.names.lookup _ = _ by rw [A.hs]; exact hg2) hm2 (ha ex px) (hs _)) (hs3 _)) ?_
  rintro σ H Q ⟨F, ρ, Q', rs, t, q⟩
  refine ⟨F, ρ, _, rs, t, fun x v F1 H1 q1 e1 o1 => ?_⟩
  split at q1
  · rename_i j hx
    refine ⟨j, o1.int e1.fh hx, q1.1, fun l hl => q _ _ F1 _ q1.2 (e1.trans (.own e1.fh hl)) ((out_new hl e1.fh ?_).earlier e1.hh)⟩
    have := dpa_upto (K := X.K) (H := F1) (fun k => (k : Int)) (List.range j.toNat)
    unfold rgV upto
    simpa using this
  · exact q1.elim
/-- x in a list -/
def inP : CmpP := fun x y Q => match y with
  | .list ds => SeqAt.shaped x = true ∧ SeqAt.shaped (.list ds) = true ∧ Q (ds.any fun z => PyData.eqv z x)
  | _ => False
def ninP : CmpP := fun x y Q => inP x y fun k => Q (!k)
theorem cmpg_in : CmpG X (rInD X.K) inP := by
  intro F H0 H x y v u Q' Q s ox oy h q
  unfold inP at h
  split at h
  · rename_i ds hy
    obtain ⟨h1, h2, h3⟩ := h
    exact ⟨x.data, ds, shaped_dp ox s h1, by rw [← hy] at h2 ⊢; exact shaped_dp oy s h2, h1, h2, q _ h3⟩
  · exact h.elim
theorem cmpg_nin : CmpG X (rNotInD X.K) ninP := by
  intro F H0 H x y v u Q' Q s ox oy h q
  unfold ninP inP at h
  split at h
  · rename_i ds hy
    obtain ⟨h1, h2, h3⟩ := h
    exact ⟨x.data, ds, shaped_dp ox s h1, by rw [← hy] at h2 ⊢; exact shaped_dp oy s h2, h1, h2, q _ h3⟩
  · exact h.elim
theorem ce_in (hu : X.A.units + 65 < cLine) (ha : CE X Z a ta) (hb : CE X Z b tb) (hm : behindInMarks .In b = false := by rfl) : CE X Z (.Compare a [.In] [b] pos) (rCmp inP ta tb) := ce_cmp (op_inD hu) cmpg_in hm ha hb
theorem ct_in (hu : X.A.units + 65 < cLine) (ha : CE X Z a ta) (hb : CE X Z b tb) (hm : behindInMarks .In b = false := by rfl) : CT X Z (.Compare a [.In] [b] pos) (rCmpT inP ta tb) := ct_cmp (op_inD hu) cmpg_in hm ha hb
theorem ce_nin (hu : X.A.units + 65 < cLine) (ha : CE X Z a ta) (hb : CE X Z b tb) (hm : behindInMarks .NotIn b = false := by rfl) : CE X Z (.Compare a [.NotIn] [b] pos) (rCmp ninP ta tb) := ce_cmp (op_notInD hu) cmpg_nin hm ha hb
theorem ct_nin (hu : X.A.units + 65 < cLine) (ha : CE X Z a ta) (hb : CE X Z b tb) (hm : behindInMarks .NotIn b = false := by rfl) : CT X Z (.Compare a [.NotIn] [b] pos) (rCmpT ninP ta tb) := ct_cmp (op_notInD hu) cmpg_nin hm ha hb
/-- name = e, the name a cell -/
theorem cs_setC {te : RE} {e : Expr} (A : WhD X N sc) (i : Nat) {x : Str} {p2 : Pos} (hi : N[i]? = some x) (hx : sc.names.lookup x = some .cell) (he : CE X Z e te) (hs : ∀ env : Env, env.scope.names.lookup x = some .cell → swapsWith e (some (.Name x p2)) pos.line env = pure false) : CS X Z (.Assign [.Name x p2] e pos) (rSet i te) := fun ex px => by
  have S := A.sto hi (.inr hx)
  refine ps_imp (ps_set S.nd S.hi S.hx (he ex px) (hs _ (by rw [A.hs]; exact hx)) S.hf) ?_
  rintro D σ H ⟨F, ρ, D', rs, t, hx, n, b, k, r⟩
  subst hx
  refine ⟨F, ρ, _, rs, t, fun x v F' H' q e o => ?_⟩
  obtain ⟨hk, q⟩ := PV.sto_ok q
  exact n F' _ _ H' (rs.store e o hk) q
end
end Pz

namespace Pz
open PySem PySem.Spec PyProof.Rows RT
section
variable {prog : Program} {w : World} {A : Around} {E : Value → Shared → Prop} {s : Shared}
/-- list(reversed(list)) -/
theorem list_init_rev {R : Result → Shared → Prop} {it l : Addr} {items : Array Value} (hh : A.handled = none) (hit : s.heap.IsRevIter it l ((items.size : Int) - 1)) (hl : s.heap.IsList l items) (hne : l ≠ it) (hn : items.size ≤ sizeLine)
    (S : Addr) (hS : s.heap.get? S = some { cls := .type "list", data := .seq #[] }) (hSi : S ≠ it) (hSl : S ≠ l)
    (hR : ∀ h' tk acc' c', (∀ b o, b ≠ S → b ≠ it → s.heap.get? b = some o → h'.get? b = some o) → h'.get? S = some { cls := .type "list", dict := none, data := .seq acc' c', slots := #[] } →
      ItemsOf (fun i v => items[items.size - 1 - i]? = some v) acc' items.size → R (.ok (.ret .none)) { s with heap := h', toks := tk }) :
    wpAny (model prog w) A.in1 (Builtin.«list.__init__» ⟨[.ref S, .ref it], []⟩)
      (fun fin s' => match fin with | .done f => R (.ok f) s' | .again c' => c'.quiet = true ∧ codeAny (model prog w) A c' R s') (fun e s' => R (.error e) s') s := by
  show wpAny _ _ (do let old ← Builtin.List.listItems (.ref S); Builtin.List.listUpdate (.ref S) (fun _ => #[]); letGo old.toList.reverse; Builtin.List.listExtendWith (.ref S) (.ref it) .none) _ _ s
  refine wpAny_bind ?_
  unfold Builtin.List.listItems
  refine wpAny_bind (wpAny_seqItems hS rfl (wpAny_pure ?_))
  show wpAny _ _ (updateSeq S (fun _ => #[]) >>= fun _ => letGo (#[] : Array Value).toList.reverse >>= fun _ => Builtin.List.listExtendWith (.ref S) (.ref it) .none) _ _ s
  refine wpAny_bind (wpAny_updateSeq hS rfl ?_)
  have hS₂ := Heap.get?_update_self (Obj.mapSeq (fun _ => (#[] : Array Value))) hS rfl
  have oth : ∀ b o, b ≠ S → s.heap.get? b = some o → (s.heap.update S (Obj.mapSeq (fun _ => (#[] : Array Value)))).get? b = some o :=
    fun b o hb e => (Heap.get?_update_other _ _ (Ne.symm hb)).trans e
  refine wpAny_bind (wpAny_letGo ?_)
  generalize hHH : s.heap.update S (Obj.mapSeq (fun _ => (#[] : Array Value))) = HH at *
  have hit1 : HH.IsRevIter it l ((items.size : Int) - 1) := hit.at fun o e => oth it o (Ne.symm hSi) e
  have hl1 : HH.IsList l items := by
    obtain ⟨o, ho, hc, n, hd⟩ := hl
    exact ⟨o, oth l o (Ne.symm hSl) ho, hc, n, hd⟩
  have W := (Walks.listRev (prog := prog) (w := w) (A := A.in1) hh it l hne items).toS
  have hSf : S ∉ [it, l] := by simp only [List.mem_cons, List.not_mem_nil, or_false, not_or]; exact ⟨hSi, hSl⟩
  have hT : ({ s with heap := HH } : Shared).TypeIs (.ref it) "list_reverseiterator" := Heap.IsRevIter.typeIs (s := { s with heap := HH }) hit1
  have h1 : Builtin.List.listSameRef (.ref S) (.ref it) = false := by simp [Builtin.List.listSameRef, hSi]
  unfold Builtin.List.listExtendWith
  refine wpAny_bind (wpAny_typeOf hT ?_)
  rw [if_neg (by rw [h1]; decide)]
  refine wpAny_bind (wpAny_pyIter_revIter (s := { s with heap := HH }) hit1 ?_)
  refine wpAny_bind (wpAny_holding ?_)
  unfold Builtin.List.listLengthHint
  refine wpAny_bind (wpAny_specialOf hT nolen_lri ?_)
  show wpAny _ A.in1 (specialOf (Value.ref it) (Str.ofString "__length_hint__") >>= _) _ _ _
  refine wpAny_bind (wpAny_specialOf hT hint_lri ?_)
  generalize hid : ("list_reverseiterator.__length_hint__" : String) = id0
  wp_delta
  rw [show splitId id0 = some ("list_reverseiterator", "__length_hint__") from by subst hid; decide +kernel]
  subst hid
  refine wpAny_bind (wpAny_isInstance (b := true) hT (by rw [isSubtype_type]; kernel_rfl) ?_)
  refine wpAny_pure ?_
  rw [if_neg (by decide)]
  have e0 : ((items.size : Nat) : Int) - 1 - ((0 : Nat) : Int) = (items.size : Int) - 1 := by omega
  refine wpAny_pure ⟨plainId_quiet F.plain_extend_loop _, codeAny_extend_loopS W hn _ hSf _ items.size 0 _ _ _ rfl (Nat.zero_le _) ⟨Nat.zero_le _, by rw [e0]; exact hit1, hl1⟩ hS₂ (ItemsOf.nil _) fun s' acc' c' hm hS' hacc => ?_⟩
  rw [Moved.eq_with hm]
  refine hR s'.heap s'.toks acc' c' (fun b o hb hb2 e => hm.heap b o (fun hmem => ?_) (oth b o hb e)) hS' hacc
  rcases List.mem_cons.mp hmem with e' | hmem
  · exact hb e'
  · exact hb2 (List.mem_singleton.mp hmem)
theorem call_list_rev {it l : Addr} {items : Array Value} {Q : Value → Shared → Prop} (hh : A.handled = none) (hit : s.heap.IsRevIter it l ((items.size : Int) - 1)) (hl : s.heap.IsList l items) (hne : l ≠ it) (hn : items.size ≤ sizeLine)
    (hQ : ∀ h' tk acc' c', (∀ b o, b ≠ it → s.heap.get? b = some o → h'.get? b = some o) →
      h'.get? s.heap.objs.size = some { cls := .type "list", dict := none, data := .seq acc' c', slots := #[] } → ItemsOf (fun i v => items[items.size - 1 - i]? = some v) acc' items.size → Q (.ref s.heap.objs.size) { s with heap := h', toks := tk }) :
    wpAny (model prog w) A (call (.type "list") [.ref it]) Q E s := by
  obtain ⟨oi, hoi, _⟩ := id hit
  obtain ⟨ol, hol, _⟩ := id hl
  refine callType_codes (Q₁ := fun obj s₁ => obj = .ref s.heap.objs.size ∧ s₁ = { s with heap := s.heap.push { cls := .type "list", data := .seq #[] } }) F.called_list (F.typeCall_list_1 _) F.entry_list_init
    (code_list_new _ ⟨rfl, rfl⟩) fun obj s₁ h₁ => ?_
  obtain ⟨rfl, rfl⟩ := h₁
  have hS : (s.heap.push { cls := .type "list", data := .seq #[] }).get? s.heap.objs.size = some { cls := .type "list", data := .seq #[] } := Heap.get?_push_size _ rfl
  refine ⟨⟨_, hS, rfl⟩, F.args_list_init_2 _ _, list_init_rev (A := A.in1) (s := { s with heap := s.heap.push { cls := .type "list", data := .seq #[] } }) hh (hit.at fun o e => Heap.get?_push_of_some _ e) (hl.push _) hne hn _ hS (Nat.ne_of_gt (Heap.lt_size hoi)) (Nat.ne_of_gt (Heap.lt_size hol)) fun h' tk acc' c' hk hS' hacc => ?_⟩
  exact ⟨rfl, hQ h' tk acc' c' (fun b o hb e => hk b o (Nat.ne_of_lt (Heap.lt_size e)) hb (Heap.get?_push_of_some _ e)) hS' hacc⟩
end
end Pz
namespace Pz
open PySem PySem.Spec PyProof.Rows L2 RT
/-- list(reversed(x)), x a list: a new list -/
def tLstRev (K : PySem.W.Frag) (te : TE) : TE := fun σ H Q => te σ H fun v H1 => ∃ (a : Addr) (xs : List V), v = .ref a ∧ SqL K H1 a xs ∧ ∀ q, H1 q = none → Q (.ref q) (upd H1 q (.lst xs.reverse))
theorem pe_lstRev {X : Cx} {e : Expr} {te : TE} {p p2 pos pos2 : Pos} (hc : X.calm = true) (hg : Gl X "list") (hm : X.mg "list" = none) (hg2 : Gl X "reversed") (hm2 : X.mg "reversed" = none) (he : PE X e te)
    (hs : starEach [e] X.env = (false, eval e X.env) :: starEach [] X.env := by rfl)
    (hs2 : starEach [.Call (.Name "reversed" p2) [e] [] pos2] X.env = (false, eval (.Call (.Name "reversed" p2) [e] [] pos2) X.env) :: starEach [] X.env := by rfl) :
    PE X (.Call (.Name "list" p) [.Call (.Name "reversed" p2) [e] [] pos2] [] pos) (tLstRev X.K te) := by
  refine ⟨fun pins s σ H Q I h => ?_⟩
  refine Call_ (ld_blt I hg hm boot_list (PyProof.Rows.callWith_type1 (args_cons (Call_ (ld_blt I hg2 hm2 PyProof.Rows.boot_reversed (PyProof.Rows.callWith_type1 (args_cons (thn (he.run pins s σ H _ I h) fun u s1 ⟨v, H1, I1, r1, q1⟩ => args_nil ?_) hs) hs rfl))) hs2) hs2 rfl))
  obtain ⟨a, xs, ev, hq, q⟩ := q1
  subst ev
  obtain rfl : u = Value.ref a := r1
  obtain ⟨its, rv, p', hz⟩ := I1.list hq
  refine call_reversed_list p'.isList (args_nil ?_)
  have k0 : ∀ b o, s1.heap.get? b = some o → (s1.heap.push (revObj a ((its.toArray.size : Int) - 1))).get? b = some o := fun b o e => Heap.get?_push_of_some _ e
  have I2 : Inv X pins σ H1 { s1 with heap := s1.heap.push (revObj a ((its.toArray.size : Int) - 1)) } := I1.kept (t' := s1.toks) k0
  obtain ⟨f0, f1, f2, f3, f4, f5⟩ := I1.fpOk (H' := H1) (b := s1.heap.objs.size) (Nat.le_refl _) (I1.hok.fresh (Nat.le_refl _))
  have hl := p'.isList
  obtain ⟨ol, hol, _⟩ := id hl
  have hne : a ≠ s1.heap.objs.size := Nat.ne_of_lt (Heap.lt_size hol)
  have hn : its.toArray.size ≤ sizeLine := by rw [List.size_toArray, ← rv.length]; exact hz
  refine call_list_rev (s := { s1 with heap := s1.heap.push (revObj a ((its.toArray.size : Int) - 1)) }) (I1.ok.hd hc) ⟨_, Heap.get?_push_size _ rfl, rfl, rfl⟩ (hl.push _) hne hn fun h' tk acc c' hk hS' hi => ?_
  have hsz : (s1.heap.push (revObj a ((its.toArray.size : Int) - 1))).objs.size = s1.heap.objs.size + 1 := by simp [Heap.push]
  have hle : s1.heap.objs.size ≤ (s1.heap.push (revObj a ((its.toArray.size : Int) - 1))).objs.size := by omega
  refine ⟨.ref (s1.heap.push (revObj a ((its.toArray.size : Int) - 1))).objs.size, upd H1 (s1.heap.push (revObj a ((its.toArray.size : Int) - 1))).objs.size (.lst xs.reverse),
    I1.laid (t' := tk) (fun b o e => hk b o (Nat.ne_of_lt (Heap.lt_size e)) (Heap.get?_push_of_some _ e)) hle
      (show ObjOk X.prog X.w _ _ _ (.lst xs.reverse) from ⟨by rw [List.length_reverse]; exact hz, acc.toList, c', vals_rev rv hi, by rw [Array.toArray_toList]; exact hS'⟩), rfl, q _ (I1.hok.fresh hle)⟩
section
variable {X : Cx} {Z : Zp} {N : List Str} {sc : Scope} {a : Expr} {ta : RE} {p pos : Pos}
def rLrev (ta : RE) : RE := fun ex ρ Q => ta ex ρ fun x => match x.data with
  | .list ds => x.fz = true ∧ Q (.ow (.ls ds.reverse))
  | _ => False
theorem ce_lrev {p2 p3 : Pos} (A : Wh X N sc) (hc : X.calm = true) (hg : GlN sc "list") (hm : X.mg "list" = none) (hg2 : GlN sc "reversed") (hm2 : X.mg "reversed" = none) (ha : CE X Z a ta)
    (hs : ∀ env, starEach [a] env = (false, eval a env) :: starEach [] env := by intro _; rfl)
    (hs3 : ∀ env, starEach [.Call (.Name "reversed" p2) [a] [] p3] env = (false, eval (.Call (.Name "reversed" p2) [a] [] p3) env) :: starEach [] env := by intro _; rfl) :
    CE X Z (.Call (.Name "list" p) [.Call (.Name "reversed" p2) [a] [] p3] [] pos) (rLrev ta) := fun ex px => by
  refine pe_imp (pe_lstRev hc (show X.env.scope.names.lookup _ = _ by rw [A.hs]; exact hg) hm (show X.env.scope.names.lookup _ = _ by rw [A.hs]; exact hg2) hm2 (ha ex px) (hs _) (hs3 _)) ?_
  rintro σ H Q ⟨F, ρ, Q', rs, t, q⟩
  refine ⟨F, ρ, _, rs, t, fun x v F1 H1 q1 e1 o1 => ?_⟩
  split at q1
  · rename_i ds hx
    obtain ⟨p, vs, rfl, hS, a1⟩ := o1.lstF e1.fh hx q1.1
    exact ⟨p, vs, rfl, hS, fun l hl => q _ _ F1 _ q1.2 (e1.trans (.own e1.fh hl)) ((out_new hl e1.fh (dpa_reverse a1)).earlier e1.hh)⟩
  · exact q1.elim
end
end Pz
namespace Pz
open PySem PySem.Spec PyProof.Rows L2
/-! ### xs[lo:hi:st] of a list -/
def picksAt (lo hi st : Option Int) (n : Nat) : List Nat := sliceRange (sliceBounds lo hi st n).1 (sliceBounds lo hi st n).2.1 (sliceBounds lo hi st n).2.2
def pickL {α : Type} (xs : List α) (lo hi st : Option Int) : List α := (picksAt lo hi st xs.length).filterMap (xs[·]?)
theorem slicePick_L (its : List Value) (lo hi st : Option Int) : slicePick its.toArray lo hi st = (pickL its lo hi st).toArray := by
  unfold slicePick pickL picksAt
  simp only [List.size_toArray]
  congr 1
  congr 1
  funext i
  simp
theorem pickL_len {α : Type} (xs : List α) (lo hi st : Option Int) : (pickL xs lo hi st).length ≤ xs.length := by
  have key : ∀ n : Nat, (picksAt lo hi st n).length ≤ n := fun n => by
    unfold picksAt
    refine sliceRange_length_le _ _ _ _ (fun hc => ?_) fun hc => ?_
    · simp only [sliceBounds] at hc ⊢
      simp only [hc, if_true]
      constructor
      · cases lo with
        | none => simp
        | some i => dsimp only; omega
      · cases hi with
        | none => simp
        | some i => dsimp only; omega
    · simp only [sliceBounds] at hc ⊢
      simp only [hc, if_false]
      constructor
      · cases lo with
        | none => simp
        | some i => dsimp only; omega
      · cases hi with
        | none => simp
        | some i => dsimp only; omega
  exact Nat.le_trans (List.length_filterMap_le _ _) (key _)
theorem vals_pick {xs : List V} {us : List Value} (r : Vals xs us) : ∀ is : List Nat, Vals (is.filterMap (xs[·]?)) (is.filterMap (us[·]?))
  | [] => .nil
  | i :: is => by
    have ih := vals_pick r is
    by_cases h : i < xs.length
    · obtain ⟨u, hu, ru⟩ := r.get (List.getElem?_eq_getElem h)
      rw [List.filterMap_cons_some (List.getElem?_eq_getElem h), List.filterMap_cons_some hu]
      exact .cons ru ih
    · have h2 : us[i]? = none := List.getElem?_eq_none (by rw [← r.length]; omega)
      rw [List.filterMap_cons_none (List.getElem?_eq_none (by omega)), List.filterMap_cons_none h2]
      exact ih
theorem dpa_pick {K : PySem.W.Frag} {H : Hp} {vs : List V} {ds : List PyData} (a : DpAll K H vs ds) : ∀ is : List Nat, DpAll K H (is.filterMap (vs[·]?)) (is.filterMap (ds[·]?))
  | [] => .nil
  | i :: is => by
    have ih := dpa_pick a is
    by_cases h : i < ds.length
    · obtain ⟨u, hu, ru⟩ := dpa_get a (List.getElem?_eq_getElem h)
      rw [List.filterMap_cons_some (List.getElem?_eq_getElem h), List.filterMap_cons_some hu]
      exact .cons ru ih
    · have h2 : vs[i]? = none := List.getElem?_eq_none (by rw [dpa_len a]; omega)
      have h3 : ds[i]? = none := List.getElem?_eq_none (by omega)
      rw [List.filterMap_cons_none (f := fun x => vs[x]?) h2, List.filterMap_cons_none (f := fun x => ds[x]?) h3]
      exact ih
def tSl3 (K : PySem.W.Frag) (te : TE) (tl th ts : TO) : TE := fun σ H Q => te σ H fun x H1 => tl σ H1 fun l H2 => th σ H2 fun u H3 => ts σ H3 fun st H4 => st ≠ some 0 ∧ ∃ a xs, x = .ref a ∧ SqL K H4 a xs ∧ ∀ p, H4 p = none → Q (.ref p) (upd H4 p (.lst (pickL xs l u st)))
theorem pe_slice3 {X : Cx} {e st : Expr} {lo hi : Option Expr} {te : TE} {tl th ts : TO} {p2 pos : Pos} (he : PE X e te) (hl : PO X lo tl) (hu : PO X hi th) (hst : PO X (some st) ts) : PE X (.Subscript e (.Slice lo hi (some st) p2) pos) (tSl3 X.K te tl th ts) := by
  refine ⟨fun pins s σ H Q I h => ?_⟩
  refine Subscript_ (thn (he.run pins s σ H _ I h) fun v s1 ⟨x, H1, I1, r1, q1⟩ => ?_)
  refine wpAny_Slice (thn (hl.run pins s1 σ H1 _ I1 q1) fun vl s2 ⟨l, H2, I2, pl, q2⟩ => thn (hu.run pins s2 σ H2 _ I2 q2) fun vu s3 ⟨u, H3, I3, pu, q3⟩ => thn (hst.run pins s3 σ H3 _ I3 q3) fun vs s4 ⟨o, H4, I4, ps, q4⟩ => ?_)
  obtain ⟨ho, a, xs, rfl, hx, q⟩ := q4
  have I5 : Inv X pins σ H4 { s4 with heap := s4.heap.push { cls := .type "slice", data := .fields #[vl, vu, vs] } } := I4.kept (t' := s4.toks) fun b ob q => Heap.get?_push_of_some _ q
  cases r1
  obtain ⟨its, r, ht, hz⟩ := I5.list hx
  show wpAny (model X.prog X.w) X.A (subscriptTail e (.Slice lo hi (some st) p2) (.ref a) (.ref s4.heap.objs.size)) (EP X pins σ Q) X.xe { s4 with heap := s4.heap.push { cls := .type "slice", data := .fields #[vl, vu, vs] } }
  refine tail_any (ops := [.ref a, .ref s4.heap.objs.size]) ht.isList.typeIs slot_list_getitem.lookup ?_ (by with_unfolding_all rfl)
  have hlen := r.length
  refine wpAny_getItem_list_slice ht.isList (Heap.IsSliceOf.new ..) pl pu ps ho ?_ (by rw [List.size_toArray] <;> omega)
  rw [slicePick_L]
  refine ⟨.ref _, _, I5.laid (t' := s4.toks) (o := .lst (pickL xs l u o)) (fun b ob q => Heap.get?_push_of_some _ q) (Nat.le_refl _) ?_, rfl, q _ (I5.hok.fresh (Nat.le_refl _))⟩
  refine ⟨Nat.le_trans (pickL_len xs l u o) hz, _, 0, ?_, Heap.get?_push_size _ rfl⟩
  unfold pickL
  rw [hlen]
  exact vals_pick r _
section
variable {X : Cx} {Z : Zp} {a : Expr} {ta : RE} {pos : Pos}
def gSl3 : PV → Option Int → Option Int → Option Int → (PV → Prop) → Prop := fun x lo hi st Q => match x.data with
  | .list ds => x.fz = true ∧ st ≠ some 0 ∧ Q (.ow (.ls (pickL ds lo hi st)))
  | _ => False
def rSl3 (ta : RE) (tl th ts : RO) : RE := fun ex ρ Q => ta ex ρ fun x => tl ex ρ fun lo => th ex ρ fun hi => ts ex ρ fun st => gSl3 x lo hi st Q
theorem ce_slice3 {st : Expr} {lo hi : Option Expr} {tl th ts : RO} {p2 : Pos} (ha : CE X Z a ta) (hl : CO X Z lo tl) (hh : CO X Z hi th) (hs : CO X Z (some st) ts) : CE X Z (.Subscript a (.Slice lo hi (some st) p2) pos) (rSl3 ta tl th ts) := fun ex px => by
  refine pe_imp (pe_slice3 (ha ex px) (hl ex px) (hh ex px) (hs ex px)) ?_
  rintro σ H Q ⟨F, ρ, Q', rs, t, q⟩
  refine ⟨F, ρ, _, rs, t, fun x v F1 H1 q1 e1 o1 => ?_⟩
  refine ⟨F1, ρ, _, rs.grow e1, q1, fun l F2 H2 q2 e2 => ?_⟩
  refine ⟨F2, ρ, _, rs.grow (e1.trans e2), q2, fun u F3 H3 q3 e3 => ?_⟩
  refine ⟨F3, ρ, _, rs.grow ((e1.trans e2).trans e3), q3, fun st F4 H4 q4 e4 => ?_⟩
  unfold gSl3 at q4
  split at q4
  · rename_i ds hx
    have e24 := (e2.trans e3).trans e4
    obtain ⟨p, vs, rfl, hS, a1⟩ := (o1.keep e24).lstF e4.fh hx q4.1
    refine ⟨q4.2.1, p, vs, rfl, hS, fun n hn => q _ _ F4 _ q4.2.2 ((e1.trans e24).trans (.own e4.fh hn)) ((out_new hn e4.fh ?_).earlier (e1.trans e24).hh)⟩
    unfold pickL
    rw [dpa_len a1]
    exact dpa_pick a1 _
  · exact q4.elim
end
theorem pickL_ints (ns : List Int) (lo hi st : Option Int) : pickL (ns.map PyData.int) lo hi st = (pickL ns lo hi st).map .int := by
  unfold pickL
  rw [List.length_map]
  generalize picksAt lo hi st ns.length = is
  induction is with
  | nil => rfl
  | cons i is ih =>
    by_cases h : i < ns.length
    · rw [List.filterMap_cons_some (b := PyData.int ns[i]) (by simp [h]), List.filterMap_cons_some (List.getElem?_eq_getElem h), List.map_cons, ih]
    · rw [List.filterMap_cons_none (by simp; omega), List.filterMap_cons_none (List.getElem?_eq_none (by omega)), ih]
theorem pickL_mem {α : Type} {xs : List α} {lo hi st : Option Int} {x : α} (h : x ∈ pickL xs lo hi st) : x ∈ xs := by
  unfold pickL at h
  rw [List.mem_filterMap] at h
  obtain ⟨i, _, hi⟩ := h
  exact List.mem_of_getElem? hi
end Pz

namespace Pz
open PySem PySem.Spec PyProof.Rows L2
/-! ### a written dict of ints, asked at once: {..}.get(k, d) -/
abbrev intTrs (kvs : List (Int × Int)) : List (TE × TE) := kvs.map fun kv => (tC (.int kv.1), tC (.int kv.2))
abbrev intKvs (kvs : List (Int × Int)) : List (Key × V) := kvs.map fun kv => (Sum.inl kv.1, V.int kv.2)
theorem tPairs_ints : ∀ (kvs : List (Int × Int)) {σ : L2.St} {H : Hp} {Q : List (V × V) → Hp → Prop}, Q (kvs.map fun kv => (V.int kv.1, V.int kv.2)) H → tPairs (intTrs kvs) σ H Q
  | [], _, _, _, q => q
  | kv :: r, σ, H, Q, q => by
    show tPairs (intTrs r) σ H fun ps H3 => Q ((V.int kv.1, V.int kv.2) :: ps) H3
    exact tPairs_ints r q
theorem own2 {F H : Hp} {p : Addr} {o o' : HO} (s : Same F H) (h : H p = none) : Ext F H F (upd (upd H p o) p o') :=
  ⟨.refl _, fun b x e => by rw [upd_ne (ne_of_none e h), upd_ne (ne_of_none e h)]; exact e, fun b x e => by
    have e' := s b x e
    rw [upd_ne (ne_of_none e' h), upd_ne (ne_of_none e' h)]; exact e', fun a u e n => n⟩
def lkI : List (Int × Int) → Int → Option Int
  | [], _ => none
  | kv :: r, k => if kv.1 = k then some kv.2 else lkI r k
theorem valV_ints (k : Int) : ∀ kvs : List (Int × Int), valV (intKvs kvs) (Sum.inl k) = (lkI kvs k).map V.int
  | [] => rfl
  | kv :: r => by
    unfold lkI
    by_cases h : kv.1 = k
    · rw [if_pos h]
      exact valV_pos (p := (Sum.inl kv.1, V.int kv.2)) (r := intKvs r) (by rw [h])
    · rw [if_neg h, ← valV_ints k r]
      exact valV_neg (p := (Sum.inl kv.1, V.int kv.2)) (r := intKvs r) (fun z => h (Sum.inl.inj z))
def rDLit (lk : Int → Option Int) (te tf : RE) : RE := fun ex ρ Q => te ex ρ fun y => tf ex ρ fun z => match y.data, z.data with
  | .int k, .int d => Q (.im (.int ((lk k).getD d)))
  | _, _ => False
section
variable {X : Cx} {Z : Zp} {keys : List (Option Expr)} {values : List Expr} {e f : Expr} {te tf : RE} {dpos apos cpos : Pos}
theorem ce_dlit (kvs : List (Int × Int)) (hu : X.A.units + 1 < cLine) (h : PPs X dpos keys values (intTrs kvs)) (hall : keys.all (·.isSome) = true) (hl : keys.length = values.length) (h0 : keys ≠ []) (h15 : keys.length ≤ 15) (hn : kvs.length ≤ 15)
    (hm : mergeK [] (intKvs kvs) = intKvs kvs) (he : CE X Z e te) (hf : CE X Z f tf) (hline : (apos.endLine == cpos.line) = true)
    (hbase : ∀ env, attributeBase (.Dict keys values dpos) "get" env (eval (.Dict keys values dpos) env) = eval (.Dict keys values dpos) env := by intro _; rfl)
    (hfew : ∀ env, ((backTo cpos (starEach [e, f] env)).all (fun x => !x.1) && (backToKw cpos (keywordEach [] env)).all (fun x => x.1.isSome)
      && decide ([e, f].length + ([] : List Keyword).length + (if ([] : List Keyword).isEmpty then 0 else 1) < 30)) = true := by intro _; rfl)
    (htr : ∀ env, backTo cpos (starEach [e, f] env) = [(false, eval e env), (false, eval f env)] := by intro _; rfl) :
    CE X Z (.Call (.Attribute (.Dict keys values dpos) "get" apos) [e, f] [] cpos) (rDLit (lkI kvs) te tf) := fun ex px => by
  have hlk : ∀ k : Int, valV (mergeK [] (intKvs kvs)) (Sum.inl k) = (lkI kvs k).map V.int := fun k => by rw [hm]; exact valV_ints k kvs
  generalize lkI kvs = lk at *
  refine pe_imp (pe_dget2 hu (pe_disp h hall hl h0 h15) (he ex px) (hf ex px) ⟨hbase _, hfew _, hline, htr _⟩) ?_
  rintro σ H Q ⟨F, ρ, Q', rs, t, q⟩
  intro p hp
  refine tPairs_ints kvs ⟨upd_same, intKvs kvs, ?_, by simpa using hn, ?_⟩
  · simp only [List.map_map]; rfl
  have e0 := own2 (o := .dK []) (o' := .dK (mergeK [] (intKvs kvs))) rs.ext.fh hp
  refine ⟨p, rfl, .inl ⟨_, .of upd_same⟩, F, ρ, _, rs.grow e0, t, fun y u F1 H1 q1 e1 o1 => ?_⟩
  refine ⟨F1, ρ, _, rs.grow (e0.trans e1), q1, fun z w F2 H2 q2 e2 o2 => ?_⟩
  split at q2
  · rename_i k d hy hz
    have h2 : H2 p = some (.dK (mergeK [] (intKvs kvs))) := e2.hh _ _ (e1.hh _ _ upd_same)
    refine ⟨_, .inl ⟨_, Sum.inl k, .of h2, o1.int e1.fh hy, rfl⟩, ?_⟩
    rw [hlk k, o2.int e2.fh hz]
    have q3 := q _ (.int ((lk k).getD d)) F2 H2 q2 ((e0.trans e1).trans e2) (Dp.int _)
    cases hk : lk k with
    | none => rw [hk] at q3; exact q3
    | some v => rw [hk] at q3; exact q3
  · exact q2.elim
end
theorem rgok {a b : Int} (h0 : -(2 ^ 40) ≤ a) (h1 : a ≤ 2 ^ 40) (h2 : -(2 ^ 40) ≤ b) (h3 : b ≤ 2 ^ 40) (h4 : b - a ≤ 16777216) : RgOk a b := ⟨by omega, by omega, by omega, by omega, by omega⟩
end Pz

namespace Pz
open PySem PySem.Spec PyProof.Rows L2
/-! ### a call without arguments -/
theorem pe_callS0 {CXv : CXT} {X : Cx} {k : Nat} {f : Addr} {fd : FuncData} {ps : List Str} {sp : Sp} {x : Str} {p pos : Pos} {E : L2.St → XK} (F : FnOk X.prog X.w X.K X.mg X.base CXv k f fd ps sp) (hr : Room k X.A) (hg : Gl X x) (hm : X.mg x = some (.ref f)) (hk : PySem.W.keepIn X.K (.ref f) = true) (hb : Binds X.K fd ps []) (hx : ∀ σ, PassesAt CXv X σ (E σ))
    (hdb : (x == ("__debug__" : Str)) = false) : PE X (.Call (.Name x p) [] [] pos) (tCallS sp E tNil) := by
  refine ⟨fun pins s σ H Q I h => ?_⟩
  refine wpAny_Call_Name_kw (ld_glob I hg hm ?_ hdb)
  exact PySem.W.callWith_K0 I.kIn hk (run_fnS (us := []) F hr hb (hx σ) I .nil h)
section
variable {X : Cx} {Z : Zp} {N : List Str} {sc : Scope} {pos p : Pos} {x : Str} {k : Nat} {ps : List Str} {sp : PSp}
theorem ce_call0 (G : FnAt X.prog X.w X.K X.mg X.base Z.cl k x ps sp) (A : Wh X N sc) (hr : Room k X.A) (hg : GlN sc x) (hdb : (x == ("__debug__" : Str)) = false) : CE X Z (.Call (.Name x p) [] [] pos) (rCall sp rNil) := fun ex px => by
  obtain ⟨f, fd, hm, hk, hb, G⟩ := G
  refine pe_imp (pe_callS0 G hr (show X.env.scope.names.lookup x = _ by rw [A.hs]; exact hg) hm hk hb (fun σ => passAt px.tk σ) hdb) ?_
  rintro σ H Q ⟨F, ρ, Q', rs, t, q⟩
  exact ⟨F, [], Q', _, rs.ext.fh, .nil, t, fun y v F' H' qy e2 o2 => q y v F' H' qy e2 o2, fun c H' hc s => ⟨c, F, ρ, rfl, rfl, rs.grow (ext_same rs.ext.fh s), hc⟩⟩
end
/-! ### sorted: of ints, of pairs of ints -/
/-- by the first number, then by the second -/
def leLx (a b : Int × Int) : Prop := a.1 < b.1 ∨ a.1 = b.1 ∧ a.2 ≤ b.2
def prD (q : Int × Int) : PyData := .tuple [.int q.1, .int q.2]
def gSorted : PV → (PV → Prop) → Prop := fun x Q => match x.data with
  | .list ds => (∃ ns : List Int, ds = ns.map .int ∧ ∀ ns' : List Int, ns'.Perm ns → ns'.Pairwise (· ≤ ·) → Q (.ow (.ls (ns'.map .int)))) ∨
      (x.fz = true ∧ ∃ qs : List (Int × Int), ds = qs.map prD ∧ ∀ qs' : List (Int × Int), qs'.Perm qs → qs'.Pairwise leLx → Q (.ow (.ls (qs'.map prD))))
  | _ => False
theorem dpa_keys {K : PySem.W.Frag} {H : Hp} {k : V → Int × Int} : ∀ {vs : List V} {qs : List (Int × Int)}, DpAll K H vs (qs.map prD) → (∀ v ∈ vs, ∀ (t : Addr) (q : Int × Int), v = V.ref t → SqT K H t [.int q.1, .int q.2] → k v = q) → vs.map k = qs
  | [], [], _, _ => rfl
  | [], _ :: _, h, _ => by cases h
  | _ :: _, [], h, _ => by cases h
  | w :: vs, q :: qs, h, hk => by
    rw [List.map_cons] at h
    cases h with
    | cons hd tl =>
      rw [List.map_cons, dpa_keys tl fun v m => hk v (List.mem_cons_of_mem _ m)]
      cases hd with
      | tup hs ha =>
        cases ha with
        | cons h1 t1 =>
          cases t1 with
          | cons h2 t2 =>
            cases t2
            cases h1
            cases h2
            rw [hk _ List.mem_cons_self _ q rfl hs]
theorem dpa_memK {K : PySem.W.Frag} {H : Hp} {k : V → Int × Int} : ∀ {vs : List V}, DpAll K H vs ((vs.map k).map prD) → ∀ v ∈ vs, Dp K H v (prD (k v))
  | [], _, v, m => nomatch m
  | w :: vs, h, v, m => by
    rw [List.map_cons, List.map_cons] at h
    cases h with
    | cons hd tl =>
      rcases List.mem_cons.1 m with rfl | m
      · exact hd
      · exact dpa_memK tl v m
theorem dpa_ofK {K : PySem.W.Frag} {H : Hp} {k : V → Int × Int} : ∀ {vs : List V}, (∀ v ∈ vs, Dp K H v (prD (k v))) → DpAll K H vs ((vs.map k).map prD)
  | [], _ => .nil
  | v :: vs, h => .cons (h v List.mem_cons_self) (dpa_ofK fun w m => h w (List.mem_cons_of_mem _ m))
theorem dp_pair {K : PySem.W.Frag} {H : Hp} {v : V} {q : Int × Int} (h : Dp K H v (prD q)) : ∃ t, v = V.ref t ∧ SqT K H t [.int q.1, .int q.2] := by
  cases h with
  | tup hs ha =>
    cases ha with
    | cons h1 t1 =>
      cases t1 with
      | cons h2 t2 =>
        cases t2
        cases h1
        cases h2
        exact ⟨_, rfl, hs⟩
open Classical in
noncomputable def kOf (K : PySem.W.Frag) (H : Hp) (v : V) : Int × Int := if h : ∃ q : Int × Int, ∃ t, v = V.ref t ∧ SqT K H t [.int q.1, .int q.2] then h.choose else (0, 0)
def rSortedPT (K : PySem.W.Frag) : List V → Hp → VK → Prop := fun vs H Q => ∃ (a : Addr) (xs : List V) (qs : List (Int × Int)), vs = [V.ref a] ∧ SqL K H a xs ∧ DpAll K H xs (qs.map prD) ∧
  ∀ (ys : List V) (qs' : List (Int × Int)) (p : Addr), qs'.Perm qs → qs'.Pairwise leLx → (∀ F, DpAll K F xs (qs.map prD) → DpAll K F ys (qs'.map prD)) → H p = none → Q (.ref p) (upd H p (.lst ys))
theorem srtd_le {k : V → Int × Int} : ∀ {ys : List V}, SrtO.Srtd (L2.ltP k) ys → (ys.map k).Pairwise leLx := fun {ys} h => by
  refine List.pairwise_map.2 (List.Pairwise.imp ?_ h)
  intro x y hxy
  have := SrtO.lexB_no.mp hxy
  unfold leLx
  omega
theorem cr_sortedPT {X : Cx} : CallR X (.builtin "sorted") (rSortedPT X.K) := by
  intro pins s σ H vs us Q I r h
  obtain ⟨a, xs, qs, rfl, hs, ha, q⟩ := h
  obtain ⟨its, rv, hl, hz⟩ := I.list hs
  obtain ⟨u, rfl, ru⟩ := vals1 r
  obtain rfl : u = Value.ref a := ru
  have inj : ∀ v ∈ xs, ∀ (t : Addr) (q : Int × Int), v = V.ref t → SqT X.K H t [.int q.1, .int q.2] → kOf X.K H v = q := fun v _ t q e hq => by
    have hex : ∃ q : Int × Int, ∃ t, v = V.ref t ∧ SqT X.K H t [.int q.1, .int q.2] := ⟨q, t, e, hq⟩
    unfold kOf
    rw [dif_pos hex]
    obtain ⟨t', e', hq'⟩ := hex.choose_spec
    subst e
    cases e'
    have := I.tuple_inj hq' hq
    injection this with h1 h2
    injection h2 with h2 h3
    injection h1 with h1
    injection h2 with h2
    exact Prod.ext h1 h2
  have hk := dpa_keys ha inj
  generalize kOf X.K H = k at *
  have hx : ∀ x ∈ xs, ∃ t, x = V.ref t ∧ SqT X.K H t [.int (k x).1, .int (k x).2] := fun x m => dp_pair (dpa_memK (by rw [hk]; exact ha) x m)
  obtain ⟨e1, e2⟩ := refs_back rv fun x m => by
    obtain ⟨t, e, _⟩ := hx x m
    exact ⟨t, e⟩
  refine SrtO.sorted_pairsO (k := fun u => k (backV u)) hl.isList (by rw [← rv.length]; exact hz) (fun v hv => ?_) fun h' d out h1 h2 kp hd hn => ?_
  · obtain ⟨t, rfl⟩ := e2 v hv
    have hm : V.ref t ∈ xs := by rw [e1]; exact List.mem_map.mpr ⟨_, hv, rfl⟩
    obtain ⟨t', e, ht⟩ := hx _ hm
    cases e
    obtain ⟨its2, r2, ⟨o, ho, hc, n, hd⟩, _⟩ := I.tuple ht
    obtain ⟨u1, u2, rfl, ri, rj⟩ := vals2 r2
    obtain ⟨t1, rfl⟩ := ri
    obtain ⟨t2, rfl⟩ := rj
    exact ⟨t, o, t1, t2, n, rfl, ho, hc, hd⟩
  · have h3 : ∀ u ∈ out, ∃ a, u = Value.ref a := fun u hu => e2 u (h2.perm.mem_iff.mp hu)
    obtain ⟨n, hn⟩ := hn
    have hb : SrtO.Stb (L2.ltP k) (out.map backV) xs := by
      rw [e1]
      exact SrtO.Stb.map (L2.ltP_swo k) backV h2
    refine ⟨.ref d, upd H d (.lst (out.map backV)), I.laid (t' := s.toks) kp hd ⟨?_, out, n, vals_back h3, hn⟩, rfl, ?_⟩
    · rw [hb.len]
      exact hz
    · refine q (out.map backV) ((out.map backV).map k) d (by rw [← hk]; exact hb.perm.map k) (srtd_le (SrtO.srtd_map h1)) (fun F hF => dpa_ofK fun v m => ?_) (I.hok.fresh hd)
      exact dpa_memK (by rw [hk]; exact hF) v (hb.perm.mem_iff.mp m)
def rSortX (K : PySem.W.Frag) : List V → Hp → VK → Prop := fun vs H Q => rSortedI K vs H Q ∨ rSortedPT K vs H Q
theorem cr_sortedX {X : Cx} : CallR X (.builtin "sorted") (rSortX X.K) := by
  intro pins s σ H vs us Q I r h
  rcases h with h | h
  · exact cr_sortedI pins s σ H vs us Q I r h
  · exact cr_sortedPT pins s σ H vs us Q I r h
theorem fn_sorted {X : Cx} : Fn1 X (rSortX X.K) gSorted := by
  intro F H0 H x v Q' Q s o h q
  unfold gSorted at h
  split at h
  · rename_i ds hx
    rcases h with ⟨ns, rfl, h⟩ | ⟨hz, qs, rfl, h⟩
    · obtain ⟨p, vs, rfl, hS, a⟩ := o.lst s hx
      have e := dpa_ints_inv a
      subst e
      exact .inl ⟨p, ns, rfl, hS, fun ns' l hp hw hl => q _ _ F _ (h ns' hp hw) (.own s hl) (out_new hl s (dpa_ints ns'))⟩
    · obtain ⟨p, vs, rfl, hS, a⟩ := o.lstF s hx hz
      exact .inr ⟨p, vs, qs, rfl, hS, dpAll_mono s a, fun ys qs' l hp hw hF hl => q _ _ F _ (h qs' hp hw) (.own s hl) (out_new hl s (hF F a))⟩
  · exact h.elim
end Pz

namespace Pz
open PySem PySem.Spec PyProof.Rows L2
/-! ### dicts with keys ints or texts, in a slot of their own -/
def keyD : PyData → Option Key
  | .int i => some (.inl i)
  | .str s => some (.inr s)
  | _ => none
def keyPD : Key → PyData
  | .inl i => .int i
  | .inr s => .str s
def lkD (kvs : List (Key × PyData)) (k : Key) : Option PyData := (kvs.find? fun kv => decide (kv.1 = k)).map (·.2)
def putD (kvs : List (Key × PyData)) (k : Key) (v : PyData) : List (Key × PyData) :=
  if (kvs.any fun kv => decide (kv.1 = k)) = true then kvs.map (fun kv => if kv.1 = k then (kv.1, v) else kv) else kvs ++ [(k, v)]
section
variable {K : PySem.W.Frag} {F F0 H0 H : Hp} {ρ : Rho} {σ : L2.St}
theorem key_dp {v : V} {d : PyData} {k : Key} (h : Dp K H v d) (e : keyD d = some k) : v = kV k := by
  cases h with
  | int i => cases e; rfl
  | str s => cases e; rfl
  | non => cases e
  | bl b => cases e
  | lst _ _ => cases e
  | tup _ _ => cases e
  | odd _ => cases e
theorem Out.key {x : PV} {v : V} {k : Key} (o : Out K F H0 H v x) (s : Same F H) (e : keyD x.data = some k) : v = kV k := by
  rcases o.dd s with d | ⟨j, d⟩
  · exact key_dp d e
  · rw [d] at e; cases e
theorem dp_key : ∀ k : Key, Dp K H (kV k) (keyPD k)
  | .inl i => .int i
  | .inr s => .str s
theorem dc_cons {kv : List (Key × V)} {kvs : List (Key × PyData)} (h : DcAll K F kv kvs) : (kv = [] ∧ kvs = []) ∨ ∃ k v d kv' kvs', kv = (k, v) :: kv' ∧ kvs = (k, d) :: kvs' ∧ Dp K F v d ∧ DcAll K F kv' kvs' := by
  obtain ⟨h1, h2⟩ := h
  cases kv with
  | nil =>
    cases kvs with
    | nil => exact .inl ⟨rfl, rfl⟩
    | cons _ _ => simp at h1
  | cons a kv =>
    cases kvs with
    | nil => simp at h1
    | cons b kvs =>
      obtain ⟨k, v⟩ := a
      obtain ⟨k', d⟩ := b
      simp only [List.map_cons] at h1 h2
      obtain ⟨e1, e2⟩ := List.cons.inj h1
      cases h2 with
      | cons hd tl =>
        cases e1
        exact .inr ⟨k, v, d, kv, kvs, rfl, rfl, hd, e2, tl⟩
theorem dc_len : ∀ {kv : List (Key × V)} {kvs : List (Key × PyData)}, DcAll K F kv kvs → kv.length = kvs.length := fun {kv kvs} h => by
  have := congrArg List.length h.1
  simpa using this
theorem dc_lk (k : Key) : ∀ {kvs : List (Key × PyData)} {kv : List (Key × V)}, DcAll K F kv kvs → (valV kv k = none ∧ lkD kvs k = none) ∨ ∃ v d, valV kv k = some v ∧ lkD kvs k = some d ∧ Dp K F v d
  | [], kv, h => by
    rcases dc_cons h with ⟨rfl, _⟩ | ⟨_, _, _, _, _, _, z, _⟩
    · exact .inl ⟨rfl, rfl⟩
    · cases z
  | (k', d) :: kvs, kv, h => by
    rcases dc_cons h with ⟨_, z⟩ | ⟨_, v, _, kv', _, rfl, z, hd, tl⟩
    · cases z
    · cases z
      by_cases e : k' = k
      · right
        refine ⟨v, d, valV_pos (p := (k', v)) e, ?_, hd⟩
        unfold lkD
        rw [List.find?_cons_of_pos (by simpa using e)]
        rfl
      · have e1 : valV ((k', v) :: kv') k = valV kv' k := valV_neg (p := (k', v)) e
        have e2 : lkD ((k', d) :: kvs) k = lkD kvs k := by
          unfold lkD
          rw [List.find?_cons_of_neg (by simpa using e)]
        rw [e1, e2]
        exact dc_lk k tl
theorem dc_any (k : Key) : ∀ {kvs : List (Key × PyData)} {kv : List (Key × V)}, DcAll K F kv kvs → (kv.any fun x => decide (x.1 = k)) = (kvs.any fun x => decide (x.1 = k))
  | [], kv, h => by
    rcases dc_cons h with ⟨rfl, _⟩ | ⟨_, _, _, _, _, _, z, _⟩
    · rfl
    · cases z
  | (k', d) :: kvs, kv, h => by
    rcases dc_cons h with ⟨_, z⟩ | ⟨_, v, _, kv', _, rfl, z, hd, tl⟩
    · cases z
    · cases z
      rw [List.any_cons, List.any_cons, dc_any k tl]
theorem dc_map {k : Key} {u : V} {e : PyData} (he : Dp K F u e) : ∀ {kvs : List (Key × PyData)} {kv : List (Key × V)}, DcAll K F kv kvs → DcAll K F (kv.map fun x => if x.1 = k then (x.1, u) else x) (kvs.map fun x => if x.1 = k then (x.1, e) else x)
  | [], kv, h => by
    rcases dc_cons h with ⟨rfl, _⟩ | ⟨_, _, _, _, _, _, z, _⟩
    · exact ⟨rfl, .nil⟩
    · cases z
  | (k', d) :: kvs, kv, h => by
    rcases dc_cons h with ⟨_, z⟩ | ⟨_, v, _, kv', _, rfl, z, hd, tl⟩
    · cases z
    · cases z
      obtain ⟨h1, h2⟩ := dc_map (k := k) he tl
      by_cases e : k' = k
      · refine ⟨?_, ?_⟩
        · simp only [List.map_cons, e, if_true]; rw [h1]
        · simp only [List.map_cons, e, if_true]; exact .cons he h2
      · refine ⟨?_, ?_⟩
        · simp only [List.map_cons, e, if_false]; rw [h1]
        · simp only [List.map_cons, e, if_false]; exact .cons hd h2
theorem dc_put {k : Key} {u : V} {e : PyData} {kv : List (Key × V)} {kvs : List (Key × PyData)} (he : Dp K F u e) (h : DcAll K F kv kvs) : DcAll K F (putK kv k u) (putD kvs k e) := by
  unfold putK putD
  rw [dc_any k h]
  split
  · exact dc_map he h
  · obtain ⟨h1, h2⟩ := h
    refine ⟨by simp [h1], ?_⟩
    rw [List.map_append, List.map_append]
    exact dpa_app h2 (.cons he .nil)
theorem dc_mono {F' : Hp} {kv : List (Key × V)} {kvs : List (Key × PyData)} (s : Same F F') (h : DcAll K F kv kvs) : DcAll K F' kv kvs := ⟨h.1, dpAll_mono s h.2⟩
/-- the dict of a slot: as it stands, and as it may be changed -/
theorem RS.dict {i : Nat} {kvs : List (Key × PyData)} (r : RS K F0 H0 F ρ σ H) (h : ρ[i]? = some (.ow (.dc kvs))) : ∃ p kv, σ[i]? = some (some (.ref p)) ∧ H p = some (.dK kv) ∧ DcAll K F kv kvs ∧ F p = none ∧ H0 p = none ∧
    (∀ kv' kvs', DcAll K F kv' kvs' → RS K F0 H0 F (ρ.set i (.ow (.dc kvs'))) σ (upd H p (.dK kv'))) ∧ ∀ od, RS K F0 H0 F (ρ.set i (.ow (.dl kvs))) σ (upd H p (.frz od (.dK kv))) := by
  obtain ⟨fps, h1, h2, h3⟩ := id r.sl
  have hl : i < σ.length := by rw [← r.len]; exact (List.getElem?_eq_some_iff.mp h).1
  obtain ⟨p, ev, efp, kv, e, a⟩ := h1 i _ _ h (List.getElem?_eq_getElem hl)
  have ep : σ[i]? = some (some (.ref p)) := by rw [List.getElem?_eq_getElem hl, ev]
  obtain ⟨n0, nF, _⟩ := h2 i p (by rw [efp]; simp)
  exact ⟨p, kv, ep, e, a, nF, n0, fun kv' kvs' a' => r.write h ep fun fp w => by
    obtain ⟨rfl, _⟩ := w
    exact ⟨by simp, rfl, kv', upd_same, a'⟩, fun od => r.write h ep fun fp w => by
    obtain ⟨rfl, kv2, e2, a2⟩ := w
    rw [e] at e2
    cases e2
    exact ⟨by simp, rfl, kv, od, upd_same, a2⟩⟩
theorem RS.dictL {i : Nat} {kvs : List (Key × PyData)} (r : RS K F0 H0 F ρ σ H) (h : ρ[i]? = some (.ow (.dl kvs))) : ∃ p kv od, σ[i]? = some (some (.ref p)) ∧ H p = some (.frz od (.dK kv)) ∧ DcAll K F kv kvs := by
  obtain ⟨fps, h1, h2, h3⟩ := id r.sl
  have hl : i < σ.length := by rw [← r.len]; exact (List.getElem?_eq_some_iff.mp h).1
  obtain ⟨p, ev, efp, kv, od, e, a⟩ := h1 i _ _ h (List.getElem?_eq_getElem hl)
  exact ⟨p, kv, od, by rw [List.getElem?_eq_getElem hl, ev], e, a⟩
/-- either way, to be read -/
def dOf (ρ : Rho) (i : Nat) : Option (List (Key × PyData)) := match ρ[i]? with
  | some (.ow (.dc kvs)) => some kvs
  | some (.ow (.dl kvs)) => some kvs
  | _ => none
theorem RS.dictR {i : Nat} {kvs : List (Key × PyData)} (r : RS K F0 H0 F ρ σ H) (h : dOf ρ i = some kvs) : ∃ p kv, σ[i]? = some (some (.ref p)) ∧ Rd H p (.dK kv) ∧ DcAll K F kv kvs := by
  unfold dOf at h
  split at h
  · rename_i k e
    cases h
    obtain ⟨p, kv, h1, h2, h3, _⟩ := r.dict e
    exact ⟨p, kv, h1, .inl h2, h3⟩
  · rename_i k e
    cases h
    obtain ⟨p, kv, od, h1, h2, h3⟩ := r.dictL e
    exact ⟨p, kv, h1, .inr ⟨od, h2⟩, h3⟩
  · cases h
end
def rDNew : RE := fun _ _ Q => Q (.ow (.dc []))
/-- d[k] = e, d the dict of slot i -/
def rDPut (i : Nat) (te ti : RE) : RC := fun D ρ => te D.ex ρ fun x => x.frz fun d => match ρ[i]? with
  | some (.ow (.dc kvs)) => ti D.ex ρ fun y => match keyD y.data with
    | some k => kvs.length < sizeLine ∧ D.nx (ρ.set i (.ow (.dc (putD kvs k d))))
    | _ => False
  | _ => False
/-- d.get(k, e) -/
def rDGet (i : Nat) (ti te : RE) : RE := fun ex ρ Q => match dOf ρ i with
  | some kvs => ti ex ρ fun y => te ex ρ fun z => z.frz fun e => match keyD y.data with
    | some k => Q (.im ((lkD kvs k).getD e))
    | none => False
  | none => False
/-- d[k] -/
def rDIx (i : Nat) (ti : RE) : RE := fun ex ρ Q => match dOf ρ i with
  | some kvs => ti ex ρ fun y => match keyD y.data with
    | some k => ∃ d, lkD kvs k = some d ∧ Q (.im d)
    | none => False
  | none => False
/-- k in d -/
def rDIn (i : Nat) (ti : RE) (c : Bool → Bool) : RE := fun ex ρ Q => match dOf ρ i with
  | some kvs => ti ex ρ fun y => match keyD y.data with
    | some k => Q (.im (.bool (c (lkD kvs k).isSome)))
    | none => False
  | none => False
/-- [.. for k in d ..], d the dict of slot i: it stays locked -/
def rLcD (i : Nat) (tg : Tgt) (tt : RT) (te : RE) (vs : List Nat) : RE := fun ex ρ Q => match ρ[i]? with
  | some (.ow (.dc kvs)) => kvs.length ≤ sizeLine ∧ lcL tg.go tt te (wipeP (ρ.set i (.ow (.dl kvs))) vs) (kvs.map fun kv => keyPD kv.1) [] Q
  | _ => False
section
variable {X : Cx} {Z : Zp} {N : List Str} {sc : Scope} {e f k : Expr} {te ti tf : RE} {pos p2 apos cpos tpos : Pos}
theorem ce_dnew : CE X Z (.Dict [] [] pos) rDNew := fun ex px => by
  refine pe_imp pe_dnewK ?_
  rintro σ H Q ⟨F, ρ, Q', rs, t, q⟩
  intro p hp
  exact q _ _ F _ t (.own rs.ext.fh hp) ⟨p, [p], rfl, ⟨rfl, [], upd_same, rfl, .nil⟩, fun a ha => by
    have ea : a = p := by simpa using ha
    subst ea
    exact ⟨hp, rs.ext.fh.free hp, _, upd_same⟩⟩
theorem cs_dput (hu : X.A.units + 1 < cLine) (A : WhD X N sc) (i : Nat) {x : Str} (hi : N[i]? = some x) (hv : Vis sc x) (hd : (x == ("__debug__" : Str)) = false) (hcd : (x == ("__classdict__" : Str)) = false) (he : CE X Z e te) (hk : CE X Z k ti)
    (hs : ∀ env, swapsWith e (some (.Subscript (.Name x p2) k tpos)) pos.line env = pure false := by intro _; rfl) : CS X Z (.Assign [.Subscript (.Name x p2) k tpos] e pos) (rDPut i te ti) := fun ex px => by
  refine ps_imp (ps_dput hu (pe_var (i := i) (by rw [A.hN]; exact hi) (by rw [A.hs]; exact hv) hd hcd) (hk ex px) (he ex px) (hs _)) ?_
  rintro D σ H ⟨F, ρ, D', rs, t, hx, n, b, kk, r⟩
  subst hx
  refine ⟨F, ρ, _, rs, t, fun x v F1 H1 q1 e1 o1 => ?_⟩
  obtain ⟨d, F2, q2, e2, d2⟩ := o1.frz e1 q1
  have rs2 := rs.grow e2
  split at q2
  · rename_i kvs hρ
    obtain ⟨p0, kv0, ep0, _⟩ := rs2.dict hρ
    refine ⟨.ref p0, ep0, F2, ρ, _, rs2, q2, fun y u F3 H3 q3 e3 o3 => ?_⟩
    split at q3
    · rename_i k hk
      obtain ⟨p, kv, ep, hp, a3, _, _, w, _⟩ := (rs2.grow e3).dict hρ
      rw [ep0] at ep
      cases ep
      exact ⟨p0, _, rfl, .inl ⟨kv, k, hp, o3.key e3.fh hk, by rw [dc_len a3]; exact q3.1, rfl⟩, n F3 _ σ _ (w _ _ (dc_put (dp_mono e3.ff d2) a3)) q3.2⟩
    · exact q3.elim
  · exact q2.elim
theorem ce_dgetv (hu : X.A.units + 1 < cLine) (A : Wh X N sc) (i : Nat) {x : Str} (hi : N[i]? = some x) (hv : Vis sc x) (hd : (x == ("__debug__" : Str)) = false) (hcd : (x == ("__classdict__" : Str)) = false) (hk : CE X Z k ti) (hf : CE X Z f tf) (hline : (apos.endLine == cpos.line) = true)
    (hbase : ∀ env, attributeBase (.Name x p2) "get" env (eval (.Name x p2) env) = eval (.Name x p2) env := by intro _; rfl)
    (hfew : ∀ env, ((backTo cpos (starEach [k, f] env)).all (fun x => !x.1) && (backToKw cpos (keywordEach [] env)).all (fun x => x.1.isSome)
      && decide ([k, f].length + ([] : List Keyword).length + (if ([] : List Keyword).isEmpty then 0 else 1) < 30)) = true := by intro _; rfl)
    (htr : ∀ env, backTo cpos (starEach [k, f] env) = [(false, eval k env), (false, eval f env)] := by intro _; rfl) : CE X Z (.Call (.Attribute (.Name x p2) "get" apos) [k, f] [] cpos) (rDGet i ti tf) := fun ex px => by
  refine pe_imp (pe_dget2 hu (pe_var (i := i) (by rw [A.hN]; exact hi) (by rw [A.hs]; exact hv) hd hcd) (hk ex px) (hf ex px) ⟨hbase _, hfew _, hline, htr _⟩) ?_
  rintro σ H Q ⟨F, ρ, Q', rs, t, q⟩
  unfold rDGet at t
  split at t
  · rename_i kvs hdo
    obtain ⟨p0, kv0, ep0, h0, _⟩ := rs.dictR hdo
    refine ⟨.ref p0, ep0, p0, rfl, .inl ⟨_, h0⟩, F, ρ, _, rs, t, fun y u F1 H1 q1 e1 o1 => ?_⟩
    refine ⟨F1, ρ, _, rs.grow e1, q1, fun z w F2 H2 q2 e2 o2 => ?_⟩
    obtain ⟨d, F3, q3, e3, d3⟩ := o2.frz e2 q2
    split at q3
    · rename_i k hk
      obtain ⟨p, kv, ep, hp, a⟩ := ((rs.grow e1).grow e3).dictR hdo
      rw [ep0] at ep
      cases ep
      refine ⟨_, .inl ⟨kv, k, hp, o1.key e1.fh hk, rfl⟩, ?_⟩
      rcases dc_lk k a with ⟨h1, h2⟩ | ⟨v, d', h1, h2, h3⟩
      · rw [h1]; rw [h2] at q3
        exact q _ w F3 H2 q3 (e1.trans e3) d3
      · rw [h1]; rw [h2] at q3
        exact q _ v F3 H2 q3 (e1.trans e3) h3
    · exact q3.elim
  · exact t.elim
theorem ce_dix (hu : X.A.units + 1 < cLine) (A : Wh X N sc) (i : Nat) {x : Str} (hi : N[i]? = some x) (hv : Vis sc x) (hd : (x == ("__debug__" : Str)) = false) (hcd : (x == ("__classdict__" : Str)) = false) (hk : CE X Z k ti) (hs : NoSl k) : CE X Z (.Subscript (.Name x p2) k pos) (rDIx i ti) := fun ex px => by
  refine pe_imp (pe_dget hu (pe_var (i := i) (by rw [A.hN]; exact hi) (by rw [A.hs]; exact hv) hd hcd) (hk ex px) hs) ?_
  rintro σ H Q ⟨F, ρ, Q', rs, t, q⟩
  unfold rDIx at t
  split at t
  · rename_i kvs hdo
    obtain ⟨p0, kv0, ep0, h0, _⟩ := rs.dictR hdo
    refine ⟨.ref p0, ep0, F, ρ, _, rs, t, fun y u F1 H1 q1 e1 o1 => ?_⟩
    split at q1
    · rename_i k hk
      obtain ⟨d, hlk, q1⟩ := q1
      obtain ⟨p, kv, ep, hp, a⟩ := (rs.grow e1).dictR hdo
      rw [ep0] at ep
      cases ep
      rcases dc_lk k a with ⟨h1, h2⟩ | ⟨v, d', h1, h2, h3⟩
      · rw [h2] at hlk; cases hlk
      · rw [h2] at hlk
        cases hlk
        exact ⟨p0, v, rfl, .inl ⟨kv, k, hp, o1.key e1.fh hk, h1.symm⟩, q _ v F1 H1 q1 e1 h3⟩
    · exact q1.elim
  · exact t.elim
/-- a comprehension over what is known of one walk in this heap alone -/
theorem lcJ_ok {g : Tgt} {tc : RT} {te : RE} {vs : List Nat} {ρ : Rho} {σ : L2.St} {F H : Hp} {Q' : PV → Prop} {Q : VK} (hv : ∀ i ∈ g.slots, i ∈ vs) (rs : RSz X.K Z F ρ σ H) (J : It) (ds : List PyData)
    (ok : ∀ F2 H2, Ext F H F2 H2 → ∀ i : Nat, (i < ds.length → J.go i H2) ∧ (∀ d x H', ds[i]? = some d → J.yld i H2 x H' → ∃ F', Ext F2 H2 F' H' ∧ Dp X.K F' x d) ∧ (ds.length ≤ i → J.stop i H2))
    (hlen : ds.length ≤ sizeLine) (t : lcL g.go tc te (wipeP ρ vs) ds [] Q')
    (q : ∀ acc F' H' D ws, Q' (.ow (.ls acc)) → Ext F H F' H' → H D = none → F' D = none → H' D = some (.lst ws) → DpAll X.K F' ws acc → Q (.ref D) H') :
    tLc (fun _ H R => R J H) (tgV X.K g) (lT X.K Z (tc fun _ _ => False)) (lE X.K Z (te fun _ _ => False)) vs σ H Q := by
  intro D hD
  have e1 : Ext F H F H := .refl rs.ext.fh
  have hFD : F D = none := e1.fh.free hD
  have e2 : Ext F H F (upd H D (.lst [])) := .own e1.fh hD
  refine ⟨fun i m H2 => m = ds.length - i ∧ i ≤ ds.length ∧ ∃ F2 acc ws, Ext F H F2 H2 ∧ F2 D = none ∧ H2 D = some (.lst ws) ∧ DpAll X.K F2 ws acc ∧ acc.length ≤ i ∧ lcR g.go tc te (wipeP ρ vs) (ds.drop i) acc Q',
    ⟨_, rfl, Nat.zero_le _, F, [], [], e2, hFD, upd_same, .nil, Nat.le_refl _, lcL_eq.mp t⟩, ?_⟩
  rintro i m H2 ⟨rfl, hi, F2, acc, ws, e3, nD, hvs, da, hacc, q2⟩
  obtain ⟨o1, o2, o3⟩ := ok F2 H2 e3 i
  by_cases hlt : i < ds.length
  · rw [List.drop_eq_getElem_cons hlt] at q2
    refine .inr ⟨o1 hlt, fun H' => ∃ F' acc ws, Ext F H F' H' ∧ F' D = none ∧ H' D = some (.lst ws) ∧ DpAll X.K F' ws acc ∧ acc.length ≤ i + 1 ∧ lcR g.go tc te (wipeP ρ vs) (ds.drop (i + 1)) acc Q', fun H' z => ⟨ds.length - (i + 1), by omega, rfl, hlt, z⟩, fun x H' hy => ?_⟩
    obtain ⟨F', e', dp⟩ := o2 _ x H' (List.getElem?_eq_getElem hlt) hy
    have e4 := e3.trans e'
    have rw' := (rs.grow e4).wipe vs
    refine tgt_ok rw' dp q2 fun ρ' σ' rs' q' hw => ⟨(hw _ hv).trans wipe_wipe, F', ρ', _, rs', q', fun z F3 H3 q3 e5 => ?_⟩
    have hD3 : ∀ {F H : Hp}, Ext F' H' F H → H D = some (.lst ws) ∧ F D = none := fun e => ⟨e.hh _ _ (e'.hh _ _ hvs), e.nw _ _ (e'.hh _ _ hvs) (e'.nw _ _ hvs nD)⟩
    cases z with
    | true =>
      refine iteT ?_
      refine ⟨F3, ρ', _, rs'.grow e5, q3.1 rfl, fun y v F4 H4 q4 e6 o4 => ?_⟩
      obtain ⟨d, F5, q5, e7, d5⟩ := o4.frz e6 q4
      have e8 := e5.trans e7
      obtain ⟨hv4, hn4⟩ := hD3 e8
      have e9 := e4.trans e8
      have s5 : Same F2 F5 := e'.ff.trans e8.ff
      refine ⟨ws, hv4, ?_, F5, acc ++ [d], ws ++ [v], ⟨e9.ff, same_upd2 e9.hh hD, same_upd2 e9.fh hn4, e9.nw⟩, hn4, upd_same, dpa_app (dpAll_mono s5 da) (.cons d5 .nil), by rw [List.length_append, List.length_singleton]; omega, q5⟩
      rw [dpa_len da]
      omega
    | false =>
      refine iteF ?_
      obtain ⟨hv4, hn4⟩ := hD3 e5
      exact ⟨F3, acc, ws, e4.trans e5, hn4, hv4, dpAll_mono (e'.ff.trans e5.ff) da, by omega, q3.2 rfl⟩
  · rw [List.drop_eq_nil_of_le (by omega)] at q2
    exact .inl ⟨o3 (by omega), q acc F2 H2 D ws q2 e3 hD nD hvs da⟩
/-- out of the lock -/
theorem ext_unlock {F H F' H' : Hp} {p : Addr} {u : HO} {od : Obj} (hp : H p = some u) (hF : F p = none) (e : Ext F (upd H p (.frz od u)) F' H') : H' p = some (.frz od u) ∧ F' p = none ∧ Ext F H F' (upd H' p u) := by
  have h1 : H' p = some (.frz od u) := e.hh _ _ upd_same
  have h2 : F' p = none := e.nw p _ upd_same hF
  refine ⟨h1, h2, e.ff, fun a o ha => ?_, same_upd2 e.fh h2, fun a o ha hn => ?_⟩
  · by_cases hap : a = p
    · subst hap; rw [hp] at ha; cases ha; exact upd_same
    · rw [upd_ne hap]; exact e.hh a o (by rw [upd_ne hap]; exact ha)
  · by_cases hap : a = p
    · subst hap; exact h2
    · exact e.nw a o (by rw [upd_ne hap]; exact ha) hn
theorem itk_ok {K : PySem.W.Frag} {F H : Hp} {p : Addr} {od : Obj} {kv : List (Key × V)} {kvs : List (Key × PyData)} (s : Same F H) (hp : H p = some (.frz od (.dK kv))) (a : DcAll K F kv kvs) :
    ∀ F2 H2, Ext F H F2 H2 → ∀ i : Nat, (i < (kvs.map fun kv => keyPD kv.1).length → (Itk p od kv).go i H2) ∧ (∀ d x H', (kvs.map fun kv => keyPD kv.1)[i]? = some d → (Itk p od kv).yld i H2 x H' → ∃ F', Ext F2 H2 F' H' ∧ Dp K F' x d) ∧ ((kvs.map fun kv => keyPD kv.1).length ≤ i → (Itk p od kv).stop i H2) := by
  intro F2 H2 e i
  have hp2 := e.hh _ _ hp
  have hl := dc_len a
  rw [List.length_map]
  refine ⟨fun h => ⟨hp2, by omega⟩, fun d x H' hd hy => ?_, fun h => ⟨hp2, by omega⟩⟩
  obtain ⟨rfl, k, v, hk, rfl⟩ := hy
  have h1 : (kv.map (·.1))[i]? = some k := by rw [List.getElem?_map, hk]; rfl
  rw [a.1, List.getElem?_map] at h1
  rw [List.getElem?_map] at hd
  cases hq : kvs[i]? with
  | none => rw [hq] at h1; cases h1
  | some q =>
    rw [hq] at h1 hd
    cases h1
    cases hd
    exact ⟨F2, .refl e.fh, dp_key _⟩
theorem ce_lcD {tg elt : Expr} {ifs : List Expr} {scope : Scope} {g : Tgt} {tc : RT} {own : List (Str × Nat)} {spos : Pos} (A : Wh X N sc) (hc : X.calm = true) (i : Nat) {x : Str} (hi : N[i]? = some x) (hvx : Vis sc x) (hd : (x == ("__debug__" : Str)) = false) (hcd : (x == ("__classdict__" : Str)) = false)
    (ok : BlkOk N sc scope own) (hv : ∀ i ∈ g.slots, i ∈ own.map (·.2))
    (hg : ∀ (s : Shared) (H : Hp) (C : Addr) (cl : List (Str × Addr)) (fp : List Addr), CG (X.blk s H scope (compEnvC scope cl C X.env) fp) tg g)
    (ht : ∀ (s : Shared) (H : Hp) (C : Addr) (cl : List (Str × Addr)) (fp : List Addr), CTs (X.blk s H scope (compEnvC scope cl C X.env) fp) Z ifs tc)
    (he : ∀ (s : Shared) (H : Hp) (C : Addr) (cl : List (Str × Addr)) (fp : List Addr), CE (X.blk s H scope (compEnvC scope cl C X.env) fp) Z elt te)
    (hs : ∀ env y, foldedSetIterable (.Name x p2) env y = pure y := by intro _ _; rfl) : CE X Z (.ListComp elt [⟨tg, .Name x p2, ifs, 0⟩] scope pos) (rLcD i g tc te (own.map (·.2))) := fun ex px => by
  refine pe_imp (pe_lock (pe_lc (g := tgV X.K g) (tt := lT X.K Z (tc fun _ _ => False)) (te := lE X.K Z (te fun _ _ => False)) hc (by rw [A.hN]; exact A.nd) (pi_keys (pe_var (i := i) (by rw [A.hN]; exact hi) (by rw [A.hs]; exact hvx) hd hcd)) (by rw [A.hN, A.hs]; exact ok) hg (fun s H C cl fp => ht s H C cl fp _ (px_no rfl)) (fun s H C cl fp => he s H C cl fp _ (px_no rfl)) (hs _))) ?_
  rintro σ H Q ⟨F, ρ, Q', rs, t, q⟩
  unfold rLcD at t
  split at t
  · rename_i kvs hρ
    obtain ⟨p, kv, ep, hp, a, hF, h0, _, wl⟩ := rs.dict hρ
    refine ⟨p, .dK kv, hp, trivial, fun od => ?_⟩
    have rsl := wl od
    have hpl : (upd H p (.frz od (.dK kv))) p = some (.frz od (.dK kv)) := upd_same
    refine ⟨.ref p, ep, p, od, rfl, .inl ⟨kv, hpl, ?_⟩⟩
    have key := lcJ_ok (Q := fun v H' => H' p = some (HO.frz od (HO.dK kv)) ∧ Q v (upd H' p (HO.dK kv))) (Z := Z) (te := te) (tc := tc) hv rsl (Itk p od kv) (kvs.map fun kv => keyPD kv.1) (itk_ok rsl.ext.fh hpl a) (by rw [List.length_map]; exact t.1) t.2 fun acc F' H' D ws q2 e hD hFD hHD da => by
      obtain ⟨u1, u2, u3⟩ := ext_unlock hp hF e
      refine ⟨u1, q _ _ F' _ q2 u3 ⟨D, [D], rfl, ⟨rfl, ws, ?_, da⟩, fun b hb => ?_⟩⟩
      · have hne : D ≠ p := fun z => by subst z; rw [upd_same] at hD; cases hD
        rw [upd_ne hne]; exact hHD
      · have eb : b = D := by simpa using hb
        subst eb
        have hne : b ≠ p := fun z => by subst z; rw [upd_same] at hD; cases hD
        refine ⟨by rw [upd_ne hne] at hD; exact hD, hFD, _, by rw [upd_ne hne]; exact hHD⟩
    exact key
  · exact t.elim
end
end Pz

namespace Pz
open PySem PySem.Spec PyProof.Rows L2
/-! ### a comprehension over an owned list, which stays owned -/
def rLcO (i : Nat) (tg : Tgt) (tt : RT) (te : RE) (vs : List Nat) : RE := fun ex ρ Q => match ρ[i]? with
  | some (.ow (.ls ds)) => ds.length ≤ sizeLine ∧ lcL tg.go tt te (wipeP ρ vs) ds [] Q
  | _ => False
section
variable {X : Cx} {Z : Zp} {N : List Str} {sc : Scope} {te : RE} {pos p2 : Pos}
theorem itl_ok {K : PySem.W.Frag} {F H : Hp} {p : Addr} {vs : List V} {ds : List PyData} (hp : H p = some (.lst vs)) (a : DpAll K F vs ds) :
    ∀ F2 H2, Ext F H F2 H2 → ∀ i : Nat, (i < ds.length → (Itl K p).go i H2) ∧ (∀ d x H', ds[i]? = some d → (Itl K p).yld i H2 x H' → ∃ F', Ext F2 H2 F' H' ∧ Dp K F' x d) ∧ (ds.length ≤ i → (Itl K p).stop i H2) := by
  intro F2 H2 e i
  have hS2 : SqL K H2 p vs := SqL.of (e.hh _ _ hp)
  refine ⟨fun hi => ?_, fun d x H' hd hy => ?_, fun hi => ⟨vs, hS2, by rw [dpa_len a]; exact hi⟩⟩
  · exact ⟨vs, vs[i]'(by rw [dpa_len a]; exact hi), hS2, by simp⟩
  · obtain ⟨rfl, f⟩ := hy
    obtain ⟨w, hw, dw⟩ := dpa_get a hd
    rw [f vs hS2] at hw
    cases hw
    exact ⟨F2, .refl e.fh, dp_mono e.ff dw⟩
theorem ce_lcO {tg elt : Expr} {ifs : List Expr} {scope : Scope} {g : Tgt} {tc : RT} {own : List (Str × Nat)} (A : Wh X N sc) (hc : X.calm = true) (i : Nat) {x : Str} (hi : N[i]? = some x) (hvx : Vis sc x) (hd : (x == ("__debug__" : Str)) = false) (hcd : (x == ("__classdict__" : Str)) = false)
    (ok : BlkOk N sc scope own) (hv : ∀ i ∈ g.slots, i ∈ own.map (·.2))
    (hg : ∀ (s : Shared) (H : Hp) (C : Addr) (cl : List (Str × Addr)) (fp : List Addr), CG (X.blk s H scope (compEnvC scope cl C X.env) fp) tg g)
    (ht : ∀ (s : Shared) (H : Hp) (C : Addr) (cl : List (Str × Addr)) (fp : List Addr), CTs (X.blk s H scope (compEnvC scope cl C X.env) fp) Z ifs tc)
    (he : ∀ (s : Shared) (H : Hp) (C : Addr) (cl : List (Str × Addr)) (fp : List Addr), CE (X.blk s H scope (compEnvC scope cl C X.env) fp) Z elt te)
    (hs : ∀ env y, foldedSetIterable (.Name x p2) env y = pure y := by intro _ _; rfl) : CE X Z (.ListComp elt [⟨tg, .Name x p2, ifs, 0⟩] scope pos) (rLcO i g tc te (own.map (·.2))) := fun ex px => by
  refine pe_imp (pe_lc (g := tgV X.K g) (tt := lT X.K Z (tc fun _ _ => False)) (te := lE X.K Z (te fun _ _ => False)) hc (by rw [A.hN]; exact A.nd) (pi_list (pe_var (i := i) (by rw [A.hN]; exact hi) (by rw [A.hs]; exact hvx) hd hcd)) (by rw [A.hN, A.hs]; exact ok) hg (fun s H C cl fp => ht s H C cl fp _ (px_no rfl)) (fun s H C cl fp => he s H C cl fp _ (px_no rfl)) (hs _)) ?_
  rintro σ H Q ⟨F, ρ, Q', rs, t, q⟩
  unfold rLcO at t
  split at t
  · rename_i ds hρ
    obtain ⟨p, vs0, ep, hp, a, _⟩ := rs.owned hρ
    have key := lcJ_ok (Q := Q) (Z := Z) (te := te) (tc := tc) hv rs (Itl X.K p) ds (itl_ok hp a) t.1 t.2 fun acc F' H' D ws q2 e hD hFD hHD da =>
      q _ _ F' _ q2 e ⟨D, [D], rfl, ⟨rfl, ws, hHD, da⟩, fun b hb => by
        have eb : b = D := by simpa using hb
        subst eb
        exact ⟨hD, hFD, _, hHD⟩⟩
    exact ⟨.ref p, ep, p, rfl, ⟨_, SqL.of hp⟩, key⟩
  · exact t.elim
end
/-! ### tuple(list) -/
def gTupL : PV → (PV → Prop) → Prop := fun x Q => match x.data with
  | .list ds => x.fz = true ∧ Q (.im (.tuple ds))
  | _ => False
section
variable {X : Cx} {Z : Zp} {N : List Str} {sc : Scope} {a : Expr} {ta : RE} {pos p : Pos}
theorem ce_tupOf (A : Wh X N sc) (hg : GlN sc "tuple") (hm : X.mg "tuple" = none) (ha : CE X Z a ta) (hs : ∀ env, starEach [a] env = (false, eval a env) :: starEach [] env := by intro _; rfl) :
    CE X Z (.Call (.Name "tuple" p) [a] [] pos) (rFn1 gTupL ta) := fun ex px => by
  refine pe_imp (pe_tupleOf (show X.env.scope.names.lookup _ = _ by rw [A.hs]; exact hg) hm (ha ex px) (hs _)) ?_
  rintro σ H Q ⟨F, ρ, Q', rs, t, q⟩
  refine ⟨F, ρ, _, rs, t, fun x v F1 H1 q1 e1 o1 => ?_⟩
  unfold gTupL at q1
  split at q1
  · rename_i ds hx
    obtain ⟨p, vs, rfl, h2, h3⟩ := o1.lstF e1.fh hx q1.1
    exact .inl ⟨p, vs, rfl, h2, fun l hl => q _ _ _ _ q1.2 (e1.trans (.new e1.fh hl)) (show Dp X.K _ _ _ from .tup (SqT.of upd_same) (dpAll_mono (same_upd (e1.fh.free hl)) h3))⟩
  · exact q1.elim
end
/-! ### a, b, c = [x, y, z], each new -/
def rOws : List RE → List Nat → XW → Rho → Rho → (Rho → Prop) → Prop
  | te :: tes, i :: is, ex, ρ, ρ', Q => te ex ρ fun x => x.sto fun y => rOws tes is ex ρ (ρ'.set i y) Q
  | [], [], _, _, ρ', Q => Q ρ'
  | _, _, _, _, _, _ => False
def rUnpL (tes : List RE) (is : List Nat) : RC := fun D ρ => rOws tes is D.ex ρ ρ D.nx
def setV (σ : L2.St) : List Nat → List V → L2.St
  | i :: is, v :: vs => setV (σ.set i (some v)) is vs
  | _, _ => σ
inductive COs (X : Cx) (Z : Zp) : List Expr → List RE → Prop
  | nil : COs X Z [] []
  | cons {e : Expr} {es : List Expr} {te : RE} {tes : List RE} : CE X Z e te → COs X Z es tes → (∀ env, starEach (e :: es) env = (false, eval e env) :: starEach es env) → COs X Z (e :: es) (te :: tes)
theorem cos_nil {X : Cx} {Z : Zp} : COs X Z [] [] := .nil
theorem cos_cons {X : Cx} {Z : Zp} {e : Expr} {es : List Expr} {te : RE} {tes : List RE} (h : CE X Z e te) (k : COs X Z es tes) (hs : ∀ env, starEach (e :: es) env = (false, eval e env) :: starEach es env := by intro _; rfl) : COs X Z (e :: es) (te :: tes) := .cons h k hs
def lOs (K : PySem.W.Frag) (Z : Zp) (tes : List RE) (ex : XW) : TA := fun σ H Q => ∃ F ρ ρ' σ' is Q', RSz K Z F ρ σ H ∧ RSz K Z F ρ' σ' H ∧ rOws tes is ex ρ ρ' Q' ∧
  ∀ vs ρ'' F' H', Q' ρ'' → vs.length = is.length → RSz K Z F' ρ'' (setV σ' is vs) H' → Ext F H F' H' → Q vs H'
theorem cos_pa {X : Cx} {Z : Zp} : ∀ {es : List Expr} {tes : List RE}, COs X Z es tes → ∀ ex, PX X Z ex → PA X es (lOs X.K Z tes ex)
  | _, _, .nil, ex, px => by
    refine pa_imp pa_nil ?_
    rintro σ H Q ⟨F, ρ, ρ', σ', is, Q', rs, rs', t, q⟩
    cases is with
    | nil => exact q [] ρ' F H t rfl rs' (.refl rs.ext.fh)
    | cons _ _ => exact t.elim
  | _, _, .cons he hr hs, ex, px => by
    refine pa_imp (pa_cons (he ex px) (cos_pa hr ex px) (hs _)) ?_
    rintro σ H Q ⟨F, ρ, ρ', σ', is, Q', rs, rs', t, q⟩
    cases is with
    | nil => exact t.elim
    | cons i is =>
      refine ⟨F, ρ, _, rs, t, fun x v F1 H1 q1 e1 o1 => ?_⟩
      obtain ⟨k1, q1⟩ := PV.sto_ok q1
      refine ⟨F1, ρ, ρ'.set i x, σ'.set i (some v), is, Q', rs.grow e1, rs'.store e1 o1 k1, q1, fun vs ρ'' F' H' hq hl hrs e => ?_⟩
      exact q (v :: vs) ρ'' F' H' hq (by simp [hl]) hrs (e1.trans e)
theorem setV_ok {H : Hp} {Q : L2.St → Hp → Prop} : ∀ {is : List Nat} {vs : List V} {σ : L2.St}, vs.length = is.length → Q (setV σ is vs) H → tgN is vs σ H Q
  | [], [], σ, _, q => ⟨rfl, q⟩
  | [], _ :: _, _, h, _ => by cases h
  | _ :: _, [], _, h, _ => by cases h
  | i :: is, v :: vs, σ, h, q => ⟨v, vs, rfl, setV_ok (is := is) (vs := vs) (σ := σ.set i (some v)) (by simpa using h) q⟩
theorem rOws_len {ex : XW} {ρ : Rho} {Q : Rho → Prop} : ∀ {tes : List RE} {is : List Nat} {ρ' : Rho}, rOws tes is ex ρ ρ' Q → True := fun _ => trivial
section
variable {X : Cx} {Z : Zp} {N : List Str} {sc : Scope} {pos : Pos}
theorem cs_unpL {es tgs : List Expr} {tes : List RE} {is : List Nat} {kt : Nat} {pt pl : Pos} (A : WhD X N sc) (hc : X.calm = true) (he : COs X Z es tes) (hg : CGs X tgs is) (hn : tgs.length = is.length)
    (hl : tgs.length ≤ 1000 := by decide)
    (hn2 : ∀ env, (assignEach tgs env).length = tgs.length := by intro _; rfl) (hst : ∀ env, (assignEach tgs env).findIdx? (·.1) = none := by intro _; rfl)
    (hs : ∀ env, swapsWithSole [.Tuple tgs kt pt] (.List es pl) pos.line env = pure false := by intro _; rfl) (hw : ∀ env, swappedStores [.Tuple tgs kt pt] (.List es pl) env = pure none := by intro _; rfl) (h1 : ∀ env, (assignEach [.Tuple tgs kt pt] env).map (·.2) = [assign (.Tuple tgs kt pt) env] := by intro _; rfl) :
    CS X Z (.Assign [.Tuple tgs kt pt] (.List es pl) pos) (rUnpL tes is) := fun ex px => by
  refine ps_imp (ps_asg (pe_lst (cos_pa he ex px)) (pg_lst hc hg ((hn2 _).trans hn) (hst _)) (hs _) (hw _) (h1 _)) ?_
  rintro D σ H ⟨F, ρ, D', rs, t, hx, n, b, k, r⟩
  subst hx
  refine ⟨F, ρ, ρ, σ, is, D'.nx, rs, rs, t, fun vs ρ'' F' H' q hvl hrs e => ⟨small_line (by rw [hvl, ← hn]; exact hl), fun p hp => ?_⟩⟩
  have e2 : Ext F' H' F' (upd H' p (.lst vs)) := .own e.fh hp
  exact ⟨p, vs, rfl, SqL.of upd_same, hvl, setV_ok hvl (n F' ρ'' _ _ (hrs.grow e2) q)⟩
/-- s = [x, y][e]; s[k] = v: the list of x, or of y, changes; s is forgotten -/
def rAlias (i j s : Nat) (te tv tk : RE) : RC := fun D ρ => (∃ a b, ρ[i]? = some (.ow (.ls a)) ∧ ρ[j]? = some (.ow (.ls b))) ∧ te D.ex ρ fun x => s < ρ.length ∧ s ≠ i ∧ s ≠ j ∧ ∃ m, ((x.data = .int 0 ∧ m = i) ∨ (x.data = .int 1 ∧ m = j)) ∧
  tv D.ex (ρ.set s .un) fun y => y.frz fun d => match (ρ.set s .un)[m]? with
    | some (.ow (.ls ds)) => tk D.ex (ρ.set s .un) fun z => match z.data with
      | .int k => ∃ q, ixN ds.length k = some q ∧ D.nx ((ρ.set s .un).set m (.ow (.ls (ds.set q d))))
      | _ => False
    | _ => False
theorem css_alias {e v k : Expr} {te tv tk : RE} {tr : RC} {rest : List Stmt} {p1 p2 p3 p4 p5 p6 p7 tpos : Pos} (A : WhD X N sc) (i j s : Nat) {xi xj xs : Str} (hi : N[i]? = some xi) (hj : N[j]? = some xj) (hs : N[s]? = some xs)
    (vi : Vis sc xi) (vj : Vis sc xj) (vs : Vis sc xs) (ls : Loc sc xs) (di : (xi == ("__debug__" : Str)) = false) (ci : (xi == ("__classdict__" : Str)) = false) (dj : (xj == ("__debug__" : Str)) = false) (cj : (xj == ("__classdict__" : Str)) = false) (dS : (xs == ("__debug__" : Str)) = false) (cS : (xs == ("__classdict__" : Str)) = false)
    (he : CE X Z e te) (hv : CE X Z v tv) (hk : CE X Z k tk) (hrest : CSs X Z rest tr)
    (h1 : ∀ env, starEach [.Name xi p1, .Name xj p2] env = (false, eval (.Name xi p1) env) :: starEach [.Name xj p2] env := by intro _; rfl) (h2 : ∀ env, starEach [.Name xj p2] env = (false, eval (.Name xj p2) env) :: starEach [] env := by intro _; rfl)
    (h3 : ∀ o i, subscripted e false o i = operate [o, i] (getItem o i) := by intro _ _; rfl)
    (h4 : ∀ env, swapsWith (.Subscript (.List [.Name xi p1, .Name xj p2] p3) e p4) (some (.Name xs p5)) p6.line env = pure false := by intro _; rfl)
    (ha : ∀ env v, assign (.Subscript (.Name xs p7) k tpos) env v = (do
      let ov ← holding [v] (eval (.Name xs p7) env)
      let iv ← holding [v, ov] (eval k env)
      standAt tpos
      holding [v, ov, iv] (setItem ov iv v)
      release [v, ov, iv] []) := by intro _ _; rfl)
    (h5 : ∀ env, swapsWithSole [.Subscript (.Name xs p7) k tpos] v pos.line env = pure false := by intro _; rfl) (h6 : ∀ env, swappedStores [.Subscript (.Name xs p7) k tpos] v env = pure none := by intro _; rfl) :
    CSs X Z (.Assign [.Name xs p5] (.Subscript (.List [.Name xi p1, .Name xj p2] p3) e p4) p6 :: .Assign [.Subscript (.Name xs p7) k tpos] v pos :: rest) (rSeq (rAlias i j s te tv tk) tr) := fun ex px => by
  have S := A.sto hs ls
  have VV : ∀ {q : Pos} {m : Nat} {x : Str}, N[m]? = some x → Vis sc x → (x == ("__debug__" : Str)) = false → (x == ("__classdict__" : Str)) = false → PE X (.Name x q) (fun σ H Q => ∃ v, σ[m]? = some (some v) ∧ Q v H) := fun hm hv hd hc => pe_var (by rw [A.hN]; exact hm) (by rw [A.hs]; exact hv) hd hc
  refine pss_imp (pss_cons (ps_set S.nd S.hi S.hx (pe_ix ix_seq (pe_lst (pa_cons (VV hi vi di ci) (pa_cons (VV hj vj dj cj) pa_nil (h2 _)) (h1 _))) (he ex px) h3) (h4 _) S.hf)
    (pss_cons (ps_asg (hv ex px) (pg_sub (VV hs vs dS cS) (hk ex px) set_list (ha _)) (h5 _) (h6 _) rfl) (hrest ex px))) ?_
  rintro D σ H ⟨F, ρ, D', rs, t, hx, n, b, k', r⟩
  subst hx
  obtain ⟨⟨a0, b0, ei, ej⟩, t⟩ := t
  obtain ⟨pi, _, epi, _, _, _⟩ := rs.owned ei
  obtain ⟨pj, _, epj, _, _, _⟩ := rs.owned ej
  refine ⟨.ref pi, epi, .ref pj, epj, small_line (by simp), fun l hl => ?_⟩
  have e0 : Ext F H F (upd H l (.lst [.ref pi, .ref pj])) := .own rs.ext.fh hl
  refine ⟨F, ρ, _, rs.grow e0, t, fun x w F1 H1 q1 e1 o1 => ?_⟩
  obtain ⟨hsl, nsi, nsj, m, hm, q1⟩ := q1
  have hS : SqL X.K H1 l [.ref pi, .ref pj] := SqL.of (e1.hh _ _ upd_same)
  obtain ⟨pm, xv, exv, hxm, epm⟩ : ∃ (pm : Addr) (xv : Int), x.data = .int xv ∧ L2.atI [V.ref pi, V.ref pj] xv = some (V.ref pm) ∧ σ[m]? = some (some (.ref pm)) := by
    rcases hm with ⟨h, rfl⟩ | ⟨h, rfl⟩
    · exact ⟨pi, 0, h, rfl, epi⟩
    · exact ⟨pj, 1, h, rfl, epj⟩
  have nsm : s ≠ m := by rcases hm with ⟨_, rfl⟩ | ⟨_, rfl⟩ <;> assumption
  refine .inl ⟨l, _, xv, .ref pm, rfl, o1.int e1.fh exv, hS, hxm, ?_⟩
  have rs1 := ((rs.grow e0).grow e1).forget s (some (.ref pm))
  have hσ : s < σ.length := by rw [← rs.len]; exact hsl
  have es : (σ.set s (some (.ref pm)))[s]? = some (some (.ref pm)) := List.getElem?_set_self hσ
  have em : (σ.set s (some (.ref pm)))[m]? = some (some (.ref pm)) := by rw [List.getElem?_set_ne nsm]; exact epm
  refine ⟨F1, _, _, rs1, q1, fun y u F2 H2 q2 e2 o2 => ?_⟩
  obtain ⟨d, F3, q3, e3, d3⟩ := o2.frz e2 q2
  have rs2 := rs1.grow e3
  refine ⟨.ref pm, es, ?_⟩
  split at q3
  · rename_i ds hρ
    refine ⟨F3, _, _, rs2, q3, fun z u' F4 H4 q4 e4 o4 => ?_⟩
    split at q4
    · rename_i kk hkk
      obtain ⟨q, hq, q4⟩ := q4
      obtain ⟨p, vs, ep, hp, a3, w⟩ := (rs2.grow e4).owned hρ
      rw [em] at ep
      cases ep
      refine ⟨pm, vs, kk, q, rfl, o4.int e4.fh hkk, hp, by rw [dpa_len a3]; exact hq, ?_⟩
      exact ⟨F4, _, D', w _ _ (dpa_set (dp_mono e4.ff d3) q a3), q4, rfl, n, b, k', r⟩
    · exact q4.elim
  · exact q3.elim
end
end Pz

namespace Pz
open PySem PySem.Spec PyProof.Rows L2
/-! ### try with two clauses; len(set(..)) of whole numbers -/
def rTry2 (tb : RC) (h h' : Xn) (R : List Xn) (ts ts' : RC) : RC := fun D ρ => tb { D with ex := fun c ρ' => c ∈ R ∧
  (subX c h = true → ts { D with ex := fun _ _ => False } ρ') ∧ (subX c h = false → (subX c h' = true → ts' { D with ex := fun _ _ => False } ρ') ∧ (subX c h' = false → D.ex c ρ')) } ρ
section
variable {X : Cx} {Z : Zp} {N : List Str} {sc : Scope} {c h h' : Xn} {R : List Xn} {p p2 np np' pos pos' pos'' : Pos}
theorem cs_try2 {body suite suite' : List Stmt} {b₀ b₀' : Stmt} {tb ts ts' : RC} (A : WhD X N sc) (T : ExcT X.K X.mg Z.cl h) (T' : ExcT X.K X.mg Z.cl h') (hg : GlN sc h.nm) (hg' : GlN sc h'.nm) (hdb : (h.nm == ("__debug__" : Str)) = false) (hdb' : (h'.nm == ("__debug__" : Str)) = false)
    (hR : ∀ c ∈ R, PySem.W.subIn X.K (.ref (Z.cl c)) (.ref (Z.cl h)) = some (subX c h)) (hR' : ∀ c ∈ R, PySem.W.subIn X.K (.ref (Z.cl c)) (.ref (Z.cl h')) = some (subX c h'))
    (hb : ∀ (pn : List (Addr × Obj)) (xe : Value → Shared → Prop), CSs (X.tr pn xe) Z body tb)
    (hsu : ∀ (a : Addr) (oe : Obj) (pn : List (Addr × Obj)), CSs (X.suite a ((a, oe) :: pn)) Z (b₀ :: suite) ts) (hsu' : ∀ (a : Addr) (oe : Obj) (pn : List (Addr × Obj)), CSs (X.suite a ((a, oe) :: pn)) Z (b₀' :: suite') ts') :
    CS X Z (.Try body [.ExceptHandler (some (.Name h.nm np)) none (b₀ :: suite) pos', .ExceptHandler (some (.Name h'.nm np')) none (b₀' :: suite') pos''] [] [] pos) (rTry2 tb h h' R ts ts') := fun ex px => by
  refine ps_imp (L2.ps_try_many (tb := lTb X.K Z tb) (l := [(.ref (Z.cl h), fun a cls d => lS X.K Z (fun _ _ => False) ts), (.ref (Z.cl h'), fun a cls d => lS X.K Z (fun _ _ => False) ts')]) A.stk A.frm px.tk (tb_ok hb)
    (.cons ⟨show X.env.scope.names.lookup _ = _ by rw [A.hs]; exact hg, hdb, .inl T.g⟩ (fun a oe cls d pn hz hf => hsu a oe pn _ (px_no rfl))
      (.cons ⟨show X.env.scope.names.lookup _ = _ by rw [A.hs]; exact hg', hdb', .inl T'.g⟩ (fun a oe cls d pn hz hf => hsu' a oe pn _ (px_no rfl)) .nil))) ?_
  rintro D σ H ⟨F, ρ, D', rs, t, hx, n, b, k, r⟩
  subst hx
  refine ⟨_, ?_, F, ρ, _, rs, t, rfl, n, b, k, r⟩
  rintro cls d σ1 H1 ⟨c, F1, ρ1, rfl, rfl, rs1, hc, hc1, hc2⟩
  exact ⟨subX c h, exm_exc T (hR c hc), fun hs a ha => ⟨F1, _, _, rs1, hc1 hs, rfl, n, b, k, r⟩, fun hs => ⟨subX c h', exm_exc T' (hR' c hc), fun hs' a ha => ⟨F1, _, _, rs1, (hc2 hs).1 hs', rfl, n, b, k, r⟩, fun hs' => ⟨c, F1, ρ1, rfl, rfl, rs1, (hc2 hs).2 hs'⟩⟩⟩
/-- how many different ones -/
def dcount (ns : List Int) : Nat := (firstMet (fun i => ns.getD i 0) ns.length).length
def tLenSetG (K : PySem.W.Frag) (ta : TE) : TE := fun σ H Q => ta σ H fun x H1 => ∃ (l : Addr) (ns : List Int), x = .ref l ∧ SqL K H1 l (ns.map V.int) ∧ ns.length ≤ 4000 ∧ Q (.int (dcount ns : Nat)) H1
theorem pe_lenSetG {a : Expr} {ta : TE} {q pos : Pos} (hg : Gl X "len") (hm : X.mg "len" = none) (hg2 : Gl X "set") (hm2 : X.mg "set" = none) (ha : PE X a ta) (hc : X.calm = true)
    (na : starEach [a] X.env = (false, eval a X.env) :: starEach [] X.env) : PE X (.Call (.Name "len" p) [.Call (.Name "set" p2) [a] [] q] [] pos) (tLenSetG X.K ta) := by
  refine ⟨fun pins s σ H Q I h => ?_⟩
  refine Call_ (ld_blt I hg hm boot_len ?_)
  refine PyProof.Rows.callWith_builtin1 (PyProof.Rows.args_cons ?_ rfl) rfl rfl
  refine Call_ (ld_blt I hg2 hm2 boot_set ?_)
  refine PyProof.Rows.callWith_type1 (PyProof.Rows.args_cons (thn (ha.run pins s σ H _ I h) fun v s1 ⟨x, H1, I1, r1, q1⟩ => PyProof.Rows.args_nil ?_) na) na rfl
  obtain ⟨l, ns, rfl, hq, hl, q1⟩ := q1
  cases r1
  obtain ⟨its, r, pl, hz⟩ := I1.list hq
  have hlen : its.toArray.size = ns.length := by rw [List.size_toArray, ← r.length, List.length_map]
  refine call_set_list (I1.ok.hd hc) pl.isList (by simpa using RZ.intsAre_vals r) (by rw [hlen]; unfold scanBound; omega) fun h' tk hS hk => ?_
  refine PyProof.Rows.args_nil ?_
  rw [hlen] at hS
  have hle := firstMet_length_le (fun i => ns.getD i 0) ns.length
  obtain ⟨o, es, ep, t, ho, hex, hd, _, _, _, hf, hn⟩ := hS
  have I2 : Inv X pins σ H1 { s1 with heap := h', toks := tk } := I1.kept fun b o e => hk b o (Heap.lt_size e) e
  exact call_len_set ho hex hd hf (by rw [hn] <;> omega) ⟨.int (dcount ns : Nat), H1, I2.tok _, ⟨_, by rw [hn]; rfl⟩, q1⟩
def rLenSet (te : RE) : RE := fun ex ρ Q => te ex ρ fun x => match x.data with
  | .list ds => ∃ ns : List Int, ds = ns.map .int ∧ ns.length ≤ 4000 ∧ Q (.im (.int (dcount ns)))
  | _ => False
theorem ce_lenSet {a : Expr} {ta : RE} {q pos : Pos} (A : Wh X N sc) (hc : X.calm = true) (hf : GlN sc "len") (hm : X.mg "len" = none) (hf2 : GlN sc "set") (hm2 : X.mg "set" = none) (ha : CE X Z a ta)
    (hs : ∀ env, starEach [a] env = (false, eval a env) :: starEach [] env := by intro _; rfl) : CE X Z (.Call (.Name "len" p) [.Call (.Name "set" p2) [a] [] q] [] pos) (rLenSet ta) := fun ex px => by
  refine pe_imp (pe_lenSetG (show X.env.scope.names.lookup _ = _ by rw [A.hs]; exact hf) hm (show X.env.scope.names.lookup _ = _ by rw [A.hs]; exact hf2) hm2 (ha ex px) hc (hs _)) ?_
  rintro σ H Q ⟨F, ρ, Q', rs, t, qq⟩
  refine ⟨F, ρ, _, rs, t, fun x v F1 H1 q1 e1 o1 => ?_⟩
  split at q1
  · rename_i ds hx
    obtain ⟨ns, rfl, hl, q1⟩ := q1
    obtain ⟨l, vs, rfl, hS, da⟩ := o1.lst e1.fh hx
    have e := dpa_ints_inv da
    subst e
    exact ⟨l, ns, rfl, hS, hl, qq _ _ F1 H1 q1 e1 (Dp.int _)⟩
  · exact q1.elim
/-- x in a tuple of whole numbers -/
def inT : CmpP := fun x y Q => match x, y with
  | .int i, .tuple ds => ∃ ns : List Int, ds = ns.map .int ∧ Q (ns.any (· == i))
  | _, _ => False
theorem inV_ints (i : Int) (ns : List Int) : inV (.int i) (ns.map V.int) = ns.any (· == i) := by
  unfold inV
  rw [List.any_map]
  rfl
theorem flat_intsV (ns : List Int) : (ns.map V.int).all flatV = true := by
  rw [List.all_eq_true]
  intro x m
  obtain ⟨n, _, rfl⟩ := List.mem_map.1 m
  rfl
theorem cmpg_inT : CmpG X (rIn X.K false) inT := by
  intro F H0 H x y v u Q' Q s ox oy h q
  unfold inT at h
  split at h
  · rename_i i ds hx hy
    obtain ⟨ns, rfl, h⟩ := h
    obtain ⟨p, vs, rfl, hS, da⟩ := oy.tup s hy
    have e := dpa_ints_inv da
    subst e
    have e2 := ox.int s hx
    subst e2
    exact ⟨p, _, rfl, .inr hS, rfl, flat_intsV ns, by rw [inV_ints]; exact q _ h⟩
  · exact h.elim
theorem ce_inT {a b : Expr} {ta tb : RE} (ha : CE X Z a ta) (hb : CE X Z b tb) (hm : behindInMarks .In b = false := by rfl) : CE X Z (.Compare a [.In] [b] pos) (rCmp inT ta tb) := ce_cmp op_in_seq cmpg_inT hm ha hb
theorem ct_inT {a b : Expr} {ta tb : RE} (ha : CE X Z a ta) (hb : CE X Z b tb) (hm : behindInMarks .In b = false := by rfl) : CT X Z (.Compare a [.In] [b] pos) (rCmpT inT ta tb) := ct_cmp op_in_seq cmpg_inT hm ha hb
/-- for a in xs: if c: return e; xs an owned list, which stays owned -/
def rForChk (i k : Nat) (tc : RT) (te : RE) : RC := fun D ρ => match ρ[i]? with
  | some (.ow (.ls ds)) => forL (Tgt.nm k).go (rIf tc (rRet te) rSkip) D ds ρ
  | _ => False
theorem cs_forChk {tg c e : Expr} {tc : RT} {te : RE} {p3 p4 : Pos} (A : Wh X N sc) (hc : X.calm = true) (i k : Nat) {x : Str} (hi : N[i]? = some x) (hvx : Vis sc x) (hd : (x == ("__debug__" : Str)) = false) (hcd : (x == ("__classdict__" : Str)) = false) (hk : k ≠ i)
    (hg : CG X tg (.nm k)) (hT : CT X Z c tc) (hR : CE X Z e te) (hs : ∀ env y, foldedSetIterable (.Name x p2) env y = pure y := by intro _ _; rfl) :
    CS X Z (.For tg (.Name x p2) [.If c [.Return (some e) p3] [] p4] [] pos) (rForChk i k tc te) := fun ex px => by
  have hb : PSs X [.If c [.Return (some e) p3] [] p4] (tIfS (lT X.K Z (tc ex)) (tRet (lE X.K Z (te ex))) tNext) := pss_one (ps_if (hT ex px) (pss_one (ps_ret (hR ex px))) pss_nil)
  refine ps_imp (ps_for px.po hc (pi_list (pe_var (i := i) (by rw [A.hN]; exact hi) (by rw [A.hs]; exact hvx) hd hcd)) hg hb (hs _)) ?_
  rintro D σ H ⟨F, ρ, D', rs, t, hx, n, b, kk, r⟩
  subst hx
  unfold rForChk at t
  split at t
  · rename_i ds hρ
    obtain ⟨p, vs0, ep, hp, a, _⟩ := rs.owned hρ
    refine ⟨.ref p, ep, p, rfl, ⟨_, SqL.of hp⟩, ?_⟩
    have q := forL_eq.mp t
    refine ⟨fun j m σ H => m = ds.length - j ∧ j ≤ ds.length ∧ ∃ F ρ, RSz X.K Z F ρ σ H ∧ ρ[i]? = some (.ow (.ls ds)) ∧ σ[i]? = some (some (.ref p)) ∧ forR (Tgt.nm k).go (rIf tc (rRet te) rSkip) D' (ds.drop j) ρ, ⟨_, rfl, Nat.zero_le _, F, ρ, rs, hρ, ep, q⟩, ?_⟩
    rintro j m σ H ⟨rfl, hj, F2, ρ2, rs2, hρ2, ep2, q2⟩
    obtain ⟨p', vs, ep', hp', a', _⟩ := rs2.owned hρ2
    have epp : p' = p := by
      rw [ep2] at ep'
      injection ep' with h1
      injection h1 with h1
      injection h1 with h1
      exact h1.symm
    subst epp
    obtain ⟨o1, o2, o3⟩ := itl_ok hp' a' F2 H (.refl rs2.ext.fh) j
    by_cases hlt : j < ds.length
    · rw [List.drop_eq_getElem_cons hlt] at q2
      refine .inr ⟨o1 hlt, fun σ' H' => ∃ F ρ, RSz X.K Z F ρ σ' H' ∧ ρ[i]? = some (.ow (.ls ds)) ∧ σ'[i]? = some (some (.ref p')) ∧ forR (Tgt.nm k).go (rIf tc (rRet te) rSkip) D' (ds.drop (j + 1)) ρ, fun σ' H' z => ⟨ds.length - (j + 1), by omega, rfl, hlt, z⟩, fun y H' hy => ?_⟩
      obtain ⟨F', e', dp⟩ := o2 _ y H' (List.getElem?_eq_getElem hlt) hy
      have rs3 := (rs2.grow e').setIm (i := k) dp
      refine ⟨F', _, _, rs3, q2, fun z F3 H3 q3 e3 => ?_⟩
      have rs4 := rs3.grow e3
      cases z with
      | true =>
        show if true = true then tRet (lE X.K Z (te D'.ex)) _ _ _ else tNext _ _ _
        rw [if_pos rfl]
        exact ⟨F3, _, _, rs4, q3.1 rfl, fun x v F' H' q e o => r x v F' _ _ H' q (rs4.grow e) (o.earlier rs4.ext.hh)⟩
      | false =>
        show if false = true then tRet (lE X.K Z (te D'.ex)) _ _ _ else tNext _ _ _
        rw [if_neg Bool.false_ne_true]
        exact ⟨F3, _, rs4, by rw [List.getElem?_set_ne hk]; exact hρ2, by rw [List.getElem?_set_ne hk]; exact ep2, q3.2 rfl⟩
    · rw [List.drop_eq_nil_of_le (by omega)] at q2
      exact .inl ⟨o3 (by omega), n F2 ρ2 σ H rs2 q2⟩
  · exact t.elim
/-- a dict display of whole numbers, as a thing of which the kind alone is known -/
def rOdd : RE := fun _ _ Q => Q (.im (.dict [(.none, .none)]))
theorem ce_dodd {keys : List (Option Expr)} {values : List Expr} {dpos : Pos} (kvs : List (Int × Int)) (h : PPs X dpos keys values (intTrs kvs)) (hall : keys.all (·.isSome) = true) (hl : keys.length = values.length) (h0 : keys ≠ []) (h15 : keys.length ≤ 15) (hn : kvs.length ≤ 15) : CE X Z (.Dict keys values dpos) rOdd := fun ex px => by
  refine pe_imp (pe_disp h hall hl h0 h15) ?_
  rintro σ H Q ⟨F, ρ, Q', rs, t, q⟩
  intro p hp
  refine tPairs_ints kvs ⟨upd_same, intKvs kvs, ?_, by simpa using hn, ?_⟩
  · simp only [List.map_map]; rfl
  have hF := rs.ext.fh.free hp
  have e0 : Ext F H (upd F p (.dK (mergeK [] (intKvs kvs)))) (upd (upd H p (.dK [])) p (.dK (mergeK [] (intKvs kvs)))) := by
    obtain ⟨_, hh, _, _⟩ := own2 (o := .dK []) (o' := .dK (mergeK [] (intKvs kvs))) rs.ext.fh hp
    refine ⟨same_upd hF, hh, fun b x e => ?_, fun a u e n => none_upd n (ne_of_none e hp)⟩
    by_cases h : b = p
    · subst h; rw [upd_same] at e ⊢; exact e
    · rw [upd_ne h] at e
      rw [upd_ne h, upd_ne h]
      exact rs.ext.fh b x e
  exact q _ _ _ _ t e0 (Dp.odd upd_same)
/-- is, is not of truths -/
def isBP : CmpP := fun x y Q => match x, y with
  | .bool a, .bool b => Q (decide (a = b))
  | _, _ => False
def isnBP : CmpP := fun x y Q => match x, y with
  | .bool a, .bool b => Q (!decide (a = b))
  | _, _ => False
theorem cmpg_isB : CmpG X rIsB isBP := by
  intro F H0 H x y v u Q' Q s ox oy h q
  unfold isBP at h
  split at h
  · rename_i a b hx hy
    exact ⟨a, b, ox.boo s hx, oy.boo s hy, q _ h⟩
  · exact h.elim
theorem cmpg_isnB : CmpG X rNotB isnBP := by
  intro F H0 H x y v u Q' Q s ox oy h q
  unfold isnBP at h
  split at h
  · rename_i a b hx hy
    exact ⟨a, b, ox.boo s hx, oy.boo s hy, q _ h⟩
  · exact h.elim
section
variable {a b : Expr} {ta tb : RE}
theorem ce_isB (ha : CE X Z a ta) (hb : CE X Z b tb) : CE X Z (.Compare a [.Is] [b] pos) (rCmp isBP ta tb) := ce_cmp op_isBl cmpg_isB (nomark _) ha hb
theorem ce_isnB (ha : CE X Z a ta) (hb : CE X Z b tb) : CE X Z (.Compare a [.IsNot] [b] pos) (rCmp isnBP ta tb) := ce_cmp op_notBl cmpg_isnB (nomark _) ha hb
theorem ct_isB (ha : CE X Z a ta) (hb : CE X Z b tb) : CT X Z (.Compare a [.Is] [b] pos) (rCmpT isBP ta tb) := ct_cmp op_isBl cmpg_isB (nomark _) ha hb
theorem ct_isnB (ha : CE X Z a ta) (hb : CE X Z b tb) : CT X Z (.Compare a [.IsNot] [b] pos) (rCmpT isnBP ta tb) := ct_cmp op_notBl cmpg_isnB (nomark _) ha hb
end
end
end Pz

namespace Pz
open PySem PySem.Spec PyProof.Rows L2
/-! ### a tuple of two owned lists -/
theorem RS.writeAt {K : PySem.W.Frag} {F0 H0 F H : Hp} {ρ : Rho} {σ : L2.St} {i : Nat} {p q : Addr} {o : HO} {c c' : Oc} (r : RS K F0 H0 F ρ σ H) (hi : ρ[i]? = some (.ow c)) (hp : σ[i]? = some (some (.ref p)))
    (hw : ∀ fp, Own K F H p fp c → q ∈ fp ∧ Own K F (upd H q o) p fp c') : RS K F0 H0 F (ρ.set i (.ow c')) σ (upd H q o) := by
  obtain ⟨fps, h1, h2, h3⟩ := r.sl
  obtain ⟨p', e, w⟩ := h1 i _ _ hi hp
  cases e
  obtain ⟨hm, w'⟩ := hw _ w
  obtain ⟨n0, nF, u, hu⟩ := h2 i q hm
  have other : ∀ j, j ≠ i → ∀ a ∈ fps j, a ≠ q := fun j hj a ha z => hj (h3 j i a ha (by rw [z]; exact hm))
  have ext : Ext F0 H0 F (upd H q o) := ⟨r.ext.ff, same_upd2 r.ext.hh n0, same_upd2 r.ext.fh nF, r.ext.nw⟩
  refine ⟨ext, by rw [List.length_set]; exact r.len, fps, fun j y o' a b => ?_, fun j a ha => ?_, h3⟩
  · by_cases hj : j = i
    · subst hj
      rw [List.getElem?_set_self (List.getElem?_eq_some_iff.mp hi).1] at a
      rw [hp] at b
      cases a
      cases b
      exact ⟨p, rfl, w'⟩
    · rw [List.getElem?_set_ne (Ne.symm hj)] at a
      exact (h1 j y o' a b).keep (.refl _) fun x hx => upd_ne (other j hj x hx)
  · obtain ⟨q1, q2, u', hu'⟩ := h2 j a ha
    refine ⟨q1, q2, ?_⟩
    by_cases hap : a = q
    · subst hap; exact ⟨_, upd_same⟩
    · exact ⟨_, (upd_ne hap).trans hu'⟩
theorem RS.tl {K : PySem.W.Frag} {F0 H0 F H : Hp} {ρ : Rho} {σ : L2.St} {i : Nat} {d1 d2 : List PyData} (r : RS K F0 H0 F ρ σ H) (h : ρ[i]? = some (.ow (.tl d1 d2))) :
    ∃ p q1 q2 vs1 vs2, σ[i]? = some (some (.ref p)) ∧ H p = some (.tup [.ref q1, .ref q2]) ∧ H q1 = some (.lst vs1) ∧ H q2 = some (.lst vs2) ∧ DpAll K F vs1 d1 ∧ DpAll K F vs2 d2 ∧
      (∀ vs ds, DpAll K F vs ds → RS K F0 H0 F (ρ.set i (.ow (.tl ds d2))) σ (upd H q1 (.lst vs))) ∧ ∀ vs ds, DpAll K F vs ds → RS K F0 H0 F (ρ.set i (.ow (.tl d1 ds))) σ (upd H q2 (.lst vs)) := by
  obtain ⟨fps, h1, h2, h3⟩ := id r.sl
  have hl : i < σ.length := by rw [← r.len]; exact (List.getElem?_eq_some_iff.mp h).1
  obtain ⟨p, ev, q1, q2, vs1, vs2, efp, hne, e0, e1, e2, a1, a2⟩ := h1 i _ _ h (List.getElem?_eq_getElem hl)
  have ep : σ[i]? = some (some (.ref p)) := by rw [List.getElem?_eq_getElem hl, ev]
  have n1 : p ≠ q1 := L2.ne_of e0 e1 (by simp)
  have n2 : p ≠ q2 := L2.ne_of e0 e2 (by simp)
  have inj : ∀ {fp : List Addr} {x1 x2 : Addr} {w1 w2 : List V}, H p = some (.tup [.ref x1, .ref x2]) → x1 = q1 ∧ x2 = q2 := fun {fp x1 x2 w1 w2} hh => by
    rw [e0] at hh
    injection hh with hh; injection hh with hh
    injection hh with g1 hh
    injection hh with g2 _
    injection g1 with g1; injection g2 with g2
    exact ⟨g1.symm, g2.symm⟩
  refine ⟨p, q1, q2, vs1, vs2, ep, e0, e1, e2, a1, a2, fun vs ds a => r.writeAt h ep fun fp w => ?_, fun vs ds a => r.writeAt h ep fun fp w => ?_⟩
  · obtain ⟨x1, x2, w1, w2, rfl, hn, f0, f1, f2, b1, b2⟩ := w
    obtain ⟨rfl, rfl⟩ := inj (fp := []) (w1 := []) (w2 := []) f0
    exact ⟨by simp, x1, x2, vs, w2, rfl, hn, (upd_ne n1).trans f0, upd_same, (upd_ne hn.symm).trans f2, a, b2⟩
  · obtain ⟨x1, x2, w1, w2, rfl, hn, f0, f1, f2, b1, b2⟩ := w
    obtain ⟨rfl, rfl⟩ := inj (fp := []) (w1 := []) (w2 := []) f0
    exact ⟨by simp, x1, x2, w1, vs, rfl, hn, (upd_ne n2).trans f0, (upd_ne hn).trans f1, upd_same, b1, a⟩
/-- return (x, y), two owned lists -/
def rRetTl (i j : Nat) : RC := fun D ρ => match ρ[i]?, ρ[j]? with
  | some (.ow (.ls d1)), some (.ow (.ls d2)) => D.rt (.ow (.tl d1 d2)) ((ρ.set i .un).set j .un)
  | _, _ => False
/-- s[0].append(e); s[1].clear() -/
def rTlApp (i : Nat) (te : RE) : RC := fun D ρ => match ρ[i]? with
  | some (.ow (.tl d1 d2)) => te D.ex ρ fun x => x.frz fun d => d1.length < sizeLine ∧ D.nx (ρ.set i (.ow (.tl (d1 ++ [d]) d2)))
  | _ => False
def rTlClr (i : Nat) : RC := fun D ρ => match ρ[i]? with
  | some (.ow (.tl d1 _)) => D.nx (ρ.set i (.ow (.tl d1 [])))
  | _ => False
section
variable {X : Cx} {Z : Zp} {N : List Str} {sc : Scope} {e : Expr} {te : RE} {pos cpos apos p2 p3 p4 p5 : Pos} {n0 : Nat}
theorem cs_retTl {kk} (A : Wh X N sc) (i j : Nat) {x y : Str} (hi : N[i]? = some x) (hj : N[j]? = some y) (hij : i ≠ j) (hv : Vis sc x) (hv2 : Vis sc y) (hd : (x == ("__debug__" : Str)) = false) (hcd : (x == ("__classdict__" : Str)) = false) (hd2 : (y == ("__debug__" : Str)) = false) (hcd2 : (y == ("__classdict__" : Str)) = false)
    (hs : ∀ env, starEach [.Name x p2, .Name y p3] env = (false, eval (.Name x p2) env) :: starEach [.Name y p3] env := by intro _; rfl) (hs2 : ∀ env, starEach [.Name y p3] env = (false, eval (.Name y p3) env) :: starEach [] env := by intro _; rfl) :
    CS X Z (.Return (some (.Tuple [.Name x p2, .Name y p3] kk p4)) pos) (rRetTl i j) := fun ex px => by
  refine ps_imp (ps_ret (pe_tup (pa_cons (pe_var (i := i) (by rw [A.hN]; exact hi) (by rw [A.hs]; exact hv) hd hcd) (pa_cons (pe_var (i := j) (by rw [A.hN]; exact hj) (by rw [A.hs]; exact hv2) hd2 hcd2) pa_nil (hs2 _)) (hs _)))) ?_
  rintro D σ H ⟨F, ρ, D', rs, t, hx, n, b, k, r⟩
  unfold rRetTl at t
  split at t
  · rename_i d1 d2 h1 h2
    obtain ⟨p1, vs1, ep1, hp1, a1, _⟩ := rs.owned h1
    obtain ⟨p2, vs2, ep2, hp2, a2, _⟩ := rs.owned h2
    refine ⟨.ref p1, ep1, .ref p2, ep2, small_line (by simp), fun p hp => ?_⟩
    obtain ⟨fps, s1, s2, s3⟩ := id rs.sl
    obtain ⟨_, eq1, ⟨f1, _⟩⟩ := s1 i _ _ h1 ep1
    obtain ⟨_, eq2, ⟨f2, _⟩⟩ := s1 j _ _ h2 ep2
    cases eq1; cases eq2
    have m1 : p1 ∈ fps i := by rw [f1]; simp
    have m2 : p2 ∈ fps j := by rw [f2]; simp
    have hne : p1 ≠ p2 := fun z => hij (s3 i j p1 m1 (by rw [z]; exact m2))
    have x1 : p1 ≠ p := L2.ne_of_none hp1 hp
    have x2 : p2 ≠ p := L2.ne_of_none hp2 hp
    have e0 : Ext F H F (upd H p (.tup [.ref p1, .ref p2])) := .own rs.ext.fh hp
    refine r _ _ F _ _ _ t (((rs.grow e0).forget i none).forget j none) ⟨p, [p, p1, p2], rfl, ⟨p1, p2, vs1, vs2, rfl, hne, upd_same, (upd_ne x1).trans hp1, (upd_ne x2).trans hp2, a1, a2⟩, fun a ha => ?_⟩
    simp only [List.mem_cons, List.not_mem_nil, or_false] at ha
    rcases ha with rfl | rfl | rfl
    · exact ⟨rs.ext.hh.free hp, rs.ext.fh.free hp, _, upd_same⟩
    · exact ⟨(s2 i a m1).1, (s2 i a m1).2.1, _, (upd_ne x1).trans hp1⟩
    · exact ⟨(s2 j a m2).1, (s2 j a m2).2.1, _, (upd_ne x2).trans hp2⟩
  · exact t.elim
theorem cs_tlApp (A : WhD X N sc) (i : Nat) {x : Str} (hi : N[i]? = some x) (hv : Vis sc x) (hd : (x == ("__debug__" : Str)) = false) (hcd : (x == ("__classdict__" : Str)) = false) (he : CE X Z e te)
    (hline : (apos.endLine == cpos.line) = true) (hs : ∀ env, starEach [e] env = (false, eval e env) :: starEach [] env := by intro _; rfl) (hix : ∀ o i, subscripted (.Name x p2) false o i = operate [o, i] (getItem o i) := by intro _ _; rfl)
    (hbase : ∀ env, attributeBase (.Subscript (.Name x p2) (.Constant (.int 0) n0 p5) p3) "append" env (eval (.Subscript (.Name x p2) (.Constant (.int 0) n0 p5) p3) env) = eval (.Subscript (.Name x p2) (.Constant (.int 0) n0 p5) p3) env := by intro _; rfl)
    (hfew : ∀ env, ((backTo cpos (starEach [e] env)).all (fun x => !x.1) && (backToKw cpos (keywordEach [] env)).all (fun x => x.1.isSome)
      && decide ([e].length + ([] : List Keyword).length + (if ([] : List Keyword).isEmpty then 0 else 1) < 30)) = true := by intro _; rfl) :
    CS X Z (.Expr (.Call (.Attribute (.Subscript (.Name x p2) (.Constant (.int 0) n0 p5) p3) "append" apos) [e] [] cpos) pos) (rTlApp i te) := fun ex px => by
  refine ps_imp (ps_expr (pe_bm PySem.F.plainAttrs_list PySem.F.slot_list_append PySem.F.type_list_append mt_append (pe_ix ix_seq (pe_var (i := i) (by rw [A.hN]; exact hi) (by rw [A.hs]; exact hv) hd hcd) pe_int hix) (pa_cons (he ex px) pa_nil (hs _)) (hbase _) (hfew _) hline (hs _) rfl) rfl) ?_
  rintro D σ H ⟨F, ρ, D', rs, t, hx, n, b, k, r⟩
  subst hx
  unfold rTlApp at t
  split at t
  · rename_i d1 d2 hρ
    obtain ⟨p, q1, q2, vs1, vs2, ep, h0, h1, h2, a1, a2, w1, w2⟩ := rs.tl hρ
    refine ⟨.ref p, ep, .inr (.inl ⟨p, [.ref q1, .ref q2], 0, .ref q1, rfl, rfl, .inl (.inl h0), rfl, ?_⟩)⟩
    refine ⟨.inl ⟨rfl, _, SqL.of h1⟩, F, ρ, _, rs, t, fun y u F1 H1 qq e1 o1 => ?_⟩
    obtain ⟨d, F2, q2', e2, dd⟩ := o1.frz e1 qq
    have rs2 := rs.grow e2
    obtain ⟨p', r1, r2, us1, us2, ep', g0, g1, g2, b1, b2, z1, z2⟩ := rs2.tl hρ
    rw [ep] at ep'
    cases ep'
    have h0' := e2.hh _ _ h0
    rw [g0] at h0'
    injection h0' with h0'; injection h0' with h0'; injection h0' with h3 _; injection h3 with h3
    subst h3
    exact ⟨r1, us1, u, rfl, rfl, g1, by rw [dpa_len b1]; exact q2'.1, n F2 _ σ _ (z1 _ _ (dpa_app b1 (.cons dd .nil))) q2'.2⟩
  · exact t.elim
theorem cs_tlClr (A : WhD X N sc) (i : Nat) {x : Str} (hi : N[i]? = some x) (hv : Vis sc x) (hd : (x == ("__debug__" : Str)) = false) (hcd : (x == ("__classdict__" : Str)) = false)
    (hline : (apos.endLine == cpos.line) = true) (hix : ∀ o i, subscripted (.Name x p2) false o i = operate [o, i] (getItem o i) := by intro _ _; rfl)
    (hbase : ∀ env, attributeBase (.Subscript (.Name x p2) (.Constant (.int 1) n0 p5) p3) "clear" env (eval (.Subscript (.Name x p2) (.Constant (.int 1) n0 p5) p3) env) = eval (.Subscript (.Name x p2) (.Constant (.int 1) n0 p5) p3) env := by intro _; rfl) :
    CS X Z (.Expr (.Call (.Attribute (.Subscript (.Name x p2) (.Constant (.int 1) n0 p5) p3) "clear" apos) [] [] cpos) pos) (rTlClr i) := fun ex px => by
  refine ps_imp (ps_expr (pe_bm0 PySem.F.plainAttrs_list PySem.F.slot_list_clear PySem.F.type_list_clear mt_clear (pe_ix ix_seq (pe_var (i := i) (by rw [A.hN]; exact hi) (by rw [A.hs]; exact hv) hd hcd) pe_int hix) (hbase _) hline) rfl) ?_
  rintro D σ H ⟨F, ρ, D', rs, t, hx, n, b, k, r⟩
  subst hx
  unfold rTlClr at t
  split at t
  · rename_i d1 d2 hρ
    obtain ⟨p, q1, q2, vs1, vs2, ep, h0, h1, h2, a1, a2, w1, w2⟩ := rs.tl hρ
    refine ⟨.ref p, ep, .inr (.inl ⟨p, [.ref q1, .ref q2], 1, .ref q2, rfl, rfl, .inl (.inl h0), rfl, ?_⟩)⟩
    exact ⟨.inl ⟨rfl, _, SqL.of h2⟩, q2, vs2, rfl, rfl, h2, n F _ σ _ (w2 _ _ .nil) t⟩
  · exact t.elim
/-- a fresh tuple of lists, looked at -/
def PV.see : PV → (PV → Prop) → Prop
  | .ow (.tl d1 d2), Q => Q (.rd (.tuple [.list d1, .list d2]))
  | x, Q => Q x
def rSee (te : RE) : RE := fun ex ρ Q => te ex ρ fun x => x.see Q
theorem ce_see (he : CE X Z e te) : CE X Z e (rSee te) := fun ex px => by
  refine pe_imp (he ex px) ?_
  rintro σ H Q ⟨F, ρ, Q', rs, t, q⟩
  refine ⟨F, ρ, _, rs, t, fun x v F1 H1 q1 e1 o1 => ?_⟩
  unfold PV.see at q1
  split at q1
  · obtain ⟨p, fp, rfl, ⟨q1', q2', vs1, vs2, _, _, h0, h1, h2, a1, a2⟩, _⟩ := o1
    exact q _ _ F1 H1 q1 e1 (show Dp X.K H1 _ _ from .tup (.inl (.inl h0)) (.cons (.lst (SqL.of h1) (dpAll_mono e1.fh a1)) (.cons (.lst (SqL.of h2) (dpAll_mono e1.fh a2)) .nil)))
  · exact q _ v F1 H1 q1 e1 o1
end
end Pz

namespace Pz
open PySem PySem.Spec PyProof.Rows L2
theorem pow_dvd {p : Int} {a b : Nat} (h : a ≤ b) : p ^ a ∣ p ^ b := ⟨p ^ (b - a), by rw [← Int.pow_add]; congr 1; omega⟩
theorem ball_has {x a w : Int} : (x - a % w) % w = (x - a) % w := by rw [Int.sub_emod, Int.emod_emod, ← Int.sub_emod]
theorem ball_has1 {x a w : Int} : (x % w - a) % w = (x - a) % w := by rw [Int.sub_emod, Int.emod_emod, ← Int.sub_emod]
theorem ball_has2 {x y : Int} {p : Int} {e f : Nat} (h : f ≤ e) : (x % p ^ e - y % p ^ f) % p ^ f = (x - y) % p ^ f := by
  rw [ball_has, Int.sub_emod, Int.emod_emod_of_dvd _ (pow_dvd h), ← Int.sub_emod]
/-! ### steps -/
theorem ifB1 {z : Bool} {A B : Prop} (h : z = true) (a : A) : (z = true → A) ∧ (z = false → B) := ⟨fun _ => a, fun e => absurd (h.symm.trans e) (by decide)⟩
theorem ifB0 {z : Bool} {A B : Prop} (h : z = false) (b : B) : (z = true → A) ∧ (z = false → B) := ⟨fun e => absurd (h.symm.trans e) (by decide), fun _ => b⟩
theorem ifS {z : Bool} {A B : Prop} (h : (z = true → A) ∧ (z = false → B)) : (z = true → A) ∧ (z = false → B) := h
theorem ifD {p : Prop} [Decidable p] {A B : Prop} (a : p → A) (b : ¬ p → B) : (decide p = true → A) ∧ (decide p = false → B) := ⟨fun z => a (of_decide_eq_true z), fun z => b (of_decide_eq_false z)⟩
theorem ifN {p : Prop} [Decidable p] {A B : Prop} (a : ¬ p → A) (b : p → B) : ((!decide p) = true → A) ∧ ((!decide p) = false → B) := ⟨fun z => a (by simpa using z), fun z => b (by simpa using z)⟩
/-- what stands behind an if, once -/
theorem if_rest {z : Bool} {t u : RC} {D : PEnds} {ρ : Rho} (P : Rho → Prop) (k : ∀ N : Rho → Prop, (∀ ρ', P ρ' → N ρ') → (z = true → t { D with nx := N } ρ) ∧ (z = false → u { D with nx := N } ρ)) (rest : ∀ ρ', P ρ' → D.nx ρ') :
    (z = true → t D ρ) ∧ (z = false → u D ρ) := k D.nx rest
theorem res_lt {p : Int} (hp : 0 < p) (x : Int) (e : Nat) : 0 ≤ x % p ^ e ∧ x % p ^ e < p ^ e := ⟨Int.emod_nonneg _ (Int.ne_of_gt (Int.pow_pos hp)), Int.emod_lt_of_pos _ (Int.pow_pos hp)⟩
theorem ifPS {P A B : Prop} (h : (P → A) ∧ (¬ P → B)) : (P → A) ∧ (¬ P → B) := h
theorem ifP1 {P A B : Prop} (h : P) (a : A) : (P → A) ∧ (¬ P → B) := ⟨fun _ => a, fun z => absurd h z⟩
theorem ifP0 {P A B : Prop} (h : ¬ P) (b : B) : (P → A) ∧ (¬ P → B) := ⟨fun z => absurd z h, fun _ => b⟩
theorem qT {Q : PV → Prop} {b : Bool} (q : Q (.im (.bool true))) (h : b = true) : Q (.im (.bool b)) := by rw [h]; exact q
theorem not_t {z : Bool} (h : z = true) : (!z) = false := by rw [h]; rfl
theorem not_f {z : Bool} (h : z = false) : (!z) = true := by rw [h]; rfl
theorem Bt.add2 {a b : Nat} {x y : Int} (h : Bt a x) (k : Bt b y) : Bt (max a b + 1) (x + y) := (h.mono (Nat.le_max_left _ _)).add (k.mono (Nat.le_max_right _ _))
theorem Bt.sub2 {a b : Nat} {x y : Int} (h : Bt a x) (k : Bt b y) : Bt (max a b + 1) (x - y) := (h.mono (Nat.le_max_left _ _)).sub (k.mono (Nat.le_max_right _ _))
theorem Bt.powK {p : Int} {a e k : Nat} (h : Bt (a + 1) p) (he : e ≤ k) : Bt ((a + 1) * k + 1) (p ^ e) := (h.pow (Nat.succ_pos _) e).mono (Nat.add_le_add_right (Nat.mul_le_mul_left _ he) 1)
theorem RgC.up {i j c : Int} (hc : 0 < c) (hc' : c < 1000000) (ha : -(2 ^ 61) ≤ i) (ha' : i < 2 ^ 61) (hb : -(2 ^ 61) ≤ j) (hb' : j < 2 ^ 61) : L2.RgC i j c ((j - i + c - 1) / c).toNat := by
  have e : Builtin.Range.rangeSize i j c = (((j - i + c - 1) / c).toNat : Int) := by
    unfold Builtin.Range.rangeSize
    rw [if_pos (show c > 0 from hc)]
    by_cases h : i < j
    · rw [if_pos h]
      have e1 : (j - i + c - 1) / c = (j - i - 1) / c + 1 := by
        rw [show j - i + c - 1 = (j - i - 1) + 1 * c by omega, Int.add_mul_ediv_right _ _ (by omega)]
      have h0 : 0 ≤ (j - i - 1) / c := Int.ediv_nonneg (by omega) (by omega)
      omega
    · rw [if_neg h]
      have h0 : (j - i + c - 1) / c ≤ 0 := by
        have := Int.ediv_le_ediv (a := j - i + c - 1) (b := c - 1) hc (by omega)
        rw [show (c - 1) / c = 0 from Int.ediv_eq_zero_of_lt (by omega) (by omega)] at this
        exact this
      omega
  refine ⟨by omega, by omega, ?_, e⟩
  have h1 : ((j - i + c - 1) / c).toNat ≤ (j - i + c - 1).toNat + 1 := by
    by_cases h : 0 ≤ j - i + c - 1
    · have := Int.ediv_le_self c h
      omega
    · have : (j - i + c - 1) / c < 0 := Int.ediv_neg_of_neg_of_pos (by omega) hc
      omega
  unfold Builtin.Range.small
  rw [e]
  unfold Builtin.Range.rangeFitsLong
  rw [if_pos (show c > 0 from hc)]
  simp only [Bool.and_eq_true, decide_eq_true_eq, Bool.or_eq_true, beq_iff_eq]
  omega
theorem atc0 {a : PyData} {l : List PyData} {Q : PyData → Prop} (q : Q a) : ∃ d, atI (a :: l) 0 = some d ∧ Q d := at0.2 q
theorem atc1 {a b : PyData} {l : List PyData} {Q : PyData → Prop} (q : Q b) : ∃ d, atI (a :: b :: l) 1 = some d ∧ Q d := at1.2 q
theorem atc2 {a b c : PyData} {l : List PyData} {Q : PyData → Prop} (q : Q c) : ∃ d, atI (a :: b :: c :: l) 2 = some d ∧ Q d :=
  ⟨c, by unfold atI ixN; rw [if_pos (by decide), if_pos (by simp only [List.length_cons]; omega)]; rfl, q⟩
theorem atc3 {a b c e : PyData} {l : List PyData} {Q : PyData → Prop} (q : Q e) : ∃ d, atI (a :: b :: c :: e :: l) 3 = some d ∧ Q d :=
  ⟨e, by unfold atI ixN; rw [if_pos (by decide), if_pos (by simp only [List.length_cons]; omega)]; rfl, q⟩
theorem Bt.cpow {i j : Int} (a : 0 ≤ j) (b : j ≤ 1000000) (c : i.natAbs < 2 ^ 64) : L2.CPow i j := ⟨a, b, c⟩
def rgM (m c L : Int) : Int := if (if m < L then m else L) > c then (if m < L then m else L) else c
theorem rgM_le {m c L : Int} (h0 : 0 ≤ c) (h : c ≤ m) : 0 ≤ rgM m c L ∧ rgM m c L ≤ m := by
  unfold rgM
  split <;> split <;> omega
theorem rg_ok {m c L : Int} (h0 : 0 < c) (h : c ≤ m) (h2 : m ≤ 1000) : L2.RgC 0 (if (if m < L then m else L) > c then (if m < L then m else L) else c) c ((rgM m c L - 0 + c - 1) / c).toNat := by
  have := rgM_le (L := L) (Int.le_of_lt h0) h
  exact RgC.up h0 (by omega) (by decide) (by decide) (by show _ ≤ rgM m c L; omega) (by show rgM m c L < _; omega)
theorem rg_mem {m c L : Int} (h0 : 0 < c) (h : c ≤ m) {d : PyData} (hd : d ∈ upto ((rgM m c L - 0 + c - 1) / c).toNat fun k => .int (0 + (k : Nat) * c)) : ∃ k : Int, d = .int k ∧ 0 ≤ k ∧ k ≤ m := by
  obtain ⟨i, hi, rfl⟩ := upto_mem hd
  have := rgM_le (L := L) (Int.le_of_lt h0) h
  refine ⟨_, rfl, by have := Int.mul_nonneg (show (0 : Int) ≤ (i : Nat) by omega) (Int.le_of_lt h0); omega, ?_⟩
  have h3 : (i : Int) + 1 ≤ (rgM m c L - 0 + c - 1) / c := by omega
  have h4 := (Int.le_ediv_iff_mul_le h0).1 h3
  rw [Int.add_mul] at h4
  omega
theorem Bt.le {n : Nat} {x y : Int} (h : Bt n y) (h0 : 0 ≤ x) (h1 : x ≤ y) : Bt n x := h.of_le (by omega)
theorem Bt.pp {p : Int} {e : Nat} (n : Nat) (h : p.natAbs ≤ 127) (he : 7 * e + 1 ≤ n) : Bt n (p ^ e) := (Bt.pow (Bt.num (n := 7) (by omega)) (by decide) e).mono he
theorem lt_line {n : Nat} (h : n ≤ 1000) : n < sizeLine := small1000 h
theorem le_line {n : Nat} (h : n ≤ 1000) : n ≤ sizeLine := Nat.le_of_lt (small1000 h)
end Pz
namespace Pz
open PySem PySem.Spec PyProof.Rows L2
theorem cutD_take (ns : List Int) {k : Int} (h0 : 0 ≤ k) : cutD (ns.map PyData.int) none (some k) = (ns.take k.toNat).map PyData.int := by
  unfold cutD HT.sIx
  simp only [List.drop_zero, Nat.sub_zero, List.length_map]
  rw [if_neg (by omega), List.map_take]
  by_cases h : k.toNat ≤ ns.length
  · rw [Nat.min_eq_left h]
  · rw [Nat.min_eq_right (by omega), List.take_of_length_le (by simp), List.take_of_length_le (by simp; omega)]
theorem cutD_take2 {α : Type} (xs : List α) {k : Int} (h0 : 0 ≤ k) : cutD xs none (some k) = xs.take k.toNat := by
  unfold cutD HT.sIx
  simp only [List.drop_zero, Nat.sub_zero]
  rw [if_neg (by omega)]
  by_cases h : k.toNat ≤ xs.length
  · rw [Nat.min_eq_left h]
  · rw [Nat.min_eq_right (by omega), List.take_of_length_le (Nat.le_refl _), List.take_of_length_le (by omega)]
theorem cutD_drop {α : Type} (xs : List α) {k : Int} (h0 : 0 ≤ k) : cutD xs (some k) none = xs.drop k.toNat := by
  unfold cutD HT.sIx
  dsimp only
  rw [if_neg (by omega)]
  by_cases h : k.toNat ≤ xs.length
  · rw [Nat.min_eq_left h, List.take_of_length_le (by rw [List.length_drop]; exact Nat.le_refl _)]
  · rw [Nat.min_eq_right (by omega), List.drop_of_length_le (Nat.le_refl _), List.drop_of_length_le (by omega), List.take_nil]
/-- the law's cells: the script's first ones, or one nought -/
theorem cells_ok {ns : List Int} {m : Nat} (hb : ∀ z ∈ ns, Bt 1048576 z) (hm : 1 ≤ m) (h : ¬ ((cutD (ns.map PyData.int) none (some (m : Int))).length : Int) = 0) : ∃ cs : List Int, cutD (ns.map PyData.int) none (some (m : Int)) = cs.map PyData.int ∧ 1 ≤ cs.length ∧ cs.length ≤ m ∧ ∀ z ∈ cs, Bt 1048576 z := by
  rw [cutD_take2 _ (by omega), Int.toNat_natCast, ← List.map_take] at h ⊢
  rw [List.length_map] at h
  exact ⟨ns.take m, rfl, by omega, List.length_take_le _ _, fun z hz => hb z (List.mem_of_mem_take hz)⟩
theorem cells_no {m : Nat} (hm : 1 ≤ m) : ∃ cs : List Int, [PyData.int 0] = cs.map PyData.int ∧ 1 ≤ cs.length ∧ cs.length ≤ m ∧ ∀ z ∈ cs, Bt 1048576 z :=
  ⟨[0], rfl, by simp, by simp; omega, fun z hz => by rw [List.mem_singleton.1 hz]; exact (Bt.num (n := 1) (by decide)).mono (by decide)⟩
theorem rng_mem {n : Nat} {d : PyData} (h : d ∈ upto n fun i => .int i) : ∃ k : Int, d = .int k ∧ 0 ≤ k ∧ k < n := by
  obtain ⟨i, hi, rfl⟩ := upto_mem h
  exact ⟨i, rfl, by omega, by omega⟩
end Pz
namespace Pz
open PySem PySem.Spec PyProof.Rows L2
/-- what stands behind an if of two tests, once -/
theorem if_restA {z : Bool} {tb : RT} {ex : XW} {t u : RC} {D : PEnds} {ρ : Rho} (P : Rho → Prop)
    (k : ∀ N : Rho → Prop, (∀ ρ', P ρ' → N ρ') → (z = true → tb ex ρ fun b => (b = true → t { D with nx := N } ρ) ∧ (b = false → u { D with nx := N } ρ)) ∧ (z = false → (fun b => (b = true → t { D with nx := N } ρ) ∧ (b = false → u { D with nx := N } ρ)) false)) (rest : ∀ ρ', P ρ' → D.nx ρ') :
    (z = true → tb ex ρ fun b => (b = true → t D ρ) ∧ (b = false → u D ρ)) ∧ (z = false → (fun b => (b = true → t D ρ) ∧ (b = false → u D ρ)) false) := k D.nx rest
theorem if_restO {z : Bool} {tb : RT} {ex : XW} {t u : RC} {D : PEnds} {ρ : Rho} (P : Rho → Prop)
    (k : ∀ N : Rho → Prop, (∀ ρ', P ρ' → N ρ') → (z = true → (fun b => (b = true → t { D with nx := N } ρ) ∧ (b = false → u { D with nx := N } ρ)) true) ∧ (z = false → tb ex ρ fun b => (b = true → t { D with nx := N } ρ) ∧ (b = false → u { D with nx := N } ρ))) (rest : ∀ ρ', P ρ' → D.nx ρ') :
    (z = true → (fun b => (b = true → t D ρ) ∧ (b = false → u D ρ)) true) ∧ (z = false → tb ex ρ fun b => (b = true → t D ρ) ∧ (b = false → u D ρ)) := k D.nx rest
theorem seq_rest {t u : RC} {D : PEnds} {ρ : Rho} (P : Rho → Prop) (k : ∀ N : Rho → Prop, (∀ ρ', P ρ' → N ρ') → t { D with nx := N } ρ) (rest : ∀ ρ', P ρ' → u D ρ') : rSeq t u D ρ := k _ rest
theorem int_bool {p : Prop} [Decidable p] : (0 : Int) ≤ (if decide p = true then 1 else 0) ∧ (if decide p = true then (1 : Int) else 0) ≤ 1 := by split <;> omega
end Pz
namespace Pz
open PySem PySem.Spec PyProof.Rows L2
/-- == and != of lists of ints -/
theorem eq_li {xs ys : List PyData} (as bs : List Int) {Q : Bool → Prop} (h1 : xs = as.map .int) (h2 : ys = bs.map .int) (q : Q (decide (as = bs))) :
    SeqAt.shaped (.list xs) = true ∧ SeqAt.shaped (.list ys) = true ∧ Q (PyData.eqv (.list xs) (.list ys)) := by
  subst h1 h2
  refine ⟨shaped_lints as, shaped_lints bs, ?_⟩
  rw [eqv_lints]
  exact q
theorem ne_li {xs ys : List PyData} (as bs : List Int) {Q : Bool → Prop} (h1 : xs = as.map .int) (h2 : ys = bs.map .int) (q : Q (!decide (as = bs))) :
    SeqAt.shaped (.list xs) = true ∧ SeqAt.shaped (.list ys) = true ∧ Q (!PyData.eqv (.list xs) (.list ys)) := by
  subst h1 h2
  refine ⟨shaped_lints as, shaped_lints bs, ?_⟩
  rw [eqv_lints]
  exact q
end Pz

namespace Pz
open PySem PySem.Spec PyProof.Rows L2
/-! ### the depth of a number: how often p goes into it -/
/-- by fuel -/
def depF (p : Int) : Nat → Int → Nat
  | 0, _ => 0
  | n + 1, x => if x % p = 0 then depF p n (x / p) + 1 else 0
def dep (p x : Int) : Nat := depF p x.natAbs x
theorem div_lt {p x : Int} (hp : 2 ≤ p) (hx : x ≠ 0) (h : x % p = 0) : (x / p).natAbs < x.natAbs ∧ x / p ≠ 0 := by
  obtain ⟨c, rfl⟩ := Int.dvd_of_emod_eq_zero h
  rw [Int.mul_ediv_cancel_left _ (by omega)]
  have hc : c ≠ 0 := by rintro rfl; simp at hx
  refine ⟨?_, hc⟩
  rw [Int.natAbs_mul]
  have h1 : 1 ≤ c.natAbs := by omega
  have h2 : 2 ≤ p.natAbs := by omega
  calc c.natAbs < 2 * c.natAbs := by omega
    _ ≤ p.natAbs * c.natAbs := Nat.mul_le_mul_right _ h2
theorem depF_eq {p : Int} (hp : 2 ≤ p) : ∀ (n m : Nat) (x : Int), x ≠ 0 → x.natAbs ≤ n → x.natAbs ≤ m → depF p n x = depF p m x
  | 0, _, x, h, h1, _ => absurd h1 (by omega)
  | _ + 1, 0, x, h, _, h1 => absurd h1 (by omega)
  | n + 1, m + 1, x, h, h1, h2 => by
    unfold depF
    by_cases e : x % p = 0
    · rw [if_pos e, if_pos e]
      obtain ⟨d1, d2⟩ := div_lt hp h e
      rw [depF_eq hp n m (x / p) d2 (by omega) (by omega)]
    · rw [if_neg e, if_neg e]
theorem dep_div {p x : Int} (hp : 2 ≤ p) (h : x ≠ 0) (e : x % p = 0) : dep p x = dep p (x / p) + 1 := by
  obtain ⟨d1, d2⟩ := div_lt hp h e
  show depF p x.natAbs x = _
  obtain ⟨n, hn⟩ : ∃ n, x.natAbs = n + 1 := ⟨x.natAbs - 1, by omega⟩
  rw [hn]
  conv => lhs; unfold depF
  rw [if_pos e]
  congr 1
  exact depF_eq hp _ _ _ d2 (by omega) (by omega)
theorem dep_no {p x : Int} (h : x ≠ 0) (e : x % p ≠ 0) : dep p x = 0 := by
  show depF p x.natAbs x = _
  obtain ⟨n, hn⟩ : ∃ n, x.natAbs = n + 1 := ⟨x.natAbs - 1, by omega⟩
  rw [hn]
  unfold depF
  rw [if_neg e]
/-- what is left -/
def unt (p x : Int) : Int := x / p ^ dep p x
theorem dep_dvd {p : Int} (hp : 2 ≤ p) : ∀ (n : Nat) (x : Int), x.natAbs ≤ n → x ≠ 0 → p ^ dep p x ∣ x
  | 0, x, h, hx => absurd h (by omega)
  | n + 1, x, h, hx => by
    by_cases e : x % p = 0
    · obtain ⟨d1, d2⟩ := div_lt hp hx e
      rw [dep_div hp hx e, Int.pow_succ, Int.mul_comm]
      obtain ⟨c, hc⟩ := dep_dvd hp n (x / p) (by omega) d2
      refine ⟨c, ?_⟩
      rw [Int.mul_assoc, ← hc, Int.mul_ediv_cancel' (Int.dvd_of_emod_eq_zero e)]
    · rw [dep_no hx e]; simp
theorem dep_pow_dvd {p x : Int} (hp : 2 ≤ p) (hx : x ≠ 0) : p ^ dep p x ∣ x := dep_dvd hp _ x (Nat.le_refl _) hx
theorem dep_ge {p : Int} (hp : 2 ≤ p) : ∀ (k : Nat) (x : Int), x ≠ 0 → p ^ k ∣ x → k ≤ dep p x
  | 0, x, hx, _ => Nat.zero_le _
  | k + 1, x, hx, h => by
    have e : x % p = 0 := Int.emod_eq_zero_of_dvd (Int.dvd_trans ⟨p ^ k, by rw [Int.pow_succ, Int.mul_comm]⟩ h)
    obtain ⟨d1, d2⟩ := div_lt hp hx e
    rw [dep_div hp hx e]
    refine Nat.succ_le_succ (dep_ge hp k _ d2 ?_)
    obtain ⟨c, hc⟩ := h
    refine ⟨c, ?_⟩
    rw [hc, Int.pow_succ, Int.mul_comm (p ^ k) p, Int.mul_assoc, Int.mul_ediv_cancel_left _ (by omega)]
/-- the depth, told by divisibility -/
theorem dvd_iff_dep {p x : Int} (hp : 2 ≤ p) (hx : x ≠ 0) (k : Nat) : p ^ k ∣ x ↔ k ≤ dep p x :=
  ⟨dep_ge hp k x hx, fun h => Int.dvd_trans (pow_dvd h) (dep_pow_dvd hp hx)⟩
theorem unt_mul {p x : Int} (hp : 2 ≤ p) (hx : x ≠ 0) : p ^ dep p x * unt p x = x := Int.mul_ediv_cancel' (dep_pow_dvd hp hx)
theorem unt_ne {p x : Int} (hp : 2 ≤ p) (hx : x ≠ 0) : unt p x ≠ 0 := fun h => hx (by rw [← unt_mul hp hx, h, Int.mul_zero])
theorem unt_not {p x : Int} (hp : 2 ≤ p) (hx : x ≠ 0) : unt p x % p ≠ 0 := fun h => by
  obtain ⟨c, hc⟩ := Int.dvd_of_emod_eq_zero h
  have h1 : p ^ (dep p x + 1) ∣ x := ⟨c, by rw [Int.pow_succ, Int.mul_assoc, ← hc, unt_mul hp hx]⟩
  have := dep_ge hp _ x hx h1
  omega
/-- the depth and the unit are the only ones -/
theorem dep_unt {p x u : Int} {d : Nat} (hp : 2 ≤ p) (h : x = p ^ d * u) (hu : u % p ≠ 0) : dep p x = d ∧ unt p x = u := by
  have hu0 : u ≠ 0 := by rintro rfl; simp at hu
  have hpd : p ^ d ≠ 0 := Int.ne_of_gt (Int.pow_pos (by omega))
  have hx : x ≠ 0 := by rw [h]; exact Int.mul_ne_zero hpd hu0
  have h1 : d ≤ dep p x := dep_ge hp d x hx ⟨u, h⟩
  have h2 : dep p x = d := by
    rcases Nat.lt_or_ge d (dep p x) with h3 | h3
    · exfalso
      obtain ⟨c, hc⟩ := (dvd_iff_dep hp hx (d + 1)).2 h3
      apply hu
      rw [h, Int.pow_succ, Int.mul_assoc] at hc
      rw [Int.eq_of_mul_eq_mul_left hpd hc]
      exact Int.mul_emod_right _ _
    · omega
  refine ⟨h2, ?_⟩
  unfold unt
  rw [h2, h, Int.mul_ediv_cancel_left _ hpd]
theorem dep_neg {p x : Int} (hp : 2 ≤ p) (hx : x ≠ 0) : dep p (-x) = dep p x := by
  have h1 := dep_ge hp _ (-x) (by omega) (Int.dvd_neg.2 (dep_pow_dvd hp hx))
  have h2 := dep_ge hp _ x hx (by have := dep_pow_dvd (p := p) (x := -x) hp (by omega); rwa [Int.dvd_neg] at this)
  omega
/-- how deep a number can be -/
theorem dep_lt {p x : Int} (hp : 2 ≤ p) (hx : x ≠ 0) : 2 ^ dep p x ≤ x.natAbs := by
  have h1 := dep_pow_dvd hp hx
  have h2 : (p ^ dep p x).natAbs ≤ x.natAbs := Nat.le_of_dvd (by omega) (Int.natAbs_dvd_natAbs.2 h1)
  rw [Int.natAbs_pow] at h2
  exact Nat.le_trans (Nat.pow_le_pow_left (by omega) _) h2
theorem dep_bt {p x : Int} {n : Nat} (hp : 2 ≤ p) (hx : x ≠ 0) (h : Bt n x) : dep p x < n := by
  have h1 := dep_lt hp hx
  have h2 := h.out
  exact (Nat.pow_lt_pow_iff_right (by decide)).1 (Nat.lt_of_le_of_lt h1 h2)
/-- depth up to a bound, of any number -/
def depB (p x : Int) (n : Nat) : Nat := if x = 0 then n else min n (dep p x)
theorem dvd_iff_depB {p x : Int} (hp : 2 ≤ p) {n k : Nat} (hk : k ≤ n) : p ^ k ∣ x ↔ k ≤ depB p x n := by
  unfold depB
  by_cases h : x = 0
  · subst h; simp [hk]
  · rw [if_neg h, dvd_iff_dep hp h]; omega
end Pz

namespace Pz
open PySem PySem.Spec PyProof.Rows L2
/-- one more number: how deep it agrees with the first one, as far as e -/
def lst1 (p c e x : Int) : Int := if x - c = 0 then e else if e < (dep p (x - c) : Int) then e else (dep p (x - c) : Int)
def lstE (p c : Int) (xs : List Int) (e : Int) : Int := xs.foldl (lst1 p c) e
theorem lst1_iff {p c e x : Int} (hp : 2 ≤ p) (he : 0 ≤ e) (k : Nat) : (k : Int) ≤ lst1 p c e x ↔ (k : Int) ≤ e ∧ p ^ k ∣ x - c := by
  unfold lst1
  by_cases h : x - c = 0
  · rw [if_pos h, h]
    exact ⟨fun z => ⟨z, Int.dvd_zero _⟩, fun z => z.1⟩
  · rw [if_neg h, dvd_iff_dep hp h]
    split <;> omega
theorem lst1_nn {p c e x : Int} (he : 0 ≤ e) : 0 ≤ lst1 p c e x ∧ lst1 p c e x ≤ e := by
  unfold lst1
  split
  · omega
  · split <;> omega
theorem lstE_nn {p c : Int} : ∀ (xs : List Int) (e : Int), 0 ≤ e → 0 ≤ lstE p c xs e ∧ lstE p c xs e ≤ e
  | [], e, he => ⟨he, Int.le_refl _⟩
  | x :: xs, e, he => by
    obtain ⟨h1, h2⟩ := lst1_nn (p := p) (c := c) (x := x) he
    obtain ⟨h3, h4⟩ := lstE_nn (p := p) (c := c) xs _ h1
    exact ⟨h3, Int.le_trans h4 h2⟩
theorem lstE_iff {p c : Int} (hp : 2 ≤ p) : ∀ (xs : List Int) (e : Int), 0 ≤ e → ∀ k : Nat, (k : Int) ≤ lstE p c xs e ↔ (k : Int) ≤ e ∧ ∀ x ∈ xs, p ^ k ∣ x - c
  | [], e, he, k => ⟨fun h => ⟨h, fun _ z => nomatch z⟩, fun h => h.1⟩
  | x :: xs, e, he, k => by
    obtain ⟨h1, h2⟩ := lst1_nn (p := p) (c := c) (x := x) he
    rw [show lstE p c (x :: xs) e = lstE p c xs (lst1 p c e x) from rfl, lstE_iff hp xs _ h1 k, lst1_iff hp he]
    simp only [List.mem_cons, forall_eq_or_imp, and_assoc]
theorem lstE_eq {p c : Int} (hp : 2 ≤ p) {xs : List Int} {e m : Int} (he : 0 ≤ e) (hm : 0 ≤ m) (h : ∀ k : Nat, (k : Int) ≤ m ↔ (k : Int) ≤ e ∧ ∀ x ∈ xs, p ^ k ∣ x - c) : lstE p c xs e = m := by
  obtain ⟨h1, _⟩ := lstE_nn (p := p) (c := c) xs e he
  have a := (lstE_iff (c := c) hp xs e he (lstE p c xs e).toNat).1 (by omega)
  have b := (h _).2 a
  have a2 := (h m.toNat).1 (by omega)
  have b2 := (lstE_iff (c := c) hp xs e he _).2 a2
  omega
end Pz
namespace Pz
open PySem PySem.Spec PyProof.Rows L2
theorem atI0 {c : Int} {xs : List Int} {L : List PyData} (h : (c :: xs).map PyData.int = L) {Q : PyData → Prop} (q : Q (.int c)) : ∃ d, atI L 0 = some d ∧ Q d := by subst h; exact at0.2 q
end Pz
namespace Pz
open PySem PySem.Spec PyProof.Rows L2
theorem lst4 {p c x1 x2 x3 m : Int} (hp : 2 ≤ p) (hm : 0 ≤ m) (h : ∀ k : Nat, (k : Int) ≤ m ↔ (k : Int) ≤ 60 ∧ p ^ k ∣ x1 - c ∧ p ^ k ∣ x2 - c ∧ p ^ k ∣ x3 - c) : lstE p c [c, x1, x2, x3] 60 = m := by
  refine lstE_eq hp (by decide) hm fun k => ?_
  rw [h k]
  simp [Int.sub_self, Int.dvd_zero]
theorem dvd_pow_iff {p : Int} (hp : 2 ≤ p) {k e : Nat} : p ^ k ∣ p ^ e ↔ k ≤ e := by
  have h1 : dep p (p ^ e) = e := (dep_unt hp (u := 1) (by rw [Int.mul_one]) (by rw [Int.emod_eq_of_lt (by decide) (by omega)]; decide)).1
  rw [dvd_iff_dep hp (Int.ne_of_gt (Int.pow_pos (by omega))), h1]
theorem dvd_pmul_iff {p b : Int} (hp : 2 ≤ p) {k e : Nat} : p ^ k ∣ p ^ e * b ↔ (b ≠ 0 → k ≤ e + dep p b) := by
  by_cases hb : b = 0
  · subst hb; simp [Int.dvd_zero]
  · have hpe : p ^ e ≠ 0 := Int.ne_of_gt (Int.pow_pos (by omega))
    have h1 : dep p (p ^ e * b) = e + dep p b := by
      refine (dep_unt hp (u := unt p b) ?_ (unt_not hp hb)).1
      rw [Int.pow_add, Int.mul_assoc, unt_mul hp hb]
    rw [dvd_iff_dep hp (Int.mul_ne_zero hpe hb), h1]
    exact ⟨fun h _ => h, fun h => h hb⟩
theorem dep_lt_of_lt {p b : Int} {f : Nat} (hp : 2 ≤ p) (h0 : 0 ≤ b) (h1 : b < p ^ f) (hb : b ≠ 0) : dep p b < f := by
  have h2 := Int.le_of_dvd (by omega) (dep_pow_dvd hp hb)
  have h3 : p ^ dep p b < p ^ f := by omega
  rcases Nat.lt_or_ge (dep p b) f with h | h
  · exact h
  · have := Int.le_of_dvd (Int.pow_pos (by omega)) (pow_dvd (p := p) h)
    omega
def cdep (p a e : Int) : Int := if a = 0 then e else (dep p a : Int)
def pdep (p a e b f : Int) : Int := if f + cdep p a e < e + cdep p b f then f + cdep p a e else e + cdep p b f
theorem least_sum {p a b x1 x2 x3 e f : Int} (hp : 2 ≤ p) (he : 0 ≤ e ∧ e ≤ 60) (hf : 0 ≤ f ∧ f ≤ 60) {c : Int} (h1 : x1 - c = p ^ e.toNat) (h2 : x2 - c = p ^ f.toNat ∨ x2 - c = - p ^ f.toNat) (h3 : x3 - c = (x1 - c) + (x2 - c)) :
    lstE p c [c, x1, x2, x3] 60 = if f < e then f else e := by
  refine lst4 hp (by split <;> omega) fun k => ?_
  have e2 : p ^ k ∣ x2 - c ↔ k ≤ f.toNat := by
    rcases h2 with h2 | h2
    · rw [h2, dvd_pow_iff hp]
    · rw [h2, Int.dvd_neg, dvd_pow_iff hp]
  have e1 : p ^ k ∣ x1 - c ↔ k ≤ e.toNat := by rw [h1, dvd_pow_iff hp]
  constructor
  · intro h
    have k1 : k ≤ e.toNat := by split at h <;> omega
    have k2 : k ≤ f.toNat := by split at h <;> omega
    exact ⟨by omega, e1.2 k1, e2.2 k2, by rw [h3]; exact Int.dvd_add (e1.2 k1) (e2.2 k2)⟩
  · rintro ⟨h, k1, k2, _⟩
    have := e1.1 k1
    have := e2.1 k2
    split <;> omega
theorem least_mul {p a b e f : Int} (hp : 2 ≤ p) (he : 0 ≤ e ∧ e ≤ 60) (hf : 0 ≤ f ∧ f ≤ 60) (ha : 0 ≤ a ∧ a < p ^ e.toNat) (hb : 0 ≤ b ∧ b < p ^ f.toNat) :
    lstE p (a * b) [a * b, (a + p ^ e.toNat) * b, a * (b + p ^ f.toNat), (a + p ^ e.toNat) * (b + p ^ f.toNat)] 60 = if (60 : Int) < pdep p a e b f then 60 else pdep p a e b f := by
  have ca : 0 ≤ cdep p a e := by unfold cdep; split <;> omega
  have cb : 0 ≤ cdep p b f := by unfold cdep; split <;> omega
  have hd : 0 ≤ pdep p a e b f := by unfold pdep; split <;> omega
  refine lst4 hp (by split <;> omega) fun k => ?_
  have e1 : p ^ k ∣ (a + p ^ e.toNat) * b - a * b ↔ (b ≠ 0 → k ≤ e.toNat + dep p b) := by
    rw [show (a + p ^ e.toNat) * b - a * b = p ^ e.toNat * b by grind, dvd_pmul_iff hp]
  have e2 : p ^ k ∣ a * (b + p ^ f.toNat) - a * b ↔ (a ≠ 0 → k ≤ f.toNat + dep p a) := by
    rw [show a * (b + p ^ f.toNat) - a * b = p ^ f.toNat * a by grind, dvd_pmul_iff hp]
  have e3 : p ^ k ∣ p ^ (e.toNat + f.toNat) ↔ k ≤ e.toNat + f.toNat := dvd_pow_iff hp
  have e4 : (a + p ^ e.toNat) * (b + p ^ f.toNat) - a * b = ((a + p ^ e.toNat) * b - a * b) + (a * (b + p ^ f.toNat) - a * b) + p ^ (e.toNat + f.toNat) := by rw [Int.pow_add]; grind
  have l1 : b ≠ 0 → dep p b < f.toNat := dep_lt_of_lt hp hb.1 hb.2
  have l2 : a ≠ 0 → dep p a < e.toNat := dep_lt_of_lt hp ha.1 ha.2
  have key : (k : Int) ≤ pdep p a e b f ↔ (b ≠ 0 → k ≤ e.toNat + dep p b) ∧ (a ≠ 0 → k ≤ f.toNat + dep p a) ∧ k ≤ e.toNat + f.toNat := by
    unfold pdep cdep
    by_cases za : a = 0
    · by_cases zb : b = 0
      · simp only [za, zb, if_true, ne_eq, not_true_eq_false, false_implies, true_and]; split <;> omega
      · have := l1 zb
        simp only [za, zb, if_true, if_false, ne_eq, not_true_eq_false, not_false_eq_true, true_implies, false_implies, true_and]; split <;> omega
    · have := l2 za
      by_cases zb : b = 0
      · simp only [za, zb, if_true, if_false, ne_eq, not_true_eq_false, not_false_eq_true, true_implies, false_implies, true_and]; split <;> omega
      · have := l1 zb
        simp only [za, zb, if_false, ne_eq, not_false_eq_true, true_implies]; split <;> omega
  constructor
  · intro h
    have h6 : (k : Int) ≤ pdep p a e b f := by split at h <;> omega
    obtain ⟨k1, k2, k3⟩ := key.1 h6
    refine ⟨by split at h <;> omega, e1.2 k1, e2.2 k2, ?_⟩
    rw [e4]
    exact Int.dvd_add (Int.dvd_add (e1.2 k1) (e2.2 k2)) (e3.2 k3)
  · rintro ⟨h, k1, k2, k3⟩
    rw [e4] at k3
    have k4 := (Int.dvd_add_right (Int.dvd_add k1 k2)).1 k3
    have := key.2 ⟨e1.1 k1, e2.1 k2, e3.1 k4⟩
    split <;> omega
end Pz
namespace Pz
open PySem PySem.Spec PyProof.Rows L2
theorem pdep_comm (p a e b f : Int) : pdep p b f a e = pdep p a e b f := by
  unfold pdep
  split <;> split <;> omega
end Pz

namespace Pz
open PySem PySem.Spec PyProof.Rows L2
/-! ### [k for k in range(len(some)) if some[k]] -/
def tIdx (i : Nat) : List Bool → List PyData
  | [] => []
  | b :: r => if b = true then .int (i : Nat) :: tIdx (i + 1) r else tIdx (i + 1) r
theorem atI_mid {pre r : List PyData} {x : PyData} : L2.atI (pre ++ x :: r) (pre.length : Nat) = some x := by
  unfold L2.atI L2.ixN
  rw [if_pos (by omega), if_pos (by simp; omega)]
  simp
theorem lc_kinds {s v : Nat} {bs : List Bool} {ρ : Rho} {Q : PV → Prop} (hs : ρ[s]? = some (.im (.list (bs.map .bool)))) (hv : v ≠ s) (hl : v < ρ.length) :
    ∀ (suf pre : List Bool) (acc : List PyData), bs = pre ++ suf → Q (.ow (.ls (acc ++ tIdx pre.length suf))) → lcR (Tgt.nm v).go (rTV (rOp gIx (rVar s) (rVar v))) (rVar v) ρ ((List.range' pre.length suf.length).map fun i => .int (i : Nat)) acc Q
  | [], pre, acc, e, q => by
    simp only [tIdx, List.append_nil] at q
    exact q
  | b :: r, pre, acc, e, q => by
    have ih := lc_kinds (Q := Q) hs hv hl r (pre ++ [b])
    simp only [List.length_append, List.length_singleton] at ih
    show (Tgt.nm v).go (.int (pre.length : Nat)) ρ _
    show rTV (rOp gIx (rVar s) (rVar v)) _ (ρ.set v (.im (.int (pre.length : Nat)))) _
    have h1 : (ρ.set v (PV.im (.int (pre.length : Nat))))[s]? = some (.im (.list (bs.map .bool))) := by rw [List.getElem?_set_ne hv]; exact hs
    have h2 : (ρ.set v (PV.im (.int (pre.length : Nat))))[v]? = some (.im (.int (pre.length : Nat))) := List.getElem?_set_self hl
    unfold rTV rOp rVar
    rw [h1, h2]
    refine ⟨.bool b, ?_, ?_⟩
    · rw [e, List.map_append, List.map_cons]
      have := atI_mid (pre := pre.map PyData.bool) (r := r.map .bool) (x := .bool b)
      rwa [List.length_map] at this
    · show (b = true → _) ∧ (b = false → _)
      refine ⟨fun z => ?_, fun z => ?_⟩
      · subst z
        refine ih _ (by rw [e]; simp) ?_
        simpa [tIdx, List.append_assoc] using q
      · subst z
        refine ih _ (by rw [e]; simp) ?_
        simpa [tIdx] using q
theorem rLc_kinds {s v : Nat} {bs : List Bool} {ex : XW} {ρ : Rho} {Q : PV → Prop} (hs : ρ[s]? = some (.im (.list (bs.map .bool)))) (hv : v ≠ s) (hl : v < ρ.length) (hb : bs.length ≤ 1000) (q : Q (.ow (.ls (tIdx 0 bs)))) :
    rLc (rRng1 (rFn1 gLen (rVar s))) (.nm v) (rTV (rOp gIx (rVar s) (rVar v))) (rVar v) [v] ex ρ Q := by
  unfold rLc rRng1 rFn1 rVar
  rw [hs]
  show (_ ∧ _) ∧ _
  rw [List.length_map]
  refine ⟨⟨by omega, by omega⟩, ?_⟩
  refine ⟨by rw [upto_len]; exact le_line (by omega), ?_⟩
  rw [lcL_eq]
  have hs' : (wipeP ρ [v])[s]? = some (.im (.list (bs.map .bool))) := by show (ρ.set v .un)[s]? = _; rw [List.getElem?_set_ne hv]; exact hs
  have := lc_kinds (Q := Q) hs' hv (by show v < (ρ.set v .un).length; rw [List.length_set]; exact hl) bs [] [] rfl (by simpa using q)
  rw [Int.toNat_natCast]
  unfold upto
  rw [List.range_eq_range']
  exact this
end Pz
namespace Pz
open PySem PySem.Spec PyProof.Rows L2
theorem seq2_rest {a t u : RC} {D : PEnds} {ρ : Rho} (P : Rho → Prop) (k : ∀ N : Rho → Prop, (∀ ρ', P ρ' → N ρ') → rSeq a t { D with nx := N } ρ) (rest : ∀ ρ', P ρ' → u D ρ') : rSeq a (rSeq t u) D ρ := k (fun ρ' => u D ρ') rest
theorem seq3_rest {a b t u : RC} {D : PEnds} {ρ : Rho} (P : Rho → Prop) (k : ∀ N : Rho → Prop, (∀ ρ', P ρ' → N ρ') → rSeq a (rSeq b t) { D with nx := N } ρ) (rest : ∀ ρ', P ρ' → u D ρ') : rSeq a (rSeq b (rSeq t u)) D ρ := k (fun ρ' => u D ρ') rest
theorem seq4_rest {a b c t u : RC} {D : PEnds} {ρ : Rho} (P : Rho → Prop) (k : ∀ N : Rho → Prop, (∀ ρ', P ρ' → N ρ') → rSeq a (rSeq b (rSeq c t)) { D with nx := N } ρ) (rest : ∀ ρ', P ρ' → u D ρ') : rSeq a (rSeq b (rSeq c (rSeq t u))) D ρ := k (fun ρ' => u D ρ') rest
end Pz

namespace Pz
open PySem PySem.Spec PyProof.Rows L2
/-! ### marks, ways and sides -/
abbrev Pt := Int × Int
def ptD (a : Pt) : PyData := .tuple [.int a.1, .int a.2]
def marksF (p : Int) : Nat → List Int → List Pt
  | _, [] => []
  | k, x :: r => if x = 0 then marksF p (k + 1) r else ((k : Int), (dep p x : Int)) :: marksF p (k + 1) r
def bends (a b c : Pt) : Bool := decide ((b.2 - a.2) * (c.1 - b.1) < (c.2 - b.2) * (b.1 - a.1))
/-- the way, its last mark first -/
def popW (m : Pt) : List Pt → List Pt
  | a :: b :: r => if bends b a m = true then a :: b :: r else popW m (b :: r)
  | s => s
def hull (ms : List Pt) : List Pt := ms.foldl (fun st m => m :: popW m st) []
def sides : List Pt → List Pt
  | a :: b :: r => (b.1 - a.1, b.2 - a.2) :: sides (b :: r)
  | _ => []
def border (p : Int) (f : List Int) : List Pt := sides (hull (marksF p 0 f)).reverse
/-! ### == of lists of pairs -/
theorem eqvAll_pts : ∀ xs ys : List Pt, PyData.eqvAll (xs.map ptD) (ys.map ptD) = decide (xs = ys)
  | [], [] => by simp [PyData.eqvAll]
  | [], _ :: _ => by simp [PyData.eqvAll]
  | _ :: _, [] => by simp [PyData.eqvAll]
  | x :: xs, y :: ys => by
    rw [List.map_cons, List.map_cons]
    unfold PyData.eqvAll
    rw [show ptD x = .tuple [.int x.1, .int x.2] from rfl, show ptD y = .tuple [.int y.1, .int y.2] from rfl, eqv_pair, eqvAll_pts xs ys]
    obtain ⟨a, b⟩ := x
    obtain ⟨c, d⟩ := y
    simp only [List.cons.injEq, Prod.mk.injEq, Bool.decide_and]
theorem eqv_lpts (xs ys : List Pt) : PyData.eqv (.list (xs.map ptD)) (.list (ys.map ptD)) = decide (xs = ys) := by unfold PyData.eqv; exact eqvAll_pts xs ys
theorem canLayAll_pts : ∀ xs : List Pt, PyData.canLayAll0 (xs.map ptD) = true
  | [] => by simp [PyData.canLayAll0]
  | x :: xs => by
    have := canLayAll_pts xs
    simp [PyData.canLayAll0, PyData.canLay0, ptD]
    exact this
theorem depthAll_pts : ∀ xs : List Pt, PyData.depthAll (xs.map ptD) ≤ 3
  | [] => by simp [PyData.depthAll]
  | x :: xs => by
    have := depthAll_pts xs
    simp only [List.map_cons, PyData.depthAll, PyData.depth, ptD]
    omega
theorem shaped_lpts (xs : List Pt) : SeqAt.shaped (.list (xs.map ptD)) = true := by
  have := depthAll_pts xs
  have h2 := canLayAll_pts xs
  simp only [SeqAt.shaped, PyData.canLay0, h2, PyData.depth, Bool.true_and]
  exact decide_eq_true (by omega)
/-! ### places -/
theorem at_back1 {α : Type} {xs : List α} {a : α} : L2.atI (xs ++ [a]) (-1) = some a := by
  unfold L2.atI L2.ixN
  rw [if_neg (by decide), if_pos (by simp; omega)]
  simp only [List.length_append, List.length_cons, List.length_nil]
  show (xs ++ [a])[(-1 + ((xs.length + (0 + 1) : Nat) : Int)).toNat]? = _
  rw [show (-1 + ((xs.length + (0 + 1) : Nat) : Int)).toNat = xs.length by omega]
  simp
theorem at_back2 {α : Type} {xs : List α} {a b : α} : L2.atI (xs ++ [b, a]) (-2) = some b := by
  unfold L2.atI L2.ixN
  rw [if_neg (by decide), if_pos (by simp; omega)]
  simp only [List.length_append, List.length_cons, List.length_nil]
  show (xs ++ [b, a])[(-2 + ((xs.length + (0 + 1 + 1) : Nat) : Int)).toNat]? = _
  rw [show (-2 + ((xs.length + (0 + 1 + 1) : Nat) : Int)).toNat = xs.length by omega]
  simp
theorem at_back1' {α : Type} {xs : List α} {a b : α} : L2.atI (xs ++ [b, a]) (-1) = some a := by
  have := at_back1 (xs := xs ++ [b]) (a := a)
  simpa using this
theorem atI_mid' {α : Type} {pre r : List α} {x : α} {k : Int} (h : k = pre.length) : L2.atI (pre ++ x :: r) k = some x := by
  subst h
  unfold L2.atI L2.ixN
  rw [if_pos (by omega), if_pos (by simp; omega)]
  simp
/-- a range, as what is left of it -/
def rgD (i n : Nat) : List PyData := (List.range' i n).map fun k => .int (k : Nat)
theorem upto_rgD (n : Nat) : (upto n fun i => .int (i : Nat)) = rgD 0 n := by unfold upto rgD; rw [List.range_eq_range']
theorem rgD_cons {d : PyData} {r : List PyData} {i n : Nat} (h : d :: r = rgD i n) : ∃ m, n = m + 1 ∧ d = .int (i : Nat) ∧ r = rgD (i + 1) m := by
  cases n with
  | zero => simp [rgD] at h
  | succ m =>
    unfold rgD at h ⊢
    rw [List.range'_succ, List.map_cons] at h
    obtain ⟨h1, h2⟩ := List.cons.inj h
    exact ⟨m, rfl, h1, h2⟩
theorem rgD_nil {i n : Nat} (h : [] = rgD i n) : n = 0 := by
  cases n with
  | zero => rfl
  | succ m => unfold rgD at h; rw [List.range'_succ] at h; cases h
theorem marksF_cons (p : Int) (k : Nat) (x : Int) (r : List Int) : marksF p k (x :: r) = if x = 0 then marksF p (k + 1) r else ((k : Int), (dep p x : Int)) :: marksF p (k + 1) r := rfl
theorem marksF_app (p : Int) : ∀ (xs ys : List Int) (k : Nat), marksF p k (xs ++ ys) = marksF p k xs ++ marksF p (k + xs.length) ys
  | [], ys, k => by simp [marksF]
  | x :: xs, ys, k => by
    rw [List.cons_append, marksF_cons, marksF_cons, marksF_app p xs ys (k + 1), List.length_cons, show k + (xs.length + 1) = k + 1 + xs.length by omega]
    split <;> simp
end Pz
namespace Pz
open PySem PySem.Spec PyProof.Rows L2
theorem rgD_len (i n : Nat) : (rgD i n).length = n := by simp [rgD]
theorem snoc_eq {α : Type} {pre : List α} {x : α} {suf : List α} : pre ++ x :: suf = (pre ++ [x]) ++ suf := by simp
end Pz
namespace Pz
open PySem PySem.Spec PyProof.Rows L2
theorem popW_sub (m : Pt) : ∀ st : List Pt, ∀ x ∈ popW m st, x ∈ st
  | [], _, h => h
  | [_], _, h => h
  | a :: b :: r, x, h => by
    unfold popW at h
    split at h
    · exact h
    · exact List.mem_cons_of_mem _ (popW_sub m (b :: r) x h)
theorem hull_snoc (ms : List Pt) (m : Pt) : hull (ms ++ [m]) = m :: popW m (hull ms) := by unfold hull; rw [List.foldl_append]; rfl
theorem hull_sub (ms : List Pt) : ∀ x ∈ hull ms, x ∈ ms := by
  suffices h : ∀ (ms : List Pt) (st : List Pt), ∀ x ∈ ms.foldl (fun st m => m :: popW m st) st, x ∈ st ∨ x ∈ ms by
    intro x hx
    rcases h ms [] x hx with h | h
    · cases h
    · exact h
  intro ms
  induction ms with
  | nil => intro st x hx; exact .inl hx
  | cons m r ih =>
    intro st x hx
    rcases ih _ x hx with h | h
    · rcases List.mem_cons.1 h with h | h
      · exact .inr (by rw [h]; exact List.mem_cons_self)
      · exact .inl (popW_sub m st x h)
    · exact .inr (List.mem_cons_of_mem _ h)
theorem hull_nil (ms : List Pt) : hull ms = [] ↔ ms = [] := by
  constructor
  · intro h
    rcases List.eq_nil_or_concat ms with h1 | ⟨r, m, h1⟩
    · exact h1
    · rw [h1, List.concat_eq_append, hull_snoc] at h; cases h
  · rintro rfl; rfl
theorem marksF_bt {p : Int} (hp : 2 ≤ p) {n : Nat} : ∀ (f : List Int) (k : Nat), (∀ x ∈ f, Bt n x) → ∀ m ∈ marksF p k f, (k : Int) ≤ m.1 ∧ m.1 < k + f.length ∧ 0 ≤ m.2 ∧ m.2 < n
  | [], _, _, _, h => nomatch h
  | x :: r, k, hb, m, h => by
    have ih := fun h => marksF_bt hp (n := n) r (k + 1) (fun x hx => hb x (List.mem_cons_of_mem _ hx)) m h
    rw [marksF_cons] at h
    rw [List.length_cons]
    by_cases z : x = 0
    · rw [if_pos z] at h
      have := ih h
      omega
    · rw [if_neg z] at h
      rcases List.mem_cons.1 h with h | h
      · subst h
        have := dep_bt hp z (hb x List.mem_cons_self)
        refine ⟨?_, ?_, ?_, ?_⟩ <;> dsimp only <;> omega
      · have := ih h
        omega
theorem sides_snoc : ∀ (pre : List Pt) (a b : Pt), sides (pre ++ [a, b]) = sides (pre ++ [a]) ++ [(b.1 - a.1, b.2 - a.2)]
  | [], a, b => rfl
  | [x], a, b => rfl
  | x :: y :: r, a, b => by
    have ih := sides_snoc (y :: r) a b
    simp only [List.cons_append] at ih ⊢
    show _ :: sides (y :: (r ++ [a, b])) = _ :: sides (y :: (r ++ [a])) ++ _
    rw [ih]
    rfl
end Pz
namespace Pz
open PySem PySem.Spec PyProof.Rows L2
theorem popW_len (m : Pt) : ∀ st : List Pt, (popW m st).length ≤ st.length
  | [] => Nat.le_refl _
  | [_] => Nat.le_refl _
  | a :: b :: r => by
    unfold popW
    split
    · exact Nat.le_refl _
    · have := popW_len m (b :: r)
      simp only [List.length_cons] at this ⊢
      omega
theorem hull_len (ms : List Pt) : (hull ms).length ≤ ms.length := by
  suffices h : ∀ (ms : List Pt) (st : List Pt), (ms.foldl (fun st m => m :: popW m st) st).length ≤ st.length + ms.length by
    unfold hull
    simpa using h ms []
  intro ms
  induction ms with
  | nil => intro st; simp
  | cons m r ih =>
    intro st
    have h1 := ih (m :: popW m st)
    have h2 := popW_len m st
    simp only [List.length_cons, List.foldl_cons] at h1 ⊢
    omega
theorem marksF_len (p : Int) : ∀ (f : List Int) (k : Nat), (marksF p k f).length ≤ f.length
  | [], _ => Nat.le_refl _
  | x :: r, k => by
    have := marksF_len p r (k + 1)
    rw [marksF_cons]
    split <;> simp only [List.length_cons] <;> omega
theorem dropLast_two {α : Type} (xs : List α) (b a : α) : (xs ++ [b, a]).dropLast = xs ++ [b] := by
  rw [show xs ++ [b, a] = (xs ++ [b]) ++ [a] by simp, List.dropLast_concat]
end Pz
namespace Pz
open PySem PySem.Spec PyProof.Rows L2
theorem marksF_noughts (p : Int) : ∀ (n k : Nat), marksF p k (List.replicate n 0) = []
  | 0, _ => rfl
  | n + 1, k => by rw [List.replicate_succ, marksF_cons, if_pos rfl]; exact marksF_noughts p n (k + 1)
theorem marksF_one (p x : Int) (hx : x ≠ 0) : ∀ (n j k : Nat), j < n → marksF p k ((List.replicate n 0).set j x) = [(((k + j : Nat) : Int), (dep p x : Int))]
  | 0, _, _, h => absurd h (Nat.not_lt_zero _)
  | n + 1, 0, k, _ => by rw [List.replicate_succ, List.set_cons_zero, marksF_cons, if_neg hx, marksF_noughts]; rfl
  | n + 1, j + 1, k, h => by
    rw [List.replicate_succ, List.set_cons_succ, marksF_cons, if_pos rfl, marksF_one p x hx n j (k + 1) (by omega), show k + 1 + j = k + (j + 1) by omega]
theorem flat_rep (n : Nat) (x : Int) : (List.replicate n [PyData.int x]).flatten = (List.replicate n x).map .int := by
  induction n with
  | zero => rfl
  | succ n ih => rw [List.replicate_succ, List.flatten_cons, ih, List.replicate_succ, List.map_cons]; rfl
end Pz
namespace Pz
open PySem PySem.Spec PyProof.Rows L2
theorem ixN_some {n : Nat} {k : Int} (h0 : 0 ≤ k) (h1 : k < n) : L2.ixN n k = some k.toNat := by unfold L2.ixN; rw [if_pos h0, if_pos h1]
theorem map_set_int (L : List Int) (j : Nat) (v : Int) : (L.map PyData.int).set j (.int v) = (L.set j v).map .int := by rw [List.map_set]
end Pz

namespace Pz
open PySem PySem.Spec PyProof.Rows L2
/-! ### sides by their rise for the run -/
def slt (a b : Pt) : Prop := a.2 * b.1 < b.2 * a.1
def sim (a b : Pt) : Prop := a.2 * b.1 = b.2 * a.1
instance (a b : Pt) : Decidable (slt a b) := inferInstanceAs (Decidable (a.2 * b.1 < b.2 * a.1))
instance (a b : Pt) : Decidable (sim a b) := inferInstanceAs (Decidable (a.2 * b.1 = b.2 * a.1))
theorem slt_tri (a b : Pt) : slt a b ∨ sim a b ∨ slt b a := by unfold slt sim; omega
theorem slt_irr {a b : Pt} (h : slt a b) : ¬ sim a b ∧ ¬ slt b a := by unfold slt sim at *; omega
theorem sim_symm {a b : Pt} (h : sim a b) : sim b a := by unfold sim at *; omega
theorem sim_refl (a : Pt) : sim a a := rfl
theorem slt_trans {a b c : Pt} (ha : 0 < a.1) (hb : 0 < b.1) (hc : 0 < c.1) (h : slt a b) (k : slt b c) : slt a c := by
  unfold slt at *
  have h1 := Int.mul_lt_mul_of_pos_right h hc
  have h2 := Int.mul_lt_mul_of_pos_right k ha
  have h3 : b.1 * (a.2 * c.1) < b.1 * (c.2 * a.1) := by
    have e1 : a.2 * b.1 * c.1 = b.1 * (a.2 * c.1) := by grind
    have e2 : b.2 * a.1 * c.1 = b.2 * c.1 * a.1 := by grind
    have e3 : c.2 * b.1 * a.1 = b.1 * (c.2 * a.1) := by grind
    omega
  exact Int.lt_of_mul_lt_mul_left h3 (by omega)
theorem sim_trans {a b c : Pt} (hb : 0 < b.1) (h : sim a b) (k : sim b c) : sim a c := by
  unfold sim at *
  have h3 : b.1 * (a.2 * c.1) = b.1 * (c.2 * a.1) := by grind
  exact Int.eq_of_mul_eq_mul_left (by omega) h3
theorem slt_sim {a b c : Pt} (hb : 0 < b.1) (hc : 0 < c.1) (h : slt a b) (k : sim b c) : slt a c := by
  unfold slt sim at *
  have h1 := Int.mul_lt_mul_of_pos_right h hc
  have h3 : b.1 * (a.2 * c.1) < b.1 * (c.2 * a.1) := by
    have e1 : a.2 * b.1 * c.1 = b.1 * (a.2 * c.1) := by grind
    have e2 : b.2 * a.1 * c.1 = b.1 * (c.2 * a.1) := by grind
    omega
  exact Int.lt_of_mul_lt_mul_left h3 (by omega)
theorem sim_slt {a b c : Pt} (ha : 0 < a.1) (hb : 0 < b.1) (h : sim a b) (k : slt b c) : slt a c := by
  unfold slt sim at *
  have h2 := Int.mul_lt_mul_of_pos_right k ha
  have h3 : b.1 * (a.2 * c.1) < b.1 * (c.2 * a.1) := by
    have e1 : b.2 * c.1 * a.1 = b.1 * (a.2 * c.1) := by grind
    have e2 : c.2 * b.1 * a.1 = b.1 * (c.2 * a.1) := by grind
    omega
  exact Int.lt_of_mul_lt_mul_left h3 (by omega)
/-- two sides alike, made one -/
def both (a b : Pt) : Pt := (a.1 + b.1, a.2 + b.2)
theorem both_sim {a b : Pt} (h : sim a b) : sim (both a b) b := by unfold sim both at *; grind
/-! ### what is alike one side -/
def runS (q : Pt) : List Pt → Int
  | [] => 0
  | s :: r => (if sim s q then s.1 else 0) + runS q r
def risS (q : Pt) : List Pt → Int
  | [] => 0
  | s :: r => (if sim s q then s.2 else 0) + risS q r
theorem runS_app (q : Pt) : ∀ xs ys : List Pt, runS q (xs ++ ys) = runS q xs + runS q ys
  | [], ys => by simp [runS]
  | x :: xs, ys => by rw [List.cons_append]; simp only [runS]; rw [runS_app q xs ys]; omega
theorem risS_app (q : Pt) : ∀ xs ys : List Pt, risS q (xs ++ ys) = risS q xs + risS q ys
  | [], ys => by simp [risS]
  | x :: xs, ys => by rw [List.cons_append]; simp only [risS]; rw [risS_app q xs ys]; omega
theorem runS_zero {q : Pt} : ∀ {L : List Pt}, (∀ b ∈ L, ¬ sim b q) → runS q L = 0 ∧ risS q L = 0
  | [], _ => ⟨rfl, rfl⟩
  | s :: r, h => by
    obtain ⟨h1, h2⟩ := runS_zero (L := r) fun b hb => h b (List.mem_cons_of_mem _ hb)
    simp only [runS, risS]
    rw [if_neg (h s List.mem_cons_self), if_neg (h s List.mem_cons_self), h1, h2]
    simp
/-- each side rises more for its run than the one ahead -/
def Srt : List Pt → Prop
  | [] => True
  | a :: r => 0 < a.1 ∧ (∀ b ∈ r, slt a b) ∧ Srt r
theorem Srt.pos : ∀ {L : List Pt}, Srt L → ∀ a ∈ L, 0 < a.1
  | [], _, _, h => nomatch h
  | x :: r, s, a, h => by
    rcases List.mem_cons.1 h with h | h
    · rw [h]; exact s.1
    · exact Srt.pos s.2.2 a h
theorem srt_snoc : ∀ {L : List Pt} {s : Pt}, Srt (L ++ [s]) ↔ Srt L ∧ (∀ x ∈ L, slt x s) ∧ 0 < s.1
  | [], s => by simp [Srt]
  | a :: r, s => by
    rw [List.cons_append]
    show (0 < a.1 ∧ (∀ b ∈ r ++ [s], slt a b) ∧ Srt (r ++ [s])) ↔ (0 < a.1 ∧ (∀ b ∈ r, slt a b) ∧ Srt r) ∧ _
    rw [srt_snoc (L := r)]
    constructor
    · rintro ⟨h1, h2, h3, h4, h5⟩
      refine ⟨⟨h1, fun b hb => h2 b (List.mem_append_left _ hb), h3⟩, fun x hx => ?_, h5⟩
      rcases List.mem_cons.1 hx with h | h
      · rw [h]; exact h2 s (by simp)
      · exact h4 x h
    · rintro ⟨⟨h1, h2, h3⟩, h4, h5⟩
      refine ⟨h1, fun b hb => ?_, h3, fun x hx => h4 x (List.mem_cons_of_mem _ hx), h5⟩
      rcases List.mem_append.1 hb with h | h
      · exact h2 b h
      · rw [List.mem_singleton.1 h]; exact h4 a List.mem_cons_self
theorem Srt.sum_head {a : Pt} {r : List Pt} (h : Srt (a :: r)) : runS a (a :: r) = a.1 ∧ risS a (a :: r) = a.2 := by
  obtain ⟨h1, h2⟩ := runS_zero (q := a) (L := r) fun b hb k => (slt_irr (h.2.1 b hb)).1 (sim_symm k)
  simp only [runS, risS]
  rw [if_pos (sim_refl a), if_pos (sim_refl a), h1, h2]
  simp
/-- by what is alike each side a sorted list is given -/
theorem Srt.uniq : ∀ {A B : List Pt}, Srt A → Srt B → (∀ q : Pt, 0 < q.1 → runS q A = runS q B ∧ risS q A = risS q B) → A = B
  | [], [], _, _, _ => rfl
  | [], b :: B, _, hb, h => by
    have h1 := (h b hb.1).1
    rw [hb.sum_head.1] at h1
    have := hb.1
    simp [runS] at h1
    omega
  | a :: A, [], ha, _, h => by
    have h1 := (h a ha.1).1
    rw [ha.sum_head.1] at h1
    have := ha.1
    simp [runS] at h1
    omega
  | a :: A, b :: B, ha, hb, h => by
    have hab : sim a b := by
      rcases slt_tri a b with k | k | k
      · exfalso
        have h1 := (h a ha.1).1
        have h2 := (runS_zero (q := a) (L := b :: B) fun c hc z => by
          rcases List.mem_cons.1 hc with e | e
          · subst e; exact (slt_irr k).1 (sim_symm z)
          · exact (slt_irr (slt_trans ha.1 hb.1 (hb.pos c hc) k (hb.2.1 c e))).1 (sim_symm z)).1
        rw [ha.sum_head.1, h2] at h1
        have := ha.1
        omega
      · exact k
      · exfalso
        have h1 := (h b hb.1).1
        have h2 := (runS_zero (q := b) (L := a :: A) fun c hc z => by
          rcases List.mem_cons.1 hc with e | e
          · subst e; exact (slt_irr k).1 (sim_symm z)
          · exact (slt_irr (slt_trans hb.1 ha.1 (ha.pos c hc) k (ha.2.1 c e))).1 (sim_symm z)).1
        rw [hb.sum_head.1, h2] at h1
        have := hb.1
        omega
    have e : a = b := by
      obtain ⟨h1, h2⟩ := h a ha.1
      obtain ⟨z1, z2⟩ := runS_zero (q := a) (L := B) fun c hc z => (slt_irr (hb.2.1 c hc)).1 (sim_trans ha.1 (sim_symm hab) (sim_symm z))
      rw [ha.sum_head.1] at h1
      rw [ha.sum_head.2] at h2
      simp only [runS, risS] at h1 h2
      rw [if_pos (sim_symm hab), z1] at h1
      rw [if_pos (sim_symm hab), z2] at h2
      exact Prod.ext (by omega) (by omega)
    subst e
    rw [Srt.uniq ha.2.2 hb.2.2 fun q hq => by
      obtain ⟨h1, h2⟩ := h q hq
      simp only [runS, risS] at h1 h2
      omega]
end Pz
namespace Pz
open PySem PySem.Spec PyProof.Rows L2
/-- sums of a list of sides, as another one's -/
def Alk (A B : List Pt) : Prop := ∀ q : Pt, 0 < q.1 → runS q A = runS q B ∧ risS q A = risS q B
theorem alk_snoc {L : List Pt} {s : Pt} (q : Pt) : runS q (L ++ [s]) = runS q L + (if sim s q then s.1 else 0) ∧ risS q (L ++ [s]) = risS q L + (if sim s q then s.2 else 0) := by
  rw [runS_app, risS_app]
  simp [runS, risS]
/-- two sides alike weigh as both -/
theorem both_sum {a b q : Pt} (ha : 0 < a.1) (hb : 0 < b.1) (h : sim a b) : (if sim (both a b) q then (both a b).1 else 0) = (if sim a q then a.1 else 0) + (if sim b q then b.1 else 0) ∧
    (if sim (both a b) q then (both a b).2 else 0) = (if sim a q then a.2 else 0) + (if sim b q then b.2 else 0) := by
  have h0 := both_sim h
  have hp : 0 < (both a b).1 := by unfold both; dsimp only; omega
  by_cases z : sim b q
  · have z1 := sim_trans hb h z
    have z2 := sim_trans hb h0 z
    rw [if_pos z, if_pos z1, if_pos z2, if_pos z, if_pos z1, if_pos z2]
    exact ⟨rfl, rfl⟩
  · have z1 : ¬ sim a q := fun k => z (sim_trans ha (sim_symm h) k)
    have z2 : ¬ sim (both a b) q := fun k => z (sim_trans hp (sim_symm h0) k)
    rw [if_neg z, if_neg z1, if_neg z2, if_neg z, if_neg z1, if_neg z2]
    exact ⟨rfl, rfl⟩
theorem last_snoc {α : Type} (xs : List α) (a : α) : (xs ++ [a])[(xs ++ [a]).length - 1]? = some a := by simp
theorem dropLast_snoc {α : Type} (xs : List α) (a : α) : (xs ++ [a]).dropLast = xs := List.dropLast_concat
end Pz
namespace Pz
open PySem PySem.Spec PyProof.Rows L2
/-! ### borders joined -/
def rest2 (A B : List Pt) (i j : Nat) : List Pt := A.drop i ++ B.drop j
/-- how far it is -/
structure Stt (A B : List Pt) (i j : Nat) (L : List Pt) : Prop where
  hi : i ≤ A.length
  hj : j ≤ B.length
  hL : L.length ≤ i + j
  srt : Srt L
  sums : Alk (L ++ rest2 A B i j) (A ++ B)
  low : ∀ s ∈ rest2 A B i j, ∀ x ∈ L, ¬ slt s x
  bt : ∀ x ∈ L, Bt (1000 + (i + j)) x.1 ∧ Bt (1000 + (i + j)) x.2
/-- the side that comes next -/
structure Nxt (A B : List Pt) (i j i' j' : Nat) (s : Pt) : Prop where
  hi : i' ≤ A.length
  hj : j' ≤ B.length
  hij : i' + j' = i + j + 1
  mem : s ∈ rest2 A B i j
  sums : Alk (s :: rest2 A B i' j') (rest2 A B i j)
  low : ∀ t ∈ rest2 A B i' j', ¬ slt t s
  sub : ∀ t ∈ rest2 A B i' j', t ∈ rest2 A B i j
theorem Alk.app_left {A B : List Pt} (h : Alk A B) (L : List Pt) : Alk (L ++ A) (L ++ B) := fun q hq => by
  rw [runS_app, runS_app, risS_app, risS_app, (h q hq).1, (h q hq).2]
  exact ⟨rfl, rfl⟩
theorem Alk.trans {A B C : List Pt} (h : Alk A B) (k : Alk B C) : Alk A C := fun q hq => ⟨(h q hq).1.trans (k q hq).1, (h q hq).2.trans (k q hq).2⟩
theorem Alk.symm {A B : List Pt} (h : Alk A B) : Alk B A := fun q hq => ⟨(h q hq).1.symm, (h q hq).2.symm⟩
theorem alk_comm (A B : List Pt) : Alk (A ++ B) (B ++ A) := fun q _ => by rw [runS_app, runS_app, risS_app, risS_app]; omega
theorem mem_rest {A B : List Pt} {i j : Nat} {s : Pt} (h : s ∈ rest2 A B i j) : s ∈ A ++ B := by
  unfold rest2 at h
  rcases List.mem_append.1 h with h | h
  · exact List.mem_append_left _ (List.mem_of_mem_drop h)
  · exact List.mem_append_right _ (List.mem_of_mem_drop h)
theorem srt_drop {A : List Pt} (h : Srt A) : ∀ n : Nat, Srt (A.drop n) := by
  induction A with
  | nil => intro n; simp; exact trivial
  | cons a r ih => intro n; cases n with
    | zero => exact h
    | succ n => exact ih h.2.2 n
theorem nxt_left {A B : List Pt} {i j : Nat} {a : Pt} (sA : Srt A) (sB : Srt B) (hi : i < A.length) (hj : j ≤ B.length) (ha : A[i]? = some a) (h : j = B.length ∨ ∃ b, B[j]? = some b ∧ ¬ slt b a) : Nxt A B i j (i + 1) j a := by
  have e : A.drop i = a :: A.drop (i + 1) := by
    rw [List.drop_eq_getElem_cons hi]
    rw [List.getElem?_eq_getElem hi] at ha
    rw [Option.some.inj ha]
  have s1 := srt_drop sA i
  rw [e] at s1
  refine ⟨hi, hj, by omega, by unfold rest2; rw [e]; simp, fun q _ => by unfold rest2; rw [e]; exact ⟨rfl, rfl⟩, fun t ht => ?_, fun t ht => by unfold rest2 at *; rw [e]; simp at ht ⊢; rcases ht with ht | ht <;> simp [ht]⟩
  unfold rest2 at ht
  rcases List.mem_append.1 ht with ht | ht
  · exact (slt_irr (s1.2.1 t ht)).2
  · rcases h with h | ⟨b, hb, hba⟩
    · rw [List.drop_eq_nil_of_le (by omega)] at ht; cases ht
    · have hjl : j < B.length := (List.getElem?_eq_some_iff.1 hb).1
      have e2 : B.drop j = b :: B.drop (j + 1) := by
        rw [List.drop_eq_getElem_cons hjl]
        rw [List.getElem?_eq_getElem hjl] at hb
        rw [Option.some.inj hb]
      have s2 := srt_drop sB j
      rw [e2] at s2 ht
      rcases List.mem_cons.1 ht with k | k
      · rw [k]; exact hba
      · exact fun z => hba (slt_trans s2.1 (s2.2.2.pos t k) s1.1 (s2.2.1 t k) z)
theorem nxt_right {A B : List Pt} {i j : Nat} {b : Pt} (sA : Srt A) (sB : Srt B) (hi : i ≤ A.length) (hj : j < B.length) (hb : B[j]? = some b) (h : i = A.length ∨ ∃ a, A[i]? = some a ∧ ¬ slt a b) : Nxt A B i j i (j + 1) b := by
  have k := nxt_left (A := B) (B := A) (i := j) (j := i) sB sA hj hi hb h
  refine ⟨k.hj, k.hi, by have := k.hij; omega, ?_, ?_, fun t ht => k.low t ?_, fun t ht => ?_⟩
  · have := k.mem; unfold rest2 at *; simp at *; exact this.symm
  · intro q hq
    have := k.sums q hq
    unfold rest2 at *
    simp only [runS, risS, runS_app, risS_app] at *
    omega
  · unfold rest2 at *; simp at *; exact ht.symm
  · have := k.sub t (by unfold rest2 at *; simp at *; exact ht.symm)
    unfold rest2 at *; simp at *; exact this.symm
theorem Stt.put {A B : List Pt} {i j i' j' : Nat} {L : List Pt} {s : Pt} (h : Stt A B i j L) (k : Nxt A B i j i' j' s) (hs : 0 < s.1) (bs : Bt 1000 s.1 ∧ Bt 1000 s.2) (hl : ∀ x ∈ L, slt x s) : Stt A B i' j' (L ++ [s]) := by
  refine ⟨k.hi, k.hj, by have := h.hL; have := k.hij; simp; omega, srt_snoc.2 ⟨h.srt, hl, hs⟩, ?_, fun t ht x hx => ?_, fun x hx => ?_⟩
  · rw [List.append_assoc]
    exact (k.sums.app_left L).trans h.sums
  · rcases List.mem_append.1 hx with hx | hx
    · exact h.low t (k.sub t ht) x hx
    · rw [List.mem_singleton.1 hx]; exact k.low t ht
  · have := k.hij
    rcases List.mem_append.1 hx with hx | hx
    · exact ⟨(h.bt x hx).1.mono (by omega), (h.bt x hx).2.mono (by omega)⟩
    · rw [List.mem_singleton.1 hx]
      exact ⟨bs.1.mono (by omega), bs.2.mono (by omega)⟩
theorem Stt.join {A B : List Pt} {i j i' j' : Nat} {L : List Pt} {x s : Pt} (h : Stt A B i j (L ++ [x])) (k : Nxt A B i j i' j' s) (pA : ∀ s ∈ A ++ B, 0 < s.1) (bs : Bt 1000 s.1 ∧ Bt 1000 s.2) (hx : sim x s) : Stt A B i' j' (L ++ [both x s]) := by
  obtain ⟨s1, s2, s3⟩ := srt_snoc.1 h.srt
  have hs : 0 < s.1 := pA s (mem_rest k.mem)
  have hp : 0 < (both x s).1 := by unfold both; dsimp only; omega
  have hbs := both_sim hx
  have hxb : sim x (both x s) := sim_trans hs hx (sim_symm hbs)
  have hij := k.hij
  refine ⟨k.hi, k.hj, by have := h.hL; simp at *; omega, srt_snoc.2 ⟨s1, fun y hy => slt_sim s3 hp (s2 y hy) hxb, hp⟩, ?_, fun t ht y hy => ?_, fun y hy => ?_⟩
  · refine Alk.trans ?_ h.sums
    intro q hq
    have h1 := k.sums q hq
    obtain ⟨b1, b2⟩ := both_sum (q := q) s3 hs hx
    simp only [runS_app, risS_app, runS, risS] at *
    omega
  · rcases List.mem_append.1 hy with hy | hy
    · exact h.low t (k.sub t ht) y (List.mem_append_left _ hy)
    · rw [List.mem_singleton.1 hy]
      exact fun z => k.low t ht (slt_sim hp hs z hbs)
  · rcases List.mem_append.1 hy with hy | hy
    · have := h.bt y (List.mem_append_left _ hy)
      exact ⟨this.1.mono (by omega), this.2.mono (by omega)⟩
    · rw [List.mem_singleton.1 hy]
      have := h.bt x (by simp)
      exact ⟨((this.1.add2 bs.1).mono (by omega)), ((this.2.add2 bs.2).mono (by omega))⟩
theorem Stt.end {A B : List Pt} {L : List Pt} (h : Stt A B A.length B.length L) : Srt L ∧ Alk L (A ++ B) := by
  refine ⟨h.srt, ?_⟩
  have := h.sums
  unfold rest2 at this
  rwa [List.drop_length, List.drop_length, List.append_nil, List.append_nil] at this
end Pz
namespace Pz
open PySem PySem.Spec PyProof.Rows L2
/-! ### sides put together by the least rise -/
theorem sum_lin {q : Pt} (hq : 0 < q.1) : ∀ {L : List Pt}, (∀ s ∈ L, 0 < s.1) → risS q L * q.1 = q.2 * runS q L ∧ 0 ≤ runS q L ∧ ((∃ s ∈ L, sim s q) → 0 < runS q L)
  | [], _ => ⟨by simp [runS, risS], by simp [runS], fun ⟨s, h, _⟩ => nomatch h⟩
  | s :: r, h => by
    obtain ⟨h1, h2, h3⟩ := sum_lin hq (L := r) fun t ht => h t (List.mem_cons_of_mem _ ht)
    have hs := h s List.mem_cons_self
    simp only [runS, risS]
    by_cases z : sim s q
    · rw [if_pos z, if_pos z]
      unfold sim at z
      refine ⟨by rw [Int.add_mul, Int.mul_add]; omega, by omega, fun _ => by omega⟩
    · rw [if_neg z, if_neg z, Int.zero_add, Int.zero_add]
      refine ⟨h1, h2, fun ⟨t, ht, k⟩ => ?_⟩
      rcases List.mem_cons.1 ht with e | e
      · subst e; exact (z k).elim
      · exact h3 ⟨t, e, k⟩
/-- the least side's class and what is left -/
theorem due_split {best : Pt} (hb : 0 < best.1) : ∀ {L : List Pt}, (∀ s ∈ L, 0 < s.1) → (∀ s ∈ L, ¬ slt s best) → ∀ q : Pt, 0 < q.1 →
    runS q L = (if sim best q then runS best L else 0) + runS q (L.filter fun s => decide (slt best s)) ∧ risS q L = (if sim best q then risS best L else 0) + risS q (L.filter fun s => decide (slt best s))
  | [], _, _, q, _ => by simp [runS, risS]
  | s :: r, h, k, q, hq => by
    obtain ⟨h1, h2⟩ := due_split hb (L := r) (fun t ht => h t (List.mem_cons_of_mem _ ht)) (fun t ht => k t (List.mem_cons_of_mem _ ht)) q hq
    have hs := h s List.mem_cons_self
    have ks := k s List.mem_cons_self
    by_cases z : slt best s
    · rw [List.filter_cons_of_pos (by simpa using z)]
      have z1 : ¬ sim s best := fun z2 => (slt_irr z).1 (sim_symm z2)
      simp only [runS, risS]
      rw [if_neg z1, if_neg z1, Int.zero_add, Int.zero_add]
      omega
    · rw [List.filter_cons_of_neg (by simpa using z)]
      have z1 : sim s best := by
        rcases slt_tri best s with e | e | e
        · exact (z e).elim
        · exact sim_symm e
        · exact (ks e).elim
      simp only [runS, risS]
      rw [if_pos z1, if_pos z1]
      by_cases w : sim best q
      · rw [if_pos w] at h1 h2
        rw [if_pos w, if_pos w, if_pos (sim_trans hb z1 w), if_pos (sim_trans hb z1 w)]
        omega
      · rw [if_neg w] at h1 h2
        have w2 : ¬ sim s q := fun e => w (sim_trans hs (sim_symm z1) e)
        rw [if_neg w, if_neg w, if_neg w2, if_neg w2]
        omega
theorem due_step {best : Pt} {F L T : List Pt} (hF : Srt F) (hL : ∀ s ∈ L, 0 < s.1) (hm : ∀ s ∈ L, ¬ slt s best) (hb : best ∈ L) (hFL : ∀ x ∈ F, ∀ s ∈ L, slt x s) (hT : Alk (F ++ L) T) :
    Srt (F ++ [(runS best L, risS best L)]) ∧ (∀ x ∈ F ++ [(runS best L, risS best L)], ∀ s ∈ L.filter (fun s => decide (slt best s)), slt x s) ∧ Alk (F ++ [(runS best L, risS best L)] ++ L.filter fun s => decide (slt best s)) T := by
  have pb := hL best hb
  obtain ⟨l1, _, l3⟩ := sum_lin pb hL
  have l4 := l3 ⟨best, hb, sim_refl _⟩
  have hs : sim (runS best L, risS best L) best := l1
  have hs' : sim best (runS best L, risS best L) := sim_symm hs
  refine ⟨srt_snoc.2 ⟨hF, fun x hx => slt_sim pb l4 (hFL x hx best hb) hs', l4⟩, fun x hx s h => ?_, ?_⟩
  · rw [List.mem_filter] at h
    have h2 : slt best s := by simpa using h.2
    rcases List.mem_append.1 hx with hx | hx
    · exact hFL x hx s h.1
    · rw [List.mem_singleton.1 hx]
      exact sim_slt l4 pb hs h2
  · refine Alk.trans (fun q hq => ?_) hT
    obtain ⟨d1, d2⟩ := due_split pb hL hm q hq
    rw [runS_app, risS_app, runS_app, risS_app, runS_app, risS_app, d1, d2]
    simp only [runS, risS]
    by_cases w : sim best q
    · rw [if_pos w, if_pos w, if_pos (sim_trans pb hs w), if_pos (sim_trans pb hs w)]; omega
    · have w2 : ¬ sim (runS best L, risS best L) q := fun e => w (sim_trans l4 hs' e)
      rw [if_neg w, if_neg w, if_neg w2, if_neg w2]; omega
end Pz
namespace Pz
open PySem PySem.Spec PyProof.Rows L2
theorem shaped_two (A B : List Pt) : SeqAt.shaped (.list [.list (A.map ptD), .list (B.map ptD)]) = true := by
  have h1 := depthAll_pts A
  have h2 := depthAll_pts B
  have h3 := canLayAll_pts A
  have h4 := canLayAll_pts B
  simp only [SeqAt.shaped, PyData.canLay0, PyData.canLayAll0, h3, h4, PyData.depth, PyData.depthAll, Bool.true_and, Bool.and_true]
  exact decide_eq_true (by omega)
theorem eqv_two (A B : List Pt) : PyData.eqv (.list [.list (A.map ptD), .list (B.map ptD)]) (.list [.list (A.map ptD), .list (B.map ptD)]) = true := by
  unfold PyData.eqv
  simp only [PyData.eqvAll]
  rw [eqv_lpts, eqv_lpts]
  simp
/-- a new side of a drawn border -/
structure Bord (A : List Pt) (top bottom : Int) : Prop where
  srt : Srt A
  b1 : 1 ≤ bottom
  le : ∀ x ∈ A, x.2 * bottom ≤ top * x.1
theorem Bord.step {A : List Pt} {top bottom c run : Int} (h : Bord A top bottom) (hc : 1 ≤ c) (hr : 1 ≤ run) : Bord (A ++ [(run * (bottom * 4), run * (top * 4 + c * bottom))]) (top * 4 + c * bottom) (bottom * 4) ∧
    Bord (A ++ [(run * 1, run * ((top * 4 + c * bottom) / (bottom * 4) + 1))]) ((top * 4 + c * bottom) / (bottom * 4) + 1) 1 := by
  have b1 := h.b1
  have hcb : 1 ≤ c * bottom := by have := Int.mul_le_mul hc b1 (by decide) (by omega); omega
  have lt1 : ∀ x ∈ A, x.2 * (bottom * 4) < (top * 4 + c * bottom) * x.1 := fun x hx => by
    have h1 := h.le x hx
    have h2 := h.srt.pos x hx
    have h3 := Int.mul_le_mul hcb (show 1 ≤ x.1 by omega) (by decide) (by omega)
    have e1 : x.2 * (bottom * 4) = x.2 * bottom * 4 := by grind
    have e2 : (top * 4 + c * bottom) * x.1 = top * x.1 * 4 + c * bottom * x.1 := by grind
    omega
  generalize top * 4 + c * bottom = T at *
  generalize hB : bottom * 4 = B at *
  have hB1 : 1 ≤ B := by omega
  have lt2 : ∀ x ∈ A, x.2 * 1 < (T / B + 1) * x.1 := fun x hx => by
    have h1 := lt1 x hx
    have h2 := h.srt.pos x hx
    have h3 : T < (T / B + 1) * B := Int.lt_ediv_add_one_mul_self T (by omega)
    have h4 := Int.mul_lt_mul_of_pos_right h3 h2
    have h5 : B * x.2 < B * ((T / B + 1) * x.1) := by
      have e1 : x.2 * B = B * x.2 := Int.mul_comm _ _
      have e2 : (T / B + 1) * B * x.1 = B * ((T / B + 1) * x.1) := by grind
      omega
    have := Int.lt_of_mul_lt_mul_left h5 (by omega)
    omega
  have mk : ∀ t b : Int, 1 ≤ b → (∀ x ∈ A, x.2 * b < t * x.1) → Bord (A ++ [(run * b, run * t)]) t b := fun t b hb hl => by
    have hrb : 1 ≤ run * b := by have := Int.mul_le_mul hr hb (by decide) (by omega); omega
    refine ⟨srt_snoc.2 ⟨h.srt, fun x hx => ?_, by dsimp only; omega⟩, hb, fun x hx => ?_⟩
    · have h1 := Int.mul_lt_mul_of_pos_left (hl x hx) (show 0 < run by omega)
      unfold slt
      dsimp only
      have e1 : x.2 * (run * b) = run * (x.2 * b) := by grind
      have e2 : run * t * x.1 = run * (t * x.1) := by grind
      omega
    · rcases List.mem_append.1 hx with hx | hx
      · exact Int.le_of_lt (hl x hx)
      · rw [List.mem_singleton.1 hx]
        dsimp only
        have e : run * t * b = t * (run * b) := by grind
        omega
  exact ⟨mk T B hB1 lt1, mk (T / B + 1) 1 (by decide) lt2⟩
end Pz

namespace Pz
open PySem PySem.Spec PyProof.Rows L2
/-! ### the hull's sides: convex, with all marks above -/
def sd (a b : Pt) : Pt := (b.1 - a.1, b.2 - a.2)
/-- m lies on the line over a and b, or above it -/
def abv (a b m : Pt) : Prop := (b.2 - a.2) * (m.1 - a.1) ≤ (m.2 - a.2) * (b.1 - a.1)
theorem sides_two (a b : Pt) (r : List Pt) : sides (a :: b :: r) = sd a b :: sides (b :: r) := rfl
theorem abv_left {b a m x : Pt} (h1 : b.1 < a.1) (h2 : a.1 < m.1) (h : abv b a x) (k : slt (sd b a) (sd a m)) (hx : x.1 ≤ a.1) : abv a m x := by
  unfold abv slt sd at *
  dsimp only at *
  have p1 := Int.mul_le_mul_of_nonneg_right h (show 0 ≤ m.1 - a.1 by omega)
  have p2 := Int.mul_le_mul_of_nonneg_right (Int.le_of_lt k) (show 0 ≤ a.1 - x.1 by omega)
  have : (a.1 - b.1) * ((m.2 - a.2) * (x.1 - a.1)) ≤ (a.1 - b.1) * ((x.2 - a.2) * (m.1 - a.1)) := by grind
  exact Int.le_of_mul_le_mul_left this (by omega)
theorem abv_new {b a m : Pt} (k : slt (sd b a) (sd a m)) : abv b a m := by
  unfold abv slt sd at *
  dsimp only at *
  grind
theorem slt_far {c b a m : Pt} (h0 : c.1 < b.1) (h1 : b.1 < a.1) (h2 : a.1 < m.1) (h : slt (sd c b) (sd b a)) (k : slt (sd b a) (sd a m)) : slt (sd c b) (sd b m) := by
  have p1 : slt (sd c b) (sd a m) := slt_trans (a := sd c b) (b := sd b a) (c := sd a m) (by unfold sd; dsimp only; omega) (by unfold sd; dsimp only; omega) (by unfold sd; dsimp only; omega) h k
  unfold slt sd at *
  dsimp only at *
  grind
theorem abv_pop1 {b a m x : Pt} (h1 : b.1 < a.1) (h2 : a.1 < m.1) (k : ¬ slt (sd b a) (sd a m)) (h : abv a m x) (hx : a.1 ≤ x.1) (hm : x.1 ≤ m.1) : abv b m x := by
  unfold abv slt sd at *
  dsimp only at *
  have p1 := Int.mul_le_mul_of_nonneg_right (Int.not_lt.1 k) (show 0 ≤ m.1 - x.1 by omega)
  have p2 := Int.mul_le_mul_of_nonneg_right h (show 0 ≤ m.1 - b.1 by omega)
  have : (m.1 - a.1) * ((m.2 - b.2) * (x.1 - b.1)) ≤ (m.1 - a.1) * ((x.2 - b.2) * (m.1 - b.1)) := by grind
  exact Int.le_of_mul_le_mul_left this (by omega)
theorem abv_pop2 {b a m x : Pt} (h1 : b.1 < a.1) (h2 : a.1 < m.1) (k : ¬ slt (sd b a) (sd a m)) (h : abv b a x) (hx : b.1 ≤ x.1) : abv b m x := by
  unfold abv slt sd at *
  dsimp only at *
  have p1 := Int.mul_le_mul_of_nonneg_right (Int.not_lt.1 k) (show 0 ≤ x.1 - b.1 by omega)
  have p2 := Int.mul_le_mul_of_nonneg_right h (show 0 ≤ m.1 - b.1 by omega)
  have : (a.1 - b.1) * ((m.2 - b.2) * (x.1 - b.1)) ≤ (a.1 - b.1) * ((x.2 - b.2) * (m.1 - b.1)) := by grind
  exact Int.le_of_mul_le_mul_left this (by omega)
/-- a way, its last mark first, with all marks above -/
def Cv (ms : List Pt) : List Pt → Prop
  | a :: b :: r => b.1 < a.1 ∧ (∀ m ∈ ms, abv b a m) ∧ (∀ c r', r = c :: r' → slt (sd c b) (sd b a)) ∧ Cv ms (b :: r)
  | _ => True
theorem cv_more {ms : List Pt} {m : Pt} : ∀ (r : List Pt) (a b : Pt), Cv ms (a :: b :: r) → a.1 < m.1 → slt (sd b a) (sd a m) → Cv (ms ++ [m]) (a :: b :: r)
  | [], a, b, ⟨h1, h2, h3, h4⟩, ha, k => ⟨h1, fun x hx => by
      rcases List.mem_append.1 hx with h | h
      · exact h2 x h
      · rw [List.mem_singleton.1 h]; exact abv_new k, h3, trivial⟩
  | c :: r, a, b, ⟨h1, h2, h3, h4⟩, ha, k => ⟨h1, fun x hx => by
      rcases List.mem_append.1 hx with h | h
      · exact h2 x h
      · rw [List.mem_singleton.1 h]; exact abv_new k, h3, cv_more r b c h4 (by omega) (slt_far h4.1 h1 ha (h3 c r rfl) k)⟩
theorem popW_cv {ms : List Pt} {m : Pt} (hm : ∀ x ∈ ms, x.1 < m.1) : ∀ (st : List Pt) (a : Pt), (∀ x ∈ a :: st, x ∈ ms) → Cv ms (a :: st) → (∀ x ∈ ms, a.1 ≤ x.1 → abv a m x) →
    (∀ b, (a :: st).getLast? = some b → ∀ x ∈ ms, b.1 ≤ x.1) → Cv (ms ++ [m]) (m :: popW m (a :: st)) ∧ (popW m (a :: st)).getLast? = (a :: st).getLast?
  | [], a, hs, hc, ha, hb => by
    refine ⟨⟨hm a (hs a List.mem_cons_self), fun x hx => ?_, fun c r' e => (nomatch e), trivial⟩, rfl⟩
    rcases List.mem_append.1 hx with h | h
    · exact ha x h (hb a rfl x h)
    · rw [List.mem_singleton.1 h]; unfold abv; rw [Int.mul_comm]; exact Int.le_refl _
  | b :: r, a, hs, hc, ha, hb => by
    have ham := hm a (hs a List.mem_cons_self)
    obtain ⟨h1, h2, h3, h4⟩ := hc
    unfold popW
    by_cases z : bends b a m = true
    · rw [if_pos z]
      have k : slt (sd b a) (sd a m) := of_decide_eq_true z
      refine ⟨⟨ham, fun x hx => ?_, fun c r' e => ?_, cv_more r a b ⟨h1, h2, h3, h4⟩ ham k⟩, rfl⟩
      · rcases List.mem_append.1 hx with h | h
        · rcases Int.le_total a.1 x.1 with q | q
          · exact ha x h q
          · exact abv_left h1 ham (h2 x h) k q
        · rw [List.mem_singleton.1 h]; unfold abv; rw [Int.mul_comm]; exact Int.le_refl _
      · cases e; exact k
    · rw [if_neg z]
      have k : ¬ slt (sd b a) (sd a m) := fun q => z (decide_eq_true q)
      have := popW_cv hm r b (fun x hx => hs x (List.mem_cons_of_mem _ hx)) h4 (fun x hx hbx => by
        rcases Int.le_total a.1 x.1 with q | q
        · exact abv_pop1 h1 ham k (ha x hx q) q (Int.le_of_lt (hm x hx))
        · exact abv_pop2 h1 ham k (h2 x hx) hbx) (fun c hc' => hb c (by rw [List.getLast?_cons_cons]; exact hc'))
      rw [List.getLast?_cons_cons]
      exact this
/-- marks from left to right -/
def Inc : List Pt → Prop
  | [] => True
  | a :: r => (∀ b ∈ r, a.1 < b.1) ∧ Inc r
theorem inc_snoc : ∀ {ms : List Pt} {m : Pt}, Inc (ms ++ [m]) ↔ Inc ms ∧ ∀ x ∈ ms, x.1 < m.1
  | [], m => by simp [Inc]
  | a :: r, m => by
    rw [List.cons_append]
    show ((∀ b ∈ r ++ [m], a.1 < b.1) ∧ Inc (r ++ [m])) ↔ ((∀ b ∈ r, a.1 < b.1) ∧ Inc r) ∧ _
    rw [inc_snoc (ms := r)]
    constructor
    · rintro ⟨h1, h2, h3⟩
      refine ⟨⟨fun b hb => h1 b (List.mem_append_left _ hb), h2⟩, fun x hx => ?_⟩
      rcases List.mem_cons.1 hx with h | h
      · rw [h]; exact h1 m (by simp)
      · exact h3 x h
    · rintro ⟨⟨h1, h2⟩, h3⟩
      refine ⟨fun b hb => ?_, h2, fun x hx => h3 x (List.mem_cons_of_mem _ hx)⟩
      rcases List.mem_append.1 hb with h | h
      · exact h1 b h
      · rw [List.mem_singleton.1 h]; exact h3 a List.mem_cons_self
theorem inc_one : ∀ {ms : List Pt}, Inc ms → ∀ a ∈ ms, ∀ b ∈ ms, a.1 = b.1 → a = b
  | [], _, _, h, _, _, _ => nomatch h
  | c :: r, ⟨h1, h2⟩, a, ha, b, hb, e => by
    rcases List.mem_cons.1 ha with ha | ha <;> rcases List.mem_cons.1 hb with hb | hb
    · rw [ha, hb]
    · have := h1 b hb; rw [ha] at e; omega
    · have := h1 a ha; rw [hb] at e; omega
    · exact inc_one h2 a ha b hb e
theorem marksF_inc (p : Int) : ∀ (f : List Int) (k : Nat), Inc (marksF p k f) ∧ ∀ x ∈ marksF p k f, (k : Int) ≤ x.1
  | [], k => ⟨trivial, fun _ h => nomatch h⟩
  | a :: f, k => by
    obtain ⟨h1, h2⟩ := marksF_inc p f (k + 1)
    rw [marksF_cons]
    split
    · exact ⟨h1, fun x hx => by have := h2 x hx; omega⟩
    · refine ⟨⟨fun x hx => by have := h2 x hx; dsimp only; omega, h1⟩, fun x hx => ?_⟩
      rcases List.mem_cons.1 hx with h | h
      · rw [h]; exact Int.le_refl _
      · have := h2 x h; omega
/-- the hull's way -/
theorem hull_cv {ms : List Pt} (h : Inc ms) : Cv ms (hull ms) ∧ (hull ms).head? = ms.getLast? ∧ (hull ms).getLast? = ms.head? := by
  suffices H : ∀ (n : Nat) (ms : List Pt), ms.length = n → Inc ms → Cv ms (hull ms) ∧ (hull ms).head? = ms.getLast? ∧ (hull ms).getLast? = ms.head? from H _ ms rfl h
  intro n
  induction n with
  | zero => intro ms hl _; rw [List.length_eq_zero_iff.1 hl]; exact ⟨trivial, rfl, rfl⟩
  | succ n ih =>
    intro ms hl hi
    rcases List.eq_nil_or_concat ms with e | ⟨pre, m, e⟩
    · rw [e] at hl; cases hl
    · rw [List.concat_eq_append] at e
      subst e
      obtain ⟨i1, i2⟩ := inc_snoc.1 hi
      obtain ⟨c1, c2, c3⟩ := ih pre (by simpa using hl) i1
      rw [hull_snoc]
      refine ⟨?_, by simp, ?_⟩
      · cases hh : hull pre with
        | nil => exact trivial
        | cons a st =>
          rw [hh] at c1 c2 c3
          refine (popW_cv i2 st a (fun x hx => hull_sub pre x (by rw [hh]; exact hx)) c1 (fun x hx hax => ?_) (fun b hb x hx => ?_)).1
          · have hl : pre.getLast? = some a := c2.symm
            rcases List.eq_nil_or_concat pre with e | ⟨pre', a', e⟩
            · rw [e] at hl; cases hl
            · rw [List.concat_eq_append] at e
              rw [e, List.getLast?_concat] at hl
              cases hl
              rw [e] at hx i1
              rcases List.mem_append.1 hx with h | h
              · have := (inc_snoc.1 i1).2 x h; omega
              · rw [List.mem_singleton.1 h]; unfold abv; simp
          · rw [c3] at hb
            cases pre with
            | nil => cases hb
            | cons y r =>
              cases hb
              rcases List.mem_cons.1 hx with h | h
              · rw [h]; exact Int.le_refl _
              · exact Int.le_of_lt (i1.1 x h)
      · cases hh : hull pre with
        | nil =>
          have := (hull_nil pre).1 hh
          subst this
          rfl
        | cons a st =>
          rw [hh] at c1 c2 c3
          have := (popW_cv i2 st a (fun x hx => hull_sub pre x (by rw [hh]; exact hx)) c1 (fun x hx hax => ?_) (fun b hb x hx => ?_)).2
          · cases hp : popW m (a :: st) with
            | nil => rw [hp] at this; cases h2 : (a :: st).getLast? with
              | none => simp at h2
              | some z => rw [h2] at this; cases this
            | cons u v =>
              rw [List.getLast?_cons_cons, ← hp, this, c3]
              cases pre with
              | nil => cases hh
              | cons y r => rfl
          · have hl : pre.getLast? = some a := c2.symm
            rcases List.eq_nil_or_concat pre with e | ⟨pre', a', e⟩
            · rw [e] at hl; cases hl
            · rw [List.concat_eq_append] at e
              rw [e, List.getLast?_concat] at hl
              cases hl
              rw [e] at hx i1
              rcases List.mem_append.1 hx with h | h
              · have := (inc_snoc.1 i1).2 x h; omega
              · rw [List.mem_singleton.1 h]; unfold abv; simp
          · rw [c3] at hb
            cases pre with
            | nil => cases hb
            | cons y r =>
              cases hb
              rcases List.mem_cons.1 hx with h | h
              · rw [h]; exact Int.le_refl _
              · exact Int.le_of_lt (i1.1 x h)
/-- a way from left to right, with all marks above -/
def Fw (ms : List Pt) : List Pt → Prop
  | a :: b :: r => a.1 < b.1 ∧ (∀ m ∈ ms, abv a b m) ∧ Fw ms (b :: r)
  | _ => True
theorem fw_snoc {ms : List Pt} : ∀ (pre : List Pt) (b a : Pt), Fw ms (pre ++ [b]) → b.1 < a.1 → (∀ m ∈ ms, abv b a m) → Fw ms (pre ++ [b, a])
  | [], b, a, _, h1, h2 => ⟨h1, h2, trivial⟩
  | [x], b, a, h, h1, h2 => ⟨h.1, h.2.1, h1, h2, trivial⟩
  | x :: y :: r, b, a, h, h1, h2 => ⟨h.1, h.2.1, fw_snoc (y :: r) b a h.2.2 h1 h2⟩
theorem cv_fw {ms : List Pt} : ∀ (st : List Pt), Cv ms st → Fw ms st.reverse ∧ Srt (sides st.reverse)
  | [], _ => ⟨trivial, trivial⟩
  | [a], _ => ⟨trivial, trivial⟩
  | a :: b :: r, ⟨h1, h2, h3, h4⟩ => by
    obtain ⟨k1, k2⟩ := cv_fw (b :: r) h4
    have e : (a :: b :: r).reverse = r.reverse ++ [b, a] := by simp
    have e2 : (b :: r).reverse = r.reverse ++ [b] := by simp
    rw [e2] at k1 k2
    rw [e]
    refine ⟨fw_snoc _ b a k1 h1 h2, ?_⟩
    rw [sides_snoc]
    refine srt_snoc.2 ⟨k2, fun x hx => ?_, by dsimp only; omega⟩
    cases r with
    | nil => cases hx
    | cons c r' =>
      have k := h3 c r' rfl
      have hcb : c.1 < b.1 := h4.1
      have e3 : (c :: r').reverse ++ [b] = r'.reverse ++ [c, b] := by simp
      rw [e3, sides_snoc] at hx k2
      obtain ⟨s1, s2, s3⟩ := srt_snoc.1 k2
      rcases List.mem_append.1 hx with h | h
      · exact slt_trans (s1.pos x h) s3 (by dsimp only; omega) (s2 x h) k
      · rw [List.mem_singleton.1 h]; exact k
theorem hull_fw {ms : List Pt} (h : Inc ms) : Fw ms (hull ms).reverse ∧ Srt (sides (hull ms).reverse) ∧ (hull ms).reverse.head? = ms.head? ∧ (hull ms).reverse.getLast? = ms.getLast? := by
  obtain ⟨h1, h2, h3⟩ := hull_cv h
  obtain ⟨k1, k2⟩ := cv_fw _ h1
  exact ⟨k1, k2, by rw [List.head?_reverse]; exact h3, by rw [List.getLast?_reverse]; exact h2⟩
theorem border_srt (p : Int) (f : List Int) : Srt (border p f) := (hull_fw (marksF_inc p f 0).1).2.1
end Pz

namespace Pz
open PySem PySem.Spec PyProof.Rows L2
/-! ### polynomials: the first number is the one without x -/
def pe (x : Int) : List Int → Int | [] => 0 | a :: f => a + pe x f * x
theorem pe_cons (x a : Int) (f : List Int) : pe x (a :: f) = a + pe x f * x := rfl
theorem pe_app (x : Int) : ∀ f g : List Int, pe x (f ++ g) = pe x f + x ^ f.length * pe x g
  | [], g => by simp [pe]
  | a :: f, g => by
    show a + pe x (f ++ g) * x = a + pe x f * x + x ^ (f.length + 1) * pe x g
    rw [pe_app x f g, Int.pow_succ]
    grind
theorem pe_noughts (x : Int) : ∀ n : Nat, pe x (List.replicate n 0) = 0
  | 0 => rfl
  | n + 1 => by rw [List.replicate_succ, pe_cons, pe_noughts x n]; simp
theorem pe_bt {x : Int} {b c : Nat} (hx : Bt c x) : ∀ f : List Int, (∀ a ∈ f, Bt b a) → Bt (b + f.length * (c + 1)) (pe x f)
  | [], _ => Bt.mono (a := b) ⟨Nat.two_pow_pos b⟩ (by omega)
  | a :: f, h => by
    have h1 := pe_bt hx f fun y m => h y (List.mem_cons_of_mem _ m)
    have h2 := (h a List.mem_cons_self).add2 (h1.mul hx)
    refine Bt.mono h2 ?_
    rw [List.length_cons, Nat.add_mul]
    omega
/-- pairs of places and numbers -/
def enmD (i : Nat) : List Int → List PyData
  | [] => []
  | a :: r => .tuple [.int (i : Nat), .int a] :: enmD (i + 1) r
theorem enm_eq : ∀ (ns : List Int) (i : Nat), (((ns.map PyData.int).zipIdx i).map fun p => PyData.tuple [.int (p.2 : Nat), p.1]) = enmD i ns
  | [], _ => rfl
  | a :: r, i => by
    show _ :: (((r.map PyData.int).zipIdx (i + 1)).map _) = _
    rw [enm_eq r (i + 1)]
    rfl
theorem enm_cons {d : PyData} {r : List PyData} {i : Nat} {ns : List Int} (h : d :: r = enmD i ns) : ∃ a s, ns = a :: s ∧ d = .tuple [.int (i : Nat), .int a] ∧ r = enmD (i + 1) s := by
  cases ns with
  | nil => cases h
  | cons a s => cases h; exact ⟨a, s, rfl, rfl, rfl⟩
theorem enm_nil {i : Nat} {ns : List Int} (h : [] = enmD i ns) : ns = [] := by
  cases ns with
  | nil => rfl
  | cons a s => cases h
/-- the place of the last number other than 0 -/
def dgr (f : List Int) : Int := dgrG 0 f (-1) where
  dgrG : Nat → List Int → Int → Int
  | _, [], m => m
  | i, a :: r, m => dgrG (i + 1) r (if a ≠ 0 then (i : Int) else m)
/-- a number put to one place -/
theorem pe_set (x : Int) : ∀ (L : List Int) (i : Nat) (v w : Int), L[i]? = some v → pe x (L.set i w) = pe x L + (w - v) * x ^ i
  | [], i, v, w, h => by cases h
  | a :: L, 0, v, w, h => by
    obtain rfl : a = v := by simpa using h
    show w + pe x L * x = a + pe x L * x + (w - a) * x ^ 0
    rw [Int.pow_zero]
    omega
  | a :: L, i + 1, v, w, h => by
    show a + pe x (L.set i w) * x = a + pe x L * x + (w - v) * x ^ (i + 1)
    rw [pe_set x L i v w h, Int.pow_succ]
    grind
/-- what has the same worth at all great places is the same -/
theorem pe_zero : ∀ (D : List Int) (N : Int), (∀ x, N ≤ x → pe x D = 0) → ∀ a ∈ D, a = 0
  | [], _, _, a, h => by cases h
  | b :: D, N, h, a, m => by
    have hb : b = 0 := by
      by_cases hb : b = 0
      · exact hb
      have e := h ((N.natAbs : Int) + b.natAbs + 1) (by omega)
      rw [pe_cons] at e
      have hd : ((N.natAbs : Int) + b.natAbs + 1) ∣ b := ⟨-pe ((N.natAbs : Int) + b.natAbs + 1) D, by rw [Int.mul_neg, Int.mul_comm]; omega⟩
      have := Int.natAbs_dvd_natAbs.2 hd
      have := Nat.le_of_dvd (by omega) this
      omega
    subst hb
    rcases List.mem_cons.1 m with rfl | m
    · rfl
    refine pe_zero D ((N.natAbs : Int) + 1) (fun x hx => ?_) a m
    have e := h x (by omega)
    rw [pe_cons, Int.zero_add] at e
    rcases Int.mul_eq_zero.1 e with z | z
    · exact z
    · omega
def pminus : List Int → List Int → List Int
  | a :: f, b :: g => (a - b) :: pminus f g
  | _, _ => []
theorem pe_minus (x : Int) : ∀ f g : List Int, f.length = g.length → pe x (pminus f g) = pe x f - pe x g
  | [], [], _ => rfl
  | a :: f, b :: g, h => by
    show (a - b) + pe x (pminus f g) * x = a + pe x f * x - (b + pe x g * x)
    rw [pe_minus x f g (by simpa using h)]
    grind
theorem minus_eq : ∀ f g : List Int, f.length = g.length → (∀ a ∈ pminus f g, a = 0) → f = g
  | [], [], _, _ => rfl
  | a :: f, b :: g, h, z => by
    have := z (a - b) List.mem_cons_self
    rw [minus_eq f g (by simpa using h) fun y m => z y (List.mem_cons_of_mem _ m), show a = b by omega]
theorem pe_uniq {f g : List Int} (h : f.length = g.length) (e : ∀ x, 1 ≤ x → pe x f = pe x g) : f = g :=
  minus_eq f g h (pe_zero _ 1 fun x hx => by rw [pe_minus x f g h, e x hx]; omega)
/-! ### products, by the first one's numbers -/
def padd : List Int → List Int → List Int
  | a :: f, b :: g => (a + b) :: padd f g
  | [], g => g
  | f, [] => f
theorem pe_padd (x : Int) : ∀ f g : List Int, pe x (padd f g) = pe x f + pe x g
  | [], g => by show pe x (padd [] g) = 0 + pe x g; rw [padd]; omega
  | a :: f, [] => by show pe x (a :: f) = pe x (a :: f) + 0; omega
  | a :: f, b :: g => by
    show (a + b) + pe x (padd f g) * x = a + pe x f * x + (b + pe x g * x)
    rw [pe_padd x f g]
    grind
theorem padd_len : ∀ f g : List Int, (padd f g).length = max f.length g.length
  | [], g => by rw [padd]; simp
  | a :: f, [] => by show (a :: f).length = _; simp
  | a :: f, b :: g => by
    show (padd f g).length + 1 = _
    rw [padd_len f g, List.length_cons, List.length_cons]
    omega
def pscale (c : Int) (f : List Int) : List Int := f.map (c * ·)
theorem pe_scale (x c : Int) : ∀ f : List Int, pe x (pscale c f) = c * pe x f
  | [] => by simp [pscale, pe]
  | a :: f => by
    show c * a + pe x (pscale c f) * x = c * (a + pe x f * x)
    rw [pe_scale x c f]
    grind
theorem scale_len (c : Int) (f : List Int) : (pscale c f).length = f.length := List.length_map _
def pmul : List Int → List Int → List Int
  | [], _ => []
  | [a], g => pscale a g
  | a :: f, g => padd (pscale a g) (0 :: pmul f g)
theorem pe_mul (x : Int) : ∀ f g : List Int, pe x (pmul f g) = pe x f * pe x g
  | [], g => by simp [pmul, pe]
  | [a], g => by
    show pe x (pscale a g) = (a + 0 * x) * pe x g
    rw [pe_scale]
    simp
  | a :: b :: f, g => by
    show pe x (padd (pscale a g) (0 :: pmul (b :: f) g)) = (a + pe x (b :: f) * x) * pe x g
    rw [pe_padd, pe_scale, pe_cons, pe_mul x (b :: f) g]
    grind
theorem pmul_len : ∀ f g : List Int, f ≠ [] → g ≠ [] → (pmul f g).length = f.length + g.length - 1
  | [], g, h, _ => absurd rfl h
  | [a], g, _, hg => by
    show (pscale a g).length = _
    rw [scale_len]
    simp
  | a :: b :: f, g, _, hg => by
    have h0 : 0 < g.length := List.length_pos_iff.2 hg
    show (padd (pscale a g) (0 :: pmul (b :: f) g)).length = _
    rw [padd_len, scale_len, List.length_cons, pmul_len (b :: f) g (by simp) hg]
    simp only [List.length_cons]
    omega
theorem pmul_comm {f g : List Int} (hf : f ≠ []) (hg : g ≠ []) : pmul f g = pmul g f :=
  pe_uniq (by rw [pmul_len _ _ hf hg, pmul_len _ _ hg hf]; omega) fun x _ => by rw [pe_mul, pe_mul, Int.mul_comm]
theorem pmul_of {f g R : List Int} (hf : f ≠ []) (hg : g ≠ []) (hl : R.length = f.length + g.length - 1) (h : ∀ x, pe x R = pe x f * pe x g) : R = pmul f g :=
  pe_uniq (by rw [pmul_len _ _ hf hg, hl]) fun x _ => by rw [pe_mul, h]
/-! ### slopes -/
def pd (x : Int) : List Int → Int | [] => 0 | _ :: f => pe x f + x * pd x f
theorem pd_padd (x : Int) : ∀ f g : List Int, pd x (padd f g) = pd x f + pd x g
  | [], g => by show pd x (padd [] g) = 0 + pd x g; rw [padd]; omega
  | a :: f, [] => by show pd x (a :: f) = pd x (a :: f) + 0; omega
  | a :: f, b :: g => by
    show pe x (padd f g) + x * pd x (padd f g) = pe x f + x * pd x f + (pe x g + x * pd x g)
    rw [pe_padd, pd_padd x f g]
    grind
theorem pd_scale (x c : Int) : ∀ f : List Int, pd x (pscale c f) = c * pd x f
  | [] => by simp [pscale, pd]
  | a :: f => by
    show pe x (pscale c f) + x * pd x (pscale c f) = c * (pe x f + x * pd x f)
    rw [pd_scale x c f, pe_scale]
    grind
theorem pd_mul (x : Int) : ∀ f g : List Int, pd x (pmul f g) = pd x f * pe x g + pe x f * pd x g
  | [], g => by simp [pmul, pd, pe]
  | [a], g => by
    show pd x (pscale a g) = (0 + x * 0) * pe x g + (a + 0 * x) * pd x g
    rw [pd_scale]
    simp
  | a :: b :: f, g => by
    show pd x (padd (pscale a g) (0 :: pmul (b :: f) g)) = (pe x (b :: f) + x * pd x (b :: f)) * pe x g + (a + pe x (b :: f) * x) * pd x g
    rw [pd_padd, pd_scale]
    show a * pd x g + (pe x (pmul (b :: f) g) + x * pd x (pmul (b :: f) g)) = _
    rw [pe_mul, pd_mul x (b :: f) g]
    grind
/-- each number times its place -/
def slpG (i : Nat) : List Int → List Int | [] => [] | a :: f => (i : Int) * a :: slpG (i + 1) f
def slp : List Int → List Int | [] => [] | [_] => [0] | _ :: f => slpG 1 f
theorem slpG_len : ∀ (f : List Int) (i : Nat), (slpG i f).length = f.length
  | [], _ => rfl
  | a :: f, i => by show (slpG (i + 1) f).length + 1 = _; rw [slpG_len f (i + 1)]; rfl
theorem pe_slpG (x : Int) : ∀ (f : List Int) (i : Nat), pe x (slpG i f) = i * pe x f + x * pd x f
  | [], i => by simp [slpG, pe, pd]
  | a :: f, i => by
    show (i : Int) * a + pe x (slpG (i + 1) f) * x = i * (a + pe x f * x) + x * (pe x f + x * pd x f)
    rw [pe_slpG x f (i + 1)]
    push_cast
    grind
theorem pe_slp (x : Int) : ∀ f : List Int, pe x (slp f) = pd x f
  | [] => rfl
  | [a] => by simp [slp, pe, pd]
  | a :: b :: f => by
    show pe x (slpG 1 (b :: f)) = pe x (b :: f) + x * pd x (b :: f)
    rw [pe_slpG]
    simp
theorem slp_len : ∀ f : List Int, (slp f).length = if f.length = 1 then 1 else f.length - 1
  | [] => rfl
  | [a] => rfl
  | a :: b :: f => by
    show (slpG 1 (b :: f)).length = _
    rw [slpG_len, if_neg (by simp)]
    simp
/-! ### seen from a rest: f at a + s y -/
/-- one more number in front, seen: times (a + s y), and the number -/
def seenS (a s c : Int) (h : List Int) : List Int := padd (pscale a h) (0 :: pscale s h)
def pseen (a s : Int) : List Int → List Int
  | [] => []
  | c :: f => padd [c] (padd (pscale a (pseen a s f)) (0 :: pscale s (pseen a s f)))
theorem pe_seen (y a s : Int) : ∀ f : List Int, pe y (pseen a s f) = pe (a + s * y) f
  | [] => rfl
  | c :: f => by
    show pe y (padd [c] (padd (pscale a (pseen a s f)) (0 :: pscale s (pseen a s f)))) = c + pe (a + s * y) f * (a + s * y)
    rw [pe_padd, pe_padd, pe_scale, pe_cons, pe_cons, pe_scale, pe_seen y a s f]
    show c + 0 * y + _ = _
    grind
end Pz
namespace Pz
open PySem PySem.Spec PyProof.Rows L2
theorem cutD_ints (ns : List Int) (lo hi : Option Int) : cutD (ns.map PyData.int) lo hi = (cutD ns lo hi).map .int := by
  unfold cutD
  simp only [List.length_map, List.map_drop, List.map_take]
theorem cutD_mem {α : Type} {xs : List α} {lo hi : Option Int} {x : α} (h : x ∈ cutD xs lo hi) : x ∈ xs := by
  unfold cutD at h
  exact List.mem_of_mem_drop (List.mem_of_mem_take h)
theorem cutD_len {α : Type} (xs : List α) (lo hi : Option Int) : (cutD xs lo hi).length ≤ xs.length := by
  unfold cutD
  exact Nat.le_trans (List.length_take_le' _ _) (by rw [List.length_drop]; omega)
/-- an index of a list, by what stands there -/
theorem dgr_end {ps : List Int} {m : Int} (h : ∃ ys, (-1 : Int) :: ps = ys ++ [m]) : L2.atI (((-1 : Int) :: ps).map PyData.int) (-1) = some (.int m) := by
  obtain ⟨ys, e⟩ := h
  rw [e, List.map_append]
  exact at_back1
end Pz
namespace Pz
open PySem PySem.Spec PyProof.Rows L2
theorem padd_bt {b : Nat} : ∀ f g : List Int, (∀ z ∈ f, Bt b z) → (∀ z ∈ g, Bt b z) → ∀ z ∈ padd f g, Bt (b + 1) z
  | [], g, _, h, z, m => by rw [padd] at m; exact (h z m).mono (by omega)
  | a :: f, [], h, _, z, m => (h z m).mono (by omega)
  | a :: f, c :: g, h, k, z, m => by
    rcases List.mem_cons.1 (show z ∈ (a + c) :: padd f g from m) with rfl | m
    · exact (h a List.mem_cons_self).add (k c List.mem_cons_self)
    · exact padd_bt f g (fun y n => h y (List.mem_cons_of_mem _ n)) (fun y n => k y (List.mem_cons_of_mem _ n)) z m
theorem pscale_bt {a b : Nat} {c : Int} (hc : Bt a c) {f : List Int} (h : ∀ z ∈ f, Bt b z) : ∀ z ∈ pscale c f, Bt (a + b) z := fun z m => by
  obtain ⟨y, hy, rfl⟩ := List.mem_map.1 m
  exact hc.mul (h y hy)
theorem bt0 (n : Nat) : Bt n 0 := ⟨Nat.two_pow_pos n⟩
theorem pmul_bt {a b : Nat} {g : List Int} (hg : ∀ z ∈ g, Bt b z) : ∀ f : List Int, (∀ z ∈ f, Bt a z) → ∀ z ∈ pmul f g, Bt (a + b + f.length) z
  | [], _, z, m => by cases m
  | [c], h, z, m => (pscale_bt (h c List.mem_cons_self) hg z m).mono (by omega)
  | c :: d :: f, h, z, m => by
    have ih := pmul_bt hg (d :: f) fun y n => h y (List.mem_cons_of_mem _ n)
    refine padd_bt (b := a + b + (d :: f).length) _ _ (fun y n => (pscale_bt (h c List.mem_cons_self) hg y n).mono (by omega)) (fun y n => ?_) z m
    rcases List.mem_cons.1 n with rfl | n
    · exact bt0 _
    · exact ih y n
theorem slpG_bt {b : Nat} : ∀ (f : List Int) (i : Nat), i + f.length ≤ 1000 → (∀ z ∈ f, Bt b z) → ∀ z ∈ slpG i f, Bt (10 + b) z
  | [], _, _, _, z, m => by cases m
  | a :: f, i, hi, h, z, m => by
    rw [List.length_cons] at hi
    rcases List.mem_cons.1 (show z ∈ (i : Int) * a :: slpG (i + 1) f from m) with rfl | m
    · exact (Bt.num (n := 10) (by omega)).mul (h a List.mem_cons_self)
    · exact slpG_bt f (i + 1) (by omega) (fun y n => h y (List.mem_cons_of_mem _ n)) z m
theorem slp_bt {b : Nat} : ∀ f : List Int, f.length ≤ 900 → (∀ z ∈ f, Bt b z) → ∀ z ∈ slp f, Bt (10 + b) z
  | [], _, _, z, m => by cases m
  | [a], _, _, z, m => by rw [List.mem_singleton.1 (show z ∈ [0] from m)]; exact bt0 _
  | a :: c :: f, hl, h, z, m => slpG_bt (c :: f) 1 (by simp at hl ⊢; omega) (fun y n => h y (List.mem_cons_of_mem _ n)) z m
theorem all_map {α : Type} {xs : List Int} {d : PyData} (h : d ∈ xs.map PyData.int) : ∃ x ∈ xs, d = .int x := by
  obtain ⟨x, m, rfl⟩ := List.mem_map.1 h
  exact ⟨x, m, rfl⟩
end Pz

namespace Pz
open PySem PySem.Spec PyProof.Rows L2
/-! ### loops over known lists, by what has been passed -/
section
variable {α : Type} {g : PyData → Rho → (Rho → Prop) → Prop}
theorem for_pre {b : RC} {D : PEnds} {ρ : Rho} (xs : List α) (emb : α → PyData) (P : List α → Rho → Prop) (h0 : P [] ρ)
    (st : ∀ (pre : List α) (x : α) (suf : List α) (ρ : Rho) (K : Rho → Prop), xs = pre ++ x :: suf → P pre ρ → (∀ ρ', P (pre ++ [x]) ρ' → K ρ') → g (emb x) ρ fun ρ1 => b { D with nx := K, ct := K, bk := D.nx } ρ1)
    (en : ∀ ρ, P xs ρ → D.nx ρ) : forL g b D (xs.map emb) ρ := by
  refine forL_st (fun r ρ => ∃ pre suf, xs = pre ++ suf ∧ r = suf.map emb ∧ P pre ρ) ⟨[], xs, rfl, rfl, h0⟩ ?_ ?_
  · rintro d r ρ K ⟨pre, suf, hp, hr, h⟩ hK
    cases suf with
    | nil => cases hr
    | cons a suf =>
    cases hr
    exact st pre a suf ρ K hp h fun ρ' h' => hK ρ' ⟨pre ++ [a], suf, by rw [hp]; simp, rfl, h'⟩
  · rintro ρ ⟨pre, suf, hp, hr, h⟩
    have : suf = [] := by cases suf with
      | nil => rfl
      | cons _ _ => cases hr
    subst this
    rw [List.append_nil] at hp
    subst hp
    exact en ρ h
/-- the same from the back -/
theorem for_rev {b : RC} {D : PEnds} {ρ : Rho} (xs : List α) (emb : α → PyData) (P : List α → Rho → Prop) (h0 : P [] ρ)
    (st : ∀ (pre : List α) (x : α) (suf : List α) (ρ : Rho) (K : Rho → Prop), xs = pre ++ x :: suf → P suf ρ → (∀ ρ', P (x :: suf) ρ' → K ρ') → g (emb x) ρ fun ρ1 => b { D with nx := K, ct := K, bk := D.nx } ρ1)
    (en : ∀ ρ, P xs ρ → D.nx ρ) : forL g b D (xs.map emb).reverse ρ := by
  rw [← List.map_reverse]
  refine for_pre xs.reverse emb (fun pre ρ => P pre.reverse ρ) h0 (fun pre x suf ρ K he h hK => ?_) (fun ρ h => en ρ (by rwa [List.reverse_reverse] at h))
  refine st suf.reverse x pre.reverse ρ K ?_ h fun ρ' h' => hK ρ' (by simpa using h')
  have := congrArg List.reverse he
  simpa using this
theorem for_upto {b : RC} {D : PEnds} {ρ : Rho} (n : Nat) (f : Nat → PyData) (P : Nat → Rho → Prop) (h0 : P 0 ρ)
    (st : ∀ (i : Nat) (ρ : Rho) (K : Rho → Prop), i < n → P i ρ → (∀ ρ', P (i + 1) ρ' → K ρ') → g (f i) ρ fun ρ1 => b { D with nx := K, ct := K, bk := D.nx } ρ1)
    (en : ∀ ρ, P n ρ → D.nx ρ) : forL g b D (upto n f) ρ := by
  unfold upto
  refine for_pre (List.range n) f (fun pre ρ => P pre.length ρ) h0 (fun pre x suf ρ K he h hK => ?_) (fun ρ h => en ρ (by simpa using h))
  have hx : x = pre.length := by
    have h1 : (List.range n)[pre.length]? = some x := by rw [he]; simp
    have h2 : pre.length < n := by
      have := congrArg List.length he
      simp at this
      omega
    rw [List.getElem?_range h2] at h1
    exact (Option.some.inj h1).symm
  have hn : pre.length < n := by
    have := congrArg List.length he
    simp at this
    omega
  subst hx
  exact st pre.length ρ K hn h fun ρ' h' => hK ρ' (by simpa using h')
variable {tt : RT} {te : RE} {ρ : Rho} {Q : PV → Prop}
/-- a list comprehension, item by item -/
theorem lc_gen (xs : List α) (emb : α → PyData) (f : α → Option PyData)
    (st : ∀ x ∈ xs, ∀ (acc : List PyData) (K : List PyData → Prop), (∀ y, f x = some y → K (acc ++ [y])) → (f x = none → K acc) → g (emb x) ρ fun ρ1 => tt (fun _ _ => False) ρ1 fun b => (b = true → te (fun _ _ => False) ρ1 fun x => x.frz fun y => K (acc ++ [y])) ∧ (b = false → K acc))
    (q : Q (.ow (.ls (xs.filterMap f)))) : lcL g tt te ρ (xs.map emb) [] Q := by
  refine lcL_st (fun r acc => ∃ pre suf, xs = pre ++ suf ∧ r = suf.map emb ∧ acc = pre.filterMap f) ⟨[], xs, rfl, rfl, rfl⟩ ?_ ?_
  · rintro d r acc K ⟨pre, suf, hp, hr, rfl⟩ hK
    cases suf with
    | nil => cases hr
    | cons a suf =>
    cases hr
    refine st a (by rw [hp]; simp) _ K (fun y hy => hK _ ⟨pre ++ [a], suf, by rw [hp]; simp, rfl, ?_⟩) (fun hn => hK _ ⟨pre ++ [a], suf, by rw [hp]; simp, rfl, ?_⟩)
    · rw [List.filterMap_append, List.filterMap_cons_some hy]; rfl
    · rw [List.filterMap_append, List.filterMap_cons_none hn]; simp
  · rintro acc ⟨pre, suf, hp, hr, rfl⟩
    have : suf = [] := by cases suf with
      | nil => rfl
      | cons _ _ => cases hr
    subst this
    rw [List.append_nil] at hp
    subst hp
    exact q
/-- each item told -/
theorem lc_map (xs : List α) (emb : α → PyData) (f : α → PyData)
    (st : ∀ x ∈ xs, ∀ (acc : List PyData) (K : List PyData → Prop), K (acc ++ [f x]) → g (emb x) ρ fun ρ1 => tt (fun _ _ => False) ρ1 fun b => (b = true → te (fun _ _ => False) ρ1 fun x => x.frz fun y => K (acc ++ [y])) ∧ (b = false → K acc))
    (q : Q (.ow (.ls (xs.map f)))) : lcL g tt te ρ (xs.map emb) [] Q :=
  lc_gen xs emb (fun x => some (f x)) (fun x hx acc K k _ => st x hx acc K (k _ rfl)) (by rw [List.filterMap_eq_map']; exact q)
theorem lc_mapI (xs : List Int) (f : Int → Int)
    (st : ∀ x ∈ xs, ∀ (acc : List PyData) (K : List PyData → Prop), K (acc ++ [.int (f x)]) → g (.int x) ρ fun ρ1 => tt (fun _ _ => False) ρ1 fun b => (b = true → te (fun _ _ => False) ρ1 fun x => x.frz fun y => K (acc ++ [y])) ∧ (b = false → K acc))
    (q : Q (.ow (.ls ((xs.map f).map .int)))) : lcL g tt te ρ (xs.map PyData.int) [] Q :=
  lc_map xs PyData.int (fun x => .int (f x)) st (by rw [List.map_map] at q; exact q)
/-- those of a kind told -/
theorem lc_filt (xs : List α) (emb : α → PyData) (P : α → Bool) (f : α → PyData)
    (st : ∀ x ∈ xs, ∀ (acc : List PyData) (K : List PyData → Prop), (P x = true → K (acc ++ [f x])) → (P x = false → K acc) → g (emb x) ρ fun ρ1 => tt (fun _ _ => False) ρ1 fun b => (b = true → te (fun _ _ => False) ρ1 fun x => x.frz fun y => K (acc ++ [y])) ∧ (b = false → K acc))
    (q : Q (.ow (.ls ((xs.filter P).map f)))) : lcL g tt te ρ (xs.map emb) [] Q := by
  refine lc_gen xs emb (fun x => if P x = true then some (f x) else none) (fun x hx acc K k1 k2 => st x hx acc K (fun h => k1 _ (if_pos h)) (fun h => k2 (if_neg (by rw [h]; decide)))) ?_
  have e : ∀ l : List α, l.filterMap (fun x => if P x = true then some (f x) else none) = (l.filter P).map f := by
    intro l
    induction l with
    | nil => rfl
    | cons a l ih =>
      by_cases h : P a = true
      · rw [List.filterMap_cons, List.filter_cons_of_pos h, List.map_cons]; simp only [h, if_true, ih]
      · rw [List.filterMap_cons, List.filter_cons_of_neg h]; simp only [h, if_false, ih]; simpa using ih
  rw [e]
  exact q
theorem lc_upto (n : Nat) (e : Nat → PyData) (f : Nat → Option PyData)
    (st : ∀ i, i < n → ∀ (acc : List PyData) (K : List PyData → Prop), (∀ y, f i = some y → K (acc ++ [y])) → (f i = none → K acc) → g (e i) ρ fun ρ1 => tt (fun _ _ => False) ρ1 fun b => (b = true → te (fun _ _ => False) ρ1 fun x => x.frz fun y => K (acc ++ [y])) ∧ (b = false → K acc))
    (q : Q (.ow (.ls ((List.range n).filterMap f)))) : lcL g tt te ρ (upto n e) [] Q :=
  lc_gen (List.range n) e f (fun i hi acc K k1 k2 => st i (List.mem_range.1 hi) acc K k1 k2) q
theorem lc_uptoM (n : Nat) (e : Nat → PyData) (f : Nat → PyData)
    (st : ∀ i, i < n → ∀ (acc : List PyData) (K : List PyData → Prop), K (acc ++ [f i]) → g (e i) ρ fun ρ1 => tt (fun _ _ => False) ρ1 fun b => (b = true → te (fun _ _ => False) ρ1 fun x => x.frz fun y => K (acc ++ [y])) ∧ (b = false → K acc))
    (q : Q (.ow (.ls ((List.range n).map f)))) : lcL g tt te ρ (upto n e) [] Q :=
  lc_map (List.range n) e f (fun i hi acc K k => st i (List.mem_range.1 hi) acc K k) q
end
theorem cutD_dropLast {α : Type} (xs : List α) : cutD xs none (some (-1)) = xs.dropLast := by
  unfold cutD HT.sIx
  simp only [List.drop_zero, Nat.sub_zero]
  rw [List.dropLast_eq_take, if_pos (by decide)]
  congr 1
  omega
theorem map_dropLast' {α β : Type} (f : α → β) (xs : List α) : (xs.map f).dropLast = xs.dropLast.map f := by rw [List.map_dropLast]
/-! ### sizes and lengths of what is seen -/
theorem pseen_len (a s : Int) : ∀ f : List Int, (pseen a s f).length = f.length
  | [] => rfl
  | c :: f => by
    have ih := pseen_len a s f
    show (padd [c] (padd (pscale a (pseen a s f)) (0 :: pscale s (pseen a s f)))).length = _
    rw [padd_len, padd_len, scale_len, ih]
    simp only [List.length_cons, scale_len, ih]
    simp
theorem pseen_bt {a s : Int} {b c : Nat} (ha : Bt c a) (hs : Bt c s) : ∀ f : List Int, (∀ z ∈ f, Bt b z) → ∀ z ∈ pseen a s f, Bt (b + f.length * (c + 2)) z
  | [], _, z, m => nomatch m
  | k :: f, h, z, m => by
    have ih := pseen_bt ha hs f fun y n => h y (List.mem_cons_of_mem _ n)
    have hz : ∀ z ∈ padd (pscale a (pseen a s f)) (0 :: pscale s (pseen a s f)), Bt (c + (b + f.length * (c + 2)) + 1) z :=
      padd_bt _ _ (pscale_bt ha ih) fun y n => by
        rcases List.mem_cons.1 n with rfl | n
        · exact bt0 _
        · exact pscale_bt hs ih y n
    have h2 := padd_bt (b := c + (b + f.length * (c + 2)) + 1) [k] _ (fun y n => by rw [List.mem_singleton.1 n]; exact (h k List.mem_cons_self).mono (by omega)) hz z m
    refine h2.mono ?_
    rw [List.length_cons, Nat.add_mul]
    omega
theorem pe_pad (x : Int) (f : List Int) (n : Nat) : pe x (f ++ List.replicate n 0) = pe x f := by rw [pe_app, pe_noughts]; simp
end Pz
namespace Pz
open PySem PySem.Spec PyProof.Rows L2
theorem pickL_map {α β : Type} (f : α → β) (xs : List α) (lo hi st : Option Int) : pickL (xs.map f) lo hi st = (pickL xs lo hi st).map f := by
  unfold pickL
  rw [List.length_map, List.map_filterMap]
  congr 1
  funext i
  rw [List.getElem?_map]
end Pz
namespace Pz
open PySem PySem.Spec PyProof.Rows L2
theorem eq_q {xs ys : List PyData} (as bs : List Int) {Q : Bool → Prop} (h1 : xs = as.map .int) (h2 : ys = bs.map .int) (q : Q (decide (as = bs))) : Q (PyData.eqv (.list xs) (.list ys)) := by
  subst h1 h2
  rw [eqv_lints]
  exact q
theorem ne_q {xs ys : List PyData} (as bs : List Int) {Q : Bool → Prop} (h1 : xs = as.map .int) (h2 : ys = bs.map .int) (q : Q (!decide (as = bs))) : Q (!PyData.eqv (.list xs) (.list ys)) := by
  subst h1 h2
  rw [eqv_lints]
  exact q
theorem eqv_use {x y : PyData} {b : Bool} {Q : Bool → Prop} (h : PyData.eqv x y = b) (q : Q b) : Q (PyData.eqv x y) := by rw [h]; exact q
theorem nev_use {x y : PyData} {b : Bool} {Q : Bool → Prop} (h : PyData.eqv x y = b) (q : Q (!b)) : Q (!PyData.eqv x y) := by rw [h]; exact q
theorem if_eqv {x y : PyData} {b : Bool} {A B : Prop} (h : PyData.eqv x y = b) (q : (b = true → A) ∧ (b = false → B)) : (PyData.eqv x y = true → A) ∧ (PyData.eqv x y = false → B) := by rw [h]; exact q
theorem if_nev {x y : PyData} {b : Bool} {A B : Prop} (h : PyData.eqv x y = b) (q : ((!b) = true → A) ∧ ((!b) = false → B)) : ((!PyData.eqv x y) = true → A) ∧ ((!PyData.eqv x y) = false → B) := by rw [h]; exact q
theorem slpG_app : ∀ (f g : List Int) (i : Nat), slpG i (f ++ g) = slpG i f ++ slpG (i + f.length) g
  | [], g, i => rfl
  | a :: f, g, i => by
    show (i : Int) * a :: slpG (i + 1) (f ++ g) = (i : Int) * a :: slpG (i + 1) f ++ slpG (i + (f.length + 1)) g
    rw [slpG_app f g (i + 1), show i + (f.length + 1) = i + 1 + f.length by omega]
    rfl
theorem slp_stepL {f0 : Int} {f : List Int} {g : PyData → Rho → (Rho → Prop) → Prop} {tt : RT} {te : RE} {ρ : Rho} {Q : PV → Prop} (hl : f.length ≤ 900)
    (st : ∀ (k : Nat) (a : Int) (acc : List PyData) (K : List PyData → Prop), k ≤ f.length → 1 ≤ k → L2.atI ((f0 :: f).map PyData.int) (k : Int) = some (.int a) → a ∈ f → K (acc ++ [.int ((k : Int) * a)]) → g (.int (k : Int)) ρ fun ρ1 => tt (fun _ _ => False) ρ1 fun b => (b = true → te (fun _ _ => False) ρ1 fun x => x.frz fun y => K (acc ++ [y])) ∧ (b = false → K acc))
    (q : Q (.ow (.ls ((slpG 1 f).map .int)))) : lcL g tt te ρ (upto (((f0 :: f).map PyData.int).length - 1 : Int).toNat fun k => .int (1 + (k : Int))) [] Q := by
  have hu : (upto (((f0 :: f).map PyData.int).length - 1 : Int).toNat fun k => .int (1 + (k : Int))) = rgD 1 f.length := by
    have e : (((f0 :: f).map PyData.int).length - 1 : Int).toNat = f.length := by simp
    rw [e]
    unfold upto rgD
    have e2 : List.range' 1 f.length = (List.range f.length).map (1 + ·) := by rw [List.range_eq_range', List.map_add_range']
    rw [e2, List.map_map]
    congr 1
  rw [hu]
  refine lcL_st (fun r acc => ∃ pre suf : List Int, f = pre ++ suf ∧ r = rgD (1 + pre.length) suf.length ∧ acc = (slpG 1 pre).map .int) ⟨[], f, rfl, rfl, rfl⟩ ?_ ?_
  · rintro d r acc K ⟨pre, suf, hp, hr, rfl⟩ hK
    obtain ⟨n, hn, rfl, rfl⟩ := rgD_cons hr
    obtain ⟨a, suf, rfl⟩ := List.exists_cons_of_length_eq_add_one hn
    have hn : n = suf.length := by simpa using hn.symm
    subst hn
    have e1 : f.length = pre.length + (suf.length + 1) := by rw [hp, List.length_append, List.length_cons]
    refine st (1 + pre.length) a _ K (by omega) (by omega) ?_ (by rw [hp]; simp) (hK _ ⟨pre ++ [a], suf, by rw [hp, snoc_eq], by simp; rfl, ?_⟩)
    · rw [hp, ← List.cons_append, List.map_append, List.map_cons (l := suf)]
      exact atI_mid' (by simp; omega)
    · rw [slpG_app, List.map_append]
      rfl
  · rintro acc ⟨pre, suf, hp, hr, rfl⟩
    have := rgD_nil hr
    have hs : suf = [] := by cases suf with
      | nil => rfl
      | cons _ _ => cases this
    subst hs
    rw [List.append_nil] at hp
    subst hp
    exact q
end Pz

namespace Pz
open PySem PySem.Spec PyProof.Rows L2
/-! ### primes -/
structure Pm (p : Int) : Prop where
  lo : 2 ≤ p
  hi : p ≤ 97
  cop : ∀ x, x % p ≠ 0 → ∃ u, p ∣ u * x - 1
def copB (p : Nat) : Bool := (List.range p).all fun x => x == 0 || (List.range p).any fun u => (u * x) % p == 1
theorem copB_all : primes25.all (fun p => copB p.toNat) = true := by decide +kernel
theorem pm_of {p : Int} (h : p ∈ primes25) : Pm p := by
  obtain ⟨h1, h2⟩ := primes25_le h
  refine ⟨h1, h2, fun x hx => ?_⟩
  have h3 := List.all_eq_true.1 copB_all p h
  unfold copB at h3
  rw [List.all_eq_true] at h3
  have h4 := Int.emod_nonneg x (show p ≠ 0 by omega)
  have h5 := Int.emod_lt_of_pos x (show 0 < p by omega)
  have h6 := h3 (x % p).toNat (List.mem_range.2 (by omega))
  rw [Bool.or_eq_true] at h6
  rcases h6 with h6 | h6
  · have := beq_iff_eq.1 h6
    omega
  · rw [List.any_eq_true] at h6
    obtain ⟨u, hu, h7⟩ := h6
    have h8 := beq_iff_eq.1 h7
    refine ⟨u, ?_⟩
    have h9 : ((u : Int) * (x % p)) % p = 1 := by
      have key : (((u * (x % p).toNat : Nat)) : Int) % ((p.toNat : Nat) : Int) = 1 := by rw [← Int.natCast_emod, h8]; rfl
      rw [Int.natCast_mul, Int.toNat_of_nonneg h4, Int.toNat_of_nonneg (by omega)] at key
      exact key
    have h10 : ((u : Int) * x) % p = 1 := by rw [Int.mul_emod, Int.emod_emod, ← Int.mul_emod] at h9; exact h9
    have h11 : ((u : Int) * x - 1) % p = 0 := by rw [Int.sub_emod, h10]; simp [Int.emod_eq_of_lt (show (0 : Int) ≤ 1 by decide) (show (1 : Int) < p by omega)]
    exact Int.dvd_of_emod_eq_zero h11
theorem Pm.euclid {p a b : Int} (h : Pm p) (ha : a % p ≠ 0) (hb : b % p ≠ 0) : a * b % p ≠ 0 := fun z => by
  obtain ⟨u, c, hu⟩ := h.cop a ha
  obtain ⟨d, hd⟩ := Int.dvd_of_emod_eq_zero z
  apply hb
  have : b = p * (u * d - c * b) := by grind
  rw [this]
  exact Int.mul_emod_right _ _
/-- all powers of p too -/
theorem Pm.copK {p x : Int} (h : Pm p) (hx : x % p ≠ 0) : ∀ e : Nat, ∃ u, p ^ e ∣ u * x - 1
  | 0 => ⟨0, by simp⟩
  | e + 1 => by
    obtain ⟨u, c, hu⟩ := h.cop x hx
    obtain ⟨v, d, hv⟩ := Pm.copK h hx e
    refine ⟨v - u * (v * x - 1), c * -d, ?_⟩
    rw [Int.pow_succ]
    grind
/-- x is turned round at the depth e -/
def IsInv (p x : Int) (e : Nat) (r : Int) : Prop := 0 ≤ r ∧ r < p ^ e ∧ p ^ e ∣ r * x - 1
theorem IsInv.uniq {p x r s : Int} {e : Nat} (h : IsInv p x e r) (k : IsInv p x e s) : r = s := by
  obtain ⟨h1, h2, c, h3⟩ := h
  obtain ⟨k1, k2, d, k3⟩ := k
  have h4 : r - s = p ^ e * (c * s - d * r + 0) := by grind
  obtain ⟨t, ht⟩ : ∃ t, r - s = p ^ e * t := ⟨_, h4⟩
  have : t = 0 := by
    have h3 : p ^ e * t < p ^ e * 1 := by omega
    have h4 : p ^ e * (-1) < p ^ e * t := by omega
    have h5 := Int.lt_of_mul_lt_mul_left h3 (by omega)
    have h6 := Int.lt_of_mul_lt_mul_left h4 (by omega)
    omega
  rw [this, Int.mul_zero] at ht
  omega
/-! ### Euclid's walk, as the program's inverses and fractions take it -/
/-- high, low, before, found: found x = low, before x = high by W -/
structure Eu (W x high low before found : Int) : Prop where
  l0 : 0 ≤ low
  lh : low < high
  hW : high ≤ W
  a : W ∣ found * x - low
  b : W ∣ before * x - high
  sz : found.natAbs * high.natAbs + before.natAbs * low.natAbs ≤ W.natAbs
theorem Eu.start {W x : Int} (hW : 0 < W) : Eu W x W (x % W) 0 1 := by
  have h1 := Int.emod_nonneg x (show W ≠ 0 by omega)
  have h2 := Int.emod_lt_of_pos x hW
  refine ⟨h1, h2, Int.le_refl _, ?_, ⟨-1, by omega⟩, by simp⟩
  rw [Int.one_mul]
  exact ⟨x / W, by have := Int.emod_add_mul_ediv x W; omega⟩
theorem Eu.step {W x high low before found : Int} (h : Eu W x high low before found) (hl : 0 < low) : Eu W x low (high - high / low * low) found (before - high / low * found) := by
  have e : high - high / low * low = high % low := by have := Int.emod_add_mul_ediv high low; rw [Int.mul_comm]; omega
  have h1 := Int.emod_nonneg high (show low ≠ 0 by omega)
  have h2 := Int.emod_lt_of_pos high hl
  refine ⟨by omega, by omega, by have := h.lh; have := h.hW; omega, ?_, h.a, ?_⟩
  · obtain ⟨c, hc⟩ := h.a
    obtain ⟨d, hd⟩ := h.b
    exact ⟨d - high / low * c, by grind⟩
  · have h3 : (before - high / low * found).natAbs ≤ before.natAbs + (high / low).natAbs * found.natAbs := by rw [← Int.natAbs_mul]; omega
    have ht : 0 ≤ high / low := Int.ediv_nonneg (by have := h.lh; omega) (by omega)
    have h4 : (high / low).natAbs * low.natAbs + (high % low).natAbs = high.natAbs := by
      have := Int.emod_add_mul_ediv high low
      rw [← Int.natAbs_mul, Int.mul_comm]
      have h5 : 0 ≤ low * (high / low) := Int.mul_nonneg (by omega) ht
      have := h.lh
      omega
    have h6 := h.sz
    rw [e]
    calc (before - high / low * found).natAbs * low.natAbs + found.natAbs * (high % low).natAbs
        ≤ (before.natAbs + (high / low).natAbs * found.natAbs) * low.natAbs + found.natAbs * (high % low).natAbs := Nat.add_le_add_right (Nat.mul_le_mul_right _ h3) _
      _ = found.natAbs * ((high / low).natAbs * low.natAbs + (high % low).natAbs) + before.natAbs * low.natAbs := by grind
      _ = found.natAbs * high.natAbs + before.natAbs * low.natAbs := by rw [h4]
      _ ≤ W.natAbs := h6
theorem Eu.fle {W x high low before found : Int} (h : Eu W x high low before found) : found.natAbs ≤ W.natAbs := by
  have h1 := h.sz
  have h2 := h.lh
  have h3 := h.l0
  have : found.natAbs * 1 ≤ found.natAbs * high.natAbs := Nat.mul_le_mul_left _ (by omega)
  omega
theorem Eu.ble {W x high low before found : Int} (h : Eu W x high low before found) (hl : 0 < low) : before.natAbs ≤ W.natAbs := by
  have h1 := h.sz
  have : before.natAbs * 1 ≤ before.natAbs * low.natAbs := Nat.mul_le_mul_left _ (by omega)
  omega
theorem div_le_high {high low : Int} (h0 : 0 ≤ low) (h : low < high) : 0 ≤ high / low ∧ high / low ≤ high := ⟨Int.ediv_nonneg (by omega) h0, Int.ediv_le_self _ (by omega)⟩
end Pz
namespace Pz
open PySem PySem.Spec PyProof.Rows L2
def Cop (a b : Int) : Prop := ∀ d, d ∣ a → d ∣ b → d ∣ 1
theorem Cop.step {high low : Int} (h : Cop high low) (t : Int) : Cop low (high - t * low) := fun d h1 h2 => by
  refine h d ?_ h1
  obtain ⟨a, rfl⟩ := h1
  obtain ⟨b, hb⟩ := h2
  exact ⟨b + t * a, by grind⟩
theorem pow_two_le {p : Int} {e : Nat} (hp : 2 ≤ p) (he : e ≠ 0) : 2 ≤ p ^ e := by
  obtain ⟨n, rfl⟩ : ∃ n, e = n + 1 := ⟨e - 1, by omega⟩
  rw [Int.pow_succ]
  have h1 : 0 < p ^ n := Int.pow_pos (by omega)
  calc (2 : Int) = 1 * 2 := rfl
    _ ≤ p ^ n * p := Int.mul_le_mul (by omega) hp (by omega) (by omega)
theorem dvd_one_of_big {W : Int} (h : 2 ≤ W) (k : W ∣ 1) : False := by
  have := Int.le_of_dvd (by omega) k
  omega
theorem Pm.cop_start {p x : Int} {e : Nat} (hp : Pm p) (hx : x % p ≠ 0) : Cop (p ^ e) (x % p ^ e) := by
  obtain ⟨u, c, hu⟩ := hp.copK hx e
  intro d h1 h2
  have h3 : d ∣ x := by
    have := Int.emod_add_mul_ediv x (p ^ e)
    rw [← this]
    exact Int.dvd_add h2 (Int.dvd_trans h1 ⟨_, rfl⟩)
  obtain ⟨a, ha⟩ := h3
  obtain ⟨b, hb⟩ := h1
  exact ⟨u * a - b * c, by grind⟩
theorem Cop.low_pos {W low : Int} (h : Cop W low) (hW : 2 ≤ W) (h0 : 0 ≤ low) : 1 ≤ low := by
  rcases Int.lt_or_eq_of_le h0 with h1 | h1
  · omega
  · exact (dvd_one_of_big hW (h W (Int.dvd_refl _) (by rw [← h1]; exact Int.dvd_zero _))).elim
end Pz
namespace Pz
open PySem PySem.Spec PyProof.Rows L2
theorem eqvAll_bools : ∀ xs ys : List Bool, PyData.eqvAll (xs.map .bool) (ys.map .bool) = decide (xs = ys)
  | [], [] => by simp [PyData.eqvAll]
  | [], _ :: _ => by simp [PyData.eqvAll]
  | _ :: _, [] => by simp [PyData.eqvAll]
  | x :: xs, y :: ys => by
    rw [List.map_cons, List.map_cons]
    unfold PyData.eqvAll
    rw [eqv_bool, eqvAll_bools xs ys]
    by_cases h : x = y <;> simp [h]
theorem eqv_lbools (xs ys : List Bool) : PyData.eqv (.list (xs.map .bool)) (.list (ys.map .bool)) = decide (xs = ys) := by unfold PyData.eqv; exact eqvAll_bools xs ys
theorem canLayAll_bools : ∀ xs : List Bool, PyData.canLayAll0 (xs.map .bool) = true
  | [] => by simp [PyData.canLayAll0]
  | x :: xs => by simp [PyData.canLayAll0, PyData.canLay0]; exact canLayAll_bools xs
theorem depthAll_bools : ∀ xs : List Bool, PyData.depthAll (xs.map .bool) ≤ 1
  | [] => by simp [PyData.depthAll]
  | x :: xs => by
    have := depthAll_bools xs
    simp only [List.map_cons, PyData.depthAll, PyData.depth]
    omega
theorem shaped_lbools (xs : List Bool) : SeqAt.shaped (.list (xs.map .bool)) = true := by
  have := depthAll_bools xs
  have h2 := canLayAll_bools xs
  simp only [SeqAt.shaped, PyData.canLay0, h2, PyData.depth, Bool.true_and]
  exact decide_eq_true (by omega)
theorem eq_lb {xs ys : List PyData} (as bs : List Bool) {Q : Bool → Prop} (h1 : xs = as.map .bool) (h2 : ys = bs.map .bool) (h : as = bs) (q : Q true) :
    SeqAt.shaped (.list xs) = true ∧ SeqAt.shaped (.list ys) = true ∧ Q (PyData.eqv (.list xs) (.list ys)) := by
  subst h1 h2
  refine ⟨shaped_lbools as, shaped_lbools bs, ?_⟩
  rw [eqv_lbools, decide_eq_true h]
  exact q
end Pz

namespace Pz
open PySem PySem.Spec PyProof.Rows L2
/-! ### how often p goes into all numbers -/
def AllDiv (q : Int) (f : List Int) : Prop := ∀ z ∈ f, q ∣ z
def AllZ (f : List Int) : Prop := ∀ z ∈ f, z = 0
structure Cont (p : Int) (f : List Int) (k : Nat) : Prop where
  all : AllDiv (p ^ k) f
  one : ∃ z ∈ f, z ≠ 0 ∧ dep p z = k
theorem Cont.iff {p : Int} {f : List Int} {k : Nat} (hp : 2 ≤ p) (h : Cont p f k) (j : Nat) : AllDiv (p ^ j) f ↔ j ≤ k := by
  constructor
  · intro a
    obtain ⟨z, m, z0, e⟩ := h.one
    rw [← e]
    exact dep_ge hp j z z0 (a z m)
  · exact fun l z m => Int.dvd_trans (pow_dvd l) (h.all z m)
theorem Cont.uniq {p : Int} {f : List Int} {k j : Nat} (hp : 2 ≤ p) (h : Cont p f k) (h' : Cont p f j) : k = j :=
  Nat.le_antisymm ((h'.iff hp k).1 h.all) ((h.iff hp j).1 h'.all)
theorem Cont.ex {p : Int} (hp : 2 ≤ p) : ∀ f : List Int, ¬ AllZ f → ∃ k, Cont p f k
  | [], h => absurd (fun z m => nomatch m) h
  | a :: f, h => by
    by_cases hf : AllZ f
    · have ha : a ≠ 0 := fun z => h fun y m => by
        rcases List.mem_cons.1 m with rfl | m
        · exact z
        · exact hf y m
      refine ⟨dep p a, fun y m => ?_, a, List.mem_cons_self, ha, rfl⟩
      rcases List.mem_cons.1 m with rfl | m
      · exact dep_pow_dvd hp ha
      · rw [hf y m]; exact Int.dvd_zero _
    · obtain ⟨k, hk⟩ := Cont.ex hp f hf
      by_cases hak : p ^ k ∣ a
      · refine ⟨k, fun y m => ?_, ?_⟩
        · rcases List.mem_cons.1 m with rfl | m
          · exact hak
          · exact hk.all y m
        · obtain ⟨z, m, e⟩ := hk.one
          exact ⟨z, List.mem_cons_of_mem _ m, e⟩
      · have ha : a ≠ 0 := fun z => hak (by rw [z]; exact Int.dvd_zero _)
        have hl : dep p a < k := Nat.lt_of_not_le fun l => hak (Int.dvd_trans (pow_dvd l) (dep_pow_dvd hp ha))
        refine ⟨dep p a, fun y m => ?_, a, List.mem_cons_self, ha, rfl⟩
        rcases List.mem_cons.1 m with rfl | m
        · exact dep_pow_dvd hp ha
        · exact Int.dvd_trans (pow_dvd (Nat.le_of_lt hl)) (hk.all y m)
theorem Cont.notZ {p : Int} {f : List Int} {k : Nat} (h : Cont p f k) : ¬ AllZ f := fun a => by
  obtain ⟨z, m, z0, _⟩ := h.one
  exact z0 (a z m)
/-- of what p does not divide altogether the content is 0 -/
theorem Cont.mk' {p : Int} {f : List Int} {k : Nat} (hp : 2 ≤ p) (h : AllDiv (p ^ k) f) (h' : ¬ AllDiv (p ^ (k + 1)) f) : Cont p f k := by
  have hz : ¬ AllZ f := fun a => h' fun z m => by rw [a z m]; exact Int.dvd_zero _
  obtain ⟨j, hj⟩ := Cont.ex hp f hz
  have h1 := (hj.iff hp k).1 h
  have h2 : ¬ k + 1 ≤ j := fun l => h' ((hj.iff hp (k + 1)).2 l)
  have : j = k := by omega
  rw [← this]; exact hj
theorem Cont.not {p : Int} {f : List Int} {k : Nat} (hp : 2 ≤ p) (h : Cont p f k) : ¬ AllDiv (p ^ (k + 1)) f := fun a => by
  have := (h.iff hp (k + 1)).1 a
  omega
/-! ### noughts, in the ways they are met -/
theorem allZ_iff {f : List Int} : AllZ f ↔ f = List.replicate f.length 0 :=
  ⟨fun h => List.eq_replicate_iff.2 ⟨rfl, h⟩, fun h => (List.eq_replicate_iff.1 h).2⟩
theorem allDiv_cons {q a : Int} {f : List Int} : AllDiv q (a :: f) ↔ q ∣ a ∧ AllDiv q f :=
  ⟨fun h => ⟨h a List.mem_cons_self, fun z m => h z (List.mem_cons_of_mem _ m)⟩, fun h z m => by
    rcases List.mem_cons.1 m with rfl | m
    · exact h.1
    · exact h.2 z m⟩
theorem allDiv_padd {q : Int} : ∀ {f g : List Int}, AllDiv q f → AllDiv q g → AllDiv q (padd f g)
  | [], g, _, h => by rw [padd]; exact h
  | a :: f, [], h, _ => h
  | a :: f, b :: g, h, k => by
    obtain ⟨h1, h2⟩ := allDiv_cons.1 h
    obtain ⟨k1, k2⟩ := allDiv_cons.1 k
    exact allDiv_cons.2 ⟨Int.dvd_add h1 k1, allDiv_padd h2 k2⟩
theorem allDiv_padd_r {q : Int} : ∀ {f g : List Int}, AllDiv q f → AllDiv q (padd f g) → AllDiv q g
  | [], g, _, h => by rw [padd] at h; exact h
  | a :: f, [], _, _ => fun z m => nomatch m
  | a :: f, b :: g, h, k => by
    obtain ⟨h1, h2⟩ := allDiv_cons.1 h
    obtain ⟨k1, k2⟩ := allDiv_cons.1 (show AllDiv q ((a + b) :: padd f g) from k)
    exact allDiv_cons.2 ⟨(Int.dvd_add_right h1).1 k1, allDiv_padd_r h2 k2⟩
theorem padd_comm' : ∀ f g : List Int, padd f g = padd g f
  | [], [] => rfl
  | [], b :: g => by rw [padd]; rfl
  | a :: f, [] => by show a :: f = padd [] (a :: f); rw [padd]
  | a :: f, b :: g => by
    show (a + b) :: padd f g = (b + a) :: padd g f
    rw [padd_comm' f g, Int.add_comm]
theorem allDiv_padd_l {q : Int} {f g : List Int} (h : AllDiv q g) (k : AllDiv q (padd f g)) : AllDiv q f := allDiv_padd_r h (by rw [padd_comm']; exact k)
theorem allDiv_scale {q c : Int} {f : List Int} (h : q ∣ c) : AllDiv q (pscale c f) := fun z m => by
  obtain ⟨y, _, rfl⟩ := List.mem_map.1 m
  exact Int.dvd_trans h ⟨y, rfl⟩
theorem allDiv_scale' {q c : Int} {f : List Int} (h : AllDiv q f) : AllDiv q (pscale c f) := fun z m => by
  obtain ⟨y, hy, rfl⟩ := List.mem_map.1 m
  exact Int.dvd_trans (h y hy) ⟨c, Int.mul_comm _ _⟩
theorem allDiv_pmul {q : Int} : ∀ {f g : List Int}, AllDiv q g → AllDiv q (pmul f g)
  | [], _, _ => fun z m => nomatch m
  | [a], g, h => allDiv_scale' h
  | a :: b :: f, g, h => allDiv_padd (allDiv_scale' h) (allDiv_cons.2 ⟨Int.dvd_zero _, allDiv_pmul h⟩)
theorem pmul_cons {a : Int} {f g : List Int} (hf : f ≠ []) : pmul (a :: f) g = padd (pscale a g) (0 :: pmul f g) := by
  cases f with
  | nil => exact absurd rfl hf
  | cons b f => rfl
/-- by a prime: it divides a product's numbers just where it divides those of one -/
theorem gauss {p : Int} (hp : Pm p) : ∀ (n : Nat) (f g : List Int), f.length + g.length ≤ n → f ≠ [] → g ≠ [] → AllDiv p (pmul f g) → AllDiv p f ∨ AllDiv p g
  | 0, f, g, hn, hf, _, _ => by cases f with
    | nil => exact absurd rfl hf
    | cons _ _ => simp at hn
  | n + 1, f, g, hn, hf, hg, h => by
    obtain ⟨a, f', rfl⟩ := List.exists_cons_of_ne_nil hf
    obtain ⟨b, g', rfl⟩ := List.exists_cons_of_ne_nil hg
    -- the first ones
    have hab : p ∣ a * b := by
      cases f' with
      | nil =>
        have : AllDiv p (pscale a (b :: g')) := h
        exact this _ List.mem_cons_self
      | cons c f'' =>
        have : AllDiv p ((a * b + 0) :: padd (pscale a g') (pmul (c :: f'') (b :: g'))) := h
        have := this _ List.mem_cons_self
        rwa [Int.add_zero] at this
    simp only [List.length_cons] at hn
    by_cases ha : p ∣ a
    · cases f' with
      | nil => exact .inl (allDiv_cons.2 ⟨ha, fun z m => nomatch m⟩)
      | cons c f'' =>
        rw [pmul_cons (by simp)] at h
        have h2 := (allDiv_cons.1 (allDiv_padd_r (allDiv_scale ha) h)).2
        rcases gauss hp n (c :: f'') (b :: g') (by simp only [List.length_cons] at hn ⊢; omega) (by simp) (by simp) h2 with k | k
        · exact .inl (allDiv_cons.2 ⟨ha, k⟩)
        · exact .inr k
    · have hb : p ∣ b := by
        by_cases hb : p ∣ b
        · exact hb
        · exact absurd (Int.emod_eq_zero_of_dvd hab) (hp.euclid (fun z => ha (Int.dvd_of_emod_eq_zero z)) (fun z => hb (Int.dvd_of_emod_eq_zero z)))
      cases g' with
      | nil => exact .inr (allDiv_cons.2 ⟨hb, fun z m => nomatch m⟩)
      | cons c g'' =>
        rw [pmul_comm (by simp) (by simp), pmul_cons (by simp)] at h
        have h2 := (allDiv_cons.1 (allDiv_padd_r (allDiv_scale hb) h)).2
        rw [pmul_comm (by simp) (by simp)] at h2
        rcases gauss hp n (a :: f') (c :: g'') (by simp only [List.length_cons] at hn ⊢; omega) (by simp) (by simp) h2 with k | k
        · exact .inl k
        · exact .inr (allDiv_cons.2 ⟨hb, k⟩)
theorem allDiv_ex {q : Int} : ∀ {f : List Int}, AllDiv q f → ∃ f', f = pscale q f'
  | [], _ => ⟨[], rfl⟩
  | a :: f, h => by
    obtain ⟨h1, h2⟩ := allDiv_cons.1 h
    obtain ⟨f', e⟩ := allDiv_ex h2
    obtain ⟨c, rfl⟩ := h1
    exact ⟨c :: f', by rw [e]; rfl⟩
theorem pmul_scale (c d : Int) {f g : List Int} (hf : f ≠ []) (hg : g ≠ []) : pmul (pscale c f) (pscale d g) = pscale (c * d) (pmul f g) := by
  have n1 : pscale c f ≠ [] := fun z => hf (List.map_eq_nil_iff.1 z)
  have n2 : pscale d g ≠ [] := fun z => hg (List.map_eq_nil_iff.1 z)
  refine (pmul_of n1 n2 ?_ fun x => ?_).symm
  · rw [scale_len, scale_len, scale_len, pmul_len _ _ hf hg]
  · rw [pe_scale, pe_scale, pe_scale, pe_mul]
    grind
theorem allDiv_of_scale {c q : Int} {f : List Int} (hc : c ≠ 0) : AllDiv (c * q) (pscale c f) ↔ AllDiv q f := by
  constructor
  · intro h z m
    have := h (c * z) (List.mem_map.2 ⟨z, m, rfl⟩)
    exact Int.dvd_of_mul_dvd_mul_left hc this
  · intro h z m
    obtain ⟨y, hy, rfl⟩ := List.mem_map.1 m
    exact Int.mul_dvd_mul_left _ (h y hy)
/-- the content of a product -/
theorem Cont.mul {p : Int} {f g : List Int} {k j : Nat} (hp : Pm p) (hf : Cont p f k) (hg : Cont p g j) : Cont p (pmul f g) (k + j) := by
  have p2 := hp.lo
  have pk : ∀ n : Nat, p ^ n ≠ 0 := fun n => Int.ne_of_gt (Int.pow_pos (by omega))
  have n1 : f ≠ [] := fun z => by obtain ⟨y, m, _⟩ := hf.one; rw [z] at m; cases m
  have n2 : g ≠ [] := fun z => by obtain ⟨y, m, _⟩ := hg.one; rw [z] at m; cases m
  obtain ⟨f', e1⟩ := allDiv_ex hf.all
  obtain ⟨g', e2⟩ := allDiv_ex hg.all
  have n3 : f' ≠ [] := fun z => n1 (by rw [e1, z]; rfl)
  have n4 : g' ≠ [] := fun z => n2 (by rw [e2, z]; rfl)
  have a1 : ¬ AllDiv p f' := fun a => hf.not p2 (by rw [e1, Int.pow_succ]; exact (allDiv_of_scale (pk k)).2 a)
  have a2 : ¬ AllDiv p g' := fun a => hg.not p2 (by rw [e2, Int.pow_succ]; exact (allDiv_of_scale (pk j)).2 a)
  have e3 : pmul f g = pscale (p ^ (k + j)) (pmul f' g') := by rw [e1, e2, pmul_scale _ _ n3 n4, Int.pow_add]
  refine Cont.mk' p2 ?_ fun h => ?_
  · rw [e3]; exact allDiv_scale (Int.dvd_refl _)
  · rw [e3, Int.pow_succ, allDiv_of_scale (pk (k + j))] at h
    rcases gauss hp _ f' g' (Nat.le_refl _) n3 n4 h with z | z
    · exact a1 z
    · exact a2 z
end Pz
namespace Pz
open PySem PySem.Spec PyProof.Rows L2
theorem allZ_div {f : List Int} : AllZ f ↔ AllDiv 0 f := ⟨fun h z m => by rw [h z m]; exact Int.dvd_refl 0, fun h z m => Int.zero_dvd.1 (h z m)⟩
theorem allZ_pmul_l {f g : List Int} (hf : f ≠ []) (hg : g ≠ []) (h : AllZ f) : AllZ (pmul f g) := by
  rw [pmul_comm hf hg]
  exact allZ_div.2 (allDiv_pmul (allZ_div.1 h))
theorem allZ_pmul_r {f g : List Int} (h : AllZ g) : AllZ (pmul f g) := allZ_div.2 (allDiv_pmul (allZ_div.1 h))
theorem allZ_dec {f : List Int} {n : Nat} (h : f.length = n) : f = List.replicate n 0 ↔ AllZ f := by subst h; exact allZ_iff.symm
theorem bt_cont {p : Int} {f : List Int} {n k : Nat} (hp : 2 ≤ p) (hb : ∀ z ∈ f, Bt n z) (h : Cont p f k) : k < n := by
  obtain ⟨z, m, z0, rfl⟩ := h.one
  exact dep_bt hp z0 (hb z m)
/-! ### what is seen, put together -/
theorem pseen_seen (a b s t : Int) (f : List Int) : pseen b t (pseen a s f) = pseen (a + s * b) (s * t) f :=
  pe_uniq (by simp only [pseen_len]) fun y _ => by
    rw [pe_seen, pe_seen, pe_seen]
    congr 1
    grind
theorem pseen_ne {a s : Int} {f : List Int} (h : f ≠ []) : pseen a s f ≠ [] := fun e => h (by have := congrArg List.length e; rw [pseen_len] at this; exact List.length_eq_zero_iff.1 this)
theorem pseen_mul (a s : Int) {f g : List Int} (hf : f ≠ []) (hg : g ≠ []) : pmul (pseen a s f) (pseen a s g) = pseen a s (pmul f g) := by
  refine (pmul_of (pseen_ne hf) (pseen_ne hg) ?_ fun x => ?_).symm
  · rw [pseen_len, pseen_len, pseen_len, pmul_len _ _ hf hg]
  · rw [pe_seen, pe_mul, pe_seen, pe_seen]
theorem slp_ne {f : List Int} (h : f ≠ []) : slp f ≠ [] := fun e => by
  have := congrArg List.length e
  rw [slp_len] at this
  have h0 : 0 < f.length := List.length_pos_iff.2 h
  split at this <;> simp at this <;> omega
/-- the slope of what is seen, by its worths' differences -/
theorem pd_seen (y a s : Int) : ∀ f : List Int, pd y (pseen a s f) = s * pd (a + s * y) f
  | [] => by simp [pseen, pd]
  | c :: f => by
    show pd y (padd [c] (padd (pscale a (pseen a s f)) (0 :: pscale s (pseen a s f)))) = s * (pe (a + s * y) f + (a + s * y) * pd (a + s * y) f)
    rw [pd_padd, pd_padd, pd_scale]
    show pd y [c] + (a * pd y (pseen a s f) + (pe y (pscale s (pseen a s f)) + y * pd y (pscale s (pseen a s f)))) = _
    rw [pe_scale, pd_scale, pe_seen, pd_seen y a s f]
    simp only [pd, pe]
    grind
theorem slp_seen (a s : Int) (f : List Int) : slp (pseen a s f) = pscale s (pseen a s (slp f)) := by
  refine pe_uniq (by rw [slp_len, scale_len, pseen_len, pseen_len, slp_len]) fun y _ => ?_
  rw [pe_slp, pe_scale, pe_seen, pd_seen, pe_slp]
theorem eqv_end {x y : PyData} {Q : PV → Prop} (h : PyData.eqv x y = true) (q : Q (.im (.bool true))) : Q (.im (.bool (PyData.eqv x y))) := by rw [h]; exact q
end Pz

namespace Pz
open PySem PySem.Spec PyProof.Rows L2
/-! ### coefficients -/
def co (f : List Int) (i : Nat) : Int := f.getD i 0
theorem co_nil (i : Nat) : co [] i = 0 := rfl
theorem co_zero (a : Int) (f : List Int) : co (a :: f) 0 = a := rfl
theorem co_succ (a : Int) (f : List Int) (i : Nat) : co (a :: f) (i + 1) = co f i := rfl
theorem allDiv_co {q : Int} : ∀ {f : List Int}, AllDiv q f ↔ ∀ i, q ∣ co f i
  | [] => ⟨fun _ i => by rw [co_nil]; exact Int.dvd_zero _, fun _ z m => nomatch m⟩
  | a :: f => by
    rw [allDiv_cons, allDiv_co (f := f)]
    constructor
    · rintro ⟨h1, h2⟩ i
      cases i with
      | zero => exact h1
      | succ i => exact h2 i
    · exact fun h => ⟨h 0, fun i => h (i + 1)⟩
theorem co_scale (c : Int) : ∀ (f : List Int) (i : Nat), co (pscale c f) i = c * co f i
  | [], i => by rw [show pscale c [] = [] from rfl, co_nil, Int.mul_zero]
  | a :: f, 0 => rfl
  | a :: f, i + 1 => co_scale c f i
/-- each number times a power -/
def ptw (s : Int) (j : Nat) : List Int → List Int
  | [] => []
  | a :: f => s ^ j * a :: ptw s (j + 1) f
theorem ptw_len (s : Int) : ∀ (f : List Int) (j : Nat), (ptw s j f).length = f.length
  | [], _ => rfl
  | a :: f, j => by show (ptw s (j + 1) f).length + 1 = _; rw [ptw_len s f (j + 1)]; rfl
theorem co_ptw (s : Int) : ∀ (f : List Int) (j i : Nat), co (ptw s j f) i = s ^ (j + i) * co f i
  | [], j, i => by rw [show ptw s j [] = [] from rfl, co_nil, Int.mul_zero]
  | a :: f, j, 0 => rfl
  | a :: f, j, i + 1 => by
    show co (ptw s (j + 1) f) i = s ^ (j + (i + 1)) * co f i
    rw [co_ptw s f (j + 1) i, show j + 1 + i = j + (i + 1) by omega]
theorem pe_ptw (s y : Int) : ∀ (f : List Int) (j : Nat), pe y (ptw s j f) = s ^ j * pe (s * y) f
  | [], j => by simp [ptw, pe]
  | a :: f, j => by
    show s ^ j * a + pe y (ptw s (j + 1) f) * y = s ^ j * (a + pe (s * y) f * (s * y))
    rw [pe_ptw s y f (j + 1), Int.pow_succ]
    grind
theorem pseen_ptw (a s : Int) (f : List Int) : pseen a s f = ptw s 0 (pseen a 1 f) := by
  refine pe_uniq (by rw [pseen_len, ptw_len, pseen_len]) fun y _ => ?_
  rw [pe_seen, pe_ptw, pe_seen, Int.pow_zero, Int.one_mul, Int.one_mul]
theorem allDiv_of_pe {q : Int} {f g : List Int} (h : ∀ x, pe x f = pe x g) (k : AllDiv q g) : AllDiv q f := by
  have e : f ++ List.replicate g.length 0 = g ++ List.replicate f.length 0 := pe_uniq (by simp; omega) fun x _ => by rw [pe_pad, pe_pad, h]
  intro z m
  have : z ∈ g ++ List.replicate f.length 0 := by rw [← e]; exact List.mem_append_left _ m
  rcases List.mem_append.1 this with m | m
  · exact k z m
  · rw [List.eq_of_mem_replicate m]; exact Int.dvd_zero _
/-! ### x - r, by p -/
def plin (r : Int) : Nat → List Int
  | 0 => [1]
  | k + 1 => pmul [-r, 1] (plin r k)
theorem pe_lin (x r : Int) : ∀ k : Nat, pe x (plin r k) = (x - r) ^ k
  | 0 => by simp [plin, pe]
  | k + 1 => by
    show pe x (pmul [-r, 1] (plin r k)) = _
    rw [pe_mul, pe_lin x r k, Int.pow_succ]
    simp only [pe]
    grind
theorem cancel1 {p r : Int} {A B : List Int} (hp : Pm p) (h : ∀ x, (x - r) * pe x A = p * pe x B) : ∃ C : List Int, ∀ x, pe x A = p * pe x C := by
  cases A with
  | nil => exact ⟨[], fun x => by simp [pe]⟩
  | cons a A =>
    have h1 : AllDiv p (pmul [-r, 1] (a :: A)) := allDiv_of_pe (g := pscale p B) (fun x => by
      rw [pe_mul, pe_scale, ← h x]
      simp only [pe]
      grind) (allDiv_scale (Int.dvd_refl p))
    rcases gauss hp _ [-r, 1] (a :: A) (Nat.le_refl _) (by simp) (by simp) h1 with k | k
    · have := k 1 (by simp)
      have h2 := hp.lo
      have := Int.le_of_dvd (by decide) this
      omega
    · obtain ⟨C, e⟩ := allDiv_ex k
      exact ⟨C, fun x => by rw [e, pe_scale]⟩
theorem cancelK {p r : Int} (hp : Pm p) : ∀ (k : Nat) (A B : List Int), (∀ x, (x - r) ^ k * pe x A = p * pe x B) → ∃ C : List Int, ∀ x, pe x A = p * pe x C
  | 0, A, B, h => ⟨B, fun x => by have := h x; rwa [Int.pow_zero, Int.one_mul] at this⟩
  | k + 1, A, B, h => by
    obtain ⟨C, hC⟩ := cancel1 (A := pmul (plin r k) A) (B := B) (r := r) hp fun x => by
      rw [pe_mul, pe_lin, ← h x, Int.pow_succ]
      grind
    exact cancelK hp k A C fun x => by rw [← hC x, pe_mul, pe_lin]
theorem synth (r : Int) : ∀ g : List Int, g ≠ [] → ∃ q : List Int, q.length + 1 = g.length ∧ ∀ x, pe x g = (x - r) * pe x q + pe r g
  | [], h => absurd rfl h
  | [a], _ => ⟨[], rfl, fun x => by simp [pe]⟩
  | a :: b :: g, _ => by
    obtain ⟨q, hl, hq⟩ := synth r (b :: g) (by simp)
    refine ⟨pe r (b :: g) :: q, by simp at hl ⊢; omega, fun x => ?_⟩
    rw [pe_cons x a, hq x, pe_cons x (pe r (b :: g)), pe_cons r a]
    grind
/-- (x - r) k times goes into g, by p -/
def DivP (p r : Int) (k : Nat) (g : List Int) : Prop := ∃ q s : List Int, ∀ x, pe x g = (x - r) ^ k * pe x q + p * pe x s
theorem DivP.zero (p r : Int) (g : List Int) : DivP p r 0 g := ⟨g, [], fun x => by simp [pe]⟩
theorem DivP.less {p r : Int} {k : Nat} {g : List Int} (h : DivP p r (k + 1) g) : DivP p r k g := by
  obtain ⟨q, s, e⟩ := h
  refine ⟨pmul [-r, 1] q, s, fun x => ?_⟩
  rw [e x, pe_mul, Int.pow_succ]
  simp only [pe]
  grind
theorem DivP.cong {p r : Int} {k : Nat} {g t : List Int} {u : List Int} (h : DivP p r k g) (e : ∀ x, pe x g = pe x t + p * pe x u) : DivP p r k t := by
  obtain ⟨q, s, e1⟩ := h
  refine ⟨q, padd s (pscale (-1) u), fun x => ?_⟩
  have := e1 x
  have := e x
  rw [pe_padd, pe_scale]
  grind
theorem DivP.root {p r : Int} {k : Nat} {g : List Int} (h : DivP p r (k + 1) g) : p ∣ pe r g := by
  obtain ⟨q, s, e⟩ := h
  refine ⟨pe r s, ?_⟩
  rw [e r, Int.sub_self, Int.pow_succ, Int.mul_zero, Int.zero_mul, Int.zero_add]
theorem DivP.ofRoot {p r : Int} {g : List Int} (h : p ∣ pe r g) : DivP p r 1 g := by
  cases g with
  | nil => exact ⟨[], [], fun x => by simp [pe]⟩
  | cons a g =>
    obtain ⟨q, _, hq⟩ := synth r (a :: g) (by simp)
    obtain ⟨c, hc⟩ := h
    refine ⟨q, [c], fun x => ?_⟩
    rw [hq x, hc]
    simp only [pe]
    grind
theorem Pm.pdvd {p a b : Int} (hp : Pm p) (h : p ∣ a * b) : p ∣ a ∨ p ∣ b := by
  by_cases ha : p ∣ a
  · exact .inl ha
  · by_cases hb : p ∣ b
    · exact .inr hb
    · exact absurd (Int.emod_eq_zero_of_dvd h) (hp.euclid (fun z => ha (Int.dvd_of_emod_eq_zero z)) fun z => hb (Int.dvd_of_emod_eq_zero z))
theorem DivP.other {p r r' c : Int} {g q : List Int} (hp : Pm p) (hr : ¬ p ∣ r' - r) (e : ∀ x, pe x g = (x - r) * pe x q + p * c) : ∀ k, DivP p r' k g → DivP p r' k q
  | 0, _ => .zero _ _ _
  | k + 1, h => by
    obtain ⟨Q, s, hQ⟩ := DivP.other hp hr e k h.less
    obtain ⟨A, s', hA⟩ := h
    obtain ⟨C, hC⟩ := cancelK (r := r') (A := padd (pmul [-r, 1] Q) (pscale (-1) (pmul [-r', 1] A))) (B := padd s' (padd [-c] (pscale (-1) (pmul [-r, 1] s)))) hp k fun x => by
      have h1 := hQ x
      have h2 := hA x
      have h3 := e x
      simp only [pe_padd, pe_scale, pe_mul, pe] at *
      rw [Int.pow_succ] at h2
      grind
    have h4 := hC r'
    simp only [pe_padd, pe_scale, pe_mul, pe] at h4
    have h5 : p ∣ (r' - r) * pe r' Q := ⟨pe r' C, by grind⟩
    rcases hp.pdvd h5 with h5 | h5
    · exact absurd h5 hr
    · obtain ⟨Q', s2, h6⟩ := DivP.ofRoot h5
      refine ⟨Q', padd s (pmul (plin r' k) s2), fun x => ?_⟩
      have h7 := hQ x
      have h8 := h6 x
      rw [pe_padd, pe_mul, pe_lin, h7, h8, Int.pow_succ, Int.pow_succ, Int.pow_zero]
      grind
theorem DivP.same {p r c : Int} {g q : List Int} {k : Nat} (hp : Pm p) (e : ∀ x, pe x g = (x - r) * pe x q + p * c) (h : DivP p r (k + 1) g) : DivP p r k q := by
  obtain ⟨A, s, hA⟩ := h
  obtain ⟨C, hC⟩ := cancel1 (r := r) (A := padd q (pscale (-1) (pmul (plin r k) A))) (B := padd s [-c]) hp fun x => by
    have h2 := hA x
    have h3 := e x
    simp only [pe_padd, pe_scale, pe_mul, pe_lin, pe] at *
    rw [Int.pow_succ] at h2
    grind
  refine ⟨A, C, fun x => ?_⟩
  have := hC x
  simp only [pe_padd, pe_scale, pe_mul, pe_lin] at this
  grind
def sumK (L : List (Int × Nat)) : Nat := (L.map (·.2)).sum
theorem sumK_app (L M : List (Int × Nat)) : sumK (L ++ M) = sumK L + sumK M := by unfold sumK; rw [List.map_append, List.sum_append]
theorem sumK_cons (a : Int × Nat) (L : List (Int × Nat)) : sumK (a :: L) = a.2 + sumK L := by unfold sumK; rw [List.map_cons, List.sum_cons]
theorem sumK_zero : ∀ L : List (Int × Nat), (¬ ∃ a ∈ L, a.2 ≠ 0) → sumK L = 0
  | [], _ => rfl
  | a :: L, h => by
    have h1 : a.2 = 0 := by
      by_cases z : a.2 = 0
      · exact z
      · exact absurd ⟨a, List.mem_cons_self, z⟩ h
    rw [sumK_cons, h1, sumK_zero L fun ⟨b, m, k⟩ => h ⟨b, List.mem_cons_of_mem _ m, k⟩]
/-- all roots together, each as often as it is one, are no more than the degree -/
theorem mult_bound {p : Int} (hp : Pm p) : ∀ (n : Nat) (g : List Int), g.length ≤ n + 1 → ¬ AllDiv p g → ∀ L : List (Int × Nat), (L.map (·.1)).Pairwise (fun a b => ¬ p ∣ a - b) → (∀ a ∈ L, DivP p a.1 a.2 g) → sumK L ≤ n := by
  intro n
  induction n with
  | zero =>
    intro g hg ha L hd hL
    by_cases h0 : sumK L = 0
    · omega
    exfalso
    obtain ⟨a, m, k⟩ : ∃ a ∈ L, a.2 ≠ 0 := by
      by_cases h : ∃ a ∈ L, a.2 ≠ 0
      · exact h
      · exact absurd (sumK_zero L h) h0
    obtain ⟨j, hj⟩ : ∃ j, a.2 = j + 1 := ⟨a.2 - 1, by omega⟩
    have h1 := hL a m
    rw [hj] at h1
    have h2 := h1.root
    refine ha fun z hz => ?_
    match g, hg, hz, h2 with
    | [b], _, hz, h2 =>
      rw [List.mem_singleton.1 hz]
      simpa [pe] using h2
    | b :: c :: g, hg, _, _ => simp at hg
  | succ n ih =>
    intro g hg ha L hd hL
    by_cases h : ∃ a ∈ L, a.2 ≠ 0
    · obtain ⟨a, m, k⟩ := h
      obtain ⟨r, k'⟩ := a
      obtain ⟨j, rfl⟩ : ∃ j, k' = j + 1 := ⟨k' - 1, by have : k' ≠ 0 := k; omega⟩
      obtain ⟨L1, L2, rfl⟩ := List.append_of_mem m
      have h1 : DivP p r (j + 1) g := hL _ m
      have gne : g ≠ [] := fun z => ha (by rw [z]; exact fun _ m => nomatch m)
      obtain ⟨q, ql, hq⟩ := synth r g gne
      obtain ⟨c, hc⟩ := h1.root
      have e : ∀ x, pe x g = (x - r) * pe x q + p * c := fun x => by rw [← hc]; exact hq x
      have hqa : ¬ AllDiv p q := fun z => ha (allDiv_of_pe (g := padd (pmul [-r, 1] q) [p * c]) (fun x => by
        rw [pe_padd, pe_mul, e x]
        simp only [pe]
        grind) (allDiv_padd (allDiv_pmul z) (fun y m => by rw [List.mem_singleton.1 m]; exact ⟨c, rfl⟩)))
      rw [List.map_append, List.map_cons] at hd
      have hd2 := List.pairwise_append.1 hd
      have hd3 := List.pairwise_cons.1 hd2.2.1
      have := ih q (by omega) hqa (L1 ++ (r, j) :: L2) (by rw [List.map_append, List.map_cons]; exact hd) fun b hb => by
        rcases List.mem_append.1 hb with hb | hb
        · refine DivP.other hp ?_ e b.2 (hL b (List.mem_append_left _ hb))
          exact hd2.2.2 b.1 (List.mem_map.2 ⟨b, hb, rfl⟩) r List.mem_cons_self
        · rcases List.mem_cons.1 hb with rfl | hb
          · exact DivP.same hp e h1
          · refine DivP.other hp (fun z => ?_) e b.2 (hL b (List.mem_append_right _ (List.mem_cons_of_mem _ hb)))
            refine hd3.1 b.1 (List.mem_map.2 ⟨b, hb, rfl⟩) ?_
            have := Int.dvd_neg.2 z
            rwa [Int.neg_sub] at this
      rw [sumK_app, sumK_cons] at this ⊢
      simp only at this ⊢
      omega
    · have := sumK_zero L h
      omega
/-! ### the place of the last number that p does not divide -/
open Classical in
noncomputable def mdg (p : Int) : List Int → Nat
  | [] => 0
  | a :: f => if AllDiv p f then 0 else mdg p f + 1
theorem mdg_drop {p : Int} : ∀ f : List Int, AllDiv p (f.drop (mdg p f + 1))
  | [] => fun z m => nomatch m
  | a :: f => by
    unfold mdg
    by_cases h : AllDiv p f
    · rw [if_pos h]; exact h
    · rw [if_neg h]; exact mdg_drop f
theorem mdg_co {p : Int} : ∀ f : List Int, ¬ AllDiv p f → ¬ p ∣ co f (mdg p f)
  | [], h => absurd (fun z m => nomatch m) h
  | a :: f, h => by
    unfold mdg
    by_cases k : AllDiv p f
    · rw [if_pos k, co_zero]
      exact fun z => h (allDiv_cons.2 ⟨z, k⟩)
    · rw [if_neg k, co_succ]
      exact mdg_co f k
theorem mdg_le {p : Int} : ∀ f : List Int, f ≠ [] → mdg p f + 1 ≤ f.length
  | [], h => absurd rfl h
  | [a], _ => by
    have : mdg p [a] = 0 := if_pos (fun z m => nomatch m)
    rw [this]
    exact Nat.le_refl _
  | a :: b :: f, _ => by
    have := mdg_le (p := p) (b :: f) (by simp)
    unfold mdg
    split
    · simp
    · simp only [List.length_cons] at this ⊢; omega
theorem take_drop_pe (x : Int) (f : List Int) (n : Nat) (h : n ≤ f.length) : pe x f = pe x (f.take n) + x ^ n * pe x (f.drop n) := by
  conv => lhs; rw [← List.take_append_drop n f]
  rw [pe_app, List.length_take, Nat.min_eq_left h]
theorem mult_mdg {p : Int} (hp : Pm p) {g : List Int} (hg : ¬ AllDiv p g) (L : List (Int × Nat)) (hd : (L.map (·.1)).Pairwise (fun a b => ¬ p ∣ a - b)) (hL : ∀ a ∈ L, DivP p a.1 a.2 g) : sumK L ≤ mdg p g := by
  have gne : g ≠ [] := fun z => hg (by rw [z]; exact fun _ m => nomatch m)
  have hl := mdg_le (p := p) g gne
  obtain ⟨u, hu⟩ := allDiv_ex (mdg_drop (p := p) g)
  have e : ∀ x, pe x g = pe x (g.take (mdg p g + 1)) + p * pe x (List.replicate (mdg p g + 1) 0 ++ u) := fun x => by
    rw [take_drop_pe x g _ hl, hu, pe_scale, pe_app, pe_noughts, List.length_replicate]
    grind
  refine mult_bound hp (mdg p g) (g.take (mdg p g + 1)) (by rw [List.length_take]; omega) (fun h => hg ?_) L hd fun a m => (hL a m).cong e
  rw [← List.take_append_drop (mdg p g + 1) g]
  intro z m
  rcases List.mem_append.1 m with m | m
  · exact h z m
  · exact mdg_drop g z m
theorem pow_dvd_co {p : Int} (hp : Pm p) {k c : Nat} {u : Int} (hu : ¬ p ∣ u) (h : p ^ k ∣ p ^ c * u) : k ≤ c := by
  by_cases hk : k ≤ c
  · exact hk
  exfalso
  obtain ⟨j, rfl⟩ : ∃ j, k = c + (j + 1) := ⟨k - c - 1, by omega⟩
  rw [Int.pow_add] at h
  have p2 := hp.lo
  have h1 := Int.dvd_of_mul_dvd_mul_left (Int.ne_of_gt (Int.pow_pos (by omega))) h
  exact hu (Int.dvd_trans ⟨p ^ j, by rw [Int.pow_succ, Int.mul_comm]⟩ h1)
/-- what is seen from r at the depth 1, without its content: as deep as its degree by p goes x - r into g -/
theorem seen_div {p r : Int} (hp : Pm p) {g h : List Int} {c : Nat} (e : pseen r p g = pscale (p ^ c) h) (hh : ¬ AllDiv p h) : DivP p r (mdg p h) g := by
  have p2 := hp.lo
  have pne : ∀ n : Nat, p ^ n ≠ 0 := fun n => Int.ne_of_gt (Int.pow_pos (by omega))
  generalize hG : pseen r 1 g = G
  have e1 : ∀ i, p ^ c * co h i = p ^ i * co G i := fun i => by
    rw [← co_scale, ← e, pseen_ptw, hG, co_ptw, Nat.zero_add]
  generalize hk : mdg p h = k
  have h0 : ¬ p ∣ co h k := by rw [← hk]; exact mdg_co h hh
  have hkc : k ≤ c := pow_dvd_co hp h0 ⟨co G k, e1 k⟩
  have hj : ∀ j, j < k → p ∣ co G j := fun j hj => by
    obtain ⟨m, rfl⟩ : ∃ m, c = j + (m + 1) := ⟨c - j - 1, by omega⟩
    have := e1 j
    rw [Int.pow_add, Int.mul_assoc] at this
    have h2 := Int.eq_of_mul_eq_mul_left (pne j) this
    exact ⟨p ^ m * co h j, by rw [← h2, Int.pow_succ]; grind⟩
  have hT : AllDiv p (G.take k) := allDiv_co.2 fun i => by
    unfold co
    rw [List.getD_eq_getElem?_getD, List.getElem?_take]
    split
    · rename_i hi
      have := hj i hi
      unfold co at this
      rwa [List.getD_eq_getElem?_getD] at this
    · exact Int.dvd_zero _
  obtain ⟨T, eT⟩ := allDiv_ex hT
  have hkl : k ≤ G.length := by
    by_cases hl : k ≤ G.length
    · exact hl
    · exfalso
      have hz : co G k = 0 := by
        unfold co
        rw [List.getD_eq_getElem?_getD, List.getElem?_eq_none (by omega)]
        rfl
      have := e1 k
      rw [hz, Int.mul_zero] at this
      rcases Int.mul_eq_zero.1 this with z | z
      · exact pne c z
      · exact h0 (by rw [z]; exact Int.dvd_zero _)
  refine ⟨pseen (-r) 1 (G.drop k), pseen (-r) 1 T, fun x => ?_⟩
  have h1 : pe x g = pe (x - r) G := by rw [← hG, pe_seen]; congr 1; omega
  have h2 := take_drop_pe (x - r) G k hkl
  rw [eT, pe_scale] at h2
  rw [h1, h2, pe_seen, pe_seen, show -r + 1 * x = x - r by omega]
  grind
end Pz

namespace Pz
open PySem PySem.Spec PyProof.Rows L2
/-! ### a product's border -/
theorem co_padd : ∀ (f g : List Int) (i : Nat), co (padd f g) i = co f i + co g i
  | [], g, i => by rw [show padd [] g = g by cases g <;> rfl, co_nil]; omega
  | a :: f, [], i => by rw [show padd (a :: f) [] = a :: f from rfl, co_nil]; omega
  | a :: f, b :: g, 0 => rfl
  | a :: f, b :: g, i + 1 => co_padd f g i
theorem co_pmul_dvd {N : Int} {g : List Int} : ∀ (f : List Int) (k : Nat), (∀ i j, i + j = k → N ∣ co f i * co g j) → N ∣ co (pmul f g) k
  | [], k, _ => by rw [show pmul [] g = [] from rfl, co_nil]; exact Int.dvd_zero _
  | [a], k, h => by
    rw [show pmul [a] g = pscale a g from rfl, co_scale]
    exact h 0 k (by omega)
  | a :: b :: f, k, h => by
    rw [pmul_cons (by simp), co_padd, co_scale]
    refine Int.dvd_add (h 0 k (by omega)) ?_
    cases k with
    | zero => exact Int.dvd_zero _
    | succ k => rw [co_succ]; exact co_pmul_dvd (b :: f) k fun i j hij => h (i + 1) j (by omega)
theorem co_pmul_one {N : Int} {g : List Int} : ∀ (f : List Int) (i0 j0 : Nat), (∀ i j, i + j = i0 + j0 → i ≠ i0 → N ∣ co f i * co g j) → N ∣ co (pmul f g) (i0 + j0) - co f i0 * co g j0
  | [], i0, j0, _ => by rw [show pmul [] g = [] from rfl, co_nil, co_nil]; simp
  | [a], 0, j0, h => by
    rw [show pmul [a] g = pscale a g from rfl, co_scale, co_zero, Nat.zero_add, Int.sub_self]; exact Int.dvd_zero _
  | [a], i0 + 1, j0, h => by
    rw [show pmul [a] g = pscale a g from rfl, co_scale, co_succ, co_nil, Int.zero_mul, Int.sub_zero]
    exact h 0 (i0 + 1 + j0) (by omega) (by omega)
  | a :: b :: f, 0, j0, h => by
    rw [pmul_cons (by simp), co_padd, co_scale, Nat.zero_add, co_zero]
    rw [show a * co g j0 + co (0 :: pmul (b :: f) g) j0 - a * co g j0 = co (0 :: pmul (b :: f) g) j0 by omega]
    cases j0 with
    | zero => exact Int.dvd_zero _
    | succ k => rw [co_succ]; exact co_pmul_dvd (b :: f) k fun i j hij => h (i + 1) j (by omega) (by omega)
  | a :: b :: f, i0 + 1, j0, h => by
    rw [pmul_cons (by simp), co_padd, co_scale, show i0 + 1 + j0 = (i0 + j0) + 1 by omega, co_succ, co_succ]
    have h1 := h 0 (i0 + 1 + j0) (by omega) (by omega)
    rw [show i0 + 1 + j0 = (i0 + j0) + 1 by omega, co_zero] at h1
    have h2 := co_pmul_one (b :: f) i0 j0 fun i j hij hi => h (i + 1) j (by omega) (by omega)
    rw [show a * co g (i0 + j0 + 1) + co (pmul (b :: f) g) (i0 + j0) - co (b :: f) i0 * co g j0 = a * co g (i0 + j0 + 1) + (co (pmul (b :: f) g) (i0 + j0) - co (b :: f) i0 * co g j0) by omega]
    exact Int.dvd_add h1 h2
theorem marks_mem {p : Int} : ∀ {f : List Int} {k : Nat} {x : Pt}, x ∈ marksF p k f → ∃ i : Nat, x = (((k + i : Nat) : Int), (dep p (co f i) : Int)) ∧ co f i ≠ 0
  | [], _, _, h => nomatch h
  | a :: f, k, x, h => by
    rw [marksF_cons] at h
    have go : x ∈ marksF p (k + 1) f → ∃ i : Nat, x = (((k + i : Nat) : Int), (dep p (co (a :: f) i) : Int)) ∧ co (a :: f) i ≠ 0 := fun h => by
      obtain ⟨i, e, z⟩ := marks_mem h
      exact ⟨i + 1, by rw [e, co_succ, show k + 1 + i = k + (i + 1) by omega], by rw [co_succ]; exact z⟩
    split at h
    · exact go h
    · rename_i z
      rcases List.mem_cons.1 h with h | h
      · exact ⟨0, h, z⟩
      · exact go h
theorem mem_marks {p : Int} : ∀ {f : List Int} {k i : Nat}, co f i ≠ 0 → (((k + i : Nat) : Int), (dep p (co f i) : Int)) ∈ marksF p k f
  | [], k, i, h => absurd (co_nil i) h
  | a :: f, k, 0, h => by rw [marksF_cons, if_neg (show ¬ a = 0 from h)]; exact List.mem_cons_self
  | a :: f, k, i + 1, h => by
    have := mem_marks (p := p) (f := f) (k := k + 1) (i := i) h
    rw [marksF_cons, co_succ, show k + (i + 1) = k + 1 + i by omega]
    split
    · exact this
    · exact List.mem_cons_of_mem _ this
/-- how far a mark lies above the line through nought of a side's rise -/
def fi (q m : Pt) : Int := m.2 * q.1 - q.2 * m.1
structure Face (q : Pt) (ms : List Pt) (a b : Pt) : Prop where
  ma : a ∈ ms
  mb : b ∈ ms
  eq : fi q b = fi q a
  lo : ∀ m ∈ ms, fi q a ≤ fi q m
  ends : ∀ m ∈ ms, fi q m = fi q a → a.1 ≤ m.1 ∧ m.1 ≤ b.1
theorem fi_left {q a b m : Pt} (hq : 0 < q.1) (hab : a.1 < b.1) (h : abv a b m) (k : slt (sd a b) q) (hm : m.1 < b.1) : fi q b < fi q m := by
  unfold abv slt sd fi at *
  dsimp only at *
  have p1 := Int.mul_lt_mul_of_pos_right k (show 0 < b.1 - m.1 by omega)
  have p2 := Int.mul_le_mul_of_nonneg_right h (Int.le_of_lt hq)
  have : (b.1 - a.1) * (b.2 * q.1 - q.2 * b.1) < (b.1 - a.1) * (m.2 * q.1 - q.2 * m.1) := by grind
  exact Int.lt_of_mul_lt_mul_left this (by omega)
theorem fi_right {q a b m : Pt} (hq : 0 < q.1) (hab : a.1 < b.1) (h : abv a b m) (k : slt q (sd a b)) (hm : a.1 < m.1) : fi q a < fi q m := by
  unfold abv slt sd fi at *
  dsimp only at *
  have p1 := Int.mul_lt_mul_of_pos_right k (show 0 < m.1 - a.1 by omega)
  have p2 := Int.mul_le_mul_of_nonneg_right h (Int.le_of_lt hq)
  have : (b.1 - a.1) * (a.2 * q.1 - q.2 * a.1) < (b.1 - a.1) * (m.2 * q.1 - q.2 * m.1) := by grind
  exact Int.lt_of_mul_lt_mul_left this (by omega)
theorem fi_on {q a b m : Pt} (hq : 0 < q.1) (hab : a.1 < b.1) (h : abv a b m) (k : sim (sd a b) q) : fi q a ≤ fi q m ∧ fi q b = fi q a := by
  unfold abv sim sd fi at *
  dsimp only at *
  have p2 := Int.mul_le_mul_of_nonneg_right h (Int.le_of_lt hq)
  have k2 : (b.2 - a.2) * q.1 * (m.1 - a.1) = q.2 * (b.1 - a.1) * (m.1 - a.1) := by rw [k]
  have e1 : (b.1 - a.1) * (a.2 * q.1 - q.2 * a.1) ≤ (b.1 - a.1) * (m.2 * q.1 - q.2 * m.1) := by grind
  exact ⟨Int.le_of_mul_le_mul_left e1 (by omega), by grind⟩
/-- the sides alike q, from a mark on to whose left all lie higher -/
theorem face_from {q : Pt} {ms : List Pt} (hq : 0 < q.1) (one : ∀ a ∈ ms, ∀ b ∈ ms, a.1 = b.1 → a = b) : ∀ (r : List Pt) (a : Pt), Fw ms (a :: r) → Srt (sides (a :: r)) → (∀ x ∈ a :: r, x ∈ ms) →
    (∀ m ∈ ms, m.1 < a.1 → fi q a < fi q m) → (∀ b, (a :: r).getLast? = some b → ∀ m ∈ ms, m.1 ≤ b.1) → ∃ c d, Face q ms c d ∧ runS q (sides (a :: r)) = d.1 - c.1
  | [], a, _, _, hs, hl, he => by
    have ha := hs a List.mem_cons_self
    have le : ∀ m ∈ ms, m.1 = a.1 ∨ fi q a < fi q m := fun m hm => by
      have := he a rfl m hm
      by_cases z : m.1 < a.1
      · exact .inr (hl m hm z)
      · exact .inl (by omega)
    refine ⟨a, a, ⟨ha, ha, rfl, fun m hm => ?_, fun m hm e => ?_⟩, by show (0 : Int) = _; omega⟩
    · rcases le m hm with h | h
      · rw [one m hm a ha h]; exact Int.le_refl _
      · exact Int.le_of_lt h
    · rcases le m hm with h | h <;> omega
  | b :: r, a, ⟨hab, habv, hfw⟩, hsrt, hs, hl, he => by
    have ha := hs a List.mem_cons_self
    have hb := hs b (by simp)
    rw [sides_two] at hsrt
    obtain ⟨s1, s2, s3⟩ := hsrt
    rcases slt_tri (sd a b) q with k | k | k
    · obtain ⟨c, d, hf, hr⟩ := face_from hq one r b hfw s3 (fun x hx => hs x (List.mem_cons_of_mem _ hx)) (fun m hm hmb => fi_left hq hab (habv m hm) k hmb) (fun c hc => he c (by rw [List.getLast?_cons_cons]; exact hc))
      refine ⟨c, d, hf, ?_⟩
      rw [sides_two]
      simp only [runS]
      rw [if_neg (slt_irr k).1, Int.zero_add, hr]
    · have hz : runS q (sides (b :: r)) = 0 := (runS_zero fun c hc z => (slt_irr (s2 c hc)).1 (sim_trans hq k (sim_symm z))).1
      obtain ⟨_, e⟩ := fi_on hq hab (habv a ha) k
      refine ⟨a, b, ⟨ha, hb, e, fun m hm => (fi_on hq hab (habv m hm) k).1, fun m hm em => ⟨?_, ?_⟩⟩, ?_⟩
      · by_cases z : m.1 < a.1
        · have := hl m hm z; omega
        · omega
      · cases r with
        | nil => exact he b rfl m hm
        | cons c r' =>
          have hbc : b.1 < c.1 := hfw.1
          have hs2 := s2 (sd b c) (by rw [sides_two]; exact List.mem_cons_self)
          have k2 : slt q (sd b c) := sim_slt hq s1 (sim_symm k) hs2
          by_cases z : b.1 < m.1
          · have := fi_right hq hbc (hfw.2.1 m hm) k2 z; omega
          · omega
      · rw [sides_two]
        simp only [runS]
        rw [if_pos k, hz]
        unfold sd
        dsimp only
        omega
    · have hz : runS q (sides (a :: b :: r)) = 0 := by
        rw [sides_two]
        refine (runS_zero fun c hc z => ?_).1
        rcases List.mem_cons.1 hc with h | h
        · rw [h] at z; exact (slt_irr k).1 (sim_symm z)
        · have hcp := Srt.pos s3 c h
          exact (slt_irr (slt_trans hq s1 hcp k (s2 c h))).1 (sim_symm z)
      have hi : ∀ m ∈ ms, m.1 = a.1 ∨ fi q a < fi q m := fun m hm => by
        by_cases z : m.1 < a.1
        · exact .inr (hl m hm z)
        · by_cases z2 : a.1 < m.1
          · exact .inr (fi_right hq hab (habv m hm) k z2)
          · exact .inl (by omega)
      refine ⟨a, a, ⟨ha, ha, rfl, fun m hm => ?_, fun m hm e => ?_⟩, by rw [hz]; omega⟩
      · rcases hi m hm with h | h
        · rw [one m hm a ha h]; exact Int.le_refl _
        · exact Int.le_of_lt h
      · rcases hi m hm with h | h <;> omega
theorem last_le {ms : List Pt} (h : Inc ms) {b : Pt} (hb : ms.getLast? = some b) : ∀ m ∈ ms, m.1 ≤ b.1 := by
  obtain ⟨pre, e⟩ := List.getLast?_eq_some_iff.1 hb
  subst e
  intro m hm
  rcases List.mem_append.1 hm with k | k
  · exact Int.le_of_lt ((inc_snoc.1 h).2 m k)
  · rw [List.mem_singleton.1 k]; exact Int.le_refl _
theorem face_ex {p : Int} {f : List Int} {q : Pt} (hq : 0 < q.1) (hf : marksF p 0 f ≠ []) : ∃ a b, Face q (marksF p 0 f) a b ∧ runS q (border p f) = b.1 - a.1 := by
  obtain ⟨mi, _⟩ := marksF_inc p f 0
  obtain ⟨w1, w2, w3, w4⟩ := hull_fw mi
  have ws : ∀ x ∈ (hull (marksF p 0 f)).reverse, x ∈ marksF p 0 f := fun x hx => hull_sub _ x (List.mem_reverse.1 hx)
  unfold border
  have ne : (hull (marksF p 0 f)).reverse ≠ [] := fun e => hf ((hull_nil _).1 (List.reverse_eq_nil_iff.1 e))
  generalize (hull (marksF p 0 f)).reverse = L at *
  obtain ⟨a, r, rfl⟩ := List.exists_cons_of_ne_nil ne
  refine face_from hq (inc_one mi) r a w1 w2 ws (fun m hm hma => ?_) (fun b hb => last_le mi (by rw [← w4]; exact hb))
  exfalso
  generalize marksF p 0 f = ms at *
  cases ms with
  | nil => cases hm
  | cons x ms =>
    cases w3
    rcases List.mem_cons.1 hm with h | h
    · rw [h] at hma; omega
    · have := mi.1 m h; omega
theorem dep_prod {p x y : Int} (hp : Pm p) (hx : x ≠ 0) (hy : y ≠ 0) : dep p (x * y) = dep p x + dep p y := by
  have h1 := unt_mul hp.lo hx
  have h2 := unt_mul hp.lo hy
  have h3 : x * y = p ^ (dep p x + dep p y) * (unt p x * unt p y) := by
    rw [Int.pow_add]
    calc x * y = (p ^ dep p x * unt p x) * (p ^ dep p y * unt p y) := by rw [h1, h2]
      _ = _ := by grind
  exact (dep_unt hp.lo h3 (hp.euclid (unt_not hp.lo hx) (unt_not hp.lo hy))).1
theorem pair_high {p q1 q2 : Int} {x y : Int} {k i j D : Nat} (hp : Pm p) (hq : 0 < q1) (h : x ≠ 0 → y ≠ 0 → (D : Int) * q1 - q2 * k < ((dep p x : Int) * q1 - q2 * i) + ((dep p y : Int) * q1 - q2 * j)) (hij : i + j = k) : p ^ (D + 1) ∣ x * y := by
  by_cases hx : x = 0
  · rw [hx, Int.zero_mul]; exact Int.dvd_zero _
  by_cases hy : y = 0
  · rw [hy, Int.mul_zero]; exact Int.dvd_zero _
  have h1 := h hx hy
  subst hij
  have h2 : (D : Int) * q1 < ((dep p x : Int) + (dep p y : Int)) * q1 := by
    rw [Int.natCast_add] at h1
    grind
  have h3 := Int.lt_of_mul_lt_mul_right h2 (Int.le_of_lt hq)
  refine (dvd_iff_dep hp.lo (fun z => ?_) _).2 (by rw [dep_prod hp hx hy]; omega)
  rcases Int.mul_eq_zero.1 z with z | z
  · exact hx z
  · exact hy z
/-- where all pairs lie higher, so does the product's number -/
theorem mul_high {p q1 q2 : Int} {f g : List Int} {k D : Nat} (hp : Pm p) (hq : 0 < q1)
    (h : ∀ i j, i + j = k → co f i ≠ 0 → co g j ≠ 0 → (D : Int) * q1 - q2 * k < ((dep p (co f i) : Int) * q1 - q2 * i) + ((dep p (co g j) : Int) * q1 - q2 * j)) : p ^ (D + 1) ∣ co (pmul f g) k := by
  refine co_pmul_dvd f k fun i j hij => ?_
  exact pair_high hp hq (fun a b => h i j hij a b) hij
theorem face_mul {p : Int} {q : Pt} {f g : List Int} {a b c d e h : Pt} (hp : Pm p) (hq : 0 < q.1) (Ff : Face q (marksF p 0 f) a b) (Fg : Face q (marksF p 0 g) c d) (Fh : Face q (marksF p 0 (pmul f g)) e h) :
    e.1 = a.1 + c.1 ∧ h.1 = b.1 + d.1 := by
  have zf : ∀ i : Nat, co f i ≠ 0 → fi q a ≤ (dep p (co f i) : Int) * q.1 - q.2 * (i : Nat) ∧ ((dep p (co f i) : Int) * q.1 - q.2 * (i : Nat) = fi q a → a.1 ≤ (i : Nat) ∧ ((i : Nat) : Int) ≤ b.1) := fun i hi => by
    have hm := mem_marks (p := p) (k := 0) hi
    rw [Nat.zero_add] at hm
    exact ⟨Ff.lo _ hm, Ff.ends _ hm⟩
  have zg : ∀ i : Nat, co g i ≠ 0 → fi q c ≤ (dep p (co g i) : Int) * q.1 - q.2 * (i : Nat) ∧ ((dep p (co g i) : Int) * q.1 - q.2 * (i : Nat) = fi q c → c.1 ≤ (i : Nat) ∧ ((i : Nat) : Int) ≤ d.1) := fun i hi => by
    have hm := mem_marks (p := p) (k := 0) hi
    rw [Nat.zero_add] at hm
    exact ⟨Fg.lo _ hm, Fg.ends _ hm⟩
  -- the product's numbers lie no lower
  have low : ∀ k : Nat, co (pmul f g) k ≠ 0 → fi q a + fi q c ≤ (dep p (co (pmul f g) k) : Int) * q.1 - q.2 * (k : Nat) := fun k hk => by
    refine Int.not_lt.1 fun hlt => ?_
    have := mul_high (q1 := q.1) (q2 := q.2) (f := f) (g := g) (k := k) (D := dep p (co (pmul f g) k)) hp hq fun i j hij hi hj => by
      have h1 := (zf i hi).1
      have h2 := (zg j hj).1
      omega
    have := dep_ge hp.lo _ _ hk this
    omega
  -- a mark where just one pair lies lowest
  have corner : ∀ a' c' : Pt, a' ∈ marksF p 0 f → c' ∈ marksF p 0 g → fi q a' = fi q a → fi q c' = fi q c →
      (∀ i j : Nat, (i : Int) + (j : Int) = a'.1 + c'.1 → co f i ≠ 0 → co g j ≠ 0 → (i : Int) ≠ a'.1 → fi q a + fi q c < ((dep p (co f i) : Int) * q.1 - q.2 * (i : Nat)) + ((dep p (co g j) : Int) * q.1 - q.2 * (j : Nat))) →
      ∃ m ∈ marksF p 0 (pmul f g), m.1 = a'.1 + c'.1 ∧ fi q m = fi q a + fi q c := fun a' c' ha hc ea ec hst => by
    obtain ⟨i0, rfl, hi0⟩ := marks_mem ha
    obtain ⟨j0, rfl, hj0⟩ := marks_mem hc
    rw [Nat.zero_add] at *
    unfold fi at ea ec
    dsimp only at ea ec hst
    rw [Nat.zero_add] at hst
    have hprod : co f i0 * co g j0 ≠ 0 := fun z => by
      rcases Int.mul_eq_zero.1 z with z | z
      · exact hi0 z
      · exact hj0 z
    have dp := dep_prod hp hi0 hj0
    have key := co_pmul_one (N := p ^ (dep p (co f i0 * co g j0) + 1)) (g := g) f i0 j0 fun i j hij hi => by
      refine pair_high (k := i0 + j0) (i := i) (j := j) (q1 := q.1) (q2 := q.2) hp hq (fun hx hy => ?_) hij
      have h1 := hst i j (by omega) hx hy (by omega)
      rw [dp, Int.natCast_add, Int.natCast_add]
      have e1 : ((dep p (co f i0) : Int) + (dep p (co g j0) : Int)) * q.1 - q.2 * ((i0 : Int) + (j0 : Int)) = ((dep p (co f i0) : Int) * q.1 - q.2 * (i0 : Int)) + ((dep p (co g j0) : Int) * q.1 - q.2 * (j0 : Int)) := by grind
      rw [e1, ea, ec]
      exact h1
    obtain ⟨t, ht⟩ := key
    have hx := unt_mul hp.lo hprod
    have hu := unt_not hp.lo hprod
    generalize hDD : dep p (co f i0 * co g j0) = D at *
    generalize hUU : unt p (co f i0 * co g j0) = u at *
    have e2 : co (pmul f g) (i0 + j0) = p ^ D * (u + p * t) := by
      have : co (pmul f g) (i0 + j0) = co f i0 * co g j0 + p ^ (D + 1) * t := by omega
      rw [this, ← hx, Int.pow_succ]
      grind
    have hu2 : (u + p * t) % p ≠ 0 := by rw [Int.add_mul_emod_self_left]; exact hu
    have nz : co (pmul f g) (i0 + j0) ≠ 0 := fun z => by
      rw [e2] at z
      rcases Int.mul_eq_zero.1 z with z | z
      · exact Int.ne_of_gt (Int.pow_pos (show 0 < p by have := hp.lo; omega)) z
      · exact hu2 (by rw [z]; simp)
    have hd := (dep_unt hp.lo e2 hu2).1
    have hm := mem_marks (p := p) (k := 0) nz
    refine ⟨_, hm, by dsimp only; omega, ?_⟩
    unfold fi
    dsimp only
    rw [hd, Nat.zero_add, dp, Int.natCast_add, Int.natCast_add]
    have e1 : ((dep p (co f i0) : Int) + (dep p (co g j0) : Int)) * q.1 - q.2 * ((i0 : Int) + (j0 : Int)) = ((dep p (co f i0) : Int) * q.1 - q.2 * (i0 : Int)) + ((dep p (co g j0) : Int) * q.1 - q.2 * (j0 : Int)) := by grind
    rw [e1, ea, ec]
  have side : ∀ m ∈ marksF p 0 (pmul f g), fi q m = fi q a + fi q c → a.1 + c.1 ≤ m.1 ∧ m.1 ≤ b.1 + d.1 := fun m hm em => by
    obtain ⟨k, rfl, hk⟩ := marks_mem hm
    rw [Nat.zero_add] at *
    dsimp only
    have em : (dep p (co (pmul f g) k) : Int) * q.1 - q.2 * (k : Nat) = fi q a + fi q c := em
    by_cases hin : a.1 + c.1 ≤ (k : Int) ∧ (k : Int) ≤ b.1 + d.1
    · exact hin
    · exfalso
      have := mul_high (q1 := q.1) (q2 := q.2) (f := f) (g := g) (k := k) (D := dep p (co (pmul f g) k)) hp hq fun i j hij hi hj => by
        obtain ⟨f1, f2⟩ := zf i hi
        obtain ⟨g1, g2⟩ := zg j hj
        rw [em]
        refine Int.not_le.1 fun hle => ?_
        have e1 := f2 (by omega)
        have e2 := g2 (by omega)
        omega
      have := dep_ge hp.lo _ _ hk this
      omega
  obtain ⟨m1, hm1, em1, fm1⟩ := corner a c Ff.ma Fg.ma rfl rfl fun i j hij hi hj hne => by
    obtain ⟨f1, f2⟩ := zf i hi
    obtain ⟨g1, g2⟩ := zg j hj
    refine Int.not_le.1 fun hle => ?_
    have e1 := f2 (by omega)
    have e2 := g2 (by omega)
    omega
  obtain ⟨m2, hm2, em2, fm2⟩ := corner b d Ff.mb Fg.mb Ff.eq Fg.eq fun i j hij hi hj hne => by
    obtain ⟨f1, f2⟩ := zf i hi
    obtain ⟨g1, g2⟩ := zg j hj
    refine Int.not_le.1 fun hle => ?_
    have e1 := f2 (by omega)
    have e2 := g2 (by omega)
    omega
  have fe : fi q e = fi q a + fi q c := by
    have h1 := Fh.lo m1 hm1
    obtain ⟨k, ek, hk⟩ := marks_mem Fh.ma
    have h2 := low k hk
    have h3 : fi q e = (dep p (co (pmul f g) k) : Int) * q.1 - q.2 * (k : Nat) := by rw [ek, Nat.zero_add]; rfl
    omega
  have s1 := side e Fh.ma fe
  have s2 := side h Fh.mb (by rw [Fh.eq]; exact fe)
  have t1 := Fh.ends m1 hm1 (by omega)
  have t2 := Fh.ends m2 hm2 (by omega)
  omega
/-- the border of a product is both borders put together -/
theorem border_mul {p : Int} {f g : List Int} (hp : Pm p) (hf : marksF p 0 f ≠ []) (hg : marksF p 0 g ≠ []) (hfg : marksF p 0 (pmul f g) ≠ []) : Alk (border p (pmul f g)) (border p f ++ border p g) := by
  intro q hq
  obtain ⟨a, b, Ff, rf⟩ := face_ex (p := p) hq hf
  obtain ⟨c, d, Fg, rg⟩ := face_ex (p := p) hq hg
  obtain ⟨e, h, Fh, rh⟩ := face_ex (p := p) hq hfg
  obtain ⟨e1, e2⟩ := face_mul hp hq Ff Fg Fh
  have l1 := (sum_lin hq (fun s hs => (border_srt p f).pos s hs)).1
  have l2 := (sum_lin hq (fun s hs => (border_srt p g).pos s hs)).1
  have l3 := (sum_lin hq (fun s hs => (border_srt p (pmul f g)).pos s hs)).1
  rw [runS_app, risS_app]
  have hr : runS q (border p (pmul f g)) = runS q (border p f) + runS q (border p g) := by omega
  refine ⟨hr, ?_⟩
  rw [hr] at l3
  have : q.1 * risS q (border p (pmul f g)) = q.1 * (risS q (border p f) + risS q (border p g)) := by grind
  exact Int.eq_of_mul_eq_mul_left (by omega) this
theorem marks_nil {p : Int} {f : List Int} (h : ∀ i, co f i = 0) : marksF p 0 f = [] := by
  cases e : marksF p 0 f with
  | nil => rfl
  | cons x r =>
    obtain ⟨i, _, z⟩ := marks_mem (p := p) (f := f) (k := 0) (x := x) (by rw [e]; exact List.mem_cons_self)
    exact absurd (h i) z
theorem marks_mul {p : Int} {f g : List Int} (hp : Pm p) (hf : marksF p 0 f ≠ []) (hg : marksF p 0 g ≠ []) : marksF p 0 (pmul f g) ≠ [] := fun z => by
  have nf : ¬ AllZ f := fun h => hf (marks_nil fun i => by
    have := (allDiv_co (q := 0)).1 (allZ_div.1 h) i
    exact Int.zero_dvd.1 this)
  have ng : ¬ AllZ g := fun h => hg (marks_nil fun i => by
    have := (allDiv_co (q := 0)).1 (allZ_div.1 h) i
    exact Int.zero_dvd.1 this)
  obtain ⟨k, hk⟩ := Cont.ex hp.lo f nf
  obtain ⟨j, hj⟩ := Cont.ex hp.lo g ng
  refine (Cont.mul hp hk hj).notZ (allZ_div.2 (allDiv_co.2 fun i => ?_))
  by_cases h : co (pmul f g) i = 0
  · rw [h]; exact Int.dvd_refl 0
  · have := mem_marks (p := p) (k := 0) h
    rw [z] at this
    cases this
theorem sds_mem : ∀ {L : List Pt} {s : Pt}, s ∈ sides L → ∃ a ∈ L, ∃ b ∈ L, s = sd a b
  | [], _, h => nomatch h
  | [_], _, h => nomatch h
  | a :: b :: r, s, h => by
    rw [sides_two] at h
    rcases List.mem_cons.1 h with h | h
    · exact ⟨a, by simp, b, by simp, h⟩
    · obtain ⟨c, hc, d, hd, e⟩ := sds_mem h
      exact ⟨c, List.mem_cons_of_mem _ hc, d, List.mem_cons_of_mem _ hd, e⟩
theorem sds_len : ∀ L : List Pt, (sides L).length ≤ L.length
  | [] => Nat.le_refl _
  | [_] => Nat.zero_le _
  | a :: b :: r => by
    have := sds_len (b :: r)
    rw [sides_two]
    simp only [List.length_cons] at this ⊢
    omega
theorem border_bt {p : Int} {f : List Int} {n : Nat} (hp : 2 ≤ p) (hb : ∀ x ∈ f, Bt n x) (hn : n ≤ 100000) (hl : f.length ≤ 1000) : ∀ s ∈ border p f, Bt 64 s.1 ∧ Bt 64 s.2 := fun s hs => by
  obtain ⟨a, ha, b, hb', rfl⟩ := sds_mem hs
  have wb := marksF_bt hp f 0 hb
  have h1 := wb a (hull_sub _ a (List.mem_reverse.1 ha))
  have h2 := wb b (hull_sub _ b (List.mem_reverse.1 hb'))
  unfold sd
  dsimp only
  exact ⟨Bt.num (by omega), Bt.num (by omega)⟩
theorem border_len (p : Int) (f : List Int) : (border p f).length ≤ f.length := by
  have h1 := sds_len (hull (marksF p 0 f)).reverse
  have h2 := hull_len (marksF p 0 f)
  have h3 := marksF_len p f 0
  unfold border
  rw [List.length_reverse] at h1
  omega
end Pz

namespace Pz
open PySem PySem.Spec PyProof.Rows L2
/-! ### polynomials by a number: alike but for its multiples -/
def pls (F G : List Int) : List Int := padd F (pscale (-1) G)
theorem pe_pls (x : Int) (F G : List Int) : pe x (pls F G) = pe x F - pe x G := by unfold pls; rw [pe_padd, pe_scale]; omega
theorem co_pls (F G : List Int) (i : Nat) : co (pls F G) i = co F i - co G i := by unfold pls; rw [co_padd, co_scale]; omega
theorem pls_len (F G : List Int) : (pls F G).length = max F.length G.length := by unfold pls; rw [padd_len, scale_len]
theorem pe_one (x : Int) : pe x [1] = 1 := by simp [pe]
theorem pe_nil (x : Int) : pe x [] = 0 := rfl
def Cg (q : Int) (F G : List Int) : Prop := ∃ H : List Int, ∀ x : Int, pe x F = pe x G + q * pe x H
theorem Cg.of {q : Int} {F G : List Int} (h : ∀ x, pe x F = pe x G) : Cg q F G := ⟨[], fun x => by rw [h x, pe_nil]; omega⟩
theorem Cg.refl {q : Int} (F : List Int) : Cg q F F := .of fun _ => rfl
theorem Cg.lin1 {q : Int} {F G F1 G1 : List Int} (h1 : Cg q F1 G1) (c1 : List Int) (e : ∀ x, pe x F - pe x G = pe x c1 * (pe x F1 - pe x G1)) : Cg q F G := by
  obtain ⟨H1, h1⟩ := h1
  refine ⟨pmul c1 H1, fun x => ?_⟩
  rw [pe_mul]
  have := e x
  have := h1 x
  grind
theorem Cg.lin2 {q : Int} {F G F1 G1 F2 G2 : List Int} (h1 : Cg q F1 G1) (c1 : List Int) (h2 : Cg q F2 G2) (c2 : List Int) (e : ∀ x, pe x F - pe x G = pe x c1 * (pe x F1 - pe x G1) + pe x c2 * (pe x F2 - pe x G2)) : Cg q F G := by
  obtain ⟨H1, h1⟩ := h1
  obtain ⟨H2, h2⟩ := h2
  refine ⟨padd (pmul c1 H1) (pmul c2 H2), fun x => ?_⟩
  rw [pe_padd, pe_mul, pe_mul]
  have := e x
  have := h1 x
  have := h2 x
  grind
theorem Cg.lin3 {q : Int} {F G F1 G1 F2 G2 F3 G3 : List Int} (h1 : Cg q F1 G1) (c1 : List Int) (h2 : Cg q F2 G2) (c2 : List Int) (h3 : Cg q F3 G3) (c3 : List Int)
    (e : ∀ x, pe x F - pe x G = pe x c1 * (pe x F1 - pe x G1) + pe x c2 * (pe x F2 - pe x G2) + pe x c3 * (pe x F3 - pe x G3)) : Cg q F G := by
  obtain ⟨H1, h1⟩ := h1
  obtain ⟨H2, h2⟩ := h2
  obtain ⟨H3, h3⟩ := h3
  refine ⟨padd (pmul c1 H1) (padd (pmul c2 H2) (pmul c3 H3)), fun x => ?_⟩
  rw [pe_padd, pe_padd, pe_mul, pe_mul, pe_mul]
  have := e x
  have := h1 x
  have := h2 x
  have := h3 x
  grind
theorem Cg.symm {q : Int} {F G : List Int} (h : Cg q F G) : Cg q G F := h.lin1 [-1] fun x => by simp only [pe]; grind
theorem Cg.trans {q : Int} {F G H : List Int} (h : Cg q F G) (k : Cg q G H) : Cg q F H := h.lin2 [1] k [1] fun x => by simp only [pe]; grind
theorem cg_all {q : Int} {F G : List Int} : Cg q F G ↔ AllDiv q (pls F G) := by
  constructor
  · rintro ⟨H, h⟩
    exact allDiv_of_pe (g := pscale q H) (fun x => by rw [pe_pls, pe_scale, h x]; omega) (allDiv_scale (Int.dvd_refl q))
  · intro h
    obtain ⟨H, e⟩ := allDiv_ex h
    refine ⟨H, fun x => ?_⟩
    have := congrArg (pe x) e
    rw [pe_pls, pe_scale] at this
    omega
theorem cg_co {q : Int} {F G : List Int} : Cg q F G ↔ ∀ i, q ∣ co F i - co G i := by
  rw [cg_all, allDiv_co]
  constructor
  · intro h i; rw [← co_pls]; exact h i
  · intro h i; rw [co_pls]; exact h i
theorem cg_nil {q : Int} {F : List Int} : Cg q F [] ↔ AllDiv q F := by
  rw [cg_co, allDiv_co]
  constructor
  · intro h i; have := h i; rwa [co_nil, Int.sub_zero] at this
  · intro h i; rw [co_nil, Int.sub_zero]; exact h i
/-! ### noughts at the end taken off -/
def cut : List Int → List Int
  | [] => []
  | a :: r => if cut r = [] ∧ a = 0 then [] else a :: cut r
theorem pe_cut (x : Int) : ∀ f : List Int, pe x (cut f) = pe x f
  | [] => rfl
  | a :: r => by
    have ih := pe_cut x r
    unfold cut
    split
    · rename_i h
      rw [h.1, pe_nil] at ih
      rw [pe_nil, pe_cons, ← ih, h.2]; omega
    · rw [pe_cons, pe_cons, ih]
theorem co_cut : ∀ (f : List Int) (i : Nat), co (cut f) i = co f i
  | [], _ => rfl
  | a :: r, i => by
    have ih := co_cut r
    unfold cut
    split
    · rename_i h
      cases i with
      | zero => rw [co_nil, co_zero, h.2]
      | succ i => rw [co_nil, co_succ, ← ih i, h.1, co_nil]
    · cases i with
      | zero => rfl
      | succ i => rw [co_succ, co_succ, ih i]
theorem cut_len : ∀ f : List Int, (cut f).length ≤ f.length
  | [] => Nat.le_refl _
  | a :: r => by
    have := cut_len r
    unfold cut
    split
    · simp
    · simp only [List.length_cons]; omega
theorem cut_mem : ∀ (f : List Int), ∀ z ∈ cut f, z ∈ f
  | [], _, h => h
  | a :: r, z, h => by
    unfold cut at h
    split at h
    · cases h
    · rcases List.mem_cons.1 h with h | h
      · rw [h]; exact List.mem_cons_self
      · exact List.mem_cons_of_mem _ (cut_mem r z h)
theorem cut_nil {f : List Int} : cut f = [] ↔ ∀ i, co f i = 0 := by
  constructor
  · intro h i; rw [← co_cut, h, co_nil]
  · intro h
    induction f with
    | nil => rfl
    | cons a r ih =>
      unfold cut
      rw [if_pos ⟨ih fun i => h (i + 1), h 0⟩]
theorem cut_snoc0 : ∀ f : List Int, cut (f ++ [0]) = cut f
  | [] => by simp [cut]
  | a :: r => by
    rw [List.cons_append]
    unfold cut
    rw [cut_snoc0 r]
theorem cut_snoc {z : Int} (h : z ≠ 0) : ∀ f : List Int, cut (f ++ [z]) = f ++ [z]
  | [] => by simp [cut, h]
  | a :: r => by
    rw [List.cons_append]
    unfold cut
    rw [cut_snoc h r, if_neg (by simp)]
theorem cut_short : ∀ {f : List Int} {n : Nat}, (∀ i, n ≤ i → co f i = 0) → (cut f).length ≤ n
  | [], _, _ => Nat.zero_le _
  | a :: r, 0, h => by rw [cut_nil.2 fun i => h i (Nat.zero_le _)]; exact Nat.le_refl _
  | a :: r, n + 1, h => by
    have := cut_short (f := r) (n := n) fun i hi => h (i + 1) (by omega)
    unfold cut
    split
    · simp
    · simp only [List.length_cons]; omega
/-- by the prime, noughts at the end taken off -/
structure Nr (p : Int) (D : List Int) : Prop where
  rng : ∀ z ∈ D, 0 ≤ z ∧ z < p
  top : ∀ z, D.getLast? = some z → z ≠ 0
theorem cut_top : ∀ {f : List Int} {z : Int}, (cut f).getLast? = some z → z ≠ 0
  | [], _, h => by cases h
  | a :: r, z, h => by
    have ih := @cut_top r
    unfold cut at h
    split at h
    · cases h
    · rename_i hn
      cases hc : cut r with
      | nil => rw [hc] at h; cases h; exact fun e => hn ⟨hc, e⟩
      | cons b s => rw [hc, List.getLast?_cons_cons] at h; exact ih (by rw [hc]; exact h)
theorem cut_fix : ∀ {f : List Int}, (∀ z, f.getLast? = some z → z ≠ 0) → cut f = f
  | [], _ => rfl
  | [a], h => by unfold cut; rw [if_neg (fun k => h a rfl k.2)]; rfl
  | a :: b :: r, h => by
    have := cut_fix (f := b :: r) fun z hz => h z (by rw [List.getLast?_cons_cons]; exact hz)
    unfold cut
    rw [this, if_neg (by simp)]
def bp (p : Int) (f : List Int) : List Int := cut (f.map (· % p))
theorem co_map_mod (p : Int) : ∀ (f : List Int) (i : Nat), co (f.map (· % p)) i = co f i % p
  | [], i => by rw [List.map_nil, co_nil]; simp
  | a :: r, 0 => rfl
  | a :: r, i + 1 => co_map_mod p r i
theorem cg_mod (p : Int) (f : List Int) : Cg p (f.map (· % p)) f := cg_co.2 fun i => by
  rw [co_map_mod]
  exact ⟨-(co f i / p), by have := Int.emod_add_mul_ediv (co f i) p; grind⟩
theorem bp_cg (p : Int) (f : List Int) : Cg p (bp p f) f := (Cg.of (pe_cut · _)).trans (cg_mod p f)
theorem bp_nr {p : Int} (hp : 0 < p) (f : List Int) : Nr p (bp p f) := ⟨fun z hz => by
  obtain ⟨y, _, rfl⟩ := List.mem_map.1 (cut_mem _ z hz)
  exact ⟨Int.emod_nonneg _ (by omega), Int.emod_lt_of_pos _ hp⟩, fun z => cut_top⟩
theorem bp_len (p : Int) (f : List Int) : (bp p f).length ≤ f.length := by
  have := cut_len (f.map (· % p))
  rwa [List.length_map] at this
theorem bp_nil {p : Int} {f : List Int} : bp p f = [] ↔ AllDiv p f := by
  unfold bp
  rw [cut_nil, allDiv_co]
  constructor
  · intro h i; have := h i; rw [co_map_mod] at this; exact Int.dvd_of_emod_eq_zero this
  · intro h i; rw [co_map_mod]; exact Int.emod_eq_zero_of_dvd (h i)
theorem bp_short {p : Int} {f : List Int} {n : Nat} (h : ∀ i, n ≤ i → p ∣ co f i) : (bp p f).length ≤ n :=
  cut_short fun i hi => by rw [co_map_mod]; exact Int.emod_eq_zero_of_dvd (h i hi)
theorem co_out : ∀ {f : List Int} {i : Nat}, f.length ≤ i → co f i = 0
  | [], _, _ => rfl
  | a :: r, 0, h => absurd h (by simp)
  | a :: r, i + 1, h => co_out (f := r) (by simpa using h)
theorem co_last : ∀ {f : List Int} {z : Int}, f.getLast? = some z → co f (f.length - 1) = z
  | [a], z, h => by cases h; rfl
  | a :: b :: r, z, h => by
    have := co_last (f := b :: r) (z := z) (by rw [← h, List.getLast?_cons_cons])
    exact this
theorem last_ex {f : List Int} (h : f ≠ []) : ∃ z, f.getLast? = some z := by
  rcases List.eq_nil_or_concat f with e | ⟨r, m, e⟩
  · exact absurd e h
  · exact ⟨m, by rw [e, List.concat_eq_append, List.getLast?_concat]⟩
theorem zero_of_dvd {p z : Int} (h : p ∣ z) (h0 : 0 ≤ z) (h1 : z < p) : z = 0 := by
  have e1 := Int.emod_eq_zero_of_dvd h
  rwa [Int.emod_eq_of_lt h0 h1] at e1
/-! ### degrees by a prime -/
theorem top_ex {p : Int} : ∀ {M : List Int}, ¬ AllDiv p M → ∃ j, ¬ p ∣ co M j ∧ ∀ i, j < i → p ∣ co M i
  | [], h => absurd (fun z m => nomatch m) h
  | a :: r, h => by
    by_cases hr : AllDiv p r
    · have ha : ¬ p ∣ a := fun k => h (allDiv_cons.2 ⟨k, hr⟩)
      refine ⟨0, ha, fun i hi => ?_⟩
      obtain ⟨i, rfl⟩ : ∃ k, i = k + 1 := ⟨i - 1, by omega⟩
      exact allDiv_co.1 hr i
    · obtain ⟨j, h1, h2⟩ := top_ex hr
      refine ⟨j + 1, h1, fun i hi => ?_⟩
      obtain ⟨i, rfl⟩ : ∃ k, i = k + 1 := ⟨i - 1, by omega⟩
      exact h2 i (by omega)
theorem ndvd_mul {p a b : Int} (hp : Pm p) (ha : ¬ p ∣ a) (hb : ¬ p ∣ b) : ¬ p ∣ a * b := fun h =>
  hp.euclid (fun z => ha (Int.dvd_of_emod_eq_zero z)) (fun z => hb (Int.dvd_of_emod_eq_zero z)) (Int.emod_eq_zero_of_dvd h)
theorem deg_mul {p : Int} {D M : List Int} {i0 : Nat} (hp : Pm p) (h0 : ¬ p ∣ co D i0) (h1 : ∀ i, i0 < i → p ∣ co D i) (hM : ¬ AllDiv p M) : ∃ j, ¬ p ∣ co (pmul D M) (i0 + j) := by
  obtain ⟨j, k0, k1⟩ := top_ex hM
  refine ⟨j, fun hd => ?_⟩
  have := co_pmul_one (N := p) (g := M) D i0 j fun i j' hij hi => by
    by_cases hlt : i0 < i
    · exact Int.dvd_trans (h1 i hlt) ⟨_, rfl⟩
    · exact Int.dvd_trans (k1 j' (by omega)) ⟨co D i, Int.mul_comm _ _⟩
  exact ndvd_mul hp h0 k0 (by
    have := Int.dvd_sub hd this
    rwa [Int.sub_sub_self] at this)
/-- a divisor of 1 is a number -/
theorem unit_len {p : Int} {D M : List Int} (hp : Pm p) (hD : Nr p D) (h : Cg p (pmul D M) [1]) : D.length = 1 := by
  have p2 := hp.lo
  have n1 : ¬ p ∣ 1 := fun ⟨c, hc⟩ => by
    rcases Int.le_total c 0 with k | k
    · have := Int.mul_le_mul_of_nonneg_left k (show 0 ≤ p by omega); omega
    · have : c ≠ 0 := by rintro rfl; omega
      have := Int.mul_le_mul_of_nonneg_left (show 1 ≤ c by omega) (show 0 ≤ p by omega); omega
  have hM : ¬ AllDiv p M := fun k => n1 (by
    have h1 := cg_nil.1 (Cg.trans (G := [1]) (Cg.refl [1]) (h.symm.trans (cg_nil.2 (allDiv_pmul (f := D) k))))
    exact h1 1 (by simp))
  by_cases hd : D = []
  · subst hd
    exfalso
    exact n1 (by
      have h1 := cg_nil.1 h.symm
      exact h1 1 (by simp))
  obtain ⟨z, hz⟩ := last_ex hd
  have hz1 : z ∈ D := List.mem_of_getLast? hz
  have hz2 := hD.top z hz
  have hz3 := hD.rng z hz1
  have hz4 : ¬ p ∣ z := fun k => hz2 (zero_of_dvd k hz3.1 hz3.2)
  have lD : 0 < D.length := List.length_pos_iff.2 hd
  obtain ⟨j, hj⟩ := deg_mul (i0 := D.length - 1) hp (by rw [co_last hz]; exact hz4) (fun i hi => by rw [co_out (by omega)]; exact Int.dvd_zero _) hM
  have hk := cg_co.1 h (D.length - 1 + j)
  by_cases hl : D.length - 1 + j = 0
  · omega
  · obtain ⟨k, hk'⟩ : ∃ k, D.length - 1 + j = k + 1 := ⟨D.length - 1 + j - 1, by omega⟩
    rw [hk'] at hk hj
    rw [co_succ, co_nil, Int.sub_zero] at hk
    exact absurd hk hj
/-- what a polynomial with 1 as its last number divides, with fewer numbers, is nought -/
theorem low_zero {p : Int} {g M d : List Int} {n : Nat} (hp : Pm p) (hg : co g n = 1) (hg2 : ∀ i, n < i → co g i = 0) (h : Cg p (pmul g M) d) (hd : ∀ i, n ≤ i → p ∣ co d i) : AllDiv p M ∧ AllDiv p d := by
  have p2 := hp.lo
  have n1 : ¬ p ∣ 1 := fun ⟨c, hc⟩ => by
    rcases Int.le_total c 0 with k | k
    · have := Int.mul_le_mul_of_nonneg_left k (show 0 ≤ p by omega); omega
    · have : c ≠ 0 := by rintro rfl; omega
      have := Int.mul_le_mul_of_nonneg_left (show 1 ≤ c by omega) (show 0 ≤ p by omega); omega
  have hM : AllDiv p M := by
    by_cases hM : AllDiv p M
    · exact hM
    · obtain ⟨j, hj⟩ := deg_mul (i0 := n) hp (by rw [hg]; exact n1) (fun i hi => by rw [hg2 i hi]; exact Int.dvd_zero _) hM
      have h1 := cg_co.1 h (n + j)
      have h2 := hd (n + j) (by omega)
      exact absurd (by have := Int.dvd_add h1 h2; rwa [Int.sub_add_cancel] at this) hj
  exact ⟨hM, cg_nil.1 (h.symm.trans (cg_nil.2 (allDiv_pmul hM)))⟩
/-- no polynomial divides both -/
def Cop2 (p : Int) (g h : List Int) : Prop := ∃ S T, Cg p (padd (pmul S g) (pmul T h)) [1]
theorem Cop2.symm {p : Int} {g h : List Int} : Cop2 p g h → Cop2 p h g := fun ⟨S, T, k⟩ => ⟨T, S, k.lin1 [1] fun x => by simp only [pe_padd, pe_mul, pe]; grind⟩
theorem Cop2.congr {p : Int} {g h g' h' : List Int} (k : Cop2 p g h) (e : Cg p g g') (e' : Cg p h h') : Cop2 p g' h' := by
  obtain ⟨S, T, k⟩ := k
  exact ⟨S, T, k.lin3 [1] e (pscale (-1) S) e' (pscale (-1) T) fun x => by simp only [pe_padd, pe_mul, pe_scale, pe]; grind⟩
theorem not_cop2 {p : Int} {D g h M N : List Int} (hp : Pm p) (hD : Nr p D) (hl : D.length ≠ 1) (e : Cg p (pmul D M) g) (e' : Cg p (pmul D N) h) : ¬ Cop2 p g h := fun ⟨S, T, k⟩ =>
  hl (unit_len (M := padd (pmul S M) (pmul T N)) hp hD (k.lin3 [1] e S e' T fun x => by simp only [pe_padd, pe_mul, pe]; grind))
end Pz

namespace Pz
open PySem PySem.Spec PyProof.Rows L2
/-! ### dividing by a prime -/
structure DvI (p : Int) (f g o r : List Int) : Prop where
  cg : Cg p f (padd (pmul o g) r)
  nr : Nr p r
  le : r.length ≤ (bp p f).length
  len : o.length = (bp p f).length + 1 - g.length
  rng : ∀ z ∈ o, 0 ≤ z ∧ z < p
  zero : ∀ i, i + g.length ≤ r.length → co o i = 0
structure Dv (p : Int) (f g o r : List Int) : Prop where
  cg : Cg p f (padd (pmul o g) r)
  nr : Nr p r
  lt : r.length < g.length
  len : o.length = (bp p f).length + 1 - g.length
  rng : ∀ z ∈ o, 0 ≤ z ∧ z < p
theorem co_rep (n i : Nat) : co (List.replicate n 0) i = 0 := by
  unfold co
  rw [List.getD_eq_getElem?_getD, List.getElem?_replicate]
  split <;> rfl
theorem dv_start {p : Int} {f g : List Int} (hp : 0 < p) : DvI p f g (List.replicate ((bp p f).length + 1 - g.length) 0) (bp p f) :=
  ⟨(bp_cg p f).symm.trans (.of fun x => by rw [pe_padd, pe_mul, pe_noughts]; omega), bp_nr hp f, Nat.le_refl _, by simp, fun z hz => by rw [List.eq_of_mem_replicate hz]; omega, fun i _ => co_rep _ _⟩
theorem DvI.done {p : Int} {f g o r : List Int} (h : DvI p f g o r) (l : ¬ g.length ≤ r.length) : Dv p f g o r := ⟨h.cg, h.nr, by omega, h.len, h.rng⟩
theorem co_app : ∀ (f g : List Int) (i : Nat), f.length ≤ i → co (f ++ g) i = co g (i - f.length)
  | [], g, i, _ => rfl
  | a :: f, g, 0, h => absurd h (by simp)
  | a :: f, g, i + 1, h => by
    rw [List.cons_append, co_succ, co_app f g i (by simpa using h), List.length_cons, Nat.add_sub_add_right]
theorem co_set : ∀ (o : List Int) (k i : Nat) (v : Int), i ≠ k → co (o.set k v) i = co o i
  | [], _, _, _, _ => rfl
  | a :: r, 0, 0, v, h => absurd rfl h
  | a :: r, 0, i + 1, v, h => rfl
  | a :: r, k + 1, 0, v, h => rfl
  | a :: r, k + 1, i + 1, v, h => co_set r k i v (by omega)
/-- what is taken off -/
def offS (n : Nat) (by' : Int) (g : List Int) : List Int := List.replicate n 0 ++ pscale by' g
theorem pe_offS (x : Int) (n : Nat) (b : Int) (g : List Int) : pe x (offS n b g) = x ^ n * (b * pe x g) := by
  unfold offS
  rw [pe_app, pe_noughts, pe_scale, List.length_replicate]; omega
theorem DvI.step {p t c : Int} {f g o r : List Int} (hp : 0 < p) (h : DvI p f g o r) (l : g.length ≤ r.length) (gl : g.getLast? = some c) (ht : p ∣ t * c - 1) {z : Int} (hz : r.getLast? = some z) :
    DvI p f g (o.set (r.length - g.length) (z * t % p)) (bp p (pls r (offS (r.length - g.length) (z * t % p) g))) ∧ (bp p (pls r (offS (r.length - g.length) (z * t % p) g))).length < r.length ∧ r.length - g.length < o.length := by
  have g0 : 0 < g.length := by cases g with
    | nil => cases gl
    | cons _ _ => simp
  have hlt : r.length - g.length < o.length := by
    have := h.len
    have := h.le
    omega
  have e0 : o[r.length - g.length]? = some 0 := by
    have := h.zero (r.length - g.length) (by omega)
    unfold co at this
    rw [List.getD_eq_getElem?_getD, List.getElem?_eq_getElem hlt] at this
    rw [List.getElem?_eq_getElem hlt]
    exact congrArg some this
  have sh : (bp p (pls r (offS (r.length - g.length) (z * t % p) g))).length ≤ r.length - 1 := by
    refine bp_short fun i hi => ?_
    rw [co_pls]
    unfold offS
    rw [co_app _ _ _ (by simp; omega), List.length_replicate, co_scale]
    by_cases hi2 : i = r.length - 1
    · subst hi2
      rw [co_last hz, show r.length - 1 - (r.length - g.length) = g.length - 1 by omega, co_last gl]
      obtain ⟨a, ha⟩ := ht
      have e1 := Int.emod_add_mul_ediv (z * t) p
      refine ⟨z * t / p * c - z * a, ?_⟩
      have e2 : z * t % p = z * t - p * (z * t / p) := by omega
      rw [e2]
      have e3 : t * c = 1 + p * a := by omega
      grind
    · rw [co_out (show r.length ≤ i by omega), co_out (show g.length ≤ i - (r.length - g.length) by omega)]
      simp
  refine ⟨⟨?_, bp_nr hp _, by have := h.le; omega, by rw [List.length_set]; exact h.len, fun y hy => ?_, fun i hi => ?_⟩, by omega, hlt⟩
  · refine h.cg.lin2 [1] (bp_cg p (pls r (offS (r.length - g.length) (z * t % p) g))) [-1] fun x => ?_
    simp only [pe_padd, pe_mul, pe_pls, pe_offS, pe]
    rw [pe_set x o _ 0 _ e0]
    grind
  · rcases List.mem_or_eq_of_mem_set hy with h' | h'
    · exact h.rng y h'
    · rw [h']; exact ⟨Int.emod_nonneg _ (by omega), Int.emod_lt_of_pos _ hp⟩
  · rw [co_set _ _ _ _ (by omega)]
    exact h.zero i (by omega)
/-! ### what turns h round -/
structure TI (p : Int) (g h A B c d : List Int) : Prop where
  c1 : ∃ S, Cg p (padd (pmul c h) (pmul S g)) A
  c2 : ∃ S, Cg p (padd (pmul d h) (pmul S g)) B
  d1 : ∃ M N, Cg p g (padd (pmul A M) (pmul B N))
  d2 : ∃ M N, Cg p h (padd (pmul A M) (pmul B N))
  n1 : Nr p A
  n2 : Nr p B
  n3 : Nr p c
  n4 : Nr p d
  ne : A ≠ []
  l1 : d.length + A.length ≤ g.length + 1
  l2 : c.length + B.length ≤ g.length + 1
  l3 : B.length < A.length
theorem nr_nil (p : Int) : Nr p [] := ⟨fun _ h => (nomatch h), fun _ h => (nomatch h)⟩
theorem nr_one {p : Int} (hp : 2 ≤ p) : Nr p [1] := ⟨fun z h => by rw [List.mem_singleton.1 h]; omega, fun z h => by cases h; decide⟩
theorem ti_start {p : Int} {g h o r : List Int} (hp : 2 ≤ p) (hg : bp p g ≠ []) (D : Dv p h (bp p g) o r) : TI p g h (bp p g) r [] [1] := by
  have e := bp_cg p g
  have l := bp_len p g
  have lt := D.lt
  refine ⟨⟨[1], e.symm.lin1 [1] fun x => by simp only [pe_padd, pe_mul, pe]; grind⟩, ⟨pscale (-1) o, D.cg.lin2 [1] e o fun x => by simp only [pe_padd, pe_mul, pe_scale, pe]; grind⟩,
    ⟨[1], [], e.symm.lin1 [1] fun x => by simp only [pe_padd, pe_mul, pe]; grind⟩, ⟨o, [1], D.cg.lin1 [1] fun x => by simp only [pe_padd, pe_mul, pe]; grind⟩, bp_nr (by omega) g, D.nr, nr_nil p, nr_one hp, hg, by simp; omega, by simp; omega, lt⟩
theorem TI.step {p : Int} {g h A B c d o r : List Int} (hp : 2 ≤ p) (t : TI p g h A B c d) (hB : B ≠ []) (D : Dv p A B o r) : TI p g h B r d (bp p (pls c (if o = [] ∨ d = [] then [] else pmul o d))) := by
  obtain ⟨S, c1⟩ := t.c1
  obtain ⟨S', c2⟩ := t.c2
  obtain ⟨M, N, d1⟩ := t.d1
  obtain ⟨M', N', d2⟩ := t.d2
  have em : ∀ x, pe x (if o = [] ∨ d = [] then [] else pmul o d) = pe x o * pe x d := fun x => by
    split
    · rename_i h
      rcases h with h | h <;> rw [h] <;> simp [pe]
    · exact pe_mul x o d
  have lB : 0 < B.length := List.length_pos_iff.2 hB
  have hl1 := t.l1
  have hl2 := t.l2
  have hl3 := t.l3
  have hlt := D.lt
  have hlo := D.len
  have hbA : (bp p A).length ≤ A.length := bp_len p A
  have lm : (if o = [] ∨ d = [] then [] else pmul o d).length ≤ o.length + d.length - 1 := by
    split
    · simp
    · rename_i h
      rw [pmul_len o d (fun e => h (.inl e)) (fun e => h (.inr e))]; exact Nat.le_refl _
  refine ⟨⟨S', c2⟩, ⟨pls S (pmul o S'), ?_⟩, ⟨padd (pmul o M) N, M, ?_⟩, ⟨padd (pmul o M') N', M', ?_⟩, t.n2, D.nr, t.n4, bp_nr (by omega) _, hB, ?_, by omega, hlt⟩
  · have e := bp_cg p (pls c (if o = [] ∨ d = [] then [] else pmul o d))
    obtain ⟨H1, e1⟩ := e
    obtain ⟨H2, e2⟩ := c1
    obtain ⟨H3, e3⟩ := c2
    obtain ⟨H4, e4⟩ := D.cg
    refine ⟨padd (pmul H1 h) (padd H2 (padd (pscale (-1) (pmul o H3)) H4)), fun x => ?_⟩
    have e1 := e1 x
    have e2 := e2 x
    have e3 := e3 x
    have e4 := e4 x
    simp only [pe_padd, pe_mul, pe_pls, pe_scale, em] at *
    grind
  · exact d1.lin2 [1] D.cg M fun x => by simp only [pe_padd, pe_mul, pe]; grind
  · exact d2.lin2 [1] D.cg M' fun x => by simp only [pe_padd, pe_mul, pe]; grind
  · have h1 := bp_len p (pls c (if o = [] ∨ d = [] then [] else pmul o d))
    rw [pls_len] at h1
    omega
theorem TI.no {p : Int} {g h A c d : List Int} (hp : Pm p) (t : TI p g h A [] c d) (hl : A.length ≠ 1) : ¬ Cop2 p g h := by
  obtain ⟨M, N, d1⟩ := t.d1
  obtain ⟨M', N', d2⟩ := t.d2
  exact not_cop2 (M := M) (N := M') hp t.n1 hl (d1.symm.lin1 [1] fun x => by simp only [pe_padd, pe_mul, pe]; grind) (d2.symm.lin1 [1] fun x => by simp only [pe_padd, pe_mul, pe]; grind)
theorem TI.yes {p a b : Int} {g h c d : List Int} (t : TI p g h [a] [] c d) (hb : p ∣ b * a - 1) : ∃ S, Cg p (padd (pmul S g) (pmul (bp p (pscale b c)) h)) [1] := by
  obtain ⟨S, c1⟩ := t.c1
  obtain ⟨H1, e1⟩ := c1
  obtain ⟨H2, e2⟩ := bp_cg p (pscale b c)
  obtain ⟨k, hk⟩ := hb
  refine ⟨pscale b S, padd (pmul H2 h) (padd (pscale b H1) [k]), fun x => ?_⟩
  have e1 := e1 x
  have e2 := e2 x
  simp only [pe_padd, pe_mul, pe_scale, pe] at *
  have : b * a = 1 + p * k := by omega
  grind
/-! ### the parts at a depth -/
structure OkP (p : Int) (N : Int) (f g h : List Int) : Prop where
  n1 : 1 ≤ N
  lg : 2 ≤ g.length
  lh : 2 ≤ h.length
  lf : f.length = g.length + h.length - 1
  tf : f.getLast? = some 1
  tg : g.getLast? = some 1
  th : h.getLast? = some 1
  pr : Cg p f (pmul g h)
structure Lift (p : Int) (f g h : List Int) (k : Nat) (G H : List Int) : Prop where
  lG : G.length = g.length
  lH : H.length = h.length
  tG : G.getLast? = some 1
  tH : H.getLast? = some 1
  rG : ∀ z ∈ G, 0 ≤ z ∧ z < p ^ k
  rH : ∀ z ∈ H, 0 ≤ z ∧ z < p ^ k
  nG : Cg p G g
  nH : Cg p H h
  pr : Cg (p ^ k) f (pmul G H)
theorem last_map {α β : Type} (f : α → β) : ∀ {xs : List α} {z : α}, xs.getLast? = some z → (xs.map f).getLast? = some (f z)
  | [a], z, h => by cases h; rfl
  | a :: b :: r, z, h => by
    rw [List.getLast?_cons_cons] at h
    have := last_map f (xs := b :: r) h
    rw [List.map_cons, List.map_cons, List.getLast?_cons_cons, ← List.map_cons]
    exact this
theorem lift_start {p N : Int} {f g h : List Int} (hp : 2 ≤ p) (o : OkP p N f g h) : Lift p f g h 1 (g.map (· % p)) (h.map (· % p)) := by
  have e1 : (1 : Int) % p = 1 := Int.emod_eq_of_lt (by decide) (by omega)
  refine ⟨by simp, by simp, ?_, ?_, fun z hz => ?_, fun z hz => ?_, cg_mod p g, cg_mod p h, ?_⟩
  · rw [last_map (· % p) o.tg, e1]
  · rw [last_map (· % p) o.th, e1]
  · obtain ⟨y, _, rfl⟩ := List.mem_map.1 hz
    rw [Int.pow_one]
    exact ⟨Int.emod_nonneg _ (by omega), Int.emod_lt_of_pos _ (by omega)⟩
  · obtain ⟨y, _, rfl⟩ := List.mem_map.1 hz
    rw [Int.pow_one]
    exact ⟨Int.emod_nonneg _ (by omega), Int.emod_lt_of_pos _ (by omega)⟩
  · rw [Int.pow_one]
    exact o.pr.lin3 [1] (cg_mod p g).symm h (cg_mod p h).symm (g.map (· % p)) fun x => by simp only [pe_mul, pe]; grind
theorem co_top {f : List Int} {n : Nat} (hl : f.length = n + 1) (ht : f.getLast? = some 1) : co f n = 1 ∧ ∀ i, n < i → co f i = 0 := by
  have := co_last ht
  rw [hl, Nat.add_sub_cancel] at this
  exact ⟨this, fun i hi => co_out (by omega)⟩
theorem co_mul_top {G H : List Int} {n m : Nat} (hG : G.length = n + 1) (hH : H.length = m + 1) (tG : G.getLast? = some 1) (tH : H.getLast? = some 1) : co (pmul G H) (n + m) = 1 := by
  obtain ⟨g1, g2⟩ := co_top hG tG
  obtain ⟨h1, h2⟩ := co_top hH tH
  have := co_pmul_one (N := 0) (g := H) G n m fun i j hij hi => by
    by_cases hlt : n < i
    · rw [g2 i hlt, Int.zero_mul]; exact Int.dvd_refl 0
    · rw [h2 j (by omega), Int.mul_zero]; exact Int.dvd_refl 0
  have := Int.zero_dvd.1 this
  rw [g1, h1] at this
  omega
/-- what is lacking, by the power -/
def lackL (P : Int) (f G H : List Int) : List Int := (pls f (pmul G H)).map (· / P)
theorem lack_eq {P : Int} {f G H : List Int} (hP : P ≠ 0) (h : Cg P f (pmul G H)) : pscale P (lackL P f G H) = pls f (pmul G H) := by
  have ha := cg_all.1 h
  unfold lackL pscale
  rw [List.map_map]
  have : ∀ z ∈ pls f (pmul G H), ((P * ·) ∘ (· / P)) z = z := fun z hz => Int.mul_ediv_cancel' (ha z hz)
  rw [List.map_congr_left this, List.map_id']
theorem lack_co {P : Int} {f G H : List Int} (hP : P ≠ 0) (h : Cg P f (pmul G H)) (i : Nat) : P * co (lackL P f G H) i = co f i - co (pmul G H) i := by
  have e := lack_eq hP h
  have : co (pscale P (lackL P f G H)) i = co (pls f (pmul G H)) i := by rw [e]
  rwa [co_scale, co_pls] at this
theorem getLast_padd {F G : List Int} (hF : F.getLast? = some 1) (hl : G.length < F.length) : (padd F G).getLast? = some 1 := by
  have h1 := padd_len F G
  have h2 : (padd F G) ≠ [] := fun e => by rw [e] at h1; simp at h1; omega
  obtain ⟨z, hz⟩ := last_ex h2
  have h3 := co_last hz
  rw [co_padd, h1, Nat.max_eq_left (by omega), co_last hF, co_out (f := G) (by omega)] at h3
  rw [hz, ← h3]; rfl
theorem padd_range {p : Int} {k : Nat} (hp : 0 < p) : ∀ (F u : List Int), (∀ z ∈ F, 0 ≤ z ∧ z < p ^ k) → (∀ z ∈ u, 0 ≤ z ∧ z < p) → ∀ z ∈ padd F (pscale (p ^ k) u), 0 ≤ z ∧ z < p ^ (k + 1)
  | [], u, _, hu, z, hz => by
    have : z ∈ pscale (p ^ k) u := hz
    obtain ⟨y, hy, rfl⟩ := List.mem_map.1 this
    have pk : 0 < p ^ k := Int.pow_pos hp
    have := hu y hy
    refine ⟨Int.mul_nonneg (by omega) this.1, ?_⟩
    rw [Int.pow_succ]
    exact Int.mul_lt_mul_of_pos_left this.2 pk
  | a :: F, [], hF, _, z, hz => by
    have : z ∈ a :: F := hz
    have pk : 0 < p ^ k := Int.pow_pos hp
    have h1 := hF z this
    refine ⟨h1.1, ?_⟩
    rw [Int.pow_succ]
    have := Int.mul_le_mul_of_nonneg_left (show 1 ≤ p by omega) (Int.le_of_lt pk)
    omega
  | a :: F, b :: u, hF, hu, z, hz => by
    have pk : 0 < p ^ k := Int.pow_pos hp
    have hz' : z ∈ (a + p ^ k * b) :: padd F (pscale (p ^ k) u) := hz
    rcases List.mem_cons.1 hz' with h | h
    · have h1 := hF a List.mem_cons_self
      have h2 := hu b List.mem_cons_self
      have h3 := Int.mul_nonneg (show 0 ≤ p ^ k by omega) h2.1
      have h4 := Int.mul_le_mul_of_nonneg_left (show b + 1 ≤ p by omega) (Int.le_of_lt pk)
      rw [h, Int.pow_succ]
      rw [Int.mul_add] at h4
      omega
    · exact padd_range hp F u (fun y hy => hF y (List.mem_cons_of_mem _ hy)) (fun y hy => hu y (List.mem_cons_of_mem _ hy)) z h
theorem cg_low {p : Int} {k : Nat} {F G : List Int} (h : Cg (p ^ (k + 1)) F G) : Cg p F G := by
  obtain ⟨H, h⟩ := h
  refine ⟨pscale (p ^ k) H, fun x => ?_⟩
  rw [h x, pe_scale, Int.pow_succ]; grind
theorem ring_r30 {p lack G H g h q1 r1 T q2 u w r3 S K1 K2 K3 K4 K5 K6 : Int} (k1 : lack = q1 * G + r1 + p * K1) (k2 : T * r1 = q2 * G + u + p * K2) (k3 : lack - u * H = w * G + r3 + p * K3) (k4 : S * g + T * h = 1 + p * K4) (k5 : G = g + p * K5) (k6 : H = h + p * K6) :
    G * (q1 - w + (r1 * S + q2 * H)) = r3 + p * (-1 * K1 + (K3 + (r1 * (S * K5 + (T * K6 + K4)) + -1 * (K2 * H)))) := by
  have e1 : r3 = lack - u * H - w * G - p * K3 := by omega
  have e2 : u = T * r1 - q2 * G - p * K2 := by omega
  have e3 : T * h = 1 + p * K4 - S * g := by omega
  have e4 : T * H = 1 + p * K4 - S * G + p * (S * K5) + p * (T * K6) := by
    rw [k6, Int.mul_add, e3, k5]; grind
  have e5 : u * H = r1 * (T * H) - q2 * G * H - p * K2 * H := by rw [e2]; grind
  rw [e1, e5, e4, k1]
  grind
/-- one depth further -/
theorem lift_step {p N : Int} {f g h T G H q1 r1 q2 u w r3 : List Int} {k : Nat} (hp : Pm p) (hk : 1 ≤ k) (o : OkP p N f g h) (L : Lift p f g h k G H) (hT : ∃ S, Cg p (padd (pmul S g) (pmul T h)) [1])
    (D1 : Dv p (lackL (p ^ k) f G H) G q1 r1) {TR : List Int} (eT : ∀ x, pe x TR = pe x T * pe x r1) (D2 : Dv p TR G q2 u) {UH : List Int} (eU : ∀ x, pe x UH = pe x u * pe x H) (lU : UH.length ≤ u.length + H.length - 1) (D3 : Dv p (pls (lackL (p ^ k) f G H) UH) G w r3) :
    Lift p f g h (k + 1) (padd G (pscale (p ^ k) u)) (padd H (pscale (p ^ k) w)) ∧ u.length < G.length ∧ w.length < H.length := by
  have p2 := hp.lo
  have pk : 0 < p ^ k := Int.pow_pos (by omega)
  obtain ⟨n, hn⟩ : ∃ n, G.length = n + 1 := ⟨G.length - 1, by have := o.lg; have := L.lG; omega⟩
  obtain ⟨m, hm⟩ : ∃ m, H.length = m + 1 := ⟨H.length - 1, by have := o.lh; have := L.lH; omega⟩
  obtain ⟨g1, g2⟩ := co_top hn L.tG
  have lf : f.length = n + m + 1 := by have := o.lf; have := L.lG; have := L.lH; omega
  obtain ⟨f1, f2⟩ := co_top lf o.tf
  have lu : u.length < G.length := D2.lt
  have m1 := co_mul_top hn hm L.tG L.tH
  have lGH : (pmul G H).length = n + m + 1 := by
    rw [pmul_len G H (fun e => by rw [e] at hn; cases hn) (fun e => by rw [e] at hm; cases hm)]; omega
  have lack0 : ∀ i, n + m ≤ i → co (lackL (p ^ k) f G H) i = 0 := fun i hi => by
    have := lack_co (Int.ne_of_gt pk) L.pr i
    by_cases e : i = n + m
    · subst e
      rw [f1, m1, Int.sub_self] at this
      rcases Int.mul_eq_zero.1 this with z | z
      · exact absurd z (Int.ne_of_gt pk)
      · exact z
    · rw [f2 i (by omega), co_out (f := pmul G H) (by omega), Int.sub_self] at this
      rcases Int.mul_eq_zero.1 this with z | z
      · exact absurd z (Int.ne_of_gt pk)
      · exact z
  have lw : w.length < H.length := by
    have h1 := D3.len
    have h2 := bp_short (p := p) (f := pls (lackL (p ^ k) f G H) UH) (n := n + m) fun i hi => by
      rw [co_pls, lack0 i hi, co_out (f := UH) (by omega)]
      simp
    omega
  -- nothing is left of the third division
  obtain ⟨S, hS⟩ := hT
  have r30 : AllDiv p r3 := by
    obtain ⟨K1, k1⟩ := D1.cg
    obtain ⟨K2, k2⟩ := D2.cg
    obtain ⟨K3, k3⟩ := D3.cg
    obtain ⟨K4, k4⟩ := hS
    obtain ⟨K5, k5⟩ := L.nG
    obtain ⟨K6, k6⟩ := L.nH
    -- lack - u H = w G + r3; u = T r1 - q2 G; T H = 1 - S G; lack = q1 G + r1
    refine (low_zero (M := padd (pls q1 w) (padd (pmul r1 S) (pmul q2 H))) hp g1 g2 ?_ (fun i hi => by rw [co_out (f := r3) (by have := D3.lt; omega)]; exact Int.dvd_zero _)).2
    refine ⟨padd (pscale (-1) K1) (padd K3 (padd (pmul r1 (padd (pmul S K5) (padd (pmul T K6) K4))) (pscale (-1) (pmul K2 H)))), fun x => ?_⟩
    have k1 := k1 x
    have k2 := k2 x
    have k3 := k3 x
    have k4 := k4 x
    have k5 := k5 x
    have k6 := k6 x
    have e1 := eT x
    have e2 := eU x
    simp only [pe_padd, pe_mul, pe_pls, pe_scale, pe_one] at *
    exact ring_r30 k1 (by rw [← e1]; exact k2) (by rw [← e2]; exact k3) k4 k5 k6
  obtain ⟨R, hR⟩ := cg_nil.2 r30
  refine ⟨⟨?_, ?_, getLast_padd L.tG (by rw [scale_len]; exact lu), getLast_padd L.tH (by rw [scale_len]; exact lw), padd_range (by omega) _ _ L.rG D2.nr.rng, padd_range (by omega) _ _ L.rH D3.rng, ?_, ?_, ?_⟩, lu, lw⟩
  · rw [padd_len, scale_len, Nat.max_eq_left (by omega)]; exact L.lG
  · rw [padd_len, scale_len, Nat.max_eq_left (by omega)]; exact L.lH
  · obtain ⟨j, rfl⟩ : ∃ j, k = j + 1 := ⟨k - 1, by omega⟩
    obtain ⟨K5, k5⟩ := L.nG
    exact ⟨padd K5 (pscale (p ^ j) u), fun x => by rw [pe_padd, pe_padd, pe_scale, pe_scale, k5 x, Int.pow_succ]; grind⟩
  · obtain ⟨j, rfl⟩ : ∃ j, k = j + 1 := ⟨k - 1, by omega⟩
    obtain ⟨K5, k5⟩ := L.nH
    exact ⟨padd K5 (pscale (p ^ j) w), fun x => by rw [pe_padd, pe_padd, pe_scale, pe_scale, k5 x, Int.pow_succ]; grind⟩
  · obtain ⟨K3, k3⟩ := D3.cg
    have el : ∀ x, p ^ k * pe x (lackL (p ^ k) f G H) = pe x f - pe x G * pe x H := fun x => by
      have := congrArg (pe x) (lack_eq (Int.ne_of_gt pk) L.pr)
      rwa [pe_scale, pe_pls, pe_mul] at this
    obtain ⟨j, rfl⟩ : ∃ j, k = j + 1 := ⟨k - 1, by omega⟩
    refine ⟨padd K3 (padd R (pscale (-(p ^ j)) (pmul u w))), fun x => ?_⟩
    have k3 := k3 x
    have hR := hR x
    have e2 := eU x
    have el := el x
    simp only [pe_padd, pe_mul, pe_pls, pe_scale, pe_nil, Int.pow_succ] at *
    grind
/-- the parts are the only ones -/
theorem lift_uniq {p N : Int} {f g h : List Int} {k : Nat} {G H G' H' : List Int} (hp : Pm p) (o : OkP p N f g h) (hc : Cop2 p g h) (L : Lift p f g h k G H) (L' : Lift p f g h k G' H') : G = G' ∧ H = H' := by
  have p2 := hp.lo
  obtain ⟨S, T, hST⟩ := hc
  obtain ⟨n, hn⟩ : ∃ n, G.length = n + 1 := ⟨G.length - 1, by have := o.lg; have := L.lG; omega⟩
  obtain ⟨m, hm⟩ : ∃ m, H.length = m + 1 := ⟨H.length - 1, by have := o.lh; have := L.lH; omega⟩
  have hn' : G'.length = n + 1 := by have := L.lG; have := L'.lG; omega
  have hm' : H'.length = m + 1 := by have := L.lH; have := L'.lH; omega
  obtain ⟨g1, g2⟩ := co_top hn L.tG
  obtain ⟨g1', g2'⟩ := co_top hn' L'.tG
  obtain ⟨h1, h2⟩ := co_top hm L.tH
  obtain ⟨h1', h2'⟩ := co_top hm' L'.tH
  have key : ∀ j, j ≤ k → Cg (p ^ j) G G' ∧ Cg (p ^ j) H H' := by
    intro j
    induction j with
    | zero => exact fun _ => ⟨⟨pls G G', fun x => by rw [pe_pls, Int.pow_zero]; omega⟩, ⟨pls H H', fun x => by rw [pe_pls, Int.pow_zero]; omega⟩⟩
    | succ j ih =>
      intro hj
      obtain ⟨iG, iH⟩ := ih (by omega)
      cases j with
      | zero =>
        rw [Nat.zero_add, Int.pow_one]
        exact ⟨L.nG.trans L'.nG.symm, L.nH.trans L'.nH.symm⟩
      | succ j =>
        have pk : p ^ (j + 1) ≠ 0 := Int.ne_of_gt (Int.pow_pos (by omega))
        obtain ⟨a, ea⟩ := allDiv_ex (cg_all.1 iG)
        obtain ⟨b, eb⟩ := allDiv_ex (cg_all.1 iH)
        have pa : ∀ x, pe x G = pe x G' + p ^ (j + 1) * pe x a := fun x => by
          have := congrArg (pe x) ea
          rw [pe_pls, pe_scale] at this; omega
        have pb : ∀ x, pe x H = pe x H' + p ^ (j + 1) * pe x b := fun x => by
          have := congrArg (pe x) eb
          rw [pe_pls, pe_scale] at this; omega
        have ca : ∀ i, n ≤ i → co a i = 0 := fun i hi => by
          have : co (pls G G') i = co (pscale (p ^ (j + 1)) a) i := by rw [ea]
          rw [co_pls, co_scale] at this
          by_cases e : i = n
          · subst e
            rw [g1, g1', Int.sub_self] at this
            rcases Int.mul_eq_zero.1 this.symm with z | z
            · exact absurd z pk
            · exact z
          · rw [g2 i (by omega), g2' i (by omega), Int.sub_self] at this
            rcases Int.mul_eq_zero.1 this.symm with z | z
            · exact absurd z pk
            · exact z
        -- both products are f by p to the j + 2
        have eE : Cg (p ^ (j + 1 + 1)) (pmul G H) (pmul G' H') := by
          have up : ∀ {A B : List Int}, Cg (p ^ k) A B → Cg (p ^ (j + 1 + 1)) A B := fun ⟨K, hK⟩ => ⟨pscale (p ^ (k - (j + 1 + 1))) K, fun x => by
            rw [hK x, pe_scale, show p ^ k = p ^ (j + 1 + 1) * p ^ (k - (j + 1 + 1)) by rw [← Int.pow_add]; congr 1; omega]; grind⟩
          exact (up L.pr).symm.trans (up L'.pr)
        have cE : Cg p (padd (pmul a H') (padd (pmul b G') (pscale (p ^ (j + 1)) (pmul a b)))) [] := by
          refine cg_nil.2 ((allDiv_of_scale pk).1 ?_)
          rw [← Int.pow_succ]
          refine allDiv_of_pe (g := pls (pmul G H) (pmul G' H')) (fun x => ?_) (cg_all.1 eE)
          rw [pe_scale, pe_padd, pe_padd, pe_scale, pe_mul, pe_mul, pe_mul, pe_pls, pe_mul, pe_mul, pa x, pb x]
          grind
        obtain ⟨K0, k0⟩ := cE
        obtain ⟨K1, k1⟩ := L'.nG
        obtain ⟨K2, k2⟩ := L'.nH
        obtain ⟨K3, k3⟩ := hST
        -- a h + b g is nought; so G' divides a
        have lz := low_zero (M := padd (pmul a S) (pscale (-1) (pmul b T))) (d := a) hp g1' g2' (by
          refine ⟨padd (pmul a K3) (padd (pscale (-1) (pmul T K0)) (padd (pmul (pmul a S) K1) (padd (pmul (pmul a T) K2) (pscale (p ^ j) (pmul (pmul a b) T))))), fun x => ?_⟩
          have k0 := k0 x
          have k1 := k1 x
          have k2 := k2 x
          have k3 := k3 x
          simp only [pe_padd, pe_mul, pe_scale, pe, Int.pow_succ] at *
          grind) (fun i hi => by rw [ca i hi]; exact Int.dvd_zero _)
        have ha : AllDiv p a := lz.2
        obtain ⟨K4, k4⟩ := cg_nil.2 ha
        have hb : AllDiv p b := by
          refine (low_zero (M := b) (d := []) hp g1' g2' ?_ (fun i hi => by rw [co_nil]; exact Int.dvd_zero _)).1
          refine ⟨padd K0 (padd (pscale (-1) (pmul K4 H')) (pscale (-(p ^ j)) (pmul a b))), fun x => ?_⟩
          have k0 := k0 x
          have k4 := k4 x
          simp only [pe_padd, pe_mul, pe_scale, pe, Int.pow_succ] at *
          grind
        constructor
        · refine ⟨K4, fun x => ?_⟩
          have k4 := k4 x
          rw [pe_nil] at k4
          rw [pa x, k4, Int.pow_succ]
          grind
        · obtain ⟨K5, k5⟩ := cg_nil.2 hb
          refine ⟨K5, fun x => ?_⟩
          have k5 := k5 x
          rw [pe_nil] at k5
          rw [pb x, k5, Int.pow_succ]
          grind
  obtain ⟨e1, e2⟩ := key k (Nat.le_refl k)
  have fin : ∀ {A B : List Int}, A.length = B.length → (∀ z ∈ A, 0 ≤ z ∧ z < p ^ k) → (∀ z ∈ B, 0 ≤ z ∧ z < p ^ k) → Cg (p ^ k) A B → A = B := by
    intro A B hl hA hB hAB
    refine List.ext_getElem hl fun i hi hi' => ?_
    have h := cg_co.1 hAB i
    have e1 : co A i = A[i] := by unfold co; rw [List.getD_eq_getElem?_getD, List.getElem?_eq_getElem hi]; rfl
    have e2 : co B i = B[i] := by unfold co; rw [List.getD_eq_getElem?_getD, List.getElem?_eq_getElem hi']; rfl
    rw [e1, e2] at h
    have a1 := hA _ (List.getElem_mem hi)
    have b1 := hB _ (List.getElem_mem hi')
    have c1 := Int.emod_emod_of_dvd
    have d1 := (Int.emod_emod_of_dvd (A[i] - B[i]) (Int.dvd_refl (p ^ k)))
    have := Int.emod_eq_emod_iff_emod_sub_eq_zero.2 (Int.emod_eq_zero_of_dvd h)
    rwa [Int.emod_eq_of_lt a1.1 a1.2, Int.emod_eq_of_lt b1.1 b1.2] at this
  exact ⟨fin (by omega) L.rG L'.rG e1, fin (by omega) L.rH L'.rH e2⟩
end Pz

namespace Pz
open PySem PySem.Spec PyProof.Rows L2
/-! ### dividing again and again by a prime -/
theorem turn_ex' {p b : Int} (hp : Pm p) (hb : b % p ≠ 0) : ∃ u, 0 ≤ u ∧ u < p ∧ u * b % p = 1 := by
  obtain ⟨u, k, hu⟩ := hp.cop b hb
  have p0 := hp.lo
  refine ⟨u % p, Int.emod_nonneg _ (by omega), Int.emod_lt_of_pos _ (by omega), ?_⟩
  rw [Int.mul_emod, Int.emod_emod, ← Int.mul_emod, show u * b = 1 + p * k by omega, Int.add_mul_emod_self_left]
  exact Int.emod_eq_of_lt (by decide) (by omega)
theorem cop_step {p : Int} {f g o r : List Int} (D : Cg p f (padd (pmul o g) r)) : Cop2 p f g ↔ Cop2 p g r := by
  constructor
  · rintro ⟨S, T, k⟩
    exact ⟨padd (pmul S o) T, S, k.lin2 [1] D (pscale (-1) S) fun x => by simp only [pe_padd, pe_mul, pe_scale, pe]; grind⟩
  · rintro ⟨S, T, k⟩
    exact ⟨T, pls S (pmul T o), k.lin2 [1] D T fun x => by simp only [pe_padd, pe_mul, pe_pls, pe]; grind⟩
theorem cop_end {p : Int} {A : List Int} (hp : Pm p) (hA : Nr p A) : Cop2 p A [] ↔ A.length = 1 := by
  have p0 := hp.lo
  constructor
  · rintro ⟨S, T, k⟩
    exact unit_len (M := S) hp hA (k.lin1 [1] fun x => by simp only [pe_padd, pe_mul, pe]; grind)
  · intro h
    obtain ⟨a, rfl⟩ := List.length_eq_one_iff.1 h
    have ha := hA.rng a (by simp)
    have hz := hA.top a rfl
    obtain ⟨u, _, _, hu⟩ := turn_ex' hp (b := a) (by rw [Int.emod_eq_of_lt ha.1 ha.2]; exact hz)
    refine ⟨[u], [], [u * a / p], fun x => ?_⟩
    have e := Int.emod_add_mul_ediv (u * a) p
    simp only [pe_padd, pe_mul, pe]
    grind
structure EU (p : Int) (g h A B : List Int) : Prop where
  nA : Nr p A
  nB : Nr p B
  ne : A ≠ []
  lt : B.length < A.length
  cop : Cop2 p A B ↔ Cop2 p g h
theorem Cop2.comm {p : Int} {g h : List Int} : Cop2 p g h ↔ Cop2 p h g := ⟨Cop2.symm, Cop2.symm⟩
theorem cut_cg (p : Int) (L : List Int) : Cg p (cut L) L := .of fun x => pe_cut x L
theorem nr_cut {p : Int} {L : List Int} (h : ∀ z ∈ L, 0 ≤ z ∧ z < p) : Nr p (cut L) := ⟨fun z m => h z (cut_mem L z m), fun z m => cut_top m⟩
theorem EU.start {p : Int} {g h L : List Int} (hp : Pm p) (hg : g.getLast? = some 1) (D : ∃ o, Cg p h (padd (pmul o (g.map (· % p))) L)) (hL : ∀ z ∈ L, 0 ≤ z ∧ z < p) (hl : L.length < g.length) : EU p g h (g.map (· % p)) (cut L) := by
  have p0 := hp.lo
  obtain ⟨o, D⟩ := D
  have D' : Cg p h (padd (pmul o (g.map (· % p))) (cut L)) := D.lin2 [1] (cut_cg p L) [-1] fun x => by simp only [pe_padd, pe_mul, pe]; grind
  have n1 : Nr p (g.map (· % p)) := ⟨fun z m => by
    obtain ⟨y, _, rfl⟩ := List.mem_map.1 m
    exact ⟨Int.emod_nonneg _ (by omega), Int.emod_lt_of_pos _ (by omega)⟩, fun z m => by
    rw [last_map (· % p) hg] at m
    cases m
    show (1 : Int) % p ≠ 0
    rw [Int.emod_eq_of_lt (by decide) (by omega)]; decide⟩
  have hlc := cut_len L
  refine ⟨n1, nr_cut hL, (fun e => by rw [List.map_eq_nil_iff] at e; rw [e] at hg; cases hg), by rw [List.length_map]; omega, ?_⟩
  rw [← cop_step D', Cop2.comm]
  exact ⟨fun k => k.congr (cg_mod p g) (.refl h), fun k => k.congr (cg_mod p g).symm (.refl h)⟩
theorem EU.step {p : Int} {g h A B L : List Int} (e : EU p g h A B) (hB : B ≠ []) (D : ∃ o, Cg p A (padd (pmul o B) L)) (hL : ∀ z ∈ L, 0 ≤ z ∧ z < p) (hl : L.length < B.length) : EU p g h B (cut L) := by
  obtain ⟨o, D⟩ := D
  have D' : Cg p A (padd (pmul o B) (cut L)) := D.lin2 [1] (cut_cg p L) [-1] fun x => by simp only [pe_padd, pe_mul, pe]; grind
  have hlc := cut_len L
  exact ⟨e.nB, nr_cut hL, hB, by omega, (cop_step D').symm.trans e.cop⟩
theorem EU.end {p : Int} {g h A : List Int} (hp : Pm p) (e : EU p g h A []) : Cop2 p g h ↔ A.length = 1 := e.cop.symm.trans (cop_end hp e.nA)
/-- one round of taking off -/
structure TK (p bt : Int) (L0 g : List Int) (n i : Nat) (L : List Int) : Prop where
  len : L.length = L0.length
  rng : ∀ z ∈ L, 0 ≤ z ∧ z < p
  cg : Cg p L (pls L0 (offS n bt (g.take i)))
theorem TK.start {p bt : Int} {L0 g : List Int} {n : Nat} (h : ∀ z ∈ L0, 0 ≤ z ∧ z < p) : TK p bt L0 g n 0 L0 := ⟨rfl, h, .of fun x => by rw [pe_pls, pe_offS]; simp [pe]⟩
theorem TK.next {p bt v a : Int} {L0 g L : List Int} {n i : Nat} (hp : 0 < p) (t : TK p bt L0 g n i L) (hv : L[n + i]? = some v) (ha : g[i]? = some a) : TK p bt L0 g n (i + 1) (L.set (n + i) ((v - bt * a) % p)) := by
  refine ⟨by rw [List.length_set]; exact t.len, fun z m => ?_, ?_⟩
  · rcases List.mem_or_eq_of_mem_set m with m | m
    · exact t.rng z m
    · rw [m]; exact ⟨Int.emod_nonneg _ (by omega), Int.emod_lt_of_pos _ hp⟩
  · obtain ⟨H, hH⟩ := t.cg
    have hil : i < g.length := by
      rcases Nat.lt_or_ge i g.length with h | h
      · exact h
      · rw [List.getElem?_eq_none h] at ha; cases ha
    refine ⟨padd H (offS (n + i) (-((v - bt * a) / p)) [1]), fun x => ?_⟩
    have e := Int.emod_add_mul_ediv (v - bt * a) p
    have h1 := hH x
    rw [pe_set x L _ v _ hv, h1]
    rw [pe_pls, pe_pls, pe_offS, pe_offS, pe_padd, pe_offS, List.take_add_one, ha, Option.toList_some, pe_app, List.length_take, Nat.min_eq_left (by omega)]
    simp only [pe, Int.pow_add]
    grind
/-- its end: the last number is 0 -/
theorem TK.done {p bt c y : Int} {L0 g L : List Int} {n : Nat} (hp : 0 < p) (t : TK p bt L0 g n g.length L) (hn : n + g.length = L0.length) (hc : g.getLast? = some c) (hy : L0.getLast? = some y) (hb : (y - bt * c) % p = 0) : L.getLast? = some 0 ∧ ∃ o, Cg p L0 (padd (pmul o g) L.dropLast) := by
  have g0 : 0 < g.length := by cases g with
    | nil => cases hc
    | cons _ _ => simp
  have tl := t.len
  have hne : L ≠ [] := fun e => by rw [e] at tl; simp at tl; omega
  obtain ⟨w, hw⟩ := last_ex hne
  have hwr := t.rng w (List.mem_of_getLast? hw)
  have cg := t.cg
  rw [List.take_length] at cg
  have d := cg_co.1 cg (L0.length - 1)
  have hco : co L (L0.length - 1) = w := by rw [← tl]; exact co_last hw
  have hoff : co (offS n bt g) (L0.length - 1) = bt * c := by
    unfold offS
    rw [co_app _ _ _ (by rw [List.length_replicate]; omega), List.length_replicate, co_scale, show L0.length - 1 - n = g.length - 1 by omega, co_last hc]
  rw [hco, co_pls, co_last hy, hoff] at d
  have hdv : p ∣ w := by
    have h2 : p ∣ y - bt * c := Int.dvd_of_emod_eq_zero hb
    have h3 := Int.dvd_add d h2
    rwa [show w - (y - bt * c) + (y - bt * c) = w by omega] at h3
  have w0 : w = 0 := zero_of_dvd hdv hwr.1 hwr.2
  subst w0
  refine ⟨hw, offS n bt [1], ?_⟩
  have e : ∀ x, pe x L.dropLast = pe x L := fun x => by
    obtain ⟨r, er⟩ := List.getLast?_eq_some_iff.1 hw
    rw [er, List.dropLast_concat, pe_app]
    simp [pe]
  refine cg.lin1 [-1] fun x => ?_
  simp only [pe_padd, pe_mul, pe_pls, pe_offS, pe, e]
  grind
end Pz

namespace Pz
open PySem PySem.Spec PyProof.Rows L2
section
variable {g : PyData → Rho → (Rho → Prop) → Prop} {tt : RT} {te : RE} {ρ : Rho} {Q : PV → Prop}
/-- a list comprehension whose items are ints of a kind -/
theorem lc_ints (P : Int → Prop) (xs : List PyData)
    (st : ∀ d ∈ xs, ∀ (acc : List PyData) (K : List PyData → Prop), (∀ v, P v → K (acc ++ [.int v])) → g d ρ fun ρ1 => tt (fun _ _ => False) ρ1 fun b => (b = true → te (fun _ _ => False) ρ1 fun x => x.frz fun y => K (acc ++ [y])) ∧ (b = false → K acc))
    (q : ∀ L : List Int, L.length = xs.length → (∀ z ∈ L, P z) → Q (.ow (.ls (L.map .int)))) : lcL g tt te ρ xs [] Q := by
  refine lcL_st (fun r acc => ∃ (pre : List PyData) (L : List Int), xs = pre ++ r ∧ L.length = pre.length ∧ (∀ z ∈ L, P z) ∧ acc = L.map .int) ⟨[], [], rfl, rfl, fun _ h => (nomatch h), rfl⟩ ?_ ?_
  · rintro d r acc K ⟨pre, L, hp, hl, hP, rfl⟩ hK
    refine st d (by rw [hp]; simp) _ K fun v hv => hK _ ⟨pre ++ [d], L ++ [v], by rw [hp]; simp, by simp [hl], fun z hz => ?_, by simp⟩
    rcases List.mem_append.1 hz with h | h
    · exact hP z h
    · rw [List.mem_singleton.1 h]; exact hv
  · rintro acc ⟨pre, L, hp, hl, hP, rfl⟩
    rw [List.append_nil] at hp
    exact q L (by rw [hp]; exact hl) hP
end
theorem upto_len' (n : Nat) (f : Nat → PyData) : (upto n f).length = n := by unfold upto; simp
end Pz

namespace Pz
open PySem PySem.Spec PyProof.Rows L2
/-! ### == of what holds lists of ints -/
abbrev il (L : List Int) : PyData := .list (L.map .int)
theorem eqv_t2 (a b c d : List Int) : PyData.eqv (.tuple [il a, il b]) (.tuple [il c, il d]) = decide (a = c ∧ b = d) := by
  show PyData.eqvAll [il a, il b] [il c, il d] = _
  unfold PyData.eqvAll
  rw [show PyData.eqv (il a) (il c) = decide (a = c) from eqv_lints a c]
  unfold PyData.eqvAll
  rw [show PyData.eqv (il b) (il d) = decide (b = d) from eqv_lints b d]
  by_cases h1 : a = c <;> by_cases h2 : b = d <;> simp [h1, h2, PyData.eqvAll]
theorem eqv_l3 (a b c : List Int) : PyData.eqv (.list [il a, il b, il c]) (.list [il a, il b, il c]) = true := by
  show PyData.eqvAll [il a, il b, il c] [il a, il b, il c] = _
  unfold PyData.eqvAll
  rw [show PyData.eqv (il a) (il a) = true from (eqv_lints a a).trans (decide_eq_true rfl)]
  unfold PyData.eqvAll
  rw [show PyData.eqv (il b) (il b) = true from (eqv_lints b b).trans (decide_eq_true rfl)]
  unfold PyData.eqvAll
  rw [show PyData.eqv (il c) (il c) = true from (eqv_lints c c).trans (decide_eq_true rfl)]
  simp [PyData.eqvAll]
theorem shaped_t2 (a b : List Int) : SeqAt.shaped (.tuple [il a, il b]) = true := by
  have h1 := depthAll_ints a
  have h2 := depthAll_ints b
  have h3 := canLayAll_ints a
  have h4 := canLayAll_ints b
  simp only [SeqAt.shaped, il, PyData.canLay0, PyData.canLayAll0, h3, h4, PyData.depth, PyData.depthAll, Bool.true_and, Bool.and_true]
  exact decide_eq_true (by omega)
theorem shaped_l3 (a b c : List Int) : SeqAt.shaped (.list [il a, il b, il c]) = true := by
  have h1 := depthAll_ints a
  have h2 := depthAll_ints b
  have h5 := depthAll_ints c
  have h3 := canLayAll_ints a
  have h4 := canLayAll_ints b
  have h6 := canLayAll_ints c
  simp only [SeqAt.shaped, il, PyData.canLay0, PyData.canLayAll0, h3, h4, h6, PyData.depth, PyData.depthAll, Bool.true_and, Bool.and_true]
  exact decide_eq_true (by omega)
/-! ### what follows of the parts being the only ones -/
theorem last_set {L : List Int} {k : Nat} {v : Int} (h : k + 1 < L.length) : (L.set k v).getLast? = L.getLast? := by
  rw [List.getLast?_eq_getElem?, List.getLast?_eq_getElem?, List.length_set, List.getElem?_set_ne (by omega)]
theorem pe_one_at (x m : Int) (k : Nat) : pe x (List.replicate k 0 ++ [m]) = m * x ^ k := by
  rw [pe_app, pe_noughts, List.length_replicate]
  simp only [pe]
  grind
theorem last_mul {g h : List Int} (lg : 1 ≤ g.length) (lh : 1 ≤ h.length) (tg : g.getLast? = some 1) (th : h.getLast? = some 1) : (pmul g h).getLast? = some 1 := by
  obtain ⟨n, hn⟩ : ∃ n, g.length = n + 1 := ⟨g.length - 1, by omega⟩
  obtain ⟨m, hm⟩ : ∃ m, h.length = m + 1 := ⟨h.length - 1, by omega⟩
  have lf := pmul_len g h (fun e => by rw [e] at lg; simp at lg) (fun e => by rw [e] at lh; simp at lh)
  have e := co_mul_top hn hm tg th
  obtain ⟨z, hz⟩ := last_ex (f := pmul g h) (fun e => by rw [e] at lf; simp at lf; omega)
  have e2 := co_last hz
  rw [show (pmul g h).length - 1 = n + m by omega, e] at e2
  rw [hz, ← e2]
theorem cg_lower {p : Int} {j k : Nat} {F G : List Int} (h : Cg (p ^ k) F G) (hj : j ≤ k) : Cg (p ^ j) F G := by
  obtain ⟨K, hK⟩ := h
  refine ⟨pscale (p ^ (k - j)) K, fun x => ?_⟩
  rw [hK x, pe_scale, show p ^ k = p ^ j * p ^ (k - j) by rw [← Int.pow_add]; congr 1; omega]; grind
theorem lift_mod {p : Int} {f g h G H : List Int} {j k : Nat} (hp : 2 ≤ p) (hj : 1 ≤ j) (hjk : j ≤ k) (L : Lift p f g h k G H) : Lift p f g h j (G.map (· % p ^ j)) (H.map (· % p ^ j)) := by
  have pj : 0 < p ^ j := Int.pow_pos (by omega)
  have p1 : 1 < p ^ j := by
    have := pow_two_le hp (e := j) (by omega)
    omega
  have e1 : (1 : Int) % p ^ j = 1 := Int.emod_eq_of_lt (by decide) p1
  have low : ∀ {A B : List Int}, Cg (p ^ j) A B → Cg p A B := fun h => by have := cg_lower (j := 1) h hj; rwa [Int.pow_one] at this
  refine ⟨by simp [L.lG], by simp [L.lH], by rw [last_map (· % p ^ j) L.tG, e1], by rw [last_map (· % p ^ j) L.tH, e1], fun z hz => ?_, fun z hz => ?_, (low (cg_mod (p ^ j) G)).trans L.nG, (low (cg_mod (p ^ j) H)).trans L.nH, ?_⟩
  · obtain ⟨y, _, rfl⟩ := List.mem_map.1 hz
    exact ⟨Int.emod_nonneg _ (by omega), Int.emod_lt_of_pos _ pj⟩
  · obtain ⟨y, _, rfl⟩ := List.mem_map.1 hz
    exact ⟨Int.emod_nonneg _ (by omega), Int.emod_lt_of_pos _ pj⟩
  · exact (cg_lower L.pr hjk).lin3 [1] (cg_mod (p ^ j) G).symm H (cg_mod (p ^ j) H).symm (G.map (· % p ^ j)) fun x => by simp only [pe_mul, pe]; grind
theorem okp_found {p N : Int} {f g h G H : List Int} {k : Nat} (o : OkP p N f g h) (hk : 1 ≤ k) (L : Lift p f g h k G H) : OkP p N f G H :=
  ⟨o.n1, by rw [L.lG]; exact o.lg, by rw [L.lH]; exact o.lh, by rw [L.lG, L.lH]; exact o.lf, o.tf, L.tG, L.tH, by have := cg_lower (j := 1) L.pr hk; rwa [Int.pow_one] at this⟩
theorem lift_found {p : Int} {f g h G H A B : List Int} {k j : Nat} (L : Lift p f g h k G H) (M : Lift p f G H j A B) : Lift p f g h j A B :=
  ⟨M.lG.trans L.lG, M.lH.trans L.lH, M.tG, M.tH, M.rG, M.rH, M.nG.trans L.nG, M.nH.trans L.nH, M.pr⟩
theorem okp_turn {p N : Int} {f g h : List Int} (o : OkP p N f g h) : OkP p N f h g :=
  ⟨o.n1, o.lh, o.lg, by have := o.lf; omega, o.tf, o.th, o.tg, o.pr.trans (.of fun x => by rw [pe_mul, pe_mul]; grind)⟩
theorem lift_turn {p : Int} {f g h G H : List Int} {k : Nat} (L : Lift p f g h k G H) : Lift p f h g k H G :=
  ⟨L.lH, L.lG, L.tH, L.tG, L.rH, L.rG, L.nH, L.nG, L.pr.trans (.of fun x => by rw [pe_mul, pe_mul]; grind)⟩
end Pz

namespace Pz
open PySem PySem.Spec PyProof.Rows L2
local macro_rules | `(tactic| walk_at "pz") => `(tactic| simp only [rSeq, rSet, rC, rVar, rFor, rWhile, rRng1, rRng2, rRng3, rIt, rRev, rEnum, rZip, rRetV, rRet, rRetN, rDrop, rSkip, rOp, rOp3, rLrg1, rLrg2, rAug, rIf, rCall, rCallR, rCallO, rCons, rConsR, rNil, rTup, rLst, rCmp, rCmpT, rTV, rAnd, rOr, rNot, rAndV, rOrV, rNotV, rNeg, rFn1, rSl, rPart, rNoPart, gSl, rLc, rLcO, rYes, wipeP, rFz, rUnp, rPar, rSetIx, rAugIx, rApp, rPop, rPopTo, rClear, rCont, rBreak, rRaise, data_im, data_lv, data_ls, data_rd, fz_im, fz_lv, fz_ow, fz_rd, frz_im, frz_ls, rdd_im, rdd_ls, rdd_lv, rdd_rd, sto_im, sto_ow, weak_im, weak_ls, weak_rd, Tgt.go, setAll, gI, gI0, gAdd, gMul, gIx, gLen, gAbs, gInt, gMax, gMin, gList, gSum, gMaxL, gMinL, gIsi, isi, iiP, eqP, neP, isP, isnP, dEnds, at0, at1, nrm_t, nrm_i, nrm_b, List.getElem?_cons_zero, List.getElem?_cons_succ, List.getElem?_nil, List.set_cons_zero, List.set_cons_succ, List.length_cons, List.length_nil, Bool.false_eq_true, Bool.true_eq_false, false_implies, true_implies, and_true, true_and, Bool.not_true, Bool.not_false, Nat.reduceAdd, Nat.reduceSub, Nat.reduceMul, Int.reduceAdd, Int.reduceSub, Int.reduceMul, Int.reduceNeg, Int.cast_ofNat_Int, Int.natCast_zero, Int.natCast_one, Int.reduceEq, Int.reduceNe, Int.reduceLT, Int.reduceLE, decide_true, decide_false, eq_self])
local macro_rules | `(tactic| walk_at "w") => `(tactic| conv => whnf)
local macro_rules | `(tactic| walk_at "hint") => `(tactic| fail)
local macro_rules | `(tactic| walk_at "pos") => `(tactic| first | assumption | omega | decide | exact Int.pow_pos (by omega))
local macro_rules | `(tactic| walk_at "bt") => `(tactic| first
  | assumption
  | exact Bt.num (n := 64) (by omega)
  | exact Bt.num (n := 256) (by decide)
  | ((with_reducible apply Bt.mul) <;> walk_at "bt")
  | ((with_reducible apply Bt.add2) <;> walk_at "bt")
  | ((with_reducible apply Bt.sub2) <;> walk_at "bt")
  | ((with_reducible apply Bt.neg) <;> walk_at "bt")
  | ((with_reducible apply Bt.div) <;> first | walk_at "bt" | walk_at "pos")
  | ((with_reducible apply Bt.mod) <;> first | walk_at "bt" | walk_at "pos")
  | (with_reducible refine Bt.powK (a := 6) (k := 130) ?_ ?_; (exact Bt.num (by omega)); omega))
local macro_rules | `(tactic| walk_at "side") => `(tactic| first
  | with_reducible assumption
  | omega
  | decide
  | ((with_reducible apply Bt.ok); (walk_at "bt"); (walk_at "bt"); first | decide | omega)
  | ((with_reducible apply Bt.mono); (walk_at "bt"); decide)
  | ((with_reducible apply Bt.dv); (walk_at "bt"); (walk_at "pos"); first | decide | omega)
  | ((with_reducible refine Int.pow_pos ?_); omega)
  | ((with_reducible apply rgok) <;> omega)
  | ((with_reducible apply Bt.cpow) <;> first | omega | decide)
  | ((intro k z); cases z; done)
  | exact shaped_int _ | exact shaped_bool _ | exact shaped_pair _ _ | exact shaped_lints _ | exact shaped_tints _
  | ((with_reducible apply lt_line); simp only [List.length_append, List.length_cons, List.length_nil, List.length_map, List.length_replicate]; omega)
  | ((with_reducible apply le_line); simp only [List.length_append, List.length_cons, List.length_nil, List.length_map, List.length_replicate, List.length_reverse, List.length_set, upto_len, Int.toNat_natCast, Nat.zero_add, Nat.one_mul, Nat.mul_one]; omega)
  | ((with_reducible apply And.intro) <;> walk_at "side")
  | ((simp only [List.length_append, List.length_cons, List.length_nil, List.length_map, List.length_replicate, List.length_set, List.length_reverse, upto_len]); (try omega); done)
  | (show SeqAt.shaped _ = true; simp [PV.data, Oc.data, SeqAt.shaped, PyData.canLay0, PyData.canLayAll0, PyData.depth, PyData.depthAll]; done)
  | ((walk_at "hint"); done)
  | with_reducible_and_instances assumption)
local macro_rules | `(tactic| walk_at "tt") => `(tactic| first
  | with_reducible rfl
  | ((with_reducible refine decide_eq_true ?_); walk_at "side")
  | ((with_reducible refine not_f ?_); walk_at "ff")
  | ((fail_if_success (with_reducible refine decide_eq_true ?_)); (fail_if_success (with_reducible refine not_f ?_)); first | (show PyData.eqv (.list (List.map PyData.int _)) (.list (List.map PyData.int _)) = true; rw [eqv_lints]; exact decide_eq_true (by first | with_reducible rfl | with_reducible assumption | (refine Eq.symm ?_; with_reducible assumption) | rfl | assumption)) | rfl | ((walk_at "hint"); done) | (simp [PV.data, Oc.data, PyData.eqv, PyData.eqvAll]; done)))
local macro_rules | `(tactic| walk_at "ff") => `(tactic| first
  | with_reducible rfl
  | ((with_reducible refine decide_eq_false ?_); walk_at "side")
  | ((with_reducible refine not_t ?_); walk_at "tt")
  | ((fail_if_success (with_reducible refine decide_eq_false ?_)); (fail_if_success (with_reducible refine not_t ?_)); (first | (show PyData.eqv (.list (List.map PyData.int _)) (.list (List.map PyData.int _)) = false; rw [eqv_lints]; exact decide_eq_false (by with_reducible assumption)) | skip); (fail_if_success (show PyData.eqv (.list (List.map PyData.int _)) (.list (List.map PyData.int _)) = false)); first | rfl | ((walk_at "hint"); done) | (simp [PV.data, Oc.data, PyData.eqv, PyData.eqvAll]; done)))
local macro_rules | `(tactic| walk_at "st") => `(tactic| ((conv => whnf); first
  | with_reducible assumption
  | ((with_reducible refine qT (by assumption) ?_); walk_at "tt")
  | (refine ifS ?_; first | refine ifB1 (by walk_at "tt") ?_ | refine ifB0 (by walk_at "ff") ?_)
  | ((with_reducible refine ifPS ?_); first | refine ifP1 (by walk_at "side") ?_ | refine ifP0 (by walk_at "side") ?_)
  | ((fail_if_success (refine ifS ?_)); (fail_if_success (with_reducible refine ifPS ?_)); refine And.intro (by walk_at "side") ?_)
  | (with_reducible refine atc0 ?_) | (with_reducible refine atc1 ?_) | (with_reducible refine atc2 ?_) | (with_reducible refine atc3 ?_)
  | ((repeat apply Exists.intro); with_reducible refine ⟨rfl, ?_⟩)
  | assumption))
local macro_rules | `(tactic| walk_at "nf") => `(tactic| try dsimp only [List.set_cons_zero, List.set_cons_succ, setAll, wipeP])
local macro_rules | `(tactic| walk_at "go") => `(tactic| repeat ((walk_at "st"); walk_at "nf"))
/-! _law_cut -/
abbrev N__law_cut : List Str := ["f", "found"]
def rd__law_cut_b0 : RC := rPop 1
def rd__law_cut_c0 : RT := rAnd (rCmpT neP (rVar 1) (rLst (rNil))) (rCmpT eqP (rOp gIx (rVar 1) (rNeg (rC (.int 1)))) (rC (.int 0)))
def rd__law_cut : RC := rSeq (rSet 1 (rFn1 gList (rVar 0))) (rSeq (rWhile rd__law_cut_c0 rd__law_cut_b0) (rRetV 1))
def sp__law_cut : PSp := fun ds Q _ => ∃ f : List Int, ds = [.list (f.map .int)] ∧ f.length ≤ 100 ∧ Q (.ow (.ls ((cut f).map .int)))
theorem len__law_cut : ∀ ds Q E, sp__law_cut ds Q E → ds.length = (["f"] : List Str).length := by
  rintro ds Q E ⟨f, rfl, _⟩; rfl
theorem pure__law_cut : ∀ ds Q E, sp__law_cut ds Q E → rd__law_cut (dEnds Q E) (start0 N__law_cut ds) := by
  rintro ds Q E ⟨f, rfl, lf, q⟩
  show rd__law_cut (dEnds Q E) [.im (.list (f.map .int)), .un]
  unfold rd__law_cut
  walk_at "go"
  refine rWhile_ind (fun n ρ => ∃ L : List Int, cut L = cut f ∧ n = L.length ∧ L.length ≤ 100 ∧ ρ = [.im (.list (f.map .int)), .ow (.ls (L.map .int))]) _ ⟨f, rfl, rfl, lf, rfl⟩ ?_
  rintro n ρ K ⟨L, hL, rfl, lL, rfl⟩ hK
  unfold rd__law_cut_c0
  conv => whnf
  refine ⟨shaped_lints _, shaped_lints [], ?_⟩
  rw [show PyData.eqv (PV.lv (L.map .int)).data (PV.ow (.ls [])).data = decide (L = []) from eqv_lints L []]
  conv => whnf
  refine ifN (fun z => ?_) (fun z => ?_)
  · obtain ⟨y, hy⟩ := last_ex z
    obtain ⟨r, er⟩ := List.getLast?_eq_some_iff.1 hy
    have LA : L2.atI (L.map PyData.int) (-1) = some (.int y) := by rw [er, List.map_append]; exact at_back1
    conv => whnf
    refine ⟨_, LA, ?_⟩
    conv => whnf
    refine ifD (fun y0 => ?_) (fun y0 => ?_)
    · subst y0
      have hK2 := hK r.length _ (by rw [er]; simp) ⟨r, by rw [← hL, er, cut_snoc0], rfl, by rw [er] at lL; simp at lL; omega, rfl⟩
      subst er
      unfold rd__law_cut_b0
      conv => whnf
      have ed : (List.map PyData.int (r ++ [0])).dropLast = r.map .int := by rw [List.map_append]; exact List.dropLast_concat
      refine ⟨by simp, ?_⟩
      rw [ed]
      exact hK2
    · rw [← hL, cut_fix (fun w hw => by rw [hy] at hw; cases hw; exact y0)] at q
      conv => whnf
      exact q
  · subst z
    rw [← hL] at q
    conv => whnf
    first | exact q | exact ifB0 rfl q

/-! _law_left -/
abbrev N__law_left : List Str := ["p", "f", "g", "left", "by", "turned", "k", "place", "number"]
def rd__law_left_b0 : RC := rSet 5 (rOp gAdd (rVar 5) (rC (.int 1)))
def rd__law_left_c0 : RT := rCmpT neP (rOp gMod (rOp gMul (rVar 5) (rOp gIx (rVar 2) (rNeg (rC (.int 1))))) (rVar 0)) (rC (.int 1))
def rd__law_left_b2 : RC := rSeq (rSet 7 (rOp gAdd (rOp gSub (rFn1 gLen (rVar 3)) (rFn1 gLen (rVar 2))) (rVar 6))) (rSetIx 3 (rOp gMod (rOp gSub (rOp gIx (rVar 3) (rVar 7)) (rOp gMul (rOp gMul (rVar 4) (rVar 5)) (rOp gIx (rVar 2) (rVar 6)))) (rVar 0)) (rVar 7))
def rd__law_left_b3 : RC := rSeq (rSet 4 (rOp gIx (rVar 3) (rNeg (rC (.int 1))))) (rSeq (rSet 5 (rC (.int 1))) (rSeq (rWhile rd__law_left_c0 rd__law_left_b0) (rSeq (rFor (rRng1 (rFn1 gLen (rVar 2))) (.nm 6) rd__law_left_b2) (rPop 3))))
def rd__law_left_c3 : RT := rCmpT geP (rFn1 gLen (rVar 3)) (rFn1 gLen (rVar 2))
def rd__law_left : RC := rSeq (rSet 3 (rLc (rIt (rVar 1)) (.nm 8) (rYes) (rOp gMod (rVar 8) (rVar 0)) [8])) (rSeq (rWhile rd__law_left_c3 rd__law_left_b3) (rRetV 3))
def sp__law_left : PSp := fun ds Q _ => ∃ (p c : Int) (f g : List Int), ds = [.int p, .list (f.map .int), .list (g.map .int)] ∧ Pm p ∧ f.length ≤ 40 ∧ g.length ≤ 40 ∧ (∀ z ∈ f, Bt 5000 z) ∧ (∀ z ∈ g, 0 ≤ z ∧ z < p) ∧ g.getLast? = some c ∧ c ≠ 0 ∧
  ∀ L, (∃ o, Cg p f (padd (pmul o g) L)) → (∀ z ∈ L, 0 ≤ z ∧ z < p) → L.length < g.length → L.length ≤ 40 → Q (.ow (.ls (L.map .int)))
theorem len__law_left : ∀ ds Q E, sp__law_left ds Q E → ds.length = (["p", "f", "g"] : List Str).length := by
  rintro ds Q E ⟨p, c, f, g, rfl, _⟩; rfl
theorem pure__law_left : ∀ ds Q E, sp__law_left ds Q E → rd__law_left (dEnds Q E) (start0 N__law_left ds) := by
  rintro ds Q E ⟨p, c, f, g, rfl, hp, lf, lg, bf, rg, gl, hc, q⟩
  have p0 := hp.lo
  have p1 := hp.hi
  have llg : (g.map PyData.int).length = g.length := List.length_map _
  obtain ⟨g', eg⟩ := List.getLast?_eq_some_iff.1 gl
  have glA : L2.atI (g.map PyData.int) (-1) = some (.int c) := by rw [eg, List.map_append]; exact at_back1
  have lgp : 1 ≤ g.length := by rw [eg]; simp
  have rc := rg c (List.mem_of_getLast? gl)
  obtain ⟨u, u0, u1, u2⟩ := turn_ex' hp (b := c) (by rw [Int.emod_eq_of_lt rc.1 rc.2]; exact hc)
  have bc : Bt 64 c := Bt.num (by omega)
  show rd__law_left (dEnds Q E) [.im (.int p), .im (.list (f.map .int)), .im (.list (g.map .int)), .un, .un, .un, .un, .un, .un]
  unfold rd__law_left
  walk_at "go"
  refine lc_mapI f (fun z => z % p) ?_ ?_
  · intro z hz acc K k
    walk_at "go"
  walk_at "go"
  refine rWhile_ind (fun n ρ => ∃ (L : List Int) (x4 x5 x6 x7 : PV), (∃ o, Cg p f (padd (pmul o g) L)) ∧ (∀ z ∈ L, 0 ≤ z ∧ z < p) ∧ n = L.length ∧ L.length ≤ 40 ∧ ρ = [.im (.int p), .im (.list (f.map .int)), .im (.list (g.map .int)), .ow (.ls (L.map .int)), x4, x5, x6, x7, .un]) _
    ⟨f.map (· % p), _, _, _, _, ⟨[], (cg_mod p f).symm.lin1 [1] fun x => by simp only [pe_padd, pe_mul, pe]; grind⟩, fun z m => by
      obtain ⟨y, _, rfl⟩ := List.mem_map.1 m
      exact ⟨Int.emod_nonneg _ (by omega), Int.emod_lt_of_pos _ (by omega)⟩, rfl, by rw [List.length_map]; exact lf, rfl⟩ ?_
  rintro n ρ K ⟨L, x4, x5, x6, x7, hD, rL, rfl, lL, rfl⟩ hK
  have llL : (L.map PyData.int).length = L.length := List.length_map _
  unfold rd__law_left_c3
  conv => whnf
  rw [llL, llg]
  refine ifD (fun z => ?_) (fun z => ?_)
  · have hne : L ≠ [] := fun e => by rw [e, List.length_nil] at z; omega
    obtain ⟨y, hy⟩ := last_ex hne
    obtain ⟨L', eL⟩ := List.getLast?_eq_some_iff.1 hy
    have LA : L2.atI (L.map PyData.int) (-1) = some (.int y) := by rw [eL, List.map_append]; exact at_back1
    have ry := rL y (List.mem_of_getLast? hy)
    have bY : Bt 64 y := Bt.num (by omega)
    unfold rd__law_left_b3
    conv => whnf
    refine ⟨_, LA, ?_⟩
    walk_at "go"
    conv => whnf
    refine rWhile_ind (fun m ρ => ∃ t : Int, 1 ≤ t ∧ t ≤ u ∧ m = (u - t).toNat ∧ ρ = [.im (.int p), .im (.list (f.map .int)), .im (.list (g.map .int)), .ow (.ls (L.map .int)), .im (.int y), .im (.int t), x6, x7, .un]) _ ⟨1, by omega, by
      rcases Int.lt_or_eq_of_le u0 with h | h
      · omega
      · rw [← h] at u2; simp at u2, rfl, rfl⟩ ?_
    rintro m ρ K' ⟨t, t0, t1, rfl, rfl⟩ hK'
    have bt : Bt 64 t := Bt.num (by omega)
    unfold rd__law_left_c0
    conv => whnf
    refine ⟨_, glA, ?_⟩
    walk_at "go"
    conv => whnf
    refine ifN (fun w => ?_) (fun w => ?_)
    · unfold rd__law_left_b0
      conv => whnf
      have tu : t < u := by
        rcases Int.lt_or_eq_of_le t1 with h | h
        · exact h
        · exact (w (by rw [h]; exact u2)).elim
      exact hK' _ _ (by omega) ⟨t + 1, by omega, by omega, rfl, rfl⟩
    have hby : (y - y * t * c) % p = 0 := by
      have e1 := Int.emod_add_mul_ediv (t * c) p
      rw [w] at e1
      have : y - y * t * c = p * (-(y * (t * c / p))) := by grind
      rw [this]; exact Int.mul_emod_right _ _
    have byt : Bt 128 (y * t) := (bY.mul bt).mono (by decide)
    conv => whnf
    rw [llg, Int.toNat_natCast]
    refine ⟨by omega, ?_⟩
    refine for_upto _ _ (fun i ρ => ∃ (M : List Int) (x6 x7 : PV), TK p (y * t) L g (L.length - g.length) i M ∧ ρ = [.im (.int p), .im (.list (f.map .int)), .im (.list (g.map .int)), .ow (.ls (M.map .int)), .im (.int y), .im (.int t), x6, x7, .un]) ⟨L, _, _, TK.start rL, rfl⟩ ?_ ?_
    · rintro i ρ K2 hi ⟨M, x6, x7, tk, rfl⟩ hK2
      have lM := tk.len
      have llM : (M.map PyData.int).length = M.length := List.length_map _
      obtain ⟨a, ha⟩ : ∃ a, g[i]? = some a := ⟨_, List.getElem?_eq_getElem hi⟩
      have ha2 : L2.atI (g.map PyData.int) (i : Int) = some (.int a) := by
        unfold L2.atI; rw [ixN_some (by omega) (by rw [llg]; omega)]; show (g.map PyData.int)[(i : Int).toNat]? = _; rw [Int.toNat_natCast, List.getElem?_map, ha]; rfl
      have ra := rg a (List.mem_of_getElem? ha)
      have bA : Bt 64 a := Bt.num (by omega)
      have hj : L.length - g.length + i < M.length := by omega
      obtain ⟨v, hv⟩ : ∃ v, M[L.length - g.length + i]? = some v := ⟨_, List.getElem?_eq_getElem hj⟩
      have ej : ((L.length : Int) - g.length + i) = ((L.length - g.length + i : Nat) : Int) := by omega
      have hv2 : L2.atI (M.map PyData.int) ((L.length - g.length + i : Nat) : Int) = some (.int v) := by
        unfold L2.atI; rw [ixN_some (by omega) (by rw [llM]; omega)]; show (M.map PyData.int)[(((L.length - g.length + i : Nat) : Int)).toNat]? = _
        rw [Int.toNat_natCast, List.getElem?_map, hv]; rfl
      have rv := tk.rng v (List.mem_of_getElem? hv)
      have bv : Bt 64 v := Bt.num (by omega)
      have tn := tk.next (by omega) hv ha
      unfold rd__law_left_b2
      conv => whnf
      rw [llM, llg, lM, ej]
      conv => whnf
      refine ⟨_, hv2, ?_⟩
      conv => whnf
      refine ⟨by walk_at "side", ?_⟩
      conv => whnf
      refine ⟨_, ha2, ?_⟩
      conv => whnf
      refine ⟨by walk_at "side", ?_⟩
      conv => whnf
      refine ⟨by omega, ?_⟩
      conv => whnf
      refine ⟨_, ixN_some (by omega) (by rw [llM]; omega), ?_⟩
      rw [map_set_int, Int.toNat_natCast]
      exact hK2 _ ⟨_, _, _, tn, rfl⟩
    · rintro ρ ⟨M, x6, x7, tk, rfl⟩
      obtain ⟨hlast, o2, D2⟩ := tk.done (by omega) (by omega) gl hy hby
      obtain ⟨o1, D1⟩ := hD
      obtain ⟨r, er⟩ := List.getLast?_eq_some_iff.1 hlast
      have lM := tk.len
      have hK3 := hK r.length [.im (.int p), .im (.list (f.map .int)), .im (.list (g.map .int)), .ow (.ls (r.map .int)), .im (.int y), .im (.int t), x6, x7, .un] (by rw [er] at lM; simp at lM; omega) ⟨r, _, _, _, _, ⟨padd o1 o2, D1.lin2 [1] D2 [1] fun x => by rw [er, List.dropLast_concat]; simp only [pe_padd, pe_mul, pe]; grind⟩, fun w hw => tk.rng w (by rw [er]; exact List.mem_append_left _ hw), rfl, by rw [er] at lM; simp at lM; omega, rfl⟩
      have ed : (M.map PyData.int).dropLast = r.map .int := by rw [er, List.map_append]; exact List.dropLast_concat
      have hn : M.map PyData.int ≠ [] := by rw [er]; simp
      conv => whnf
      refine ⟨hn, ?_⟩
      rw [ed]
      exact hK3
  · have q := q L hD rL (by omega) lL
    conv => whnf
    exact q

/-! _law_apart -/
abbrev N__law_apart : List Str := ["p", "g", "h", "one", "other", "number"]
def rd__law_apart_b0 : RC := rSeq (rPar 3 4 (rVar 4) (rCall sp__law_cut (rCons (rCall sp__law_left (rCons (rVar 0) (rCons (rVar 3) (rCons (rVar 4) (rNil))))) (rNil)))) (rSeq (rFz 4) (rSkip))
def rd__law_apart_c0 : RT := rCmpT neP (rVar 4) (rLst (rNil))
def rd__law_apart : RC := rSeq (rSet 3 (rLc (rIt (rVar 1)) (.nm 5) (rYes) (rOp gMod (rVar 5) (rVar 0)) [5])) (rSeq (rFz 3) (rSeq (rSet 4 (rCall sp__law_cut (rCons (rCall sp__law_left (rCons (rVar 0) (rCons (rVar 2) (rCons (rVar 3) (rNil))))) (rNil)))) (rSeq (rFz 4) (rSeq (rWhile rd__law_apart_c0 rd__law_apart_b0) (rRet (rCmp eqP (rFn1 gLen (rVar 3)) (rC (.int 1))))))))
def sp__law_apart : PSp := fun ds Q _ => ∃ (p : Int) (g h : List Int), ds = [.int p, .list (g.map .int), .list (h.map .int)] ∧ Pm p ∧ g.length ≤ 20 ∧ h.length ≤ 20 ∧ (∀ z ∈ g, Bt 5000 z) ∧ (∀ z ∈ h, Bt 5000 z) ∧ g.getLast? = some 1 ∧ (Cop2 p g h → Q (.im (.bool true))) ∧ (¬ Cop2 p g h → Q (.im (.bool false)))
theorem len__law_apart : ∀ ds Q E, sp__law_apart ds Q E → ds.length = (["p", "g", "h"] : List Str).length := by
  rintro ds Q E ⟨p, g, h, rfl, _⟩; rfl
theorem pure__law_apart : ∀ ds Q E, sp__law_apart ds Q E → rd__law_apart (dEnds Q E) (start0 N__law_apart ds) := by
  rintro ds Q E ⟨p, g, h, rfl, hp, lg, lh, bg, bh, tg, q1, q2⟩
  have p0 := hp.lo
  have p1 := hp.hi
  show rd__law_apart (dEnds Q E) [.im (.int p), .im (.list (g.map .int)), .im (.list (h.map .int)), .un, .un, .un]
  unfold rd__law_apart
  walk_at "go"
  refine lc_mapI g (fun z => z % p) ?_ ?_
  · intro z hz acc K k
    walk_at "go"
  conv => whnf
  refine ⟨p, 1 % p, h, g.map (· % p), rfl, hp, by omega, by rw [List.length_map]; omega, bh, ?_, last_map (· % p) tg, by rw [Int.emod_eq_of_lt (by decide) (by omega)]; decide, fun L hD rL hl lL => ?_⟩
  · intro z m
    obtain ⟨y, _, rfl⟩ := List.mem_map.1 m
    exact ⟨Int.emod_nonneg _ (by omega), Int.emod_lt_of_pos _ (by omega)⟩
  rw [List.length_map] at hl
  have eu := EU.start hp tg hD rL hl
  have lg2 : (g.map (· % p)).length ≤ 20 := by rw [List.length_map]; exact lg
  conv => whnf
  refine ⟨L, rfl, by omega, ?_⟩
  conv => whnf
  refine rWhile_ind (fun n ρ => ∃ A B : List Int, EU p g h A B ∧ A.length ≤ 20 ∧ n = B.length ∧ ρ = [.im (.int p), .im (.list (g.map .int)), .im (.list (h.map .int)), .im (.list (A.map .int)), .im (.list (B.map .int)), .un]) _ ⟨_, _, eu, lg2, rfl, rfl⟩ ?_
  rintro n ρ K ⟨A, B, e, lA, rfl, rfl⟩ hK
  unfold rd__law_apart_c0
  conv => whnf
  refine ⟨shaped_lints _, shaped_lints [], ?_⟩
  rw [show PyData.eqv (PV.im (.list (B.map .int))).data (PV.ow (.ls [])).data = decide (B = []) from eqv_lints B []]
  conv => whnf
  refine ifN (fun z => ?_) (fun z => ?_)
  · obtain ⟨y, hy⟩ := last_ex z
    have lt := e.lt
    unfold rd__law_apart_b0
    conv => whnf
    refine ⟨p, y, A, B, rfl, hp, by omega, by omega, fun w hw => (Bt.num (n := 7) (by have := e.nA.rng w hw; omega)).mono (by decide), e.nB.rng, hy, e.nB.top y hy, fun M hD rM hl lM => ?_⟩
    have eu := e.step z hD rM hl
    have hc := cut_len M
    have hK := hK _ _ (show (cut M).length < B.length by omega) ⟨B, cut M, eu, by omega, rfl, rfl⟩
    conv => whnf
    refine ⟨M, rfl, by omega, ?_⟩
    conv => whnf
    exact hK
  · subst z
    have ec := e.end hp
    conv => whnf
    rw [List.length_map]
    by_cases hA : A.length = 1
    · rw [show decide ((A.length : Int) = 1) = true from decide_eq_true (by omega)]
      exact q1 (ec.2 hA)
    · rw [show decide ((A.length : Int) = 1) = false from decide_eq_false (by omega)]
      exact q2 fun k => hA (ec.1 k)

/-! _law_cell_at -/
abbrev N__law_cell_at : List Str := ["script", "k"]
def rd__law_cell_at : RC := rSeq (rIf (rCmpT ltP (rVar 1) (rFn1 gLen (rVar 0))) (rRet (rOp gIx (rVar 0) (rVar 1))) (rSkip)) (rRet (rC (.int 0)))
def cel0 (ns : List Int) (k : Int) : Int := (atI ns k).getD 0
theorem cel0_bt {ns : List Int} {k : Int} (h : ∀ z ∈ ns, Bt 1048576 z) (h0 : 0 ≤ k) (h1 : k ≤ 1000) : Bt 1048576 (cel0 ns k) := by
  unfold cel0
  by_cases hk : k < ns.length
  · obtain ⟨v, e, m⟩ := atI_some h0 hk
    rw [e]
    exact h v m
  · rw [show atI ns k = none by unfold atI ixN; rw [if_pos h0, if_neg hk]; rfl]
    exact (Bt.num (n := 1) (by decide)).mono (by omega)
def sp__law_cell_at : PSp := fun ds Q _ => ∃ (ns : List Int) (k : Int), ds = [.list (ns.map .int), .int k] ∧ (0 ≤ k ∧ k ≤ 1000) ∧ Q (.im (.int (cel0 ns k)))
theorem len__law_cell_at : ∀ ds Q E, sp__law_cell_at ds Q E → ds.length = (["script", "k"] : List Str).length := by
  rintro ds Q E ⟨ns, k, rfl, _⟩; rfl
theorem pure__law_cell_at : ∀ ds Q E, sp__law_cell_at ds Q E → rd__law_cell_at (dEnds Q E) (start0 N__law_cell_at ds) := by
  rintro ds Q E ⟨ns, k, rfl, ⟨h0, h1⟩, q⟩
  show rd__law_cell_at (dEnds Q E) [.im (.list (ns.map .int)), .im (.int k)]
  unfold rd__law_cell_at
  walk_at "go"
  unfold cel0 at q
  conv => whnf
  rw [List.length_map]
  refine ifD (fun z => ?_) (fun z => ?_)
  · obtain ⟨v, e, m⟩ := atI_some h0 z
    rw [e] at q
    conv => whnf
    exact ⟨_, atI_ints e, q⟩
  · rw [show atI ns k = none by unfold atI ixN; rw [if_pos h0, if_neg z]; rfl] at q
    walk_at "go"

/-! _law_power -/
abbrev N__law_power : List Str := ["p", "e", "found", "k"]
def rd__law_power_b0 : RC := rSet 2 (rOp gMul (rVar 2) (rVar 0))
def rd__law_power : RC := rSeq (rSet 2 (rC (.int 1))) (rSeq (rFor (rRng1 (rVar 1)) (.nm 3) rd__law_power_b0) (rRetV 2))
def sp__law_power : PSp := fun ds Q _ => ∃ p e : Int, ds = [.int p, .int e] ∧ (0 ≤ p ∧ p ≤ 1000 ∧ 0 ≤ e ∧ e ≤ 100000) ∧ Q (.im (.int (p ^ e.toNat)))
theorem len__law_power : ∀ ds Q E, sp__law_power ds Q E → ds.length = (["p", "e"] : List Str).length := by
  rintro ds Q E ⟨p, e, rfl, _⟩; rfl
theorem pure__law_power : ∀ ds Q E, sp__law_power ds Q E → rd__law_power (dEnds Q E) (start0 N__law_power ds) := by
  rintro ds Q E ⟨p, e, rfl, ⟨h0, h1, hz, h2⟩, q⟩
  show rd__law_power (dEnds Q E) [.im (.int p), .im (.int e), .un, .un]
  unfold rd__law_power
  walk_at "go"
  refine forL_ind (fun r ρ => ∃ i x, i + r.length = e.toNat ∧ ρ = [.im (.int p), .im (.int e), .im (.int (p ^ i)), x]) ?_ ?_ _ _ ⟨0, .un, by rw [upto_len]; omega, by rw [Int.pow_zero] <;> rfl⟩
  · rintro ρ ⟨i, x, hi, rfl⟩
    have e1 : i = e.toNat := by simpa using hi
    subst e1
    walk_at "go"
  · rintro d r ρ K ⟨i, x, hi, rfl⟩ hK
    rw [List.length_cons] at hi
    have b1 := (Bt.num (n := 10) (x := p) (by omega)).pow (by decide) i
    have b2 := Bt.num (n := 10) (x := p) (by omega)
    conv => whnf
    refine ⟨b1.ok b2 (by omega), ?_⟩
    exact hK _ ⟨i + 1, _, by omega, by rw [Int.pow_succ]; rfl⟩

/-! _law_drawn -/
abbrev N__law_drawn : List Str := ["script", "p", "N", "power", "shape", "sizes", "at", "found", "size", "cells", "k", "cell"]
def rd__law_drawn_b0 : RC := rSeq (rSet 9 (rLc (rRng1 (rVar 8)) (.nm 10) (rYes) (rCall sp__law_cell_at (rCons (rVar 0) (rCons (rOp gAdd (rVar 6) (rVar 10)) (rNil)))) [10])) (rSeq (rFz 9) (rSeq (rApp 7 (rOp gAdd (rLc (rEnum (rVar 9)) (.tp [10, 11]) (rYes) (rOp gMod (rOp gMul (rOp gMul (rVar 11) (rVar 11)) (rOp gAdd (rOp gAdd (rOp gPow (rC (.int 10)) (rC (.int 7))) (rC (.int 19))) (rVar 10))) (rVar 3)) [10, 11]) (rLst (rCons (rC (.int 1)) (rNil))))) (rSet 6 (rOp gAdd (rVar 6) (rVar 8)))))
def rd__law_drawn : RC := rSeq (rSet 3 (rCall sp__law_power (rCons (rVar 1) (rCons (rVar 2) (rNil))))) (rSeq (rFz 3) (rSeq (rSet 4 (rCall sp__law_cell_at (rCons (rVar 0) (rCons (rC (.int 2)) (rNil))))) (rSeq (rFz 4) (rSeq (rSet 5 (rLst (rCons (rOp gAdd (rC (.int 1)) (rOp gMod (rVar 4) (rC (.int 5)))) (rCons (rOp gAdd (rC (.int 1)) (rOp gMod (rOp gDiv (rVar 4) (rC (.int 5))) (rC (.int 5)))) (rNil))))) (rSeq (rFz 5) (rSeq (rSet 6 (rC (.int 3))) (rSeq (rSet 7 (rLst (rNil))) (rSeq (rFor (rIt (rVar 5)) (.nm 8) rd__law_drawn_b0) (rRetV 7)))))))))
structure Dr (p : Int) (N : Nat) (G : List Int) : Prop where
  lo : 2 ≤ G.length
  hi : G.length ≤ 6
  top : G.getLast? = some 1
  rng : ∀ z ∈ G, 0 ≤ z ∧ z < p ^ N
def emL (G : List Int) : PyData := .list (G.map .int)
def sp__law_drawn : PSp := fun ds Q _ => ∃ (ns : List Int) (p N : Int), ds = [.list (ns.map .int), .int p, .int N] ∧ (∀ z ∈ ns, Bt 1048576 z) ∧ Pm p ∧ (1 ≤ N ∧ N ≤ 60) ∧ ∀ G H : List Int, Dr p N.toNat G → Dr p N.toNat H → Q (.ow (.ls [emL G, emL H]))
theorem len__law_drawn : ∀ ds Q E, sp__law_drawn ds Q E → ds.length = (["script", "p", "N"] : List Str).length := by
  rintro ds Q E ⟨ns, s, m, rfl, _⟩; rfl
theorem pure__law_drawn : ∀ ds Q E, sp__law_drawn ds Q E → rd__law_drawn (dEnds Q E) (start0 N__law_drawn ds) := by
  rintro ds Q E ⟨ns, p, N, rfl, hb, hp, ⟨n0, n1⟩, q⟩
  have p0 := hp.lo
  have p1 := hp.hi
  have bW : Bt 430 (p ^ N.toNat) := Bt.pp _ (by omega) (by omega)
  have W0 : 0 < p ^ N.toNat := Int.pow_pos (by omega)
  have W1 : 1 < p ^ N.toNat := by
    obtain ⟨j, hj⟩ : ∃ j, N.toNat = j + 1 := ⟨N.toNat - 1, by omega⟩
    rw [hj, Int.pow_succ]
    have h0 : 0 < p ^ j := Int.pow_pos (by omega)
    have := Int.mul_le_mul_of_nonneg_right (show 1 ≤ p ^ j by omega) (show 0 ≤ p by omega)
    omega
  show rd__law_drawn (dEnds Q E) [.im (.list (ns.map .int)), .im (.int p), .im (.int N), .un, .un, .un, .un, .un, .un, .un, .un, .un]
  unfold rd__law_drawn
  walk_at "go"
  have s1 : 1 ≤ 1 + cel0 ns 2 % 5 ∧ 1 + cel0 ns 2 % 5 ≤ 5 := by omega
  have s2 : 1 ≤ 1 + cel0 ns 2 / 5 % 5 ∧ 1 + cel0 ns 2 / 5 % 5 ≤ 5 := by omega
  conv => whnf
  refine for_pre [1 + cel0 ns 2 % 5, 1 + cel0 ns 2 / 5 % 5] PyData.int (fun pre ρ => ∃ (Ls : List (List Int)) (a : Int) (x8 x9 x10 x11 : PV), Ls.length = pre.length ∧ (∀ G ∈ Ls, Dr p N.toNat G) ∧ 0 ≤ a ∧ a ≤ 3 + 5 * pre.length ∧ ρ = [.im (.list (ns.map .int)), .im (.int p), .im (.int N), .im (.int (p ^ N.toNat)), .im (.int (cel0 ns 2)), .im (.list [.int (1 + cel0 ns 2 % 5), .int (1 + cel0 ns 2 / 5 % 5)]), .im (.int a), .ow (.ls (Ls.map emL)), x8, x9, x10, x11]) ⟨[], 3, _, _, _, _, rfl, fun _ h => (nomatch h), by omega, by simp, rfl⟩ ?_ ?_
  · rintro pre s suf ρ K hpre ⟨Ls, a, x8, x9, x10, x11, hl, hLs, a0, a1, rfl⟩ hK
    have hs : 1 ≤ s ∧ s ≤ 5 := by
      have : s ∈ [1 + cel0 ns 2 % 5, 1 + cel0 ns 2 / 5 % 5] := by rw [hpre]; simp
      simp only [List.mem_cons, List.not_mem_nil, or_false] at this
      rcases this with rfl | rfl <;> omega
    have hpl : pre.length ≤ 1 := by
      have := congrArg List.length hpre
      rw [List.length_append, List.length_cons] at this
      simp at this
      omega
    unfold rd__law_drawn_b0
    conv => whnf
    refine ⟨by omega, le_line (by rw [upto_len]; omega), ?_⟩
    refine lc_ints (Bt 1048576) _ (fun d hd acc K2 k => ?_) fun L hL hP => ?_
    · obtain ⟨j, rfl, j0, j1⟩ := rng_mem hd
      have c1 := cel0_bt (k := a + j) hb (by omega) (by omega)
      walk_at "go"
      exact k _ c1
    rw [upto_len] at hL
    conv => whnf
    refine ⟨le_line (by rw [List.length_map, List.length_zipIdx, List.length_map]; omega), ?_⟩
    refine lc_ints (fun v => 0 ≤ v ∧ v < p ^ N.toNat) _ (fun d hd acc K2 k => ?_) fun M hM hP2 => ?_
    · obtain ⟨⟨x, j⟩, hm, rfl⟩ := List.mem_map.1 hd
      obtain ⟨hj, hx⟩ := List.mem_zipIdx' hm
      rw [List.length_map] at hj
      rw [List.getElem_map] at hx
      obtain ⟨c, hc, rfl⟩ : ∃ c, c ∈ L ∧ x = .int c := ⟨L[j], List.getElem_mem hj, hx⟩
      have bc := hP c hc
      have bj : Bt 64 (j : Int) := Bt.num (by omega)
      have v0 := Int.emod_nonneg (c * c * (10 ^ (7 : Int).toNat + 19 + (j : Int))) (show p ^ N.toNat ≠ 0 by omega)
      have v1 := Int.emod_lt_of_pos (c * c * (10 ^ (7 : Int).toNat + 19 + (j : Int))) W0
      have k := k _ ⟨v0, v1⟩
      walk_at "go"
    rw [List.length_map, List.length_zipIdx, List.length_map] at hM
    have dr : Dr p N.toNat (M ++ [1]) := ⟨by rw [List.length_append]; show 2 ≤ M.length + 1; omega, by rw [List.length_append]; show M.length + 1 ≤ 6; omega, List.getLast?_concat, fun z hz => by
      rcases List.mem_append.1 hz with h | h
      · exact hP2 z h
      · rw [List.mem_singleton.1 h]; omega⟩
    have eM : M.map PyData.int ++ [PyData.int 1] = (M ++ [1]).map .int := by simp
    conv => whnf
    refine ⟨⟨rfl, rfl⟩, le_line (by simp; omega), ?_⟩
    rw [eM]
    conv => whnf
    refine ⟨lt_line (by rw [List.length_map]; omega), ?_⟩
    conv => whnf
    have eE : Ls.map emL ++ [emL (M ++ [1])] = (Ls ++ [M ++ [1]]).map emL := by simp
    have hK4 := hK [.im (.list (ns.map .int)), .im (.int p), .im (.int N), .im (.int (p ^ N.toNat)), .im (.int (cel0 ns 2)), .im (.list [.int (1 + cel0 ns 2 % 5), .int (1 + cel0 ns 2 / 5 % 5)]), .im (.int (a + s)), .ow (.ls ((Ls ++ [M ++ [1]]).map emL)), .im (.int s), .im (.list (L.map .int)), x10, x11] ⟨Ls ++ [M ++ [1]], a + s, _, _, _, _, by simp [hl], fun G hG => by
      rcases List.mem_append.1 hG with h | h
      · exact hLs G h
      · rw [List.mem_singleton.1 h]; exact dr, by omega, by rw [List.length_append]; simp; omega, rfl⟩
    rw [← eE] at hK4
    exact hK4
  · rintro ρ ⟨Ls, a, x8, x9, x10, x11, hl, hLs, a0, a1, rfl⟩
    match Ls, hl, hLs with
    | [G, H], _, hLs => exact q G H (hLs G (by simp)) (hLs H (by simp))

/-! _law_near -/
abbrev N__law_near : List Str := ["script", "p", "G", "start", "many", "k"]
def rd__law_near : RC := rSeq (rSet 4 (rLc (rRng1 (rOp gSub (rFn1 gLen (rVar 2)) (rC (.int 1)))) (.nm 5) (rYes) (rCall sp__law_cell_at (rCons (rVar 0) (rCons (rOp gAdd (rVar 3) (rVar 5)) (rNil)))) [5])) (rSeq (rFz 4) (rSeq (rIf (rCmpT eqP (rOp gMod (rOp gDiv (rCall sp__law_cell_at (rCons (rVar 0) (rCons (rC (.int 2)) (rNil)))) (rC (.int 25))) (rC (.int 4))) (rC (.int 1))) (rSeq (rSet 4 (rOp gMul (rLst (rCons (rC (.int 0)) (rNil))) (rFn1 gLen (rVar 4)))) (rSeq (rFz 4) (rSkip))) (rSkip)) (rRet (rOp gAdd (rLc (rRng1 (rFn1 gLen (rVar 4))) (.nm 5) (rYes) (rOp gAdd (rOp gMod (rOp gIx (rVar 2) (rVar 5)) (rVar 1)) (rOp gMul (rOp gMul (rOp gSub (rOp gMod (rOp gIx (rVar 4) (rVar 5)) (rC (.int 7))) (rC (.int 3))) (rVar 1)) (rFn1 gInt (rCmp neP (rOp gIx (rVar 4) (rVar 5)) (rC (.int 0)))))) [5]) (rLst (rCons (rC (.int 1)) (rNil)))))))
def sp__law_near : PSp := fun ds Q _ => ∃ (ns : List Int) (p s : Int) (G : List Int), ds = [.list (ns.map .int), .int p, .list (G.map .int), .int s] ∧ (∀ z ∈ ns, Bt 1048576 z) ∧ Pm p ∧ (0 ≤ s ∧ s ≤ 100) ∧ (2 ≤ G.length ∧ G.length ≤ 6) ∧ (∀ z ∈ G, Bt 430 z) ∧ G.getLast? = some 1 ∧
  ∀ g : List Int, g.length = G.length → g.getLast? = some 1 → (∀ z ∈ g, Bt 64 z) → Cg p g G → Q (.ow (.ls (g.map .int)))
theorem len__law_near : ∀ ds Q E, sp__law_near ds Q E → ds.length = (["script", "p", "G", "start"] : List Str).length := by
  rintro ds Q E ⟨ns, s, m, G, rfl, _⟩; rfl
theorem co_map_range {f : Nat → Int} {n i : Nat} (h : i < n) (t : List Int) : co ((List.range n).map f ++ t) i = f i := by
  unfold co
  rw [List.getD_eq_getElem?_getD, List.getElem?_append_left (by rw [List.length_map, List.length_range]; exact h), List.getElem?_map, List.getElem?_range h]
  rfl
theorem pure__law_near : ∀ ds Q E, sp__law_near ds Q E → rd__law_near (dEnds Q E) (start0 N__law_near ds) := by
  rintro ds Q E ⟨ns, p, s, G, rfl, hb, hp, ⟨s0, s1⟩, ⟨g0, g1⟩, bG, tG, q⟩
  have p0 := hp.lo
  have p1 := hp.hi
  have llG : (G.map PyData.int).length = G.length := List.length_map _
  show rd__law_near (dEnds Q E) [.im (.list (ns.map .int)), .im (.int p), .im (.list (G.map .int)), .im (.int s), .un, .un]
  unfold rd__law_near
  conv => whnf
  rw [llG]
  refine ⟨by omega, le_line (by rw [upto_len]; omega), ?_⟩
  refine lc_ints (Bt 1048576) _ (fun d hd acc K2 k => ?_) fun L hL hP => ?_
  · obtain ⟨j, rfl, j0, j1⟩ := rng_mem hd
    have c1 := cel0_bt (k := s + j) hb (by omega) (by omega)
    walk_at "go"
    exact k _ c1
  rw [upto_len] at hL
  have c2 := cel0_bt (k := 2) hb (by omega) (by omega)
  walk_at "go"
  refine if_rest (fun ρ' => ∃ (M : List Int) (x5 : PV), M.length = L.length ∧ (∀ z ∈ M, Bt 1048576 z) ∧ ρ' = [.im (.list (ns.map .int)), .im (.int p), .im (.list (G.map .int)), .im (.int s), .im (.list (M.map .int)), x5]) (fun N hN => ?_) ?_
  · refine ifD (fun z => ?_) (fun z => ?_)
    · conv => whnf
      rw [List.length_map, Int.toNat_natCast]
      refine ⟨⟨by omega, by omega, le_line (by show 1 * L.length ≤ 1000; omega)⟩, ?_⟩
      rw [flat_rep L.length 0]
      exact hN _ ⟨List.replicate L.length 0, _, by simp, fun z hz => by rw [List.eq_of_mem_replicate hz]; exact (Bt.num (n := 1) (by decide)).mono (by decide), rfl⟩
    · exact hN _ ⟨L, _, rfl, hP, rfl⟩
  rintro ρ' ⟨M, x5, hM, bM, rfl⟩
  have llM : (M.map PyData.int).length = M.length := List.length_map _
  conv => whnf
  rw [llM, Int.toNat_natCast]
  refine ⟨by omega, ?_⟩
  conv => whnf
  refine ⟨le_line (by rw [upto_len]; omega), ?_⟩
  have hM2 : M.length + 1 = G.length := by omega
  refine lc_uptoM _ _ (fun i => PyData.int (co G i % p + (co M i % 7 - 3) * p * (if (!decide (co M i = 0)) = true then 1 else 0))) (fun i hi acc K k => ?_) ?_
  · have hg : G[i]? = some (co G i) := by unfold co; rw [List.getD_eq_getElem?_getD, List.getElem?_eq_getElem (by omega)]; rfl
    have hm : M[i]? = some (co M i) := by unfold co; rw [List.getD_eq_getElem?_getD, List.getElem?_eq_getElem hi]; rfl
    have aG : L2.atI (G.map PyData.int) (i : Int) = some (.int (co G i)) := by
      unfold L2.atI; rw [ixN_some (by omega) (by rw [llG]; omega)]; show (G.map PyData.int)[(i : Int).toNat]? = _; rw [Int.toNat_natCast, List.getElem?_map, hg]; rfl
    have aM : L2.atI (M.map PyData.int) (i : Int) = some (.int (co M i)) := by
      unfold L2.atI; rw [ixN_some (by omega) (by rw [llM]; omega)]; show (M.map PyData.int)[(i : Int).toNat]? = _; rw [Int.toNat_natCast, List.getElem?_map, hm]; rfl
    conv => whnf
    refine ifB1 rfl ?_
    conv => whnf
    refine ⟨_, aG, ?_⟩
    conv => whnf
    refine ⟨by omega, ?_⟩
    conv => whnf
    refine ⟨_, aM, ?_⟩
    conv => whnf
    refine ⟨by decide, ?_⟩
    have bm : Bt 64 (co M i % 7 - 3) := Bt.num (by omega)
    have bp : Bt 64 p := Bt.num (by omega)
    walk_at "go"
    conv => whnf
    refine ⟨_, aM, ?_⟩
    conv => whnf
    have bi : Bt 64 (if (!decide (co M i = 0)) = true then (1 : Int) else 0) := Bt.num (by split <;> omega)
    have bP : Bt 200 ((co M i % 7 - 3) * p) := (bm.mul bp).mono (by decide)
    refine ⟨by walk_at "side", ?_⟩
    exact k
  have e1 : (List.range M.length).map (fun i => PyData.int (co G i % p + (co M i % 7 - 3) * p * (if (!decide (co M i = 0)) = true then 1 else 0))) = ((List.range M.length).map fun i => co G i % p + (co M i % 7 - 3) * p * (if (!decide (co M i = 0)) = true then 1 else 0)).map .int := by rw [List.map_map]; rfl
  have tb : ∀ i, -3 * 97 ≤ (co M i % 7 - 3) * p * (if (!decide (co M i = 0)) = true then 1 else 0) ∧ (co M i % 7 - 3) * p * (if (!decide (co M i = 0)) = true then 1 else 0) ≤ 3 * 97 := fun i => by
    have h1 : -3 ≤ co M i % 7 - 3 ∧ co M i % 7 - 3 ≤ 3 := by omega
    have h2 := Int.mul_le_mul_of_nonneg_right h1.2 (show 0 ≤ p by omega)
    have h3 := Int.mul_le_mul_of_nonneg_right h1.1 (show 0 ≤ p by omega)
    split <;> omega
  have q := q (((List.range M.length).map fun i => co G i % p + (co M i % 7 - 3) * p * (if (!decide (co M i = 0)) = true then 1 else 0)) ++ [1]) (by rw [List.length_append, List.length_map, List.length_range]; exact hM2) List.getLast?_concat (fun z hz => by
    rcases List.mem_append.1 hz with h | h
    · obtain ⟨i, _, rfl⟩ := List.mem_map.1 h
      have t := tb i
      have e0 := Int.emod_nonneg (co G i) (show p ≠ 0 by omega)
      have e1 := Int.emod_lt_of_pos (co G i) (show 0 < p by omega)
      exact (Bt.num (n := 20) (by omega)).mono (by decide)
    · rw [List.mem_singleton.1 h]; exact (Bt.num (n := 1) (by decide)).mono (by decide)) (by
    have lr : ((List.range M.length).map fun i => co G i % p + (co M i % 7 - 3) * p * (if (!decide (co M i = 0)) = true then 1 else 0)).length = M.length := by rw [List.length_map, List.length_range]
    refine cg_co.2 fun i => ?_
    rcases Nat.lt_trichotomy i M.length with h | h | h
    · rw [co_map_range h]
      have e3 := Int.emod_add_mul_ediv (co G i) p
      exact ⟨(co M i % 7 - 3) * (if (!decide (co M i = 0)) = true then 1 else 0) - co G i / p, by grind⟩
    · subst h
      rw [co_app _ _ _ (by rw [lr]; exact Nat.le_refl _), lr, Nat.sub_self, show M.length = G.length - 1 by omega, co_last tG]
      exact ⟨0, by show (1 : Int) - 1 = p * 0; omega⟩
    · rw [co_out (by rw [List.length_append, lr]; show M.length + 1 ≤ i; omega), co_out (show G.length ≤ i by omega)]
      exact ⟨0, by omega⟩)
  rw [e1]
  conv => whnf
  refine ⟨⟨rfl, rfl⟩, le_line (by simp; omega), ?_⟩
  rw [List.map_append] at q
  exact q

/-! by_prime -/
abbrev N_by_prime : List Str := ["p", "f", "found", "number"]
def rd_by_prime_b0 : RC := rPop 2
def rd_by_prime_c0 : RT := rAnd (rCmpT neP (rVar 2) (rLst (rNil))) (rCmpT eqP (rOp gIx (rVar 2) (rNeg (rC (.int 1)))) (rC (.int 0)))
def rd_by_prime : RC := rSeq (rSet 2 (rLc (rIt (rVar 1)) (.nm 3) (rYes) (rOp gMod (rVar 3) (rVar 0)) [3])) (rSeq (rWhile rd_by_prime_c0 rd_by_prime_b0) (rRetV 2))
def sp_by_prime : PSp := fun ds Q _ => ∃ (p : Int) (f : List Int), ds = [.int p, .list (f.map .int)] ∧ (2 ≤ p ∧ p ≤ 1000) ∧ f.length ≤ 1000 ∧ Q (.ow (.ls ((bp p f).map .int)))
theorem len_by_prime : ∀ ds Q E, sp_by_prime ds Q E → ds.length = (["p", "f"] : List Str).length := by
  rintro ds Q E ⟨p, f, rfl, _⟩; rfl
theorem pure_by_prime : ∀ ds Q E, sp_by_prime ds Q E → rd_by_prime (dEnds Q E) (start0 N_by_prime ds) := by
  rintro ds Q E ⟨p, f, rfl, ⟨p0, p1⟩, hl, q⟩
  show rd_by_prime (dEnds Q E) [.im (.int p), .im (.list (f.map .int)), .un, .un]
  unfold rd_by_prime
  have llf : (f.map PyData.int).length = f.length := List.length_map _
  walk_at "go"
  refine lc_mapI f (fun z => z % p) ?_ ?_
  · intro z hz acc K k
    walk_at "go"
  walk_at "go"
  refine rWhile_ind (fun n ρ => ∃ L : List Int, cut L = bp p f ∧ L.length ≤ 1000 ∧ n = L.length ∧ ρ = [.im (.int p), .im (.list (f.map .int)), .ow (.ls (L.map .int)), .un]) _ ⟨f.map (fun z => z % p), rfl, by simp; exact hl, rfl, rfl⟩ ?_
  rintro n ρ K ⟨L, hL, lL, rfl, rfl⟩ hK
  unfold rd_by_prime_c0
  conv => whnf
  refine ⟨shaped_lints _, shaped_lints [], ?_⟩
  rw [show PyData.eqv (PV.lv (L.map .int)).data (PV.ow (.ls [])).data = decide (L = []) from eqv_lints L []]
  rcases List.eq_nil_or_concat L with e | ⟨M, z, e⟩
  · subst e
    conv => whnf
    refine ifB0 rfl ?_
    refine ifB0 rfl ?_
    rw [← hL] at q
    exact q
  · rw [List.concat_eq_append] at e
    subst e
    have em : (M ++ [z]).map PyData.int = M.map .int ++ [.int z] := by simp
    rw [em]
    conv => whnf
    refine ifB1 (by simp) ?_
    conv => whnf
    refine ⟨_, at_back1, ?_⟩
    conv => whnf
    refine ifD (fun h => ?_) (fun h => ?_)
    · subst h
      conv => whnf
      refine ⟨by simp, ?_⟩
      rw [dropLast_snoc]
      rw [cut_snoc0] at hL
      refine hK _ _ (by simp) ⟨M, hL, by simp at lL; omega, rfl, rfl⟩
    · rw [cut_snoc h] at hL
      rw [← hL, em] at q
      exact q

/-! poly_less -/
abbrev N_poly_less : List Str := ["one", "other", "many", "first", "then", "k"]
def rd_poly_less : RC := rSeq (rSet 2 (rOp gMax (rFn1 gLen (rVar 0)) (rFn1 gLen (rVar 1)))) (rSeq (rSet 3 (rOp gAdd (rFn1 gList (rVar 0)) (rOp gMul (rLst (rCons (rC (.int 0)) (rNil))) (rOp gSub (rVar 2) (rFn1 gLen (rVar 0)))))) (rSeq (rFz 3) (rSeq (rSet 4 (rOp gAdd (rFn1 gList (rVar 1)) (rOp gMul (rLst (rCons (rC (.int 0)) (rNil))) (rOp gSub (rVar 2) (rFn1 gLen (rVar 1)))))) (rSeq (rFz 4) (rRet (rLc (rRng1 (rVar 2)) (.nm 5) (rYes) (rOp gSub (rOp gIx (rVar 3) (rVar 5)) (rOp gIx (rVar 4) (rVar 5))) [5]))))))
theorem list_co (L : List Int) : L = (List.range L.length).map (co L) := by
  refine List.ext_getElem (by simp) fun i h1 h2 => ?_
  rw [List.getElem_map, List.getElem_range]
  unfold co
  rw [List.getD_eq_getElem?_getD, List.getElem?_eq_getElem h1]
  rfl
theorem at_co {L : List Int} {m k : Nat} (h : k < L.length + m) : L2.atI (L.map PyData.int ++ List.replicate m (.int 0)) (k : Int) = some (.int (co L k)) := by
  unfold L2.atI
  rw [ixN_some (by omega) (by simp; omega)]
  show (L.map PyData.int ++ List.replicate m (.int 0))[(k : Int).toNat]? = _
  rw [Int.toNat_natCast]
  unfold co
  rw [List.getD_eq_getElem?_getD]
  by_cases hk : k < L.length
  · rw [List.getElem?_append_left (by simpa using hk), List.getElem?_map, List.getElem?_eq_getElem hk]; rfl
  · rw [List.getElem?_append_right (by simp; omega), List.getElem?_eq_none (Nat.le_of_not_lt hk), List.getElem?_replicate, if_pos (by simp; omega)]; rfl
def sp_poly_less : PSp := fun ds Q _ => ∃ (f g : List Int), ds = [.list (f.map .int), .list (g.map .int)] ∧ f.length ≤ 400 ∧ g.length ≤ 400 ∧ Q (.ow (.ls ((pls f g).map .int)))
theorem len_poly_less : ∀ ds Q E, sp_poly_less ds Q E → ds.length = (["one", "other"] : List Str).length := by
  rintro ds Q E ⟨f, g, rfl, _⟩; rfl
theorem flat_rep0 (n : Nat) : (List.replicate n [PyData.int 0]).flatten = List.replicate n (.int 0) := by
  rw [flat_rep, List.map_replicate]
theorem pure_poly_less : ∀ ds Q E, sp_poly_less ds Q E → rd_poly_less (dEnds Q E) (start0 N_poly_less ds) := by
  rintro ds Q E ⟨f, g, rfl, lf, lg, q⟩
  show rd_poly_less (dEnds Q E) [.im (.list (f.map .int)), .im (.list (g.map .int)), .un, .un, .un, .un]
  unfold rd_poly_less
  have llf : (f.map PyData.int).length = f.length := List.length_map _
  have llg : (g.map PyData.int).length = g.length := List.length_map _
  conv => whnf
  rw [llf, llg]
  obtain ⟨n, hn, hn2⟩ : ∃ n : Nat, (if (g.length : Int) > f.length then (g.length : Int) else f.length) = (n : Int) ∧ n = max f.length g.length := ⟨max f.length g.length, by split <;> omega, rfl⟩
  rw [hn]
  have n1 : f.length ≤ n := by omega
  have n2 : g.length ≤ n := by omega
  have n3 : n ≤ 400 := by omega
  have q' : Q (.ow (.ls ((List.range n).map fun k => .int (co f k - co g k)))) := by
    have e : (pls f g).map PyData.int = (List.range n).map fun k => .int (co f k - co g k) := by
      rw [list_co (pls f g), List.map_map, pls_len, ← hn2]
      exact List.map_congr_left fun k _ => by show PyData.int (co (pls f g) k) = _; rw [co_pls]
    rw [← e]; exact q
  refine ⟨rfl, ?_⟩
  conv => whnf
  rw [llf]
  refine ⟨⟨by omega, by omega, le_line (by simp; omega)⟩, ?_⟩
  rw [flat_rep0, show ((n : Int) - (f.length : Int)).toNat = n - f.length by omega]
  conv => whnf
  refine ⟨⟨rfl, rfl⟩, le_line (by simp; omega), ?_⟩
  conv => whnf
  refine ⟨rfl, ?_⟩
  conv => whnf
  rw [llg]
  refine ⟨⟨by omega, by omega, le_line (by simp; omega)⟩, ?_⟩
  rw [flat_rep0, show ((n : Int) - (g.length : Int)).toNat = n - g.length by omega]
  conv => whnf
  refine ⟨⟨rfl, rfl⟩, le_line (by simp; omega), ?_⟩
  conv => whnf
  refine ⟨by omega, ?_⟩
  rw [Int.toNat_natCast]
  conv => whnf
  refine ⟨by rw [upto_len]; exact le_line (by omega), ?_⟩
  refine lc_uptoM n _ (fun k => .int (co f k - co g k)) ?_ q'
  intro i hi acc K k
  have h1 := at_co (L := f) (m := n - f.length) (k := i) (by omega)
  have h2 := at_co (L := g) (m := n - g.length) (k := i) (by omega)
  conv => whnf
  refine ifB1 rfl ?_
  conv => whnf
  refine ⟨_, h1, ?_⟩
  conv => whnf
  refine ⟨_, h2, ?_⟩
  conv => whnf
  exact k

/-! poly_product -/
abbrev N_poly_product : List Str := ["f", "g", "found", "k", "j"]
def rd_poly_product_b0 : RC := rAugIx 2 (rOp gAdd (rVar 3) (rVar 4)) (rOp gMul (rOp gIx (rVar 0) (rVar 3)) (rOp gIx (rVar 1) (rVar 4)))
def rd_poly_product_b1 : RC := rFor (rRng1 (rFn1 gLen (rVar 1))) (.nm 4) rd_poly_product_b0
def rd_poly_product : RC := rSeq (rSet 2 (rOp gMul (rLst (rCons (rC (.int 0)) (rNil))) (rOp gSub (rOp gAdd (rFn1 gLen (rVar 0)) (rFn1 gLen (rVar 1))) (rC (.int 1))))) (rSeq (rFor (rRng1 (rFn1 gLen (rVar 0))) (.nm 3) rd_poly_product_b1) (rRetV 2))
def sp_poly_product : PSp := fun ds Q _ => ∃ (f g : List Int), ds = [.list (f.map .int), .list (g.map .int)] ∧ f ≠ [] ∧ g ≠ [] ∧ f.length ≤ 40 ∧ g.length ≤ 40 ∧ (∀ z ∈ f, Bt 100000 z) ∧ (∀ z ∈ g, Bt 100000 z) ∧ Q (.ow (.ls ((pmul f g).map .int)))
theorem len_poly_product : ∀ ds Q E, sp_poly_product ds Q E → ds.length = (["f", "g"] : List Str).length := by
  rintro ds Q E ⟨f, g, rfl, _⟩; rfl
theorem pure_poly_product : ∀ ds Q E, sp_poly_product ds Q E → rd_poly_product (dEnds Q E) (start0 N_poly_product ds) := by
  rintro ds Q E ⟨f, g, rfl, f0, g0, lf, lg, bf, bg, q⟩
  show rd_poly_product (dEnds Q E) [.im (.list (f.map .int)), .im (.list (g.map .int)), .un, .un, .un]
  unfold rd_poly_product
  have hf0 : 0 < f.length := List.length_pos_iff.2 f0
  have hg0 : 0 < g.length := List.length_pos_iff.2 g0
  have llf : (f.map PyData.int).length = f.length := List.length_map _
  have llg : (g.map PyData.int).length = g.length := List.length_map _
  walk_at "go"
  conv => whnf
  first | refine ⟨⟨by omega, by omega, le_line (by simp; omega)⟩, ?_⟩ | skip
  rw [flat_rep, llf, llg, show ((f.length : Int) + (g.length : Int) - 1).toNat = f.length + g.length - 1 by omega]
  walk_at "go"
  try rw [llf]
  rw [Int.toNat_natCast, upto_rgD]
  refine forL_st (fun r ρ => ∃ (pre suf L : List Int) (x3 x4 : PV), f = pre ++ suf ∧ r = rgD pre.length suf.length ∧ L.length = f.length + g.length - 1 ∧ (∀ x, pe x L = pe x pre * pe x g) ∧ (∀ z ∈ L, Bt (200000 + 40 * pre.length) z) ∧ ρ = [.im (.list (f.map .int)), .im (.list (g.map .int)), .ow (.ls (L.map .int)), x3, x4]) ⟨[], f, List.replicate (f.length + g.length - 1) 0, .un, .un, rfl, rfl, List.length_replicate, fun x => by rw [pe_noughts]; simp [pe], fun z h => by rw [List.eq_of_mem_replicate h]; exact bt0 _, rfl⟩ ?_ ?_
  · rintro d r ρ K ⟨pre, suf, L, x3, x4, hp, hr, hL, hx, hbL, rfl⟩ hK
    obtain ⟨n, hn, rfl, rfl⟩ := rgD_cons hr
    obtain ⟨a, suf, rfl⟩ := List.exists_cons_of_length_eq_add_one hn
    have hn : n = suf.length := by simpa using hn.symm
    subst hn
    have ha : L2.atI (f.map PyData.int) (pre.length : Nat) = some (.int a) := by
      rw [hp, List.map_append, List.map_cons]
      exact atI_mid' (by simp)
    have e1 : pre.length + (suf.length + 1) = f.length := by rw [hp, List.length_append, List.length_cons]
    have ba := bf a (by rw [hp]; simp)
    clear hr
    unfold rd_poly_product_b1
    walk_at "go"
    try rw [llg]
    rw [Int.toNat_natCast, upto_rgD]
    refine forL_st (fun r ρ => ∃ (pg sg L : List Int) (x4 : PV), g = pg ++ sg ∧ r = rgD pg.length sg.length ∧ L.length = f.length + g.length - 1 ∧ (∀ x, pe x L = pe x pre * pe x g + x ^ pre.length * a * pe x pg) ∧ (∀ z ∈ L, Bt (200000 + 40 * pre.length + pg.length) z) ∧ ρ = [.im (.list (f.map .int)), .im (.list (g.map .int)), .ow (.ls (L.map .int)), .im (.int (pre.length : Nat)), x4]) ⟨[], g, L, x4, rfl, rfl, hL, fun x => by rw [hx]; simp [pe], fun z h => (hbL z h).mono (by omega), rfl⟩ ?_ ?_
    · clear hL hx hbL L x4 x3 hK
      rintro d r ρ K ⟨pg, sg, L, x4, hp2, hr, hL, hx, hbL, rfl⟩ hK
      obtain ⟨n, hn, rfl, rfl⟩ := rgD_cons hr
      obtain ⟨b, sg, rfl⟩ := List.exists_cons_of_length_eq_add_one hn
      have hn : n = sg.length := by simpa using hn.symm
      subst hn
      have hb : L2.atI (g.map PyData.int) (pg.length : Nat) = some (.int b) := by
        rw [hp2, List.map_append, List.map_cons]
        exact atI_mid' (by simp)
      have e2 : pg.length + (sg.length + 1) = g.length := by rw [hp2, List.length_append, List.length_cons]
      have bb := bg b (by rw [hp2]; simp)
      have hi : pre.length + pg.length < L.length := by omega
      obtain ⟨v, hv⟩ : ∃ v, L[pre.length + pg.length]? = some v := ⟨_, List.getElem?_eq_getElem hi⟩
      have bv := hbL v (List.mem_of_getElem? hv)
      have hat : L2.atI (L.map PyData.int) ((pre.length : Int) + (pg.length : Int)) = some (.int v) := by
        unfold L2.atI
        rw [ixN_some (by omega) (by rw [List.length_map]; omega)]
        show (L.map PyData.int)[((pre.length : Int) + (pg.length : Int)).toNat]? = _
        rw [show ((pre.length : Int) + (pg.length : Int)).toNat = pre.length + pg.length by omega, List.getElem?_map, hv]
        rfl
      clear hr
      walk_at "go"
      refine ⟨_, v, ixN_some (by omega) (by rw [List.length_map]; omega), ?_, ?_⟩
      · rw [List.getElem?_map, show ((pre.length : Int) + (pg.length : Int)).toNat = pre.length + pg.length by omega, hv]; rfl
      walk_at "go"
      refine ⟨_, ha, ?_⟩
      walk_at "go"
      refine ⟨_, hb, ?_⟩
      conv => whnf
      refine ⟨by walk_at "side", ?_⟩
      conv => whnf
      rw [map_set_int]
      refine hK _ ⟨pg ++ [b], sg, L.set ((pre.length : Int) + (pg.length : Int)).toNat (v + a * b), _, by rw [hp2, snoc_eq], by simp, by rw [List.length_set, hL], fun x => ?_, fun z h => ?_, rfl⟩
      · rw [show ((pre.length : Int) + (pg.length : Int)).toNat = pre.length + pg.length by omega, pe_set x L _ v _ hv, hx, pe_app, Int.pow_add]
        simp only [pe]
        grind
      · rw [List.length_append]
        rcases List.mem_or_eq_of_mem_set h with h | rfl
        · exact (hbL z h).mono (by simp)
        · exact (bv.add ((ba.mul bb).mono (by omega))).mono (by simp; omega)
    · rintro ρ ⟨pg, sg, L', x4', hp2, hr, hL', hx', hbL', rfl⟩
      have := rgD_nil hr
      have hs : sg = [] := by cases sg with
        | nil => rfl
        | cons _ _ => cases this
      subst hs
      rw [List.append_nil] at hp2
      subst hp2
      refine hK _ ⟨pre ++ [a], suf, L', _, _, by rw [hp, snoc_eq], by simp, hL', fun x => ?_, fun z h => (hbL' z h).mono (by simp; omega), rfl⟩
      rw [hx', pe_app]
      simp only [pe]
      grind
  · rintro ρ ⟨pre, suf, L, x3, x4, hp, hr, hL, hx, hbL, rfl⟩
    have := rgD_nil hr
    have hs : suf = [] := by cases suf with
      | nil => rfl
      | cons _ _ => cases this
    subst hs
    rw [List.append_nil] at hp
    subst hp
    rw [← pmul_of f0 g0 hL hx] at q
    walk_at "go"

/-! need_parts -/
abbrev N_need_parts : List Str := ["p", "N", "f", "g", "h"]
def rd_need_parts : RC := rSeq (rIf (rOr (rCmpT ltP (rVar 1) (rC (.int 1))) (rOr (rCmpT ltP (rFn1 gLen (rVar 3)) (rC (.int 2))) (rOr (rCmpT ltP (rFn1 gLen (rVar 4)) (rC (.int 2))) (rCmpT neP (rFn1 gLen (rVar 2)) (rOp gSub (rOp gAdd (rFn1 gLen (rVar 3)) (rFn1 gLen (rVar 4))) (rC (.int 1))))))) (rRaise .NoParts) (rSkip)) (rIf (rOr (rCmpT neP (rOp gIx (rVar 2) (rNeg (rC (.int 1)))) (rC (.int 1))) (rOr (rCmpT neP (rOp gIx (rVar 3) (rNeg (rC (.int 1)))) (rC (.int 1))) (rOr (rCmpT neP (rOp gIx (rVar 4) (rNeg (rC (.int 1)))) (rC (.int 1))) (rCmpT neP (rCall sp_by_prime (rCons (rVar 0) (rCons (rCall sp_poly_less (rCons (rVar 2) (rCons (rCall sp_poly_product (rCons (rVar 3) (rCons (rVar 4) (rNil)))) (rNil)))) (rNil)))) (rLst (rNil)))))) (rRaise .NoParts) (rSkip))
def sp_need_parts : PSp := fun ds Q E => ∃ (p N : Int) (f g h : List Int), ds = [.int p, .int N, .list (f.map .int), .list (g.map .int), .list (h.map .int)] ∧ Pm p ∧ f.length ≤ 40 ∧ g.length ≤ 40 ∧ h.length ≤ 40 ∧ (∀ z ∈ g, Bt 50000 z) ∧ (∀ z ∈ h, Bt 50000 z) ∧
  (OkP p N f g h → Q (.im .none)) ∧ (¬ OkP p N f g h → E .NoParts)
theorem len_need_parts : ∀ ds Q E, sp_need_parts ds Q E → ds.length = (["p", "N", "f", "g", "h"] : List Str).length := by
  rintro ds Q E ⟨p, N, f, g, h, rfl, _⟩; rfl
theorem last_at {L : List Int} (h : 0 < L.length) : ∃ z, L.getLast? = some z ∧ L2.atI (L.map PyData.int) (-1) = some (.int z) := by
  obtain ⟨z, hz⟩ := last_ex (f := L) (fun e => by rw [e] at h; simp at h)
  obtain ⟨r, er⟩ := List.getLast?_eq_some_iff.1 hz
  exact ⟨z, hz, by rw [er, List.map_append]; exact at_back1⟩
theorem pure_need_parts : ∀ ds Q E, sp_need_parts ds Q E → rd_need_parts (dEnds Q E) (start0 N_need_parts ds) := by
  rintro ds Q E ⟨p, N, f, g, h, rfl, hp, lf, lg, lh, bg, bh, q1, q2⟩
  have p0 := hp.lo
  have p1 := hp.hi
  show rd_need_parts (dEnds Q E) [.im (.int p), .im (.int N), .im (.list (f.map .int)), .im (.list (g.map .int)), .im (.list (h.map .int))]
  unfold rd_need_parts
  have llf : (f.map PyData.int).length = f.length := List.length_map _
  have llg : (g.map PyData.int).length = g.length := List.length_map _
  have llh : (h.map PyData.int).length = h.length := List.length_map _
  conv => whnf
  refine ifD (fun z => ?_) (fun n1 => ?_)
  · have e := q2 fun o => by have := o.n1; omega
    first | exact e | exact ifB1 rfl e
  conv => whnf
  rw [llg]
  refine ifD (fun z => ?_) (fun n2 => ?_)
  · have e := q2 fun o => by have := o.lg; omega
    first | exact e | exact ifB1 rfl e
  conv => whnf
  rw [llh]
  refine ifD (fun z => ?_) (fun n3 => ?_)
  · have e := q2 fun o => by have := o.lh; omega
    first | exact e | exact ifB1 rfl e
  conv => whnf
  rw [llf, llg, llh]
  refine ifN (fun z => ?_) (fun n4 => ?_)
  · have e := q2 fun o => by have := o.lf; omega
    first | exact e | exact ifB1 rfl e
  obtain ⟨zf, lzf, azf⟩ := last_at (L := f) (by omega)
  obtain ⟨zg, lzg, azg⟩ := last_at (L := g) (by omega)
  obtain ⟨zh, lzh, azh⟩ := last_at (L := h) (by omega)
  conv => whnf
  refine ⟨_, azf, ?_⟩
  conv => whnf
  refine ifN (fun z => ?_) (fun n5 => ?_)
  · have e := q2 fun o => by have := o.tf; rw [lzf] at this; exact z (Option.some.inj this)
    first | exact e | exact ifB1 rfl e
  conv => whnf
  refine ⟨_, azg, ?_⟩
  conv => whnf
  refine ifN (fun z => ?_) (fun n6 => ?_)
  · have e := q2 fun o => by have := o.tg; rw [lzg] at this; exact z (Option.some.inj this)
    first | exact e | exact ifB1 rfl e
  conv => whnf
  refine ⟨_, azh, ?_⟩
  conv => whnf
  refine ifN (fun z => ?_) (fun n7 => ?_)
  · have e := q2 fun o => by have := o.th; rw [lzh] at this; exact z (Option.some.inj this)
    first | exact e | exact ifB1 rfl e
  subst n5 n6 n7
  have g0 : g ≠ [] := fun e => by rw [e] at n2; simp at n2
  have h0 : h ≠ [] := fun e => by rw [e] at n3; simp at n3
  have bg1 : ∀ z ∈ g, Bt 100000 z := fun z hz => (bg z hz).mono (by decide)
  have bh1 : ∀ z ∈ h, Bt 100000 z := fun z hz => (bh z hz).mono (by decide)
  have lgh := pmul_len g h g0 h0
  have lpl := pls_len f (pmul g h)
  have q1 : Cg p f (pmul g h) → Q (.im .none) := fun e => q1 ⟨by omega, by omega, by omega, by omega, lzf, lzg, lzh, e⟩
  have q2 : ¬ Cg p f (pmul g h) → E .NoParts := fun e => q2 fun o => e o.pr
  rw [cg_all, ← bp_nil] at q1 q2
  walk_at "go"
  rw [show PyData.eqv (PV.ow (Oc.ls ((bp p (pls f (pmul g h))).map .int))).data (PV.ow (Oc.ls [])).data = decide (bp p (pls f (pmul g h)) = []) from eqv_lints _ []]
  refine ifN (fun z => ?_) (fun z => ?_)
  · have q := q2 z
    conv => whnf
    exact q
  · have q := q1 z
    conv => whnf
    exact q

/-! power_of -/
abbrev N_power_of : List Str := ["p", "e", "found", "k"]
def rd_power_of_b0 : RC := rAugMul 2 (rVar 0)
def rd_power_of : RC := rSeq (rSet 2 (rC (.int 1))) (rSeq (rFor (rRng1 (rVar 1)) (.nm 3) rd_power_of_b0) (rRetV 2))
def sp_power_of : PSp := fun ds Q _ => ∃ p e : Int, ds = [.int p, .int e] ∧ (0 ≤ p ∧ p ≤ 1000 ∧ 0 ≤ e ∧ e ≤ 100000) ∧ Q (.im (.int (p ^ e.toNat)))
theorem len_power_of : ∀ ds Q E, sp_power_of ds Q E → ds.length = (["p", "e"] : List Str).length := by
  rintro ds Q E ⟨p, e, rfl, _⟩; rfl
theorem pure_power_of : ∀ ds Q E, sp_power_of ds Q E → rd_power_of (dEnds Q E) (start0 N_power_of ds) := by
  rintro ds Q E ⟨p, e, rfl, ⟨h0, h1, hz, h2⟩, q⟩
  show rd_power_of (dEnds Q E) [.im (.int p), .im (.int e), .un, .un]
  unfold rd_power_of
  walk_at "go"
  refine forL_ind (fun r ρ => ∃ i x, i + r.length = e.toNat ∧ ρ = [.im (.int p), .im (.int e), .im (.int (p ^ i)), x]) ?_ ?_ _ _ ⟨0, .un, by rw [upto_len]; omega, by rw [Int.pow_zero] <;> rfl⟩
  · rintro ρ ⟨i, x, hi, rfl⟩
    have e1 : i = e.toNat := by simpa using hi
    subst e1
    walk_at "go"
  · rintro d r ρ K ⟨i, x, hi, rfl⟩ hK
    rw [List.length_cons] at hi
    have b1 := (Bt.num (n := 10) (x := p) (by omega)).pow (by decide) i
    have b2 := Bt.num (n := 10) (x := p) (by omega)
    conv => whnf
    refine ⟨b1.ok b2 (by omega), ?_⟩
    exact hK _ ⟨i + 1, _, by omega, by rw [Int.pow_succ]; rfl⟩

/-! inverse_of -/
abbrev N_inverse_of : List Str := ["p", "e", "x", "whole", "high", "low", "before", "found", "times"]
def rd_inverse_of_b0 : RC := rSeq (rSet 8 (rOp gDiv (rVar 4) (rVar 5))) (rSeq (rPar 4 5 (rVar 5) (rOp gSub (rVar 4) (rOp gMul (rVar 8) (rVar 5)))) (rPar 6 7 (rVar 7) (rOp gSub (rVar 6) (rOp gMul (rVar 8) (rVar 7)))))
def rd_inverse_of_c0 : RT := rCmpT gtP (rVar 5) (rC (.int 1))
def rd_inverse_of : RC := rSeq (rIf (rCmpT eqP (rVar 1) (rC (.int 0))) (rRet (rC (.int 0))) (rSkip)) (rSeq (rIf (rCmpT eqP (rOp gMod (rVar 2) (rVar 0)) (rC (.int 0))) (rRaise .NoInverse) (rSkip)) (rSeq (rSet 3 (rCall sp_power_of (rCons (rVar 0) (rCons (rVar 1) (rNil))))) (rSeq (rFz 3) (rSeq (rSet 4 (rVar 3)) (rSeq (rSet 5 (rOp gMod (rVar 2) (rVar 3))) (rSeq (rSet 6 (rC (.int 0))) (rSeq (rSet 7 (rC (.int 1))) (rSeq (rWhile rd_inverse_of_c0 rd_inverse_of_b0) (rRet (rOp gMod (rVar 7) (rVar 3)))))))))))
def sp_inverse_of : PSp := fun ds Q E => ∃ p e x : Int, ds = [.int p, .int e, .int x] ∧ (Pm p ∧ 0 ≤ e ∧ e ≤ 1000) ∧ (e = 0 → Q (.im (.int 0))) ∧ (¬ e = 0 → (x % p = 0 → E .NoInverse) ∧ (¬ x % p = 0 → ∀ r, IsInv p x e.toNat r → Q (.im (.int r))))
theorem len_inverse_of : ∀ ds Q E, sp_inverse_of ds Q E → ds.length = (["p", "e", "x"] : List Str).length := by
  rintro ds Q E ⟨p, e, x, rfl, _⟩; rfl
theorem pure_inverse_of : ∀ ds Q E, sp_inverse_of ds Q E → rd_inverse_of (dEnds Q E) (start0 N_inverse_of ds) := by
  rintro ds Q E ⟨p, e, x, rfl, ⟨hp, h0, h1⟩, q0, q1⟩
  have p0 := hp.lo
  have p1 := hp.hi
  show rd_inverse_of (dEnds Q E) [.im (.int p), .im (.int e), .im (.int x), .un, .un, .un, .un, .un, .un]
  unfold rd_inverse_of
  walk_at "go"
  conv => whnf
  refine ifD (fun z => ?_) (fun z => ?_)
  · conv => whnf
    exact q0 z
  obtain ⟨q1, q2⟩ := q1 z
  walk_at "go"
  conv => whnf
  refine ifD (fun z => ?_) (fun z => ?_)
  · conv => whnf
    exact q1 z
  have q2 := q2 z
  have bW : Bt 7001 (p ^ e.toNat) := Bt.pp _ (by omega) (by omega)
  have W2 : 2 ≤ p ^ e.toNat := pow_two_le p0 (by omega)
  have W0 : 0 < p ^ e.toNat := by omega
  walk_at "go"
  refine rWhile_ind (fun n ρ => ∃ high low before found t, Eu (p ^ e.toNat) x high low before found ∧ Cop high low ∧ 1 ≤ low ∧ n = low.toNat ∧ ρ = [.im (.int p), .im (.int e), .im (.int x), .im (.int (p ^ e.toNat)), .im (.int high), .im (.int low), .im (.int before), .im (.int found), t]) (x % p ^ e.toNat).toNat ⟨_, _, _, _, _, Eu.start W0, hp.cop_start z, (hp.cop_start z).low_pos W2 (Int.emod_nonneg _ (by omega)), rfl, rfl⟩ ?_
  rintro n ρ K ⟨high, low, before, found, t, eu, co, lo, rfl, rfl⟩ hK
  walk_at "go"
  conv => whnf
  have hl := eu.lh
  have hW := eu.hW
  have bl : Bt 7001 low := bW.le (by omega) (by omega)
  have bh : Bt 7001 high := bW.le (by omega) (by omega)
  have bf : Bt 7001 found := bW.of_le eu.fle
  have bt : Bt 7001 (high / low) := bh.le (div_le_high (by omega) hl).1 (div_le_high (by omega) hl).2
  refine ifD (fun y => ?_) (fun y => ?_)
  · walk_at "go"
    have s := eu.step (by omega)
    have c := co.step (high / low)
    have l1 : 1 ≤ high - high / low * low := by
      rcases Int.lt_or_eq_of_le s.l0 with h | h
      · omega
      · exact (dvd_one_of_big (by omega) (c low (Int.dvd_refl _) (by rw [← h]; exact Int.dvd_zero _))).elim
    refine hK _ _ ?_ ⟨_, _, _, _, _, s, c, l1, rfl, rfl⟩
    have := s.lh
    omega
  · walk_at "go"
    have l1 : low = 1 := by omega
    refine q2 _ ⟨Int.emod_nonneg _ (by omega), Int.emod_lt_of_pos _ W0, ?_⟩
    have ha := eu.a
    rw [l1] at ha
    obtain ⟨c, hc⟩ := ha
    have := Int.emod_add_mul_ediv found (p ^ e.toNat)
    exact ⟨c - found / p ^ e.toNat * x, by grind⟩

/-! poly_parted -/
abbrev N_poly_parted : List Str := ["p", "f", "g", "rest", "turned", "often", "by", "at", "number"]
def rd_poly_parted_b0 : RC := rSeq (rSet 6 (rOp gMod (rOp gMul (rOp gIx (rVar 3) (rNeg (rC (.int 1)))) (rVar 4)) (rVar 0))) (rSeq (rSet 7 (rOp gSub (rFn1 gLen (rVar 3)) (rFn1 gLen (rVar 2)))) (rSeq (rSetIx 5 (rVar 6) (rVar 7)) (rSeq (rSet 3 (rCall sp_by_prime (rCons (rVar 0) (rCons (rCall sp_poly_less (rCons (rVar 3) (rCons (rOp gAdd (rOp gMul (rLst (rCons (rC (.int 0)) (rNil))) (rVar 7)) (rLc (rIt (rVar 2)) (.nm 8) (rYes) (rOp gMul (rVar 6) (rVar 8)) [8])) (rNil)))) (rNil))))) (rSeq (rFz 3) (rSkip)))))
def rd_poly_parted_c0 : RT := rCmpT geP (rFn1 gLen (rVar 3)) (rFn1 gLen (rVar 2))
def rd_poly_parted : RC := rSeq (rSet 3 (rCall sp_by_prime (rCons (rVar 0) (rCons (rVar 1) (rNil))))) (rSeq (rFz 3) (rSeq (rSet 4 (rCall sp_inverse_of (rCons (rVar 0) (rCons (rC (.int 1)) (rCons (rOp gIx (rVar 2) (rNeg (rC (.int 1)))) (rNil)))))) (rSeq (rFz 4) (rSeq (rSet 5 (rOp gMul (rLst (rCons (rC (.int 0)) (rNil))) (rOp gMax (rOp gAdd (rOp gSub (rFn1 gLen (rVar 3)) (rFn1 gLen (rVar 2))) (rC (.int 1))) (rC (.int 0))))) (rSeq (rWhile rd_poly_parted_c0 rd_poly_parted_b0) (rSeq (rFz 5) (rSeq (rFz 5) (rRet (rTup (rCons (rVar 5) (rCons (rVar 3) (rNil))))))))))))
theorem flat_rep1 (n : Nat) : (List.replicate n [PyData.int 0]).flatten = (List.replicate n (0 : Int)).map .int := flat_rep n 0
def sp_poly_parted : PSp := fun ds Q _ => ∃ (p c : Int) (f g : List Int), ds = [.int p, .list (f.map .int), .list (g.map .int)] ∧ Pm p ∧ f.length ≤ 200 ∧ g.length ≤ 200 ∧ (∀ z ∈ g, Bt 50000 z) ∧ g.getLast? = some c ∧ c % p ≠ 0 ∧ ∀ o r, Dv p f g o r → Q (.im (.tuple [.list (o.map .int), .list (r.map .int)]))
theorem len_poly_parted : ∀ ds Q E, sp_poly_parted ds Q E → ds.length = (["p", "f", "g"] : List Str).length := by
  rintro ds Q E ⟨p, c, f, g, rfl, _⟩; rfl
theorem pure_poly_parted : ∀ ds Q E, sp_poly_parted ds Q E → rd_poly_parted (dEnds Q E) (start0 N_poly_parted ds) := by
  rintro ds Q E ⟨p, c, f, g, rfl, hp, lf, lg, bg, gl, hc, q⟩
  have p0 := hp.lo
  have p1 := hp.hi
  show rd_poly_parted (dEnds Q E) [.im (.int p), .im (.list (f.map .int)), .im (.list (g.map .int)), .un, .un, .un, .un, .un, .un]
  unfold rd_poly_parted
  have llg : (g.map PyData.int).length = g.length := List.length_map _
  have lb := bp_len p f
  obtain ⟨g', eg⟩ := List.getLast?_eq_some_iff.1 gl
  have glA : L2.atI (g.map PyData.int) (-1) = some (.int c) := by rw [eg, List.map_append]; exact at_back1
  have lgp : 1 ≤ g.length := by rw [eg]; simp
  walk_at "go"
  refine ⟨_, glA, ?_⟩
  walk_at "go"
  rintro t ⟨t0, t1, t2⟩
  rw [show (Int.toNat 1) = 1 from rfl, Int.pow_one] at t1 t2
  generalize hn : (bp p f).length + 1 - g.length = n
  have hn2 : (if (0 : Int) > ((bp p f).length : Int) - g.length + 1 then (0 : Int) else ((bp p f).length : Int) - g.length + 1).toNat = n := by split <;> omega
  have llb : ((bp p f).map PyData.int).length = (bp p f).length := List.length_map _
  conv => whnf
  rw [llb, llg]
  rw [hn2]
  refine ⟨⟨by split <;> omega, by split <;> omega, le_line (by simp; omega)⟩, ?_⟩
  rw [flat_rep1]
  conv => whnf
  refine rWhile_ind (fun n ρ => ∃ (o r : List Int) (x6 x7 : PV), DvI p f g o r ∧ n = r.length ∧ ρ = [.im (.int p), .im (.list (f.map .int)), .im (.list (g.map .int)), .im (.list (r.map .int)), .im (.int t), .ow (.ls (o.map .int)), x6, x7, .un]) _ ⟨_, bp p f, _, _, by have := dv_start (p := p) (f := f) (g := g) (by omega); rw [hn] at this; exact this, rfl, rfl⟩ ?_
  rintro n' ρ K ⟨o, r, x6, x7, dv, rfl, rfl⟩ hK
  have llr : (r.map PyData.int).length = r.length := List.length_map _
  have llo : (o.map PyData.int).length = o.length := List.length_map _
  have dle := dv.le
  have dlen := dv.len
  unfold rd_poly_parted_c0
  conv => whnf
  rw [llr, llg]
  refine ifD (fun z => ?_) (fun z => ?_)
  · have rne : r ≠ [] := fun e => by
      have : r.length = 0 := by rw [e]; rfl
      omega
    obtain ⟨z1, ez⟩ := last_ex rne
    obtain ⟨r', er⟩ := List.getLast?_eq_some_iff.1 ez
    have rlA : L2.atI (r.map PyData.int) (-1) = some (.int z1) := by rw [er, List.map_append]; exact at_back1
    have zr := dv.nr.rng z1 (List.mem_of_getLast? ez)
    obtain ⟨s1, s2, s3⟩ := dv.step (by omega) (by omega) gl t2 ez
    have b0 := Int.emod_nonneg (z1 * t) (show p ≠ 0 by omega)
    have b1 := Int.emod_lt_of_pos (z1 * t) (show 0 < p by omega)
    have bz : Bt 64 z1 := Bt.num (by omega)
    have bt : Bt 64 t := Bt.num (by omega)
    unfold rd_poly_parted_b0
    conv => whnf
    refine ⟨_, rlA, ?_⟩
    walk_at "go"
    conv => whnf
    rw [llr, llg]
    conv => whnf
    refine ⟨_, ixN_some (by omega) (by rw [llo]; omega), ?_⟩
    rw [map_set_int, show ((r.length : Int) - g.length).toNat = r.length - g.length by omega]
    generalize hby : z1 * t % p = b at *
    conv => whnf
    refine ⟨⟨by omega, by omega, le_line (by simp; omega)⟩, ?_⟩
    rw [flat_rep1, show ((r.length : Int) - g.length).toNat = r.length - g.length by omega]
    conv => whnf
    refine ⟨le_line (by rw [llg]; omega), ?_⟩
    refine lc_mapI g (fun z => b * z) ?_ ?_
    · intro z hz acc K2 k2
      have bz := bg z hz
      walk_at "go"
    conv => whnf
    refine ⟨⟨rfl, rfl⟩, le_line (by simp; omega), ?_⟩
    rw [show (List.replicate (r.length - g.length) (0 : Int)).map PyData.int ++ (g.map (fun z => b * z)).map PyData.int = (offS (r.length - g.length) b g).map PyData.int by unfold offS pscale; rw [List.map_append]]
    have lo : (offS (r.length - g.length) b g).length ≤ 400 := by unfold offS; rw [List.length_append, List.length_replicate, scale_len]; omega
    have lpl := pls_len r (offS (r.length - g.length) b g)
    generalize offS (r.length - g.length) b g = S at *
    have hK := hK _ _ s2 ⟨_, _, .im (.int b), .im (.int ((r.length : Int) - g.length)), s1, rfl, rfl⟩
    walk_at "go"
  · have dv := dv.done (by omega)
    have q := q o r dv
    conv => whnf
    exact q

/-! poly_times -/
abbrev N_poly_times : List Str := ["one", "other"]
def rd_poly_times : RC := rSeq (rIf (rOr (rCmpT eqP (rVar 0) (rLst (rNil))) (rCmpT eqP (rVar 1) (rLst (rNil)))) (rRet (rLst (rNil))) (rSkip)) (rRet (rCall sp_poly_product (rCons (rVar 0) (rCons (rVar 1) (rNil)))))
abbrev ptm (a b : List Int) : List Int := if a = [] ∨ b = [] then [] else pmul a b
def sp_poly_times : PSp := fun ds Q _ => ∃ (f g : List Int), ds = [.list (f.map .int), .list (g.map .int)] ∧ f.length ≤ 40 ∧ g.length ≤ 40 ∧ (∀ z ∈ f, Bt 100000 z) ∧ (∀ z ∈ g, Bt 100000 z) ∧ Q (.ow (.ls ((ptm f g).map .int)))
theorem len_poly_times : ∀ ds Q E, sp_poly_times ds Q E → ds.length = (["one", "other"] : List Str).length := by
  rintro ds Q E ⟨f, g, rfl, _⟩; rfl
theorem pure_poly_times : ∀ ds Q E, sp_poly_times ds Q E → rd_poly_times (dEnds Q E) (start0 N_poly_times ds) := by
  rintro ds Q E ⟨f, g, rfl, lf, lg, bf, bg, q⟩
  show rd_poly_times (dEnds Q E) [.im (.list (f.map .int)), .im (.list (g.map .int))]
  unfold rd_poly_times
  unfold ptm at q
  conv => whnf
  refine ⟨shaped_lints _, shaped_lints [], ?_⟩
  rw [show PyData.eqv (PV.im (.list (f.map .int))).data (PV.ow (.ls [])).data = decide (f = []) from eqv_lints f []]
  conv => whnf
  refine ifD (fun h => ?_) (fun h => ?_)
  · rw [if_pos (.inl h)] at q
    walk_at "go"
  conv => whnf
  refine ⟨shaped_lints _, shaped_lints [], ?_⟩
  rw [show PyData.eqv (PV.im (.list (g.map .int))).data (PV.ow (.ls [])).data = decide (g = []) from eqv_lints g []]
  conv => whnf
  refine ifD (fun h' => ?_) (fun h' => ?_)
  · rw [if_pos (.inr h')] at q
    walk_at "go"
  · rw [if_neg (by rintro (e | e); exact h e; exact h' e)] at q
    walk_at "go"

/-! poly_turned -/
abbrev N_poly_turned : List Str := ["p", "g", "h", "first", "then", "found", "behind", "often", "rest", "by", "number"]
def rd_poly_turned_b0 : RC := rSeq (rUnp (rCall sp_poly_parted (rCons (rVar 0) (rCons (rVar 3) (rCons (rVar 4) (rNil))))) (.tp [7, 8])) (rSeq (rPar 5 6 (rVar 6) (rCall sp_by_prime (rCons (rVar 0) (rCons (rCall sp_poly_less (rCons (rVar 5) (rCons (rCall sp_poly_times (rCons (rVar 7) (rCons (rVar 6) (rNil)))) (rNil)))) (rNil))))) (rSeq (rFz 6) (rPar 3 4 (rVar 4) (rVar 8))))
def rd_poly_turned_c0 : RT := rCmpT neP (rVar 4) (rLst (rNil))
def rd_poly_turned : RC := rSeq (rSet 3 (rCall sp_by_prime (rCons (rVar 0) (rCons (rVar 1) (rNil))))) (rSeq (rFz 3) (rSeq (rSet 4 (rOp gIx (rCall sp_poly_parted (rCons (rVar 0) (rCons (rVar 2) (rCons (rVar 3) (rNil))))) (rC (.int 1)))) (rSeq (rSet 5 (rLst (rNil))) (rSeq (rFz 5) (rSeq (rSet 6 (rLst (rCons (rC (.int 1)) (rNil)))) (rSeq (rFz 6) (rSeq (rWhile rd_poly_turned_c0 rd_poly_turned_b0) (rSeq (rIf (rCmpT gtP (rFn1 gLen (rVar 3)) (rC (.int 1))) (rRet (rC .none)) (rSkip)) (rSeq (rSet 9 (rCall sp_inverse_of (rCons (rVar 0) (rCons (rC (.int 1)) (rCons (rOp gIx (rVar 3) (rC (.int 0))) (rNil)))))) (rSeq (rFz 9) (rRet (rCall sp_by_prime (rCons (rVar 0) (rCons (rLc (rIt (rVar 5)) (.nm 10) (rYes) (rOp gMul (rVar 9) (rVar 10)) [10]) (rNil)))))))))))))))
def sp_poly_turned : PSp := fun ds Q _ => ∃ (p : Int) (g h : List Int), ds = [.int p, .list (g.map .int), .list (h.map .int)] ∧ Pm p ∧ g.length ≤ 30 ∧ h.length ≤ 30 ∧ g.getLast? = some 1 ∧
  (∀ T, Nr p T → T.length ≤ g.length + 1 → (∃ S, Cg p (padd (pmul S g) (pmul T h)) [1]) → Q (.ow (.ls (T.map .int)))) ∧ (¬ Cop2 p g h → Q (.im .none))
theorem len_poly_turned : ∀ ds Q E, sp_poly_turned ds Q E → ds.length = (["p", "g", "h"] : List Str).length := by
  rintro ds Q E ⟨p, g, h, rfl, _⟩; rfl
theorem Nr.bt {p : Int} {D : List Int} (h : Nr p D) (hp : p ≤ 97) (n : Nat) (hn : 7 ≤ n) : ∀ z ∈ D, Bt n z := fun z hz => by
  have := h.rng z hz
  exact (Bt.num (n := 7) (by omega)).mono hn
theorem Nr.last {p : Int} {D : List Int} (h : Nr p D) {z : Int} (hz : D.getLast? = some z) : z % p ≠ 0 := fun e => by
  have h1 := h.rng z (List.mem_of_getLast? hz)
  rw [Int.emod_eq_of_lt h1.1 h1.2] at e
  exact h.top z hz e
theorem ptm_len (a b : List Int) : (ptm a b).length ≤ a.length + b.length - 1 := by
  unfold ptm
  split
  · simp
  · rename_i h
    rw [pmul_len a b (fun e => h (.inl e)) (fun e => h (.inr e))]; exact Nat.le_refl _
theorem pure_poly_turned : ∀ ds Q E, sp_poly_turned ds Q E → rd_poly_turned (dEnds Q E) (start0 N_poly_turned ds) := by
  rintro ds Q E ⟨p, g, h, rfl, hp, lg, lh, gl, q1, q2⟩
  have p0 := hp.lo
  have p1 := hp.hi
  show rd_poly_turned (dEnds Q E) [.im (.int p), .im (.list (g.map .int)), .im (.list (h.map .int)), .un, .un, .un, .un, .un, .un, .un, .un]
  unfold rd_poly_turned
  have lb := bp_len p g
  have bne : bp p g ≠ [] := fun e => by
    have := allDiv_co.1 (bp_nil.1 e) (g.length - 1)
    rw [co_last gl] at this
    have := zero_of_dvd this (by decide) (by omega)
    omega
  obtain ⟨c, hc⟩ := last_ex bne
  have nb := bp_nr (p := p) (by omega) g
  have hcp := nb.last hc
  have bb := nb.bt p1 50000 (by decide)
  walk_at "go"
  intro o0 r0 D0
  have ti := ti_start p0 bne D0
  walk_at "go"
  refine rWhile_ind (fun n ρ => ∃ (A B c d : List Int) (x7 x8 : PV), TI p g h A B c d ∧ n = B.length ∧ ρ = [.im (.int p), .im (.list (g.map .int)), .im (.list (h.map .int)), .im (.list (A.map .int)), .im (.list (B.map .int)), .im (.list (c.map .int)), .im (.list (d.map .int)), x7, x8, .un, .un]) _ ⟨bp p g, r0, [], [1], _, _, ti, rfl, rfl⟩ ?_
  clear ti D0
  rintro n' ρ K ⟨A, B, c, d, x7, x8, ti, rfl, rfl⟩ hK
  have l1 := ti.l1
  have l2 := ti.l2
  have l3 := ti.l3
  have n1 := ti.n1
  have n2 := ti.n2
  unfold rd_poly_turned_c0
  conv => whnf
  refine ⟨shaped_lints _, shaped_lints [], ?_⟩
  rw [show PyData.eqv (PV.im (.list (B.map .int))).data (PV.ow (.ls [])).data = decide (B = []) from eqv_lints B []]
  conv => whnf
  refine ifN (fun z => ?_) (fun z => ?_)
  · obtain ⟨y, hy⟩ := last_ex z
    have hyp := n2.last hy
    have bB := n2.bt p1 50000 (by decide)
    unfold rd_poly_turned_b0
    walk_at "go"
    intro o r D
    have ts := ti.step p0 z D
    have hlo := D.len
    have hbA := bp_len p A
    have bo : ∀ z ∈ o, Bt 100000 z := fun z hz => by
      have := D.rng z hz
      exact (Bt.num (n := 7) (by omega)).mono (by decide)
    have bd := ti.n4.bt p1 100000 (by decide)
    have lpt := ptm_len o d
    have lpl := pls_len c (ptm o d)
    have hK := hK _ _ D.lt ⟨B, r, d, bp p (pls c (ptm o d)), .im (.list (o.map .int)), .im (.list (r.map .int)), ts, rfl, rfl⟩
    walk_at "go"
  · subst z
    conv => whnf
    have llA : (A.map PyData.int).length = A.length := List.length_map _
    rw [llA]
    refine ifD (fun z => ?_) (fun z => ?_)
    · have q := q2 (ti.no hp (by omega))
      walk_at "go"
    · have lA : 0 < A.length := List.length_pos_iff.2 ti.ne
      obtain ⟨a, rfl⟩ := List.length_eq_one_iff.1 (show A.length = 1 by omega)
      have ha := n1.last (z := a) rfl
      have e0 : L2.atI ([a].map PyData.int) 0 = some (.int a) := atI_mid' (pre := []) (r := []) rfl
      conv => whnf
      refine ⟨_, e0, ?_⟩
      walk_at "go"
      rintro b ⟨b0, b1, b2⟩
      rw [show (Int.toNat 1) = 1 from rfl, Int.pow_one] at b1 b2
      obtain ⟨S, hS⟩ := ti.yes b2
      have bb := Bt.num (n := 64) (x := b) (by omega)
      have bc := ti.n3.bt p1 50000 (by decide)
      have lT := bp_len p (pscale b c)
      rw [scale_len] at lT
      have q := q1 _ (bp_nr (by omega) (pscale b c)) (by omega) ⟨S, hS⟩
      walk_at "go"
      refine lc_mapI c (fun z => b * z) ?_ ?_
      · intro z hz acc K2 k2
        have bz := bc z hz
        walk_at "go"
      rw [show c.map (fun z => b * z) = pscale b c from rfl]
      have lsc := scale_len b c
      walk_at "go"

/-! with_more -/
abbrev N_with_more : List Str := ["f", "more", "power", "found", "k"]
def rd_with_more_b0 : RC := rAugIx 3 (rVar 4) (rOp gMul (rVar 2) (rOp gIx (rVar 1) (rVar 4)))
def rd_with_more : RC := rSeq (rSet 3 (rFn1 gList (rVar 0))) (rSeq (rFor (rRng1 (rFn1 gLen (rVar 1))) (.nm 4) rd_with_more_b0) (rRetV 3))
def sp_with_more : PSp := fun ds Q _ => ∃ (f m : List Int) (P : Int), ds = [.list (f.map .int), .list (m.map .int), .int P] ∧ m.length ≤ f.length ∧ f.length ≤ 400 ∧ Bt 100000 P ∧ (∀ z ∈ m, Bt 100000 z) ∧ Q (.ow (.ls ((padd f (pscale P m)).map .int)))
theorem len_with_more : ∀ ds Q E, sp_with_more ds Q E → ds.length = (["f", "more", "power"] : List Str).length := by
  rintro ds Q E ⟨f, m, P, rfl, _⟩; rfl
theorem pure_with_more : ∀ ds Q E, sp_with_more ds Q E → rd_with_more (dEnds Q E) (start0 N_with_more ds) := by
  rintro ds Q E ⟨f, m, P, rfl, lm, lf, bP, bm, q⟩
  show rd_with_more (dEnds Q E) [.im (.list (f.map .int)), .im (.list (m.map .int)), .im (.int P), .un, .un]
  unfold rd_with_more
  have llf : (f.map PyData.int).length = f.length := List.length_map _
  have llm : (m.map PyData.int).length = m.length := List.length_map _
  walk_at "go"
  rw [llm, Int.toNat_natCast]
  refine for_upto _ _ (fun i ρ => ∃ (L : List Int) (x4 : PV), L.length = f.length ∧ (∀ x, pe x L = pe x f + P * pe x (m.take i)) ∧ ρ = [.im (.list (f.map .int)), .im (.list (m.map .int)), .im (.int P), .ow (.ls (L.map .int)), x4]) ⟨f, _, rfl, fun x => by simp [pe], rfl⟩ ?_ ?_
  · rintro i ρ K hi ⟨L, x4, hL, hx, rfl⟩ hK
    obtain ⟨a, ha⟩ : ∃ a, m[i]? = some a := ⟨_, List.getElem?_eq_getElem hi⟩
    have ha2 : L2.atI (m.map PyData.int) (i : Int) = some (.int a) := by
      unfold L2.atI; rw [ixN_some (by omega) (by rw [llm]; omega)]; show (m.map PyData.int)[(i : Int).toNat]? = _; rw [Int.toNat_natCast, List.getElem?_map, ha]; rfl
    have ba := bm a (List.mem_of_getElem? ha)
    obtain ⟨v, hv⟩ : ∃ v, L[i]? = some v := ⟨_, List.getElem?_eq_getElem (by omega)⟩
    have hv2 : L2.atI (L.map PyData.int) (i : Int) = some (.int v) := by
      unfold L2.atI; rw [ixN_some (by omega) (by rw [List.length_map]; omega)]; show (L.map PyData.int)[(i : Int).toNat]? = _
      rw [Int.toNat_natCast, List.getElem?_map, hv]; rfl
    unfold rd_with_more_b0
    conv => whnf
    refine ⟨_, v, ixN_some (by omega) (by rw [List.length_map]; omega), ?_, ?_⟩
    · rw [List.getElem?_map, Int.toNat_natCast, hv]; rfl
    conv => whnf
    refine ⟨_, ha2, ?_⟩
    conv => whnf
    refine ⟨by walk_at "side", ?_⟩
    conv => whnf
    rw [map_set_int, Int.toNat_natCast]
    refine hK _ ⟨L.set i (v + P * a), _, by rw [List.length_set, hL], fun x => ?_, rfl⟩
    rw [pe_set x L _ v _ hv, hx, List.take_add_one, ha, Option.toList_some, pe_app, List.length_take, Nat.min_eq_left (by omega)]
    simp only [pe]
    grind
  · rintro ρ ⟨L, x4, hL, hx, rfl⟩
    rw [List.take_length] at hx
    have e : L = padd f (pscale P m) := pe_uniq (by rw [padd_len, scale_len]; omega) fun x _ => by rw [hx, pe_padd, pe_scale]
    rw [← e] at q
    walk_at "go"

/-! parts_at -/
abbrev N_parts_at : List Str := ["p", "N", "f", "g", "h", "turned", "one", "other", "k", "power", "lack", "u", "w", "number"]
def rd_parts_at_b0 : RC := rSeq (rFz 6) (rSeq (rFz 7) (rSeq (rSet 9 (rCall sp_power_of (rCons (rVar 0) (rCons (rVar 8) (rNil))))) (rSeq (rFz 9) (rSeq (rSet 10 (rLc (rIt (rCall sp_poly_less (rCons (rVar 2) (rCons (rCall sp_poly_product (rCons (rVar 6) (rCons (rVar 7) (rNil)))) (rNil))))) (.nm 13) (rYes) (rOp gDiv (rVar 13) (rVar 9)) [13])) (rSeq (rFz 10) (rSeq (rSet 11 (rOp gIx (rCall sp_poly_parted (rCons (rVar 0) (rCons (rCall sp_poly_times (rCons (rVar 5) (rCons (rOp gIx (rCall sp_poly_parted (rCons (rVar 0) (rCons (rVar 10) (rCons (rVar 6) (rNil))))) (rC (.int 1))) (rNil)))) (rCons (rVar 6) (rNil))))) (rC (.int 1)))) (rSeq (rSet 12 (rOp gIx (rCall sp_poly_parted (rCons (rVar 0) (rCons (rCall sp_poly_less (rCons (rVar 10) (rCons (rCall sp_poly_times (rCons (rVar 11) (rCons (rVar 7) (rNil)))) (rNil)))) (rCons (rVar 6) (rNil))))) (rC (.int 0)))) (rSeq (rSet 6 (rCall sp_with_more (rCons (rVar 6) (rCons (rVar 11) (rCons (rVar 9) (rNil)))))) (rSet 7 (rCall sp_with_more (rCons (rVar 7) (rCons (rVar 12) (rCons (rVar 9) (rNil))))))))))))))
def rd_parts_at : RC := rSeq (rDrop (rCall sp_need_parts (rCons (rVar 0) (rCons (rVar 1) (rCons (rVar 2) (rCons (rVar 3) (rCons (rVar 4) (rNil)))))))) (rSeq (rSet 5 (rCall sp_poly_turned (rCons (rVar 0) (rCons (rVar 3) (rCons (rVar 4) (rNil)))))) (rSeq (rFz 5) (rSeq (rIf (rCmpT isP (rVar 5) (rC .none)) (rRaise .NoParts) (rSkip)) (rSeq (rSet 6 (rLc (rIt (rVar 3)) (.nm 13) (rYes) (rOp gMod (rVar 13) (rVar 0)) [13])) (rSeq (rSet 7 (rLc (rIt (rVar 4)) (.nm 13) (rYes) (rOp gMod (rVar 13) (rVar 0)) [13])) (rSeq (rFor (rRng2 (rC (.int 1)) (rVar 1)) (.nm 8) rd_parts_at_b0) (rRetTl 6 7)))))))
def sp_parts_at : PSp := fun ds Q E => ∃ (p N : Int) (f g h : List Int), ds = [.int p, .int N, .list (f.map .int), .list (g.map .int), .list (h.map .int)] ∧ Pm p ∧ N ≤ 100 ∧ f.length ≤ 20 ∧ g.length ≤ 20 ∧ h.length ≤ 20 ∧ (∀ z ∈ f, Bt 5000 z) ∧ (∀ z ∈ g, Bt 5000 z) ∧ (∀ z ∈ h, Bt 5000 z) ∧
  (¬ OkP p N f g h → E .NoParts) ∧ (OkP p N f g h → ¬ Cop2 p g h → E .NoParts) ∧ (OkP p N f g h → Cop2 p g h → ∀ G H, Lift p f g h N.toNat G H → Q (.ow (.tl (G.map .int) (H.map .int))))
theorem len_parts_at : ∀ ds Q E, sp_parts_at ds Q E → ds.length = (["p", "N", "f", "g", "h"] : List Str).length := by
  rintro ds Q E ⟨p, N, f, g, h, rfl, _⟩; rfl
theorem Lift.bt {p : Int} {f g h G H : List Int} {k : Nat} (L : Lift p f g h k G H) (hp : Pm p) (hk : k ≤ 100) : (∀ z ∈ G, Bt 800 z) ∧ ∀ z ∈ H, Bt 800 z := by
  have p0 := hp.lo
  have p1 := hp.hi
  have b : Bt 800 (p ^ k) := Bt.pp (p := p) (e := k) 800 (by omega) (by omega)
  exact ⟨fun z hz => b.le (L.rG z hz).1 (Int.le_of_lt (L.rG z hz).2), fun z hz => b.le (L.rH z hz).1 (Int.le_of_lt (L.rH z hz).2)⟩
theorem Lift.ls {p : Int} {f g h G H : List Int} {k : Nat} (L : Lift p f g h k G H) (hp : Pm p) : (1 : Int) % p ≠ 0 := by
  have p0 := hp.lo
  rw [Int.emod_eq_of_lt (by decide) (by omega)]; decide
theorem pls_bt {a b : Nat} {F G : List Int} (hF : ∀ z ∈ F, Bt a z) (hG : ∀ z ∈ G, Bt b z) : ∀ z ∈ pls F G, Bt (max a b + 2) z := fun z hz => by
  unfold pls at hz
  refine padd_bt (b := max a b + 1) F (pscale (-1) G) (fun y hy => (hF y hy).mono (by omega)) (fun y hy => ?_) z hz
  obtain ⟨x, hx, rfl⟩ := List.mem_map.1 hy
  have := (hG x hx).neg
  exact (show Bt b (-1 * x) by rw [Int.neg_mul, Int.one_mul]; exact this).mono (by omega)
theorem ptm_pe (a b : List Int) : ∀ x, pe x (ptm a b) = pe x a * pe x b := fun x => by
  unfold ptm
  split
  · rename_i h
    rcases h with h | h <;> rw [h] <;> simp [pe]
  · exact pe_mul x a b
theorem pure_parts_at : ∀ ds Q E, sp_parts_at ds Q E → rd_parts_at (dEnds Q E) (start0 N_parts_at ds) := by
  rintro ds Q E ⟨p, N, f, g, h, rfl, hp, hN, lf, lg, lh, bf, bg, bh, q1, q2, q3⟩
  have p0 := hp.lo
  have p1 := hp.hi
  show rd_parts_at (dEnds Q E) [.im (.int p), .im (.int N), .im (.list (f.map .int)), .im (.list (g.map .int)), .im (.list (h.map .int)), .un, .un, .un, .un, .un, .un, .un, .un, .un]
  unfold rd_parts_at
  have bg1 : ∀ z ∈ g, Bt 50000 z := fun z hz => (bg z hz).mono (by decide)
  have bh1 : ∀ z ∈ h, Bt 50000 z := fun z hz => (bh z hz).mono (by decide)
  walk_at "go"
  refine ⟨fun ok => ?_, q1⟩
  have q2 := q2 ok
  have q3 := q3 ok
  have tg := ok.tg
  have n1 := ok.n1
  walk_at "go"
  refine ⟨fun T nT lT hT => ?_, fun hno => ?_⟩
  rotate_left
  · have q2 := q2 hno
    walk_at "go"
  have cop : Cop2 p g h := by obtain ⟨S, hS⟩ := hT; exact ⟨S, T, hS⟩
  have q3 := q3 cop
  have l0 := lift_start p0 ok
  walk_at "go"
  refine lc_mapI g (fun z => z % p) ?_ ?_
  · intro z hz acc K k
    walk_at "go"
  walk_at "go"
  refine lc_mapI h (fun z => z % p) ?_ ?_
  · intro z hz acc K k
    walk_at "go"
  walk_at "go"
  refine for_upto _ _ (fun i ρ => ∃ (G H : List Int) (x8 x9 x10 x11 x12 : PV), Lift p f g h (i + 1) G H ∧ ρ = [.im (.int p), .im (.int N), .im (.list (f.map .int)), .im (.list (g.map .int)), .im (.list (h.map .int)), .im (.list (T.map .int)), .ow (.ls (G.map .int)), .ow (.ls (H.map .int)), x8, x9, x10, x11, x12, .un]) ⟨_, _, _, _, _, _, _, l0, rfl⟩ ?_ ?_
  · rintro i ρ K hi ⟨G, H, x8, x9, x10, x11, x12, L, rfl⟩ hK
    obtain ⟨bG, bH⟩ := L.bt hp (by omega)
    have bG1 : ∀ z ∈ G, Bt 100000 z := fun z hz => (bG z hz).mono (by decide)
    have bH1 : ∀ z ∈ H, Bt 100000 z := fun z hz => (bH z hz).mono (by decide)
    have bG2 : ∀ z ∈ G, Bt 50000 z := fun z hz => (bG z hz).mono (by decide)
    have lG := L.lG
    have lH := L.lH
    have tG := L.tG
    have o1 := L.ls hp
    have okg := ok.lg
    have okh := ok.lh
    have G0 : G ≠ [] := fun e => by rw [e] at lG; simp at lG; omega
    have H0 : H ≠ [] := fun e => by rw [e] at lH; simp at lH; omega
    have lGH := pmul_len G H G0 H0
    have lpl := pls_len f (pmul G H)
    have bGH := pmul_bt bH G bG
    have bpl := pls_bt bf bGH
    have nn : (1 : Int) + (i : Nat) = ((i + 1 : Nat) : Int) := by omega
    unfold rd_parts_at_b0
    walk_at "go"
    rw [show (1 + (i : Int)).toNat = i + 1 by omega]
    have bP : Bt 800 (p ^ (i + 1)) := Bt.pp (p := p) (e := i + 1) 800 (by omega) (by omega)
    have pP : 0 < p ^ (i + 1) := Int.pow_pos (by omega)
    have lst := fun (q1 r1 q2 u w r3 : List Int) D1 D2 D3 => lift_step (p := p) (N := N) (f := f) (g := g) (h := h) (T := T) (G := G) (H := H) (q1 := q1) (r1 := r1) (q2 := q2) (u := u) (w := w) (r3 := r3) (k := i + 1) hp (by omega) ok L hT D1 (TR := ptm T r1) (ptm_pe T r1) D2 (UH := ptm u H) (ptm_pe u H) (ptm_len u H) D3
    have llk : (lackL (p ^ (i + 1)) f G H).length = (pls f (pmul G H)).length := by unfold lackL; rw [List.length_map]
    generalize p ^ (i + 1) = P at *
    refine lc_mapI (pls f (pmul G H)) (fun z => z / P) ?_ ?_
    · intro z hz acc K2 k2
      walk_at "go"
    rw [show (pls f (pmul G H)).map (fun z => z / P) = lackL P f G H from rfl]
    generalize lackL P f G H = lk at *
    have bT := nT.bt p1 100000 (by decide)
    walk_at "go"
    intro q1 r1 D1
    have br1 := D1.nr.bt p1 100000 (by decide)
    have lr1 := D1.lt
    have lt1 := ptm_len T r1
    walk_at "go"
    intro q2 u D2
    have bu := D2.nr.bt p1 100000 (by decide)
    have lu := D2.lt
    have lt2 := ptm_len u H
    have lp2 := pls_len lk (ptm u H)
    walk_at "go"
    intro w r3 D3
    obtain ⟨s1, s2, s3⟩ := lst q1 r1 q2 u w r3 D1 D2 D3
    have bw : ∀ z ∈ w, Bt 100000 z := fun z hz => by
      have := D3.rng z hz
      exact (Bt.num (n := 7) (by omega)).mono (by decide)
    have bP2 : Bt 100000 P := bP.mono (by decide)
    walk_at "go"
    exact hK _ ⟨_, _, _, _, _, _, _, s1, rfl⟩
  · rintro ρ ⟨G, H, x8, x9, x10, x11, x12, L, rfl⟩
    rw [show (N - 1).toNat + 1 = N.toNat by omega] at L
    have q3 := q3 G H L
    walk_at "go"

/-! _law_parts -/
abbrev N__law_parts : List Str := ["p", "N", "f", "g", "h", "found"]
def rd__law_parts : RC := rSeq (rSet 5 (rC .none)) (rSeq (rTry (rSeq (rSet 5 (rCall sp_parts_at (rCons (rVar 0) (rCons (rVar 1) (rCons (rVar 2) (rCons (rVar 3) (rCons (rVar 4) (rNil)))))))) (rSeq (rFz 5) (rSkip))) .NoParts [.NoInverse, .NoParts] (rSet 5 (rC .none))) (rRetV 5))
def sp__law_parts : PSp := fun ds Q E => ∃ (p N : Int) (f g h : List Int), ds = [.int p, .int N, .list (f.map .int), .list (g.map .int), .list (h.map .int)] ∧ Pm p ∧ N ≤ 100 ∧ f.length ≤ 20 ∧ g.length ≤ 20 ∧ h.length ≤ 20 ∧ (∀ z ∈ f, Bt 5000 z) ∧ (∀ z ∈ g, Bt 5000 z) ∧ (∀ z ∈ h, Bt 5000 z) ∧
  (¬ (OkP p N f g h ∧ Cop2 p g h) → Q (.im .none)) ∧ (OkP p N f g h → Cop2 p g h → ∀ G H, Lift p f g h N.toNat G H → Q (.ow (.tl (G.map .int) (H.map .int))))
theorem len__law_parts : ∀ ds Q E, sp__law_parts ds Q E → ds.length = (["p", "N", "f", "g", "h"] : List Str).length := by
  rintro ds Q E ⟨p, N, f, g, h, rfl, _⟩; rfl
theorem pure__law_parts : ∀ ds Q E, sp__law_parts ds Q E → rd__law_parts (dEnds Q E) (start0 N__law_parts ds) := by
  rintro ds Q E ⟨p, N, f, g, h, rfl, hp, hN, lf, lg, lh, bf, bg, bh, q1, q2⟩
  show rd__law_parts (dEnds Q E) [.im (.int p), .im (.int N), .im (.list (f.map .int)), .im (.list (g.map .int)), .im (.list (h.map .int)), .un]
  unfold rd__law_parts
  conv => whnf
  have no : ¬ (OkP p N f g h ∧ Cop2 p g h) → Xn.NoParts ∈ [Xn.NoInverse, Xn.NoParts] ∧ (subX .NoParts .NoParts = true → Q (.im .none)) ∧ (subX .NoParts .NoParts = false → E .NoParts) := fun h => ⟨by simp, fun _ => q1 h, fun e => by simp [subX] at e⟩
  refine ⟨p, N, f, g, h, rfl, hp, hN, lf, lg, lh, bf, bg, bh, fun h => ?_, fun _ h => ?_, fun ok cp G H L => ?_⟩
  · exact no fun k => h k.1
  · exact no fun k => h k.2
  · exact q2 ok cp G H L

/-! _law_prime -/
abbrev N__law_prime : List Str := ["cell", "primes"]
def rd__law_prime : RC := rSeq (rSet 1 (rLst (rCons (rC (.int 2)) (rCons (rC (.int 3)) (rCons (rC (.int 5)) (rCons (rC (.int 7)) (rCons (rC (.int 11)) (rCons (rC (.int 13)) (rCons (rC (.int 17)) (rCons (rC (.int 19)) (rCons (rC (.int 23)) (rCons (rC (.int 29)) (rCons (rC (.int 31)) (rCons (rC (.int 37)) (rCons (rC (.int 41)) (rCons (rC (.int 43)) (rCons (rC (.int 47)) (rCons (rC (.int 53)) (rCons (rC (.int 59)) (rCons (rC (.int 61)) (rCons (rC (.int 67)) (rCons (rC (.int 71)) (rCons (rC (.int 73)) (rCons (rC (.int 79)) (rCons (rC (.int 83)) (rCons (rC (.int 89)) (rCons (rC (.int 97)) (rNil)))))))))))))))))))))))))))) (rSeq (rFz 1) (rSeq (rIf (rCmpT eqP (rOp gMod (rVar 0) (rC (.int 2))) (rC (.int 0))) (rRet (rOp gIx (rVar 1) (rOp gMod (rOp gDiv (rVar 0) (rC (.int 2))) (rC (.int 4))))) (rSkip)) (rRet (rOp gIx (rVar 1) (rOp gMod (rOp gDiv (rVar 0) (rC (.int 2))) (rC (.int 25)))))))
def sp__law_prime : PSp := fun ds Q _ => ∃ c : Int, ds = [.int c] ∧ ∀ p, p ∈ primes25 → Q (.im (.int p))
theorem len__law_prime : ∀ ds Q E, sp__law_prime ds Q E → ds.length = (["cell"] : List Str).length := by
  rintro ds Q E ⟨c, rfl, _⟩; rfl
theorem pure__law_prime : ∀ ds Q E, sp__law_prime ds Q E → rd__law_prime (dEnds Q E) (start0 N__law_prime ds) := by
  rintro ds Q E ⟨c, rfl, q⟩
  show rd__law_prime (dEnds Q E) [.im (.int c), .un]
  unfold rd__law_prime
  walk_at "go"
  conv => whnf
  refine ifD (fun z => ?_) (fun z => ?_)
  · walk_at "go"
    conv => whnf
    exact at_lits (ns := primes25) (P := (· ∈ primes25)) (by omega) (by show _ < (25 : Int); omega) (fun _ h => h) q
  · walk_at "go"
    conv => whnf
    exact at_lits (ns := primes25) (P := (· ∈ primes25)) (by omega) (by show _ < (25 : Int); omega) (fun _ h => h) q

/-! _law_times -/
abbrev N__law_times : List Str := ["f", "g", "found", "k", "j"]
def rd__law_times_b0 : RC := rSetIx 2 (rOp gAdd (rOp gIx (rVar 2) (rOp gAdd (rVar 3) (rVar 4))) (rOp gMul (rOp gIx (rVar 0) (rVar 3)) (rOp gIx (rVar 1) (rVar 4)))) (rOp gAdd (rVar 3) (rVar 4))
def rd__law_times_b1 : RC := rFor (rRng1 (rFn1 gLen (rVar 1))) (.nm 4) rd__law_times_b0
def rd__law_times : RC := rSeq (rSet 2 (rOp gMul (rLst (rCons (rC (.int 0)) (rNil))) (rOp gSub (rOp gAdd (rFn1 gLen (rVar 0)) (rFn1 gLen (rVar 1))) (rC (.int 1))))) (rSeq (rFor (rRng1 (rFn1 gLen (rVar 0))) (.nm 3) rd__law_times_b1) (rRetV 2))
def sp__law_times : PSp := fun ds Q _ => ∃ (f g : List Int), ds = [.list (f.map .int), .list (g.map .int)] ∧ f ≠ [] ∧ g ≠ [] ∧ f.length ≤ 40 ∧ g.length ≤ 40 ∧ (∀ z ∈ f, Bt 100000 z) ∧ (∀ z ∈ g, Bt 100000 z) ∧ Q (.ow (.ls ((pmul f g).map .int)))
theorem len__law_times : ∀ ds Q E, sp__law_times ds Q E → ds.length = (["f", "g"] : List Str).length := by
  rintro ds Q E ⟨f, g, rfl, _⟩; rfl
theorem pure__law_times : ∀ ds Q E, sp__law_times ds Q E → rd__law_times (dEnds Q E) (start0 N__law_times ds) := by
  rintro ds Q E ⟨f, g, rfl, f0, g0, lf, lg, bf, bg, q⟩
  show rd__law_times (dEnds Q E) [.im (.list (f.map .int)), .im (.list (g.map .int)), .un, .un, .un]
  unfold rd__law_times
  have hf0 : 0 < f.length := List.length_pos_iff.2 f0
  have hg0 : 0 < g.length := List.length_pos_iff.2 g0
  have llf : (f.map PyData.int).length = f.length := List.length_map _
  have llg : (g.map PyData.int).length = g.length := List.length_map _
  conv => whnf
  refine ⟨⟨by omega, by omega, le_line (by simp; omega)⟩, ?_⟩
  rw [flat_rep, llf, llg, show ((f.length : Int) + (g.length : Int) - 1).toNat = f.length + g.length - 1 by omega]
  walk_at "go"
  try rw [llf]
  rw [Int.toNat_natCast]
  refine for_upto _ _ (fun i ρ => ∃ (L : List Int) (x3 x4 : PV), L.length = f.length + g.length - 1 ∧ (∀ x, pe x L = pe x (f.take i) * pe x g) ∧ ρ = [.im (.list (f.map .int)), .im (.list (g.map .int)), .ow (.ls (L.map .int)), x3, x4]) ⟨List.replicate (f.length + g.length - 1) 0, .un, .un, List.length_replicate, fun x => by rw [pe_noughts]; simp [pe], rfl⟩ ?_ ?_
  · rintro i ρ K hi ⟨L, x3, x4, hL, hx, rfl⟩ hK
    obtain ⟨a, ha⟩ : ∃ a, f[i]? = some a := ⟨_, List.getElem?_eq_getElem hi⟩
    have ha2 : L2.atI (f.map PyData.int) (i : Int) = some (.int a) := by
      unfold L2.atI; rw [ixN_some (by omega) (by rw [llf]; omega)]; show (f.map PyData.int)[(i : Int).toNat]? = _; rw [Int.toNat_natCast, List.getElem?_map, ha]; rfl
    have ba := bf a (List.mem_of_getElem? ha)
    unfold rd__law_times_b1
    walk_at "go"
    try rw [llg]
    rw [Int.toNat_natCast]
    refine for_upto _ _ (fun j ρ => ∃ (L : List Int) (x4 : PV), L.length = f.length + g.length - 1 ∧ (∀ x, pe x L = pe x (f.take i) * pe x g + x ^ i * a * pe x (g.take j)) ∧ ρ = [.im (.list (f.map .int)), .im (.list (g.map .int)), .ow (.ls (L.map .int)), .im (.int (i : Nat)), x4]) ⟨L, _, hL, fun x => by rw [hx]; simp [pe], rfl⟩ ?_ ?_
    · clear hL hx L x4 hK x3
      rintro j ρ K hj ⟨L, x4, hL, hx, rfl⟩ hK
      obtain ⟨b, hb⟩ : ∃ b, g[j]? = some b := ⟨_, List.getElem?_eq_getElem hj⟩
      have hb2 : L2.atI (g.map PyData.int) (j : Int) = some (.int b) := by
        unfold L2.atI; rw [ixN_some (by omega) (by rw [llg]; omega)]; show (g.map PyData.int)[(j : Int).toNat]? = _; rw [Int.toNat_natCast, List.getElem?_map, hb]; rfl
      have bb := bg b (List.mem_of_getElem? hb)
      obtain ⟨v, hv⟩ : ∃ v, L[i + j]? = some v := ⟨_, List.getElem?_eq_getElem (by omega)⟩
      have hv2 : L2.atI (L.map PyData.int) ((i : Int) + (j : Int)) = some (.int v) := by
        unfold L2.atI; rw [ixN_some (by omega) (by rw [List.length_map]; omega)]; show (L.map PyData.int)[((i : Int) + (j : Int)).toNat]? = _
        rw [show ((i : Int) + (j : Int)).toNat = i + j by omega, List.getElem?_map, hv]; rfl
      conv => whnf
      refine ⟨_, hv2, ?_⟩
      conv => whnf
      refine ⟨_, ha2, ?_⟩
      conv => whnf
      refine ⟨_, hb2, ?_⟩
      conv => whnf
      refine ⟨by walk_at "side", ?_⟩
      conv => whnf
      refine ⟨_, ixN_some (by omega) (by rw [List.length_map]; omega), ?_⟩
      rw [map_set_int, show ((i : Int) + (j : Int)).toNat = i + j by omega]
      refine hK _ ⟨L.set (i + j) (v + a * b), _, by rw [List.length_set, hL], fun x => ?_, rfl⟩
      rw [pe_set x L _ v _ hv, hx, List.take_add_one, hb, Option.toList_some, pe_app, List.length_take, Nat.min_eq_left (by omega), Int.pow_add]
      simp only [pe]
      grind
    · rintro ρ ⟨L, x4, hL, hx, rfl⟩
      refine hK _ ⟨L, _, _, hL, fun x => ?_, rfl⟩
      rw [hx, List.take_length, List.take_add_one, ha, Option.toList_some, pe_app, List.length_take, Nat.min_eq_left (by omega)]
      simp only [pe]
      grind
  · rintro ρ ⟨L, x3, x4, hL, hx, rfl⟩
    rw [List.take_length] at hx
    rw [← pmul_of f0 g0 hL hx] at q
    walk_at "go"

/-! _law_whole -/
abbrev N__law_whole : List Str := ["found", "x"]
def rd__law_whole : RC := rRet (rAndV (rFn1 (gIsi .list) (rVar 0)) (rCmp eqP (rLc (rIt (rVar 0)) (.nm 1) (rOr (rNot (rTV (rFn1 (gIsi .int) (rVar 1)))) (rTV (rFn1 (gIsi .bool) (rVar 1)))) (rVar 1) [1]) (rLst (rNil))))
def sp__law_whole : PSp := fun ds Q _ => ∃ f : List Int, ds = [.list (f.map .int)] ∧ f.length ≤ 100 ∧ Q (.im (.bool true))
theorem len__law_whole : ∀ ds Q E, sp__law_whole ds Q E → ds.length = (["found"] : List Str).length := by
  rintro ds Q E ⟨f, rfl, _⟩; rfl
theorem pure__law_whole : ∀ ds Q E, sp__law_whole ds Q E → rd__law_whole (dEnds Q E) (start0 N__law_whole ds) := by
  rintro ds Q E ⟨f, rfl, lf, q⟩
  show rd__law_whole (dEnds Q E) [.im (.list (f.map .int)), .un]
  unfold rd__law_whole
  walk_at "go"
  refine lc_filt f PyData.int (fun _ => false) PyData.int (fun x hx acc K k1 k2 => ?_) ?_
  · conv => whnf
    refine ifB0 rfl ?_
    conv => whnf
    refine ifB0 rfl ?_
    exact k2 rfl
  · walk_at "go"
    rw [show f.filter (fun _ => false) = [] from List.filter_eq_nil_iff.2 (fun _ _ => by simp)]
    exact q

/-! law -/
abbrev N_law : List Str := ["script", "p", "N", "G", "H", "f", "power", "k", "g", "h", "handed", "found"]
def rd_law_b0 : RC := rSet 2 (rOp gSub (rVar 2) (rC (.int 1)))
def rd_law_c0 : RT := rCmpT gtP (rCall sp__law_power (rCons (rVar 1) (rCons (rVar 2) (rNil)))) (rOp gPow (rC (.int 10)) (rC (.int 45)))
def rd_law_b2 : RC := rSetIx 5 (rOp gAdd (rOp gIx (rVar 5) (rVar 7)) (rOp gMul (rOp gSub (rOp gMod (rCall sp__law_cell_at (rCons (rVar 0) (rCons (rOp gAdd (rC (.int 13)) (rVar 7)) (rNil)))) (rC (.int 5))) (rC (.int 2))) (rVar 6))) (rVar 7)
def rd_law : RC := rSeq (rSet 1 (rCall sp__law_prime (rCons (rCall sp__law_cell_at (rCons (rVar 0) (rCons (rC (.int 0)) (rNil)))) (rNil)))) (rSeq (rFz 1) (rSeq (rSet 2 (rOp gAdd (rC (.int 1)) (rOp gMod (rCall sp__law_cell_at (rCons (rVar 0) (rCons (rC (.int 1)) (rNil)))) (rC (.int 60))))) (rSeq (rWhile rd_law_c0 rd_law_b0) (rSeq (rUnp (rCall sp__law_drawn (rCons (rVar 0) (rCons (rVar 1) (rCons (rVar 2) (rNil))))) (.tp [3, 4])) (rSeq (rSet 5 (rCall sp__law_times (rCons (rVar 3) (rCons (rVar 4) (rNil))))) (rSeq (rSet 6 (rCall sp__law_power (rCons (rVar 1) (rCons (rVar 2) (rNil))))) (rSeq (rFz 6) (rSeq (rFor (rRng1 (rOp gSub (rFn1 gLen (rVar 5)) (rC (.int 1)))) (.nm 7) rd_law_b2) (rSeq (rSet 8 (rCall sp__law_near (rCons (rVar 0) (rCons (rVar 1) (rCons (rVar 3) (rCons (rC (.int 23)) (rNil))))))) (rSeq (rFz 8) (rSeq (rSet 9 (rCall sp__law_near (rCons (rVar 0) (rCons (rVar 1) (rCons (rVar 4) (rCons (rC (.int 28)) (rNil))))))) (rSeq (rFz 9) (rSeq (rSet 10 (rLst (rCons (rFn1 gList (rVar 5)) (rCons (rFn1 gList (rVar 8)) (rCons (rFn1 gList (rVar 9)) (rNil)))))) (rSeq (rFz 10) (rSeq (rSet 11 (rCall sp__law_parts (rCons (rVar 1) (rCons (rVar 2) (rCons (rOp gIx (rVar 10) (rC (.int 0))) (rCons (rOp gIx (rVar 10) (rC (.int 1))) (rCons (rOp gIx (rVar 10) (rC (.int 2))) (rNil)))))))) (rSeq (rFz 5) (rSeq (rIf (rCmpT neP (rVar 10) (rLst (rCons (rVar 5) (rCons (rVar 8) (rCons (rVar 9) (rNil)))))) (rRet (rC (.bool false))) (rSkip)) (rSeq (rIf (rNot (rTV (rCall sp__law_apart (rCons (rVar 1) (rCons (rVar 8) (rCons (rVar 9) (rNil))))))) (rSeq (rFz 11) (rRet (rCmp isP (rVar 11) (rC .none)))) (rSkip)) (rSeq (rIf (rOr (rNot (rTV (rFn1 (gIsi .tuple) (rVar 11)))) (rOr (rCmpT neP (rFn1 gLen (rVar 11)) (rC (.int 2))) (rOr (rNot (rTV (rCallR sp__law_whole (rConsR (rOp gIx (rVar 11) (rC (.int 0))) (rNil))))) (rNot (rTV (rCallR sp__law_whole (rConsR (rOp gIx (rVar 11) (rC (.int 1))) (rNil)))))))) (rRet (rC (.bool false))) (rSkip)) (rSeq (rIf (rCmpT neP (rVar 11) (rTup (rCons (rVar 3) (rCons (rVar 4) (rNil))))) (rRet (rC (.bool false))) (rSkip)) (rSeq (rTlApp 11 (rC (.int 0))) (rSeq (rTlClr 11) (rSeq (rFz 5) (rSeq (rFz 5) (rRet (rAndV (rCmp eqP (rSee (rCall sp__law_parts (rCons (rVar 1) (rCons (rVar 2) (rCons (rOp gIx (rVar 10) (rC (.int 0))) (rCons (rOp gIx (rVar 10) (rC (.int 1))) (rCons (rOp gIx (rVar 10) (rC (.int 2))) (rNil)))))))) (rTup (rCons (rVar 3) (rCons (rVar 4) (rNil))))) (rCmp eqP (rVar 10) (rLst (rCons (rVar 5) (rCons (rVar 8) (rCons (rVar 9) (rNil))))))))))))))))))))))))))))))))
theorem pure_law : ∀ ds Q E, sp_law ds Q E → rd_law (dEnds Q E) (start0 N_law ds) := by
  rintro ds Q E ⟨ns, rfl, hl, hb, q⟩
  have hb' : ∀ z ∈ ns, Bt 1048576 z := fun z m => Bt.bits (hb z m)
  show rd_law (dEnds Q E) [.im (.list (ns.map .int)), .un, .un, .un, .un, .un, .un, .un, .un, .un, .un, .un]
  unfold rd_law
  walk_at "go"
  intro p hp
  have hpm := pm_of hp
  obtain ⟨p0, p1⟩ := primes25_le hp
  walk_at "go"
  conv => whnf
  refine rWhile_ind (fun n ρ => ∃ d : Int, 1 ≤ d ∧ d ≤ 60 ∧ n = d.toNat ∧ ρ = [.im (.list (ns.map .int)), .im (.int p), .im (.int d), .un, .un, .un, .un, .un, .un, .un, .un, .un]) _ ⟨1 + cel0 ns 1 % 60, by omega, by omega, rfl, rfl⟩ ?_
  rintro n ρ K ⟨d, d0, d1, rfl, rfl⟩ hK
  unfold rd_law_c0
  walk_at "go"
  conv => whnf
  refine ifD (fun z => ?_) (fun z => ?_)
  · have d2 : d ≠ 1 := fun e => by
      subst e
      rw [show (Int.toNat 1) = 1 from rfl, Int.pow_one] at z
      have : (100 : Int) < 10 ^ (45 : Int).toNat := by decide
      omega
    unfold rd_law_b0
    conv => whnf
    exact hK _ _ (by omega) ⟨d - 1, by omega, by omega, rfl, rfl⟩
  clear z hK
  have c2 : ∀ k : Int, 0 ≤ k → k ≤ 100 → Bt 1048576 (cel0 ns k) := fun k h0 h1 => cel0_bt hb' h0 (by omega)
  walk_at "go"
  intro G H dG dH
  have G0 : G ≠ [] := fun e => by have := dG.lo; rw [e] at this; simp at this
  have H0 : H ≠ [] := fun e => by have := dH.lo; rw [e] at this; simp at this
  have g1 := dG.lo
  have g2 := dG.hi
  have h1 := dH.lo
  have h2 := dH.hi
  have bW : Bt 430 (p ^ d.toNat) := Bt.pp _ (by omega) (by omega)
  have bG : ∀ z ∈ G, Bt 430 z := fun z hz => bW.le (dG.rng z hz).1 (Int.le_of_lt (dG.rng z hz).2)
  have bH : ∀ z ∈ H, Bt 430 z := fun z hz => bW.le (dH.rng z hz).1 (Int.le_of_lt (dH.rng z hz).2)
  have bG1 : ∀ z ∈ G, Bt 100000 z := fun z hz => (bG z hz).mono (by decide)
  have bH1 : ∀ z ∈ H, Bt 100000 z := fun z hz => (bH z hz).mono (by decide)
  have lGH := pmul_len G H G0 H0
  have bGH := pmul_bt bH G bG
  walk_at "go"
  have llP : ((pmul G H).map PyData.int).length = (pmul G H).length := List.length_map _
  have bP : ∀ z ∈ pmul G H, Bt 2000 z := fun z hz => (bGH z hz).mono (by omega)
  have hn : (((pmul G H).map PyData.int).length - 1 : Int).toNat = (pmul G H).length - 1 := by omega
  have bW2 : Bt 1000 (p ^ d.toNat) := bW.mono (by decide)
  rw [hn]
  refine for_upto _ _ (fun i ρ => ∃ (F : List Int) (x7 : PV), F.length = (pmul G H).length ∧ Cg (p ^ d.toNat) F (pmul G H) ∧ (∀ j, i ≤ j → co F j = co (pmul G H) j) ∧ (∀ z ∈ F, Bt 3000 z) ∧ ρ = [.im (.list (ns.map .int)), .im (.int p), .im (.int d), .im (.list (G.map .int)), .im (.list (H.map .int)), .ow (.ls (F.map .int)), .im (.int (p ^ d.toNat)), x7, .un, .un, .un, .un]) ⟨pmul G H, _, rfl, .refl _, fun _ _ => rfl, fun z hz => (bP z hz).mono (by decide), rfl⟩ ?_ ?_
  · rintro i ρ K hi ⟨F, x7, lF, cF, uF, bF, rfl⟩ hK
    have llF : (F.map PyData.int).length = F.length := List.length_map _
    have hv : F[i]? = some (co F i) := by unfold co; rw [List.getD_eq_getElem?_getD, List.getElem?_eq_getElem (by omega)]; rfl
    have aF : L2.atI (F.map PyData.int) (i : Int) = some (.int (co F i)) := by
      unfold L2.atI; rw [ixN_some (by omega) (by rw [llF]; omega)]; show (F.map PyData.int)[(i : Int).toNat]? = _; rw [Int.toNat_natCast, List.getElem?_map, hv]; rfl
    have bv : Bt 2000 (co F i) := by
      rw [uF i (Nat.le_refl _)]
      have : (pmul G H)[i]? = some (co (pmul G H) i) := by unfold co; rw [List.getD_eq_getElem?_getD, List.getElem?_eq_getElem (by omega)]; rfl
      exact bP _ (List.mem_of_getElem? this)
    have c1 := c2 (13 + (i : Int)) (by omega) (by omega)
    have bc : Bt 64 (cel0 ns (13 + (i : Int)) % 5 - 2) := Bt.num (by omega)
    unfold rd_law_b2
    conv => whnf
    refine ⟨_, aF, ?_⟩
    walk_at "go"
    conv => whnf
    refine ⟨_, ixN_some (by omega) (by rw [llF]; omega), ?_⟩
    rw [map_set_int, Int.toNat_natCast]
    refine hK _ ⟨F.set i (co F i + (cel0 ns (13 + (i : Int)) % 5 - 2) * p ^ d.toNat), _, by rw [List.length_set, lF], ?_, fun j hj => ?_, fun z hz => ?_, rfl⟩
    · obtain ⟨K0, hK0⟩ := cF
      refine ⟨padd K0 (offS i (cel0 ns (13 + (i : Int)) % 5 - 2) [1]), fun x => ?_⟩
      rw [pe_set x F i _ _ hv, hK0, pe_padd, pe_offS]
      simp only [pe]
      grind
    · rw [co_set _ _ _ _ (by omega)]
      exact uF j (by omega)
    · rcases List.mem_or_eq_of_mem_set hz with h | h
      · exact bF z h
      · rw [h]; exact (bv.add2 ((bc.mul bW2).mono (b := 1500) (by decide))).mono (by decide)
  · rintro ρ ⟨F, x7, lF, cF, uF, bF, rfl⟩
    have llF : (F.map PyData.int).length = F.length := List.length_map _
    have top : co (pmul G H) (G.length - 1 + (H.length - 1)) = 1 := co_mul_top (by omega) (by omega) dG.top dH.top
    have tF : F.getLast? = some 1 := by
      have e := uF (F.length - 1) (by omega)
      rw [lF, lGH, show G.length + H.length - 1 - 1 = G.length - 1 + (H.length - 1) by omega, top] at e
      obtain ⟨y, hy⟩ := last_ex (f := F) (fun e => by rw [e] at lF; simp at lF; omega)
      have := co_last hy
      rw [lF, lGH, show G.length + H.length - 1 - 1 = G.length - 1 + (H.length - 1) by omega, e] at this
      rw [hy, this]
    walk_at "go"
    refine ⟨dG.top, fun g lg tg bg cg => ?_⟩
    walk_at "go"
    refine ⟨dH.top, fun h lh th bh ch => ?_⟩
    have cF1 : Cg p F (pmul G H) := by
      obtain ⟨j, hj⟩ : ∃ j, d.toNat = j + 1 := ⟨d.toNat - 1, by omega⟩
      rw [hj] at cF
      exact cg_low cF
    have ok : OkP p d F g h := ⟨d0, by omega, by omega, by omega, tF, tg, th, cF1.lin3 [1] cg (pscale (-1) H) ch (pscale (-1) g) fun x => by simp only [pe_mul, pe_scale, pe]; grind⟩
    have lift : Lift p F g h d.toNat G H := ⟨by omega, by omega, dG.top, dH.top, dG.rng, dH.rng, cg.symm, ch.symm, cF⟩
    have bF5 : ∀ z ∈ F, Bt 5000 z := fun z hz => (bF z hz).mono (by decide)
    have bg5 : ∀ z ∈ g, Bt 5000 z := fun z hz => (bg z hz).mono (by decide)
    have bh5 : ∀ z ∈ h, Bt 5000 z := fun z hz => (bh z hz).mono (by decide)
    have sh3 := shaped_l3 F g h
    have e3 := eqv_l3 F g h
    walk_at "go"
    refine ⟨fun no => ?_, fun _ cop G' H' L => ?_⟩
    · have nc : ¬ Cop2 p g h := fun k => no ⟨ok, k⟩
      conv => whnf
      refine ⟨sh3, sh3, ?_⟩
      rw [show PyData.eqv (PV.im (.list [il F, il g, il h])).data (PV.ow (.ls [il F, il g, il h])).data = true from e3]
      conv => whnf
      refine ifB0 rfl ?_
      walk_at "go"
      first
        | done
        | (refine ⟨fun k => absurd k nc, fun _ => ?_⟩
           walk_at "go")
    · obtain ⟨rfl, rfl⟩ := lift_uniq hpm ok cop L lift
      have sht := shaped_t2 G' H'
      have eqt := (eqv_t2 G' H' G' H').trans (decide_eq_true ⟨rfl, rfl⟩)
      conv => whnf
      refine ⟨sh3, sh3, ?_⟩
      rw [show PyData.eqv (PV.im (.list [il F, il g, il h])).data (PV.ow (.ls [il F, il g, il h])).data = true from e3]
      conv => whnf
      refine ifB0 rfl ?_
      walk_at "go"
      refine ⟨sht, ?_⟩
      rw [show PyData.eqv (PyData.tuple [il G', il H']) (PV.im (.tuple [il G', il H'])).data = true from eqt]
      conv => whnf
      refine ifB0 rfl ?_
      conv => whnf
      refine ⟨lt_line (by rw [List.length_map]; omega), ?_⟩
      walk_at "go"
      refine ⟨fun no => absurd ⟨ok, cop⟩ no, fun _ _ G2 H2 L2 => ?_⟩
      obtain ⟨rfl, rfl⟩ := lift_uniq hpm ok cop L2 L
      conv => whnf
      refine ⟨sht, sht, ?_⟩
      rw [show PyData.eqv (PyData.tuple [il G2, il H2]) (PV.im (.tuple [il G2, il H2])).data = true from eqt]
      conv => whnf
      refine ifB1 rfl ?_
      conv => whnf
      refine ⟨sh3, sh3, ?_⟩
      refine qT q ?_
      exact e3

end Pz
namespace Pz
open PySem PySem.Spec PyProof.Rows L2
def topS (i : Nat) : Stmt := PySem.Challenge.pw_deeprests_k71_parts_found_back.main.body.getD i (.Pass ⟨0, 0, 0, 0⟩)
theorem nm_G : ((("G" : Str) == ("__debug__" : Str)) = false) ∧ ((("G" : Str) == ("__classdict__" : Str)) = false) := ⟨by decide +kernel, by decide +kernel⟩
theorem nm_H : ((("H" : Str) == ("__debug__" : Str)) = false) ∧ ((("H" : Str) == ("__classdict__" : Str)) = false) := ⟨by decide +kernel, by decide +kernel⟩
theorem nm_N : ((("N" : Str) == ("__debug__" : Str)) = false) ∧ ((("N" : Str) == ("__classdict__" : Str)) = false) := ⟨by decide +kernel, by decide +kernel⟩
theorem nm__law_apart : ((("_law_apart" : Str) == ("__debug__" : Str)) = false) ∧ ((("_law_apart" : Str) == ("__classdict__" : Str)) = false) := ⟨by decide +kernel, by decide +kernel⟩
theorem nm__law_cell_at : ((("_law_cell_at" : Str) == ("__debug__" : Str)) = false) ∧ ((("_law_cell_at" : Str) == ("__classdict__" : Str)) = false) := ⟨by decide +kernel, by decide +kernel⟩
theorem nm__law_cut : ((("_law_cut" : Str) == ("__debug__" : Str)) = false) ∧ ((("_law_cut" : Str) == ("__classdict__" : Str)) = false) := ⟨by decide +kernel, by decide +kernel⟩
theorem nm__law_drawn : ((("_law_drawn" : Str) == ("__debug__" : Str)) = false) ∧ ((("_law_drawn" : Str) == ("__classdict__" : Str)) = false) := ⟨by decide +kernel, by decide +kernel⟩
theorem nm__law_left : ((("_law_left" : Str) == ("__debug__" : Str)) = false) ∧ ((("_law_left" : Str) == ("__classdict__" : Str)) = false) := ⟨by decide +kernel, by decide +kernel⟩
theorem nm__law_near : ((("_law_near" : Str) == ("__debug__" : Str)) = false) ∧ ((("_law_near" : Str) == ("__classdict__" : Str)) = false) := ⟨by decide +kernel, by decide +kernel⟩
theorem nm__law_parts : ((("_law_parts" : Str) == ("__debug__" : Str)) = false) ∧ ((("_law_parts" : Str) == ("__classdict__" : Str)) = false) := ⟨by decide +kernel, by decide +kernel⟩
theorem nm__law_power : ((("_law_power" : Str) == ("__debug__" : Str)) = false) ∧ ((("_law_power" : Str) == ("__classdict__" : Str)) = false) := ⟨by decide +kernel, by decide +kernel⟩
theorem nm__law_prime : ((("_law_prime" : Str) == ("__debug__" : Str)) = false) ∧ ((("_law_prime" : Str) == ("__classdict__" : Str)) = false) := ⟨by decide +kernel, by decide +kernel⟩
theorem nm__law_times : ((("_law_times" : Str) == ("__debug__" : Str)) = false) ∧ ((("_law_times" : Str) == ("__classdict__" : Str)) = false) := ⟨by decide +kernel, by decide +kernel⟩
theorem nm__law_whole : ((("_law_whole" : Str) == ("__debug__" : Str)) = false) ∧ ((("_law_whole" : Str) == ("__classdict__" : Str)) = false) := ⟨by decide +kernel, by decide +kernel⟩
theorem nm_at : ((("at" : Str) == ("__debug__" : Str)) = false) ∧ ((("at" : Str) == ("__classdict__" : Str)) = false) := ⟨by decide +kernel, by decide +kernel⟩
theorem nm_before : ((("before" : Str) == ("__debug__" : Str)) = false) ∧ ((("before" : Str) == ("__classdict__" : Str)) = false) := ⟨by decide +kernel, by decide +kernel⟩
theorem nm_behind : ((("behind" : Str) == ("__debug__" : Str)) = false) ∧ ((("behind" : Str) == ("__classdict__" : Str)) = false) := ⟨by decide +kernel, by decide +kernel⟩
theorem nm_by : ((("by" : Str) == ("__debug__" : Str)) = false) ∧ ((("by" : Str) == ("__classdict__" : Str)) = false) := ⟨by decide +kernel, by decide +kernel⟩
theorem nm_by_prime : ((("by_prime" : Str) == ("__debug__" : Str)) = false) ∧ ((("by_prime" : Str) == ("__classdict__" : Str)) = false) := ⟨by decide +kernel, by decide +kernel⟩
theorem nm_cell : ((("cell" : Str) == ("__debug__" : Str)) = false) ∧ ((("cell" : Str) == ("__classdict__" : Str)) = false) := ⟨by decide +kernel, by decide +kernel⟩
theorem nm_cells : ((("cells" : Str) == ("__debug__" : Str)) = false) ∧ ((("cells" : Str) == ("__classdict__" : Str)) = false) := ⟨by decide +kernel, by decide +kernel⟩
theorem nm_e : ((("e" : Str) == ("__debug__" : Str)) = false) ∧ ((("e" : Str) == ("__classdict__" : Str)) = false) := ⟨by decide +kernel, by decide +kernel⟩
theorem nm_f : ((("f" : Str) == ("__debug__" : Str)) = false) ∧ ((("f" : Str) == ("__classdict__" : Str)) = false) := ⟨by decide +kernel, by decide +kernel⟩
theorem nm_first : ((("first" : Str) == ("__debug__" : Str)) = false) ∧ ((("first" : Str) == ("__classdict__" : Str)) = false) := ⟨by decide +kernel, by decide +kernel⟩
theorem nm_found : ((("found" : Str) == ("__debug__" : Str)) = false) ∧ ((("found" : Str) == ("__classdict__" : Str)) = false) := ⟨by decide +kernel, by decide +kernel⟩
theorem nm_g : ((("g" : Str) == ("__debug__" : Str)) = false) ∧ ((("g" : Str) == ("__classdict__" : Str)) = false) := ⟨by decide +kernel, by decide +kernel⟩
theorem nm_h : ((("h" : Str) == ("__debug__" : Str)) = false) ∧ ((("h" : Str) == ("__classdict__" : Str)) = false) := ⟨by decide +kernel, by decide +kernel⟩
theorem nm_handed : ((("handed" : Str) == ("__debug__" : Str)) = false) ∧ ((("handed" : Str) == ("__classdict__" : Str)) = false) := ⟨by decide +kernel, by decide +kernel⟩
theorem nm_high : ((("high" : Str) == ("__debug__" : Str)) = false) ∧ ((("high" : Str) == ("__classdict__" : Str)) = false) := ⟨by decide +kernel, by decide +kernel⟩
theorem nm_inverse_of : ((("inverse_of" : Str) == ("__debug__" : Str)) = false) ∧ ((("inverse_of" : Str) == ("__classdict__" : Str)) = false) := ⟨by decide +kernel, by decide +kernel⟩
theorem nm_j : ((("j" : Str) == ("__debug__" : Str)) = false) ∧ ((("j" : Str) == ("__classdict__" : Str)) = false) := ⟨by decide +kernel, by decide +kernel⟩
theorem nm_k : ((("k" : Str) == ("__debug__" : Str)) = false) ∧ ((("k" : Str) == ("__classdict__" : Str)) = false) := ⟨by decide +kernel, by decide +kernel⟩
theorem nm_lack : ((("lack" : Str) == ("__debug__" : Str)) = false) ∧ ((("lack" : Str) == ("__classdict__" : Str)) = false) := ⟨by decide +kernel, by decide +kernel⟩
theorem nm_left : ((("left" : Str) == ("__debug__" : Str)) = false) ∧ ((("left" : Str) == ("__classdict__" : Str)) = false) := ⟨by decide +kernel, by decide +kernel⟩
theorem nm_low : ((("low" : Str) == ("__debug__" : Str)) = false) ∧ ((("low" : Str) == ("__classdict__" : Str)) = false) := ⟨by decide +kernel, by decide +kernel⟩
theorem nm_many : ((("many" : Str) == ("__debug__" : Str)) = false) ∧ ((("many" : Str) == ("__classdict__" : Str)) = false) := ⟨by decide +kernel, by decide +kernel⟩
theorem nm_more : ((("more" : Str) == ("__debug__" : Str)) = false) ∧ ((("more" : Str) == ("__classdict__" : Str)) = false) := ⟨by decide +kernel, by decide +kernel⟩
theorem nm_need_parts : ((("need_parts" : Str) == ("__debug__" : Str)) = false) ∧ ((("need_parts" : Str) == ("__classdict__" : Str)) = false) := ⟨by decide +kernel, by decide +kernel⟩
theorem nm_number : ((("number" : Str) == ("__debug__" : Str)) = false) ∧ ((("number" : Str) == ("__classdict__" : Str)) = false) := ⟨by decide +kernel, by decide +kernel⟩
theorem nm_often : ((("often" : Str) == ("__debug__" : Str)) = false) ∧ ((("often" : Str) == ("__classdict__" : Str)) = false) := ⟨by decide +kernel, by decide +kernel⟩
theorem nm_one : ((("one" : Str) == ("__debug__" : Str)) = false) ∧ ((("one" : Str) == ("__classdict__" : Str)) = false) := ⟨by decide +kernel, by decide +kernel⟩
theorem nm_other : ((("other" : Str) == ("__debug__" : Str)) = false) ∧ ((("other" : Str) == ("__classdict__" : Str)) = false) := ⟨by decide +kernel, by decide +kernel⟩
theorem nm_p : ((("p" : Str) == ("__debug__" : Str)) = false) ∧ ((("p" : Str) == ("__classdict__" : Str)) = false) := ⟨by decide +kernel, by decide +kernel⟩
theorem nm_parts_at : ((("parts_at" : Str) == ("__debug__" : Str)) = false) ∧ ((("parts_at" : Str) == ("__classdict__" : Str)) = false) := ⟨by decide +kernel, by decide +kernel⟩
theorem nm_place : ((("place" : Str) == ("__debug__" : Str)) = false) ∧ ((("place" : Str) == ("__classdict__" : Str)) = false) := ⟨by decide +kernel, by decide +kernel⟩
theorem nm_poly_less : ((("poly_less" : Str) == ("__debug__" : Str)) = false) ∧ ((("poly_less" : Str) == ("__classdict__" : Str)) = false) := ⟨by decide +kernel, by decide +kernel⟩
theorem nm_poly_parted : ((("poly_parted" : Str) == ("__debug__" : Str)) = false) ∧ ((("poly_parted" : Str) == ("__classdict__" : Str)) = false) := ⟨by decide +kernel, by decide +kernel⟩
theorem nm_poly_product : ((("poly_product" : Str) == ("__debug__" : Str)) = false) ∧ ((("poly_product" : Str) == ("__classdict__" : Str)) = false) := ⟨by decide +kernel, by decide +kernel⟩
theorem nm_poly_times : ((("poly_times" : Str) == ("__debug__" : Str)) = false) ∧ ((("poly_times" : Str) == ("__classdict__" : Str)) = false) := ⟨by decide +kernel, by decide +kernel⟩
theorem nm_poly_turned : ((("poly_turned" : Str) == ("__debug__" : Str)) = false) ∧ ((("poly_turned" : Str) == ("__classdict__" : Str)) = false) := ⟨by decide +kernel, by decide +kernel⟩
theorem nm_power : ((("power" : Str) == ("__debug__" : Str)) = false) ∧ ((("power" : Str) == ("__classdict__" : Str)) = false) := ⟨by decide +kernel, by decide +kernel⟩
theorem nm_power_of : ((("power_of" : Str) == ("__debug__" : Str)) = false) ∧ ((("power_of" : Str) == ("__classdict__" : Str)) = false) := ⟨by decide +kernel, by decide +kernel⟩
theorem nm_primes : ((("primes" : Str) == ("__debug__" : Str)) = false) ∧ ((("primes" : Str) == ("__classdict__" : Str)) = false) := ⟨by decide +kernel, by decide +kernel⟩
theorem nm_rest : ((("rest" : Str) == ("__debug__" : Str)) = false) ∧ ((("rest" : Str) == ("__classdict__" : Str)) = false) := ⟨by decide +kernel, by decide +kernel⟩
theorem nm_script : ((("script" : Str) == ("__debug__" : Str)) = false) ∧ ((("script" : Str) == ("__classdict__" : Str)) = false) := ⟨by decide +kernel, by decide +kernel⟩
theorem nm_shape : ((("shape" : Str) == ("__debug__" : Str)) = false) ∧ ((("shape" : Str) == ("__classdict__" : Str)) = false) := ⟨by decide +kernel, by decide +kernel⟩
theorem nm_size : ((("size" : Str) == ("__debug__" : Str)) = false) ∧ ((("size" : Str) == ("__classdict__" : Str)) = false) := ⟨by decide +kernel, by decide +kernel⟩
theorem nm_sizes : ((("sizes" : Str) == ("__debug__" : Str)) = false) ∧ ((("sizes" : Str) == ("__classdict__" : Str)) = false) := ⟨by decide +kernel, by decide +kernel⟩
theorem nm_start : ((("start" : Str) == ("__debug__" : Str)) = false) ∧ ((("start" : Str) == ("__classdict__" : Str)) = false) := ⟨by decide +kernel, by decide +kernel⟩
theorem nm_then : ((("then" : Str) == ("__debug__" : Str)) = false) ∧ ((("then" : Str) == ("__classdict__" : Str)) = false) := ⟨by decide +kernel, by decide +kernel⟩
theorem nm_times : ((("times" : Str) == ("__debug__" : Str)) = false) ∧ ((("times" : Str) == ("__classdict__" : Str)) = false) := ⟨by decide +kernel, by decide +kernel⟩
theorem nm_turned : ((("turned" : Str) == ("__debug__" : Str)) = false) ∧ ((("turned" : Str) == ("__classdict__" : Str)) = false) := ⟨by decide +kernel, by decide +kernel⟩
theorem nm_u : ((("u" : Str) == ("__debug__" : Str)) = false) ∧ ((("u" : Str) == ("__classdict__" : Str)) = false) := ⟨by decide +kernel, by decide +kernel⟩
theorem nm_w : ((("w" : Str) == ("__debug__" : Str)) = false) ∧ ((("w" : Str) == ("__classdict__" : Str)) = false) := ⟨by decide +kernel, by decide +kernel⟩
theorem nm_whole : ((("whole" : Str) == ("__debug__" : Str)) = false) ∧ ((("whole" : Str) == ("__classdict__" : Str)) = false) := ⟨by decide +kernel, by decide +kernel⟩
theorem nm_with_more : ((("with_more" : Str) == ("__debug__" : Str)) = false) ∧ ((("with_more" : Str) == ("__classdict__" : Str)) = false) := ⟨by decide +kernel, by decide +kernel⟩
theorem nm_x : ((("x" : Str) == ("__debug__" : Str)) = false) ∧ ((("x" : Str) == ("__classdict__" : Str)) = false) := ⟨by decide +kernel, by decide +kernel⟩
structure Tx (K : PySem.W.Frag) (mg : Str → Option Value) (cl : Xn → Addr) : Prop where
  b_bool : mg "bool" = none
  b_enumerate : mg "enumerate" = none
  b_int : mg "int" = none
  b_isinstance : mg "isinstance" = none
  b_len : mg "len" = none
  b_list : mg "list" = none
  b_max : mg "max" = none
  b_range : mg "range" = none
  b_tuple : mg "tuple" = none
  x_NoInverse : ExcF K mg cl .NoInverse
  x_NoParts : ExcF K mg cl .NoParts
  t_NoParts : ExcT K mg cl .NoParts
  s_NoInverse_NoParts : PySem.W.subIn K (.ref (cl .NoInverse)) (.ref (cl .NoParts)) = some (subX .NoInverse .NoParts)
  s_NoParts_NoParts : PySem.W.subIn K (.ref (cl .NoParts)) (.ref (cl .NoParts)) = some (subX .NoParts .NoParts)
abbrev st__law_cut : Stmt := topS 24
theorem sc__law_cut : FnScope N__law_cut ["f"] (defScope st__law_cut) := ⟨rfl, rfl, rfl, by decide +kernel, rfl, by decide +kernel, by decide +kernel⟩
theorem lcl__law_cut_f : (defScope st__law_cut).names.lookup ("f" : Str) = some .local := by decide +kernel
theorem loc__law_cut_f : Loc (defScope st__law_cut) ("f" : Str) := .inl lcl__law_cut_f
theorem vis__law_cut_f : Vis (defScope st__law_cut) ("f" : Str) := (.inl lcl__law_cut_f)
theorem lcl__law_cut_found : (defScope st__law_cut).names.lookup ("found" : Str) = some .local := by decide +kernel
theorem loc__law_cut_found : Loc (defScope st__law_cut) ("found" : Str) := .inl lcl__law_cut_found
theorem vis__law_cut_found : Vis (defScope st__law_cut) ("found" : Str) := (.inl lcl__law_cut_found)
theorem gl__law_cut_list : GlN (defScope st__law_cut) ("list" : Str) := (by decide +kernel : (defScope st__law_cut).names.lookup ("list" : Str) = some .globalImplicit)
theorem der__law_cut {X : Cx} {Z : Zp} (T : Tx X.K X.mg Z.cl)  (A : WhD X N__law_cut (defScope st__law_cut)) (hc : X.calm = true) (hr : Room 1 X.A) : CSs X Z (defBody st__law_cut) rd__law_cut :=
  css_cons (cs_set A 1 rfl loc__law_cut_found (ce_ty1 A.toWh fn_list call_list_of gl__law_cut_list T.b_list bo_list (ce_var A.toWh 0 rfl vis__law_cut_f nm_f.1 nm_f.2) (by decide) (by decide +kernel))) (css_cons (cs_while (ct_w (cw_and (ct_ne hr.units (ce_var A.toWh 1 rfl vis__law_cut_found nm_found.1 nm_found.2) (ce_lst (ca_nil))) (cw_and1 (ct_eq hr.units (ce_ix (ce_var A.toWh 1 rfl vis__law_cut_found nm_found.1 nm_found.2) (ce_neg (ce_int)) (fun _ _ => rfl)) (ce_int))))) (show CSs X _ _ rd__law_cut_b0 from css_one (cs_pop A 1 rfl vis__law_cut_found nm_found.1 nm_found.2 (hline := rfl)))) (css_one (cs_retV A.toWh 1 rfl vis__law_cut_found nm_found.1 nm_found.2)))
abbrev st__law_left : Stmt := topS 23
theorem sc__law_left : FnScope N__law_left ["p", "f", "g"] (defScope st__law_left) := ⟨rfl, rfl, rfl, by decide +kernel, rfl, by decide +kernel, by decide +kernel⟩
theorem lcl__law_left_by : (defScope st__law_left).names.lookup ("by" : Str) = some .local := by decide +kernel
theorem loc__law_left_by : Loc (defScope st__law_left) ("by" : Str) := .inl lcl__law_left_by
theorem vis__law_left_by : Vis (defScope st__law_left) ("by" : Str) := (.inl lcl__law_left_by)
theorem lcl__law_left_f : (defScope st__law_left).names.lookup ("f" : Str) = some .local := by decide +kernel
theorem loc__law_left_f : Loc (defScope st__law_left) ("f" : Str) := .inl lcl__law_left_f
theorem vis__law_left_f : Vis (defScope st__law_left) ("f" : Str) := (.inl lcl__law_left_f)
theorem lcl__law_left_g : (defScope st__law_left).names.lookup ("g" : Str) = some .local := by decide +kernel
theorem loc__law_left_g : Loc (defScope st__law_left) ("g" : Str) := .inl lcl__law_left_g
theorem vis__law_left_g : Vis (defScope st__law_left) ("g" : Str) := (.inl lcl__law_left_g)
theorem lcl__law_left_k : (defScope st__law_left).names.lookup ("k" : Str) = some .local := by decide +kernel
theorem loc__law_left_k : Loc (defScope st__law_left) ("k" : Str) := .inl lcl__law_left_k
theorem vis__law_left_k : Vis (defScope st__law_left) ("k" : Str) := (.inl lcl__law_left_k)
theorem lcl__law_left_left : (defScope st__law_left).names.lookup ("left" : Str) = some .local := by decide +kernel
theorem loc__law_left_left : Loc (defScope st__law_left) ("left" : Str) := .inl lcl__law_left_left
theorem vis__law_left_left : Vis (defScope st__law_left) ("left" : Str) := (.inl lcl__law_left_left)
theorem lcl__law_left_p : (defScope st__law_left).names.lookup ("p" : Str) = some .cell := by decide +kernel
theorem loc__law_left_p : Loc (defScope st__law_left) ("p" : Str) := .inr lcl__law_left_p
theorem vis__law_left_p : Vis (defScope st__law_left) ("p" : Str) := .inr (.inl lcl__law_left_p)
theorem lcl__law_left_place : (defScope st__law_left).names.lookup ("place" : Str) = some .local := by decide +kernel
theorem loc__law_left_place : Loc (defScope st__law_left) ("place" : Str) := .inl lcl__law_left_place
theorem vis__law_left_place : Vis (defScope st__law_left) ("place" : Str) := (.inl lcl__law_left_place)
theorem lcl__law_left_turned : (defScope st__law_left).names.lookup ("turned" : Str) = some .local := by decide +kernel
theorem loc__law_left_turned : Loc (defScope st__law_left) ("turned" : Str) := .inl lcl__law_left_turned
theorem vis__law_left_turned : Vis (defScope st__law_left) ("turned" : Str) := (.inl lcl__law_left_turned)
theorem gl__law_left_len : GlN (defScope st__law_left) ("len" : Str) := (by decide +kernel : (defScope st__law_left).names.lookup ("len" : Str) = some .globalImplicit)
theorem gl__law_left_range : GlN (defScope st__law_left) ("range" : Str) := (by decide +kernel : (defScope st__law_left).names.lookup ("range" : Str) = some .globalImplicit)
theorem der__law_left {X : Cx} {Z : Zp} (T : Tx X.K X.mg Z.cl)  (A : WhD X N__law_left (defScope st__law_left)) (hc : X.calm = true) (hr : Room 1 X.A) : CSs X Z (defBody st__law_left) rd__law_left :=
  css_cons (cs_setLc A hc 3 rfl lcl__law_left_left rfl (by decide +kernel) rfl (ci_val (ce_var A.toWh 1 rfl vis__law_left_f nm_f.1 nm_f.2)) (own := [("number", 8)]) (blkOk_by (by decide +kernel)) (by decide) (fun _ _ _ _ _ => cg_name ((Wh.blk A.toWh _ _ _ _ _).sto (i := 8) rfl (by decide +kernel))) (fun _ _ _ _ _ => cts_nil) (fun _ _ _ _ _ => ce_mod (ce_var (Wh.blk A.toWh _ _ _ _ _) 8 rfl (vis_of (by decide +kernel)) nm_number.1 nm_number.2) (ce_var (Wh.blk A.toWh _ _ _ _ _) 0 rfl (vis_of (by decide +kernel)) nm_p.1 nm_p.2))) (css_cons (cs_while (ct_ge (ce_bi1 A.toWh fn_len call_len gl__law_left_len T.b_len bo_len (ce_var A.toWh 3 rfl vis__law_left_left nm_left.1 nm_left.2) (by decide) (by decide +kernel)) (ce_bi1 A.toWh fn_len call_len gl__law_left_len T.b_len bo_len (ce_var A.toWh 2 rfl vis__law_left_g nm_g.1 nm_g.2) (by decide) (by decide +kernel))) (show CSs X _ _ rd__law_left_b3 from css_cons (cs_set A 4 rfl loc__law_left_by (ce_ix (ce_var A.toWh 3 rfl vis__law_left_left nm_left.1 nm_left.2) (ce_neg (ce_int)) (fun _ _ => rfl))) (css_cons (cs_set A 5 rfl loc__law_left_turned (ce_int)) (css_cons (cs_while (ct_ne hr.units (ce_mod (ce_mul (ce_var A.toWh 5 rfl vis__law_left_turned nm_turned.1 nm_turned.2) (ce_ix (ce_var A.toWh 2 rfl vis__law_left_g nm_g.1 nm_g.2) (ce_neg (ce_int)) (fun _ _ => rfl))) (ce_var A.toWh 0 rfl vis__law_left_p nm_p.1 nm_p.2)) (ce_int)) (show CSs X _ _ rd__law_left_b0 from css_one (cs_set A 5 rfl loc__law_left_turned (ce_add (ce_var A.toWh 5 rfl vis__law_left_turned nm_turned.1 nm_turned.2) (ce_int))))) (css_cons (cs_for hc (ci_range1 A.toWh gl__law_left_range T.b_range (ce_bi1 A.toWh fn_len call_len gl__law_left_len T.b_len bo_len (ce_var A.toWh 2 rfl vis__law_left_g nm_g.1 nm_g.2) (by decide) (by decide +kernel))) (cg_name (A.sto (i := 6) rfl loc__law_left_k)) (fun _ => (show CSs X _ _ rd__law_left_b2 from css_cons (cs_set A 7 rfl loc__law_left_place (ce_add (ce_sub (ce_bi1 A.toWh fn_len call_len gl__law_left_len T.b_len bo_len (ce_var A.toWh 3 rfl vis__law_left_left nm_left.1 nm_left.2) (by decide) (by decide +kernel)) (ce_bi1 A.toWh fn_len call_len gl__law_left_len T.b_len bo_len (ce_var A.toWh 2 rfl vis__law_left_g nm_g.1 nm_g.2) (by decide) (by decide +kernel))) (ce_var A.toWh 6 rfl vis__law_left_k nm_k.1 nm_k.2))) (css_one (cs_setIx A.toWh 3 rfl vis__law_left_left nm_left.1 nm_left.2 (ce_mod (ce_sub (ce_ix (ce_var A.toWh 3 rfl vis__law_left_left nm_left.1 nm_left.2) (ce_var A.toWh 7 rfl vis__law_left_place nm_place.1 nm_place.2) (fun _ _ => rfl)) (ce_mul (ce_mul (ce_var A.toWh 4 rfl vis__law_left_by nm_by.1 nm_by.2) (ce_var A.toWh 5 rfl vis__law_left_turned nm_turned.1 nm_turned.2)) (ce_ix (ce_var A.toWh 2 rfl vis__law_left_g nm_g.1 nm_g.2) (ce_var A.toWh 6 rfl vis__law_left_k nm_k.1 nm_k.2) (fun _ _ => rfl)))) (ce_var A.toWh 0 rfl vis__law_left_p nm_p.1 nm_p.2)) (ce_var A.toWh 7 rfl vis__law_left_place nm_place.1 nm_place.2)))))) (css_one (cs_pop A 3 rfl vis__law_left_left nm_left.1 nm_left.2 (hline := rfl)))))))) (css_one (cs_retV A.toWh 3 rfl vis__law_left_left nm_left.1 nm_left.2)))
abbrev st__law_apart : Stmt := topS 25
theorem sc__law_apart : FnScope N__law_apart ["p", "g", "h"] (defScope st__law_apart) := ⟨rfl, rfl, rfl, by decide +kernel, rfl, by decide +kernel, by decide +kernel⟩
theorem lcl__law_apart_g : (defScope st__law_apart).names.lookup ("g" : Str) = some .local := by decide +kernel
theorem loc__law_apart_g : Loc (defScope st__law_apart) ("g" : Str) := .inl lcl__law_apart_g
theorem vis__law_apart_g : Vis (defScope st__law_apart) ("g" : Str) := (.inl lcl__law_apart_g)
theorem lcl__law_apart_h : (defScope st__law_apart).names.lookup ("h" : Str) = some .local := by decide +kernel
theorem loc__law_apart_h : Loc (defScope st__law_apart) ("h" : Str) := .inl lcl__law_apart_h
theorem vis__law_apart_h : Vis (defScope st__law_apart) ("h" : Str) := (.inl lcl__law_apart_h)
theorem lcl__law_apart_one : (defScope st__law_apart).names.lookup ("one" : Str) = some .local := by decide +kernel
theorem loc__law_apart_one : Loc (defScope st__law_apart) ("one" : Str) := .inl lcl__law_apart_one
theorem vis__law_apart_one : Vis (defScope st__law_apart) ("one" : Str) := (.inl lcl__law_apart_one)
theorem lcl__law_apart_other : (defScope st__law_apart).names.lookup ("other" : Str) = some .local := by decide +kernel
theorem loc__law_apart_other : Loc (defScope st__law_apart) ("other" : Str) := .inl lcl__law_apart_other
theorem vis__law_apart_other : Vis (defScope st__law_apart) ("other" : Str) := (.inl lcl__law_apart_other)
theorem lcl__law_apart_p : (defScope st__law_apart).names.lookup ("p" : Str) = some .cell := by decide +kernel
theorem loc__law_apart_p : Loc (defScope st__law_apart) ("p" : Str) := .inr lcl__law_apart_p
theorem vis__law_apart_p : Vis (defScope st__law_apart) ("p" : Str) := .inr (.inl lcl__law_apart_p)
theorem gl__law_apart__law_cut : GlN (defScope st__law_apart) ("_law_cut" : Str) := (by decide +kernel : (defScope st__law_apart).names.lookup ("_law_cut" : Str) = some .globalImplicit)
theorem gl__law_apart__law_left : GlN (defScope st__law_apart) ("_law_left" : Str) := (by decide +kernel : (defScope st__law_apart).names.lookup ("_law_left" : Str) = some .globalImplicit)
theorem gl__law_apart_len : GlN (defScope st__law_apart) ("len" : Str) := (by decide +kernel : (defScope st__law_apart).names.lookup ("len" : Str) = some .globalImplicit)
theorem der__law_apart {X : Cx} {Z : Zp} (T : Tx X.K X.mg Z.cl) (G__law_cut : FnAt X.prog X.w X.K X.mg X.base Z.cl 2 "_law_cut" ["f"] sp__law_cut) (G__law_left : FnAt X.prog X.w X.K X.mg X.base Z.cl 2 "_law_left" ["p", "f", "g"] sp__law_left) (A : WhD X N__law_apart (defScope st__law_apart)) (hc : X.calm = true) (hr : Room 2 X.A) : CSs X Z (defBody st__law_apart) rd__law_apart :=
  css_cons (cs_setLc A hc 3 rfl lcl__law_apart_one rfl (by decide +kernel) rfl (ci_val (ce_var A.toWh 1 rfl vis__law_apart_g nm_g.1 nm_g.2)) (own := [("number", 5)]) (blkOk_by (by decide +kernel)) (by decide) (fun _ _ _ _ _ => cg_name ((Wh.blk A.toWh _ _ _ _ _).sto (i := 5) rfl (by decide +kernel))) (fun _ _ _ _ _ => cts_nil) (fun _ _ _ _ _ => ce_mod (ce_var (Wh.blk A.toWh _ _ _ _ _) 5 rfl (vis_of (by decide +kernel)) nm_number.1 nm_number.2) (ce_var (Wh.blk A.toWh _ _ _ _ _) 0 rfl (vis_of (by decide +kernel)) nm_p.1 nm_p.2))) (css_fz 3 (css_cons (cs_set A 4 rfl loc__law_apart_other (ce_call G__law_cut A.toWh (hr.mono (by decide)) gl__law_apart__law_cut (ca_cons (ce_call G__law_left A.toWh (hr.mono (by decide)) gl__law_apart__law_left (ca_cons (ce_var A.toWh 0 rfl vis__law_apart_p nm_p.1 nm_p.2) (ca_cons (ce_var A.toWh 2 rfl vis__law_apart_h nm_h.1 nm_h.2) (ca_cons (ce_var A.toWh 3 rfl vis__law_apart_one nm_one.1 nm_one.2) (ca_nil)))) nm__law_left.1) (ca_nil)) nm__law_cut.1)) (css_fz 4 (css_cons (cs_while (ct_ne hr.units (ce_var A.toWh 4 rfl vis__law_apart_other nm_other.1 nm_other.2) (ce_lst (ca_nil))) (show CSs X _ _ rd__law_apart_b0 from css_cons (cs_par A hc 3 4 rfl rfl (by decide) lcl__law_apart_one lcl__law_apart_other (ce_var A.toWh 4 rfl vis__law_apart_other nm_other.1 nm_other.2) (ce_call G__law_cut A.toWh (hr.mono (by decide)) gl__law_apart__law_cut (ca_cons (ce_call G__law_left A.toWh (hr.mono (by decide)) gl__law_apart__law_left (ca_cons (ce_var A.toWh 0 rfl vis__law_apart_p nm_p.1 nm_p.2) (ca_cons (ce_var A.toWh 3 rfl vis__law_apart_one nm_one.1 nm_one.2) (ca_cons (ce_var A.toWh 4 rfl vis__law_apart_other nm_other.1 nm_other.2) (ca_nil)))) nm__law_left.1) (ca_nil)) nm__law_cut.1) (fun _ he => sw_par A.kind lcl__law_apart_one lcl__law_apart_other (by decide +kernel) rfl rfl rfl rfl rfl he)) (css_fz 4 (css_nil)))) (css_one (cs_ret (ce_eq hr.units (ce_bi1 A.toWh fn_len call_len gl__law_apart_len T.b_len bo_len (ce_var A.toWh 3 rfl vis__law_apart_one nm_one.1 nm_one.2) (by decide) (by decide +kernel)) (ce_int))))))))
abbrev st__law_cell_at : Stmt := topS 19
theorem sc__law_cell_at : FnScope N__law_cell_at ["script", "k"] (defScope st__law_cell_at) := ⟨rfl, rfl, rfl, by decide +kernel, rfl, by decide +kernel, by decide +kernel⟩
theorem lcl__law_cell_at_k : (defScope st__law_cell_at).names.lookup ("k" : Str) = some .local := by decide +kernel
theorem loc__law_cell_at_k : Loc (defScope st__law_cell_at) ("k" : Str) := .inl lcl__law_cell_at_k
theorem vis__law_cell_at_k : Vis (defScope st__law_cell_at) ("k" : Str) := (.inl lcl__law_cell_at_k)
theorem lcl__law_cell_at_script : (defScope st__law_cell_at).names.lookup ("script" : Str) = some .local := by decide +kernel
theorem loc__law_cell_at_script : Loc (defScope st__law_cell_at) ("script" : Str) := .inl lcl__law_cell_at_script
theorem vis__law_cell_at_script : Vis (defScope st__law_cell_at) ("script" : Str) := (.inl lcl__law_cell_at_script)
theorem gl__law_cell_at_len : GlN (defScope st__law_cell_at) ("len" : Str) := (by decide +kernel : (defScope st__law_cell_at).names.lookup ("len" : Str) = some .globalImplicit)
theorem der__law_cell_at {X : Cx} {Z : Zp} (T : Tx X.K X.mg Z.cl)  (A : WhD X N__law_cell_at (defScope st__law_cell_at)) (hc : X.calm = true) (hr : Room 1 X.A) : CSs X Z (defBody st__law_cell_at) rd__law_cell_at :=
  css_cons (cs_if (ct_lt (ce_var A.toWh 1 rfl vis__law_cell_at_k nm_k.1 nm_k.2) (ce_bi1 A.toWh fn_len call_len gl__law_cell_at_len T.b_len bo_len (ce_var A.toWh 0 rfl vis__law_cell_at_script nm_script.1 nm_script.2) (by decide) (by decide +kernel))) (css_one (cs_ret (ce_ix (ce_var A.toWh 0 rfl vis__law_cell_at_script nm_script.1 nm_script.2) (ce_var A.toWh 1 rfl vis__law_cell_at_k nm_k.1 nm_k.2) (fun _ _ => rfl)))) (css_nil)) (css_one (cs_ret (ce_int)))
abbrev st__law_power : Stmt := topS 21
theorem sc__law_power : FnScope N__law_power ["p", "e"] (defScope st__law_power) := ⟨rfl, rfl, rfl, by decide +kernel, rfl, by decide +kernel, by decide +kernel⟩
theorem lcl__law_power_e : (defScope st__law_power).names.lookup ("e" : Str) = some .local := by decide +kernel
theorem loc__law_power_e : Loc (defScope st__law_power) ("e" : Str) := .inl lcl__law_power_e
theorem vis__law_power_e : Vis (defScope st__law_power) ("e" : Str) := (.inl lcl__law_power_e)
theorem lcl__law_power_found : (defScope st__law_power).names.lookup ("found" : Str) = some .local := by decide +kernel
theorem loc__law_power_found : Loc (defScope st__law_power) ("found" : Str) := .inl lcl__law_power_found
theorem vis__law_power_found : Vis (defScope st__law_power) ("found" : Str) := (.inl lcl__law_power_found)
theorem lcl__law_power_k : (defScope st__law_power).names.lookup ("k" : Str) = some .local := by decide +kernel
theorem loc__law_power_k : Loc (defScope st__law_power) ("k" : Str) := .inl lcl__law_power_k
theorem vis__law_power_k : Vis (defScope st__law_power) ("k" : Str) := (.inl lcl__law_power_k)
theorem lcl__law_power_p : (defScope st__law_power).names.lookup ("p" : Str) = some .local := by decide +kernel
theorem loc__law_power_p : Loc (defScope st__law_power) ("p" : Str) := .inl lcl__law_power_p
theorem vis__law_power_p : Vis (defScope st__law_power) ("p" : Str) := (.inl lcl__law_power_p)
theorem gl__law_power_range : GlN (defScope st__law_power) ("range" : Str) := (by decide +kernel : (defScope st__law_power).names.lookup ("range" : Str) = some .globalImplicit)
theorem der__law_power {X : Cx} {Z : Zp} (T : Tx X.K X.mg Z.cl)  (A : WhD X N__law_power (defScope st__law_power)) (hc : X.calm = true) (hr : Room 1 X.A) : CSs X Z (defBody st__law_power) rd__law_power :=
  css_cons (cs_set A 2 rfl loc__law_power_found (ce_int)) (css_cons (cs_for hc (ci_range1 A.toWh gl__law_power_range T.b_range (ce_var A.toWh 1 rfl vis__law_power_e nm_e.1 nm_e.2)) (cg_name (A.sto (i := 3) rfl loc__law_power_k)) (fun _ => (show CSs X _ _ rd__law_power_b0 from css_one (cs_set A 2 rfl loc__law_power_found (ce_mul (ce_var A.toWh 2 rfl vis__law_power_found nm_found.1 nm_found.2) (ce_var A.toWh 0 rfl vis__law_power_p nm_p.1 nm_p.2)))))) (css_one (cs_retV A.toWh 2 rfl vis__law_power_found nm_found.1 nm_found.2)))
abbrev st__law_drawn : Stmt := topS 27
theorem sc__law_drawn : FnScope N__law_drawn ["script", "p", "N"] (defScope st__law_drawn) := ⟨rfl, rfl, rfl, by decide +kernel, rfl, by decide +kernel, by decide +kernel⟩
theorem lcl__law_drawn_N : (defScope st__law_drawn).names.lookup ("N" : Str) = some .local := by decide +kernel
theorem loc__law_drawn_N : Loc (defScope st__law_drawn) ("N" : Str) := .inl lcl__law_drawn_N
theorem vis__law_drawn_N : Vis (defScope st__law_drawn) ("N" : Str) := (.inl lcl__law_drawn_N)
theorem lcl__law_drawn_at : (defScope st__law_drawn).names.lookup ("at" : Str) = some .cell := by decide +kernel
theorem loc__law_drawn_at : Loc (defScope st__law_drawn) ("at" : Str) := .inr lcl__law_drawn_at
theorem vis__law_drawn_at : Vis (defScope st__law_drawn) ("at" : Str) := .inr (.inl lcl__law_drawn_at)
theorem lcl__law_drawn_cells : (defScope st__law_drawn).names.lookup ("cells" : Str) = some .local := by decide +kernel
theorem loc__law_drawn_cells : Loc (defScope st__law_drawn) ("cells" : Str) := .inl lcl__law_drawn_cells
theorem vis__law_drawn_cells : Vis (defScope st__law_drawn) ("cells" : Str) := (.inl lcl__law_drawn_cells)
theorem lcl__law_drawn_found : (defScope st__law_drawn).names.lookup ("found" : Str) = some .local := by decide +kernel
theorem loc__law_drawn_found : Loc (defScope st__law_drawn) ("found" : Str) := .inl lcl__law_drawn_found
theorem vis__law_drawn_found : Vis (defScope st__law_drawn) ("found" : Str) := (.inl lcl__law_drawn_found)
theorem lcl__law_drawn_p : (defScope st__law_drawn).names.lookup ("p" : Str) = some .local := by decide +kernel
theorem loc__law_drawn_p : Loc (defScope st__law_drawn) ("p" : Str) := .inl lcl__law_drawn_p
theorem vis__law_drawn_p : Vis (defScope st__law_drawn) ("p" : Str) := (.inl lcl__law_drawn_p)
theorem lcl__law_drawn_power : (defScope st__law_drawn).names.lookup ("power" : Str) = some .cell := by decide +kernel
theorem loc__law_drawn_power : Loc (defScope st__law_drawn) ("power" : Str) := .inr lcl__law_drawn_power
theorem vis__law_drawn_power : Vis (defScope st__law_drawn) ("power" : Str) := .inr (.inl lcl__law_drawn_power)
theorem lcl__law_drawn_script : (defScope st__law_drawn).names.lookup ("script" : Str) = some .cell := by decide +kernel
theorem loc__law_drawn_script : Loc (defScope st__law_drawn) ("script" : Str) := .inr lcl__law_drawn_script
theorem vis__law_drawn_script : Vis (defScope st__law_drawn) ("script" : Str) := .inr (.inl lcl__law_drawn_script)
theorem lcl__law_drawn_shape : (defScope st__law_drawn).names.lookup ("shape" : Str) = some .local := by decide +kernel
theorem loc__law_drawn_shape : Loc (defScope st__law_drawn) ("shape" : Str) := .inl lcl__law_drawn_shape
theorem vis__law_drawn_shape : Vis (defScope st__law_drawn) ("shape" : Str) := (.inl lcl__law_drawn_shape)
theorem lcl__law_drawn_size : (defScope st__law_drawn).names.lookup ("size" : Str) = some .local := by decide +kernel
theorem loc__law_drawn_size : Loc (defScope st__law_drawn) ("size" : Str) := .inl lcl__law_drawn_size
theorem vis__law_drawn_size : Vis (defScope st__law_drawn) ("size" : Str) := (.inl lcl__law_drawn_size)
theorem lcl__law_drawn_sizes : (defScope st__law_drawn).names.lookup ("sizes" : Str) = some .local := by decide +kernel
theorem loc__law_drawn_sizes : Loc (defScope st__law_drawn) ("sizes" : Str) := .inl lcl__law_drawn_sizes
theorem vis__law_drawn_sizes : Vis (defScope st__law_drawn) ("sizes" : Str) := (.inl lcl__law_drawn_sizes)
theorem gl__law_drawn__law_cell_at : GlN (defScope st__law_drawn) ("_law_cell_at" : Str) := (by decide +kernel : (defScope st__law_drawn).names.lookup ("_law_cell_at" : Str) = some .globalImplicit)
theorem gl__law_drawn__law_power : GlN (defScope st__law_drawn) ("_law_power" : Str) := (by decide +kernel : (defScope st__law_drawn).names.lookup ("_law_power" : Str) = some .globalImplicit)
theorem gl__law_drawn_enumerate : GlN (defScope st__law_drawn) ("enumerate" : Str) := (by decide +kernel : (defScope st__law_drawn).names.lookup ("enumerate" : Str) = some .globalImplicit)
theorem gl__law_drawn_range : GlN (defScope st__law_drawn) ("range" : Str) := (by decide +kernel : (defScope st__law_drawn).names.lookup ("range" : Str) = some .globalImplicit)
theorem der__law_drawn {X : Cx} {Z : Zp} (T : Tx X.K X.mg Z.cl) (G__law_cell_at : FnAt X.prog X.w X.K X.mg X.base Z.cl 2 "_law_cell_at" ["script", "k"] sp__law_cell_at) (G__law_power : FnAt X.prog X.w X.K X.mg X.base Z.cl 2 "_law_power" ["p", "e"] sp__law_power) (A : WhD X N__law_drawn (defScope st__law_drawn)) (hc : X.calm = true) (hr : Room 2 X.A) : CSs X Z (defBody st__law_drawn) rd__law_drawn :=
  css_cons (cs_set A 3 rfl loc__law_drawn_power (ce_call G__law_power A.toWh (hr.mono (by decide)) gl__law_drawn__law_power (ca_cons (ce_var A.toWh 1 rfl vis__law_drawn_p nm_p.1 nm_p.2) (ca_cons (ce_var A.toWh 2 rfl vis__law_drawn_N nm_N.1 nm_N.2) (ca_nil))) nm__law_power.1)) (css_fz 3 (css_cons (cs_set A 4 rfl loc__law_drawn_shape (ce_call G__law_cell_at A.toWh (hr.mono (by decide)) gl__law_drawn__law_cell_at (ca_cons (ce_var A.toWh 0 rfl vis__law_drawn_script nm_script.1 nm_script.2) (ca_cons (ce_int) (ca_nil))) nm__law_cell_at.1)) (css_fz 4 (css_cons (cs_set A 5 rfl loc__law_drawn_sizes (ce_lst (ca_cons (ce_add (ce_int) (ce_mod (ce_var A.toWh 4 rfl vis__law_drawn_shape nm_shape.1 nm_shape.2) (ce_int))) (ca_cons (ce_add (ce_int) (ce_mod (ce_fdiv (ce_var A.toWh 4 rfl vis__law_drawn_shape nm_shape.1 nm_shape.2) (ce_int)) (ce_int))) (ca_nil))))) (css_fz 5 (css_cons (cs_set A 6 rfl loc__law_drawn_at (ce_int)) (css_cons (cs_set A 7 rfl loc__law_drawn_found (ce_lst (ca_nil))) (css_cons (cs_for hc (ci_val (ce_var A.toWh 5 rfl vis__law_drawn_sizes nm_sizes.1 nm_sizes.2)) (cg_name (A.sto (i := 8) rfl loc__law_drawn_size)) (fun _ => (show CSs X _ _ rd__law_drawn_b0 from css_cons (cs_setLc A hc 9 rfl lcl__law_drawn_cells rfl (by decide +kernel) rfl (ci_range1 A.toWh gl__law_drawn_range T.b_range (ce_var A.toWh 8 rfl vis__law_drawn_size nm_size.1 nm_size.2)) (own := [("k", 10)]) (blkOk_by (by decide +kernel)) (by decide) (fun _ _ _ _ _ => cg_name ((Wh.blk A.toWh _ _ _ _ _).sto (i := 10) rfl (by decide +kernel))) (fun _ _ _ _ _ => cts_nil) (fun _ _ _ _ _ => ce_call G__law_cell_at (Wh.blk A.toWh _ _ _ _ _) (hr.mono (by decide)) (gl_of (by decide +kernel)) (ca_cons (ce_var (Wh.blk A.toWh _ _ _ _ _) 0 rfl (vis_of (by decide +kernel)) nm_script.1 nm_script.2) (ca_cons (ce_add (ce_var (Wh.blk A.toWh _ _ _ _ _) 6 rfl (vis_of (by decide +kernel)) nm_at.1 nm_at.2) (ce_var (Wh.blk A.toWh _ _ _ _ _) 10 rfl (vis_of (by decide +kernel)) nm_k.1 nm_k.2)) (ca_nil))) nm__law_cell_at.1)) (css_fz 9 (css_cons (cs_append A 7 rfl vis__law_drawn_found nm_found.1 nm_found.2 (ce_add (ce_lc A.toWh hc (ci_enum A.toWh gl__law_drawn_enumerate T.b_enumerate (ce_var A.toWh 9 rfl vis__law_drawn_cells nm_cells.1 nm_cells.2)) (own := [("k", 10), ("cell", 11)]) (blkOk_by (by decide +kernel)) (by decide) (fun _ _ _ _ _ => cg_tup hc (cgs_cons ((Wh.blk A.toWh _ _ _ _ _).sto (i := 10) rfl (by decide +kernel)) (cgs_cons ((Wh.blk A.toWh _ _ _ _ _).sto (i := 11) rfl (by decide +kernel)) (cgs_nil))) rfl) (fun _ _ _ _ _ => cts_nil) (fun _ _ _ _ _ => ce_mod (ce_mul (ce_mul (ce_var (Wh.blk A.toWh _ _ _ _ _) 11 rfl (vis_of (by decide +kernel)) nm_cell.1 nm_cell.2) (ce_var (Wh.blk A.toWh _ _ _ _ _) 11 rfl (vis_of (by decide +kernel)) nm_cell.1 nm_cell.2)) (ce_add (ce_add (ce_pow (ce_int) (ce_int)) (ce_int)) (ce_var (Wh.blk A.toWh _ _ _ _ _) 10 rfl (vis_of (by decide +kernel)) nm_k.1 nm_k.2))) (ce_var (Wh.blk A.toWh _ _ _ _ _) 3 rfl (vis_of (by decide +kernel)) nm_power.1 nm_power.2))) (ce_lst (ca_cons (ce_int) (ca_nil)))) (hline := rfl)) (css_one (cs_set A 6 rfl loc__law_drawn_at (ce_add (ce_var A.toWh 6 rfl vis__law_drawn_at nm_at.1 nm_at.2) (ce_var A.toWh 8 rfl vis__law_drawn_size nm_size.1 nm_size.2))))))))) (css_one (cs_retV A.toWh 7 rfl vis__law_drawn_found nm_found.1 nm_found.2))))))))))
abbrev st__law_near : Stmt := topS 28
theorem sc__law_near : FnScope N__law_near ["script", "p", "G", "start"] (defScope st__law_near) := ⟨rfl, rfl, rfl, by decide +kernel, rfl, by decide +kernel, by decide +kernel⟩
theorem lcl__law_near_G : (defScope st__law_near).names.lookup ("G" : Str) = some .cell := by decide +kernel
theorem loc__law_near_G : Loc (defScope st__law_near) ("G" : Str) := .inr lcl__law_near_G
theorem vis__law_near_G : Vis (defScope st__law_near) ("G" : Str) := .inr (.inl lcl__law_near_G)
theorem lcl__law_near_many : (defScope st__law_near).names.lookup ("many" : Str) = some .cell := by decide +kernel
theorem loc__law_near_many : Loc (defScope st__law_near) ("many" : Str) := .inr lcl__law_near_many
theorem vis__law_near_many : Vis (defScope st__law_near) ("many" : Str) := .inr (.inl lcl__law_near_many)
theorem lcl__law_near_script : (defScope st__law_near).names.lookup ("script" : Str) = some .cell := by decide +kernel
theorem loc__law_near_script : Loc (defScope st__law_near) ("script" : Str) := .inr lcl__law_near_script
theorem vis__law_near_script : Vis (defScope st__law_near) ("script" : Str) := .inr (.inl lcl__law_near_script)
theorem gl__law_near__law_cell_at : GlN (defScope st__law_near) ("_law_cell_at" : Str) := (by decide +kernel : (defScope st__law_near).names.lookup ("_law_cell_at" : Str) = some .globalImplicit)
theorem gl__law_near_len : GlN (defScope st__law_near) ("len" : Str) := (by decide +kernel : (defScope st__law_near).names.lookup ("len" : Str) = some .globalImplicit)
theorem gl__law_near_range : GlN (defScope st__law_near) ("range" : Str) := (by decide +kernel : (defScope st__law_near).names.lookup ("range" : Str) = some .globalImplicit)
theorem der__law_near {X : Cx} {Z : Zp} (T : Tx X.K X.mg Z.cl) (G__law_cell_at : FnAt X.prog X.w X.K X.mg X.base Z.cl 2 "_law_cell_at" ["script", "k"] sp__law_cell_at) (A : WhD X N__law_near (defScope st__law_near)) (hc : X.calm = true) (hr : Room 2 X.A) : CSs X Z (defBody st__law_near) rd__law_near :=
  css_cons (cs_setC A 4 rfl lcl__law_near_many (ce_lc A.toWh hc (ci_range1 A.toWh gl__law_near_range T.b_range (ce_sub (ce_bi1 A.toWh fn_len call_len gl__law_near_len T.b_len bo_len (ce_var A.toWh 2 rfl vis__law_near_G nm_G.1 nm_G.2) (by decide) (by decide +kernel)) (ce_int))) (own := [("k", 5)]) (blkOk_by (by decide +kernel)) (by decide) (fun _ _ _ _ _ => cg_name ((Wh.blk A.toWh _ _ _ _ _).sto (i := 5) rfl (by decide +kernel))) (fun _ _ _ _ _ => cts_nil) (fun _ _ _ _ _ => ce_call G__law_cell_at (Wh.blk A.toWh _ _ _ _ _) (hr.mono (by decide)) (gl_of (by decide +kernel)) (ca_cons (ce_var (Wh.blk A.toWh _ _ _ _ _) 0 rfl (vis_of (by decide +kernel)) nm_script.1 nm_script.2) (ca_cons (ce_add (ce_var (Wh.blk A.toWh _ _ _ _ _) 3 rfl (vis_of (by decide +kernel)) nm_start.1 nm_start.2) (ce_var (Wh.blk A.toWh _ _ _ _ _) 5 rfl (vis_of (by decide +kernel)) nm_k.1 nm_k.2)) (ca_nil))) nm__law_cell_at.1)) (fun env hy => sw_cell hy)) (css_fz 4 (css_cons (cs_if (ct_eq hr.units (ce_mod (ce_fdiv (ce_call G__law_cell_at A.toWh (hr.mono (by decide)) gl__law_near__law_cell_at (ca_cons (ce_var A.toWh 0 rfl vis__law_near_script nm_script.1 nm_script.2) (ca_cons (ce_int) (ca_nil))) nm__law_cell_at.1) (ce_int)) (ce_int)) (ce_int)) (css_cons (cs_set A 4 rfl loc__law_near_many (ce_mul (ce_lst (ca_cons (ce_int) (ca_nil))) (ce_bi1 A.toWh fn_len call_len gl__law_near_len T.b_len bo_len (ce_var A.toWh 4 rfl vis__law_near_many nm_many.1 nm_many.2) (by decide) (by decide +kernel)))) (css_fz 4 (css_nil))) (css_nil)) (css_one (cs_ret (ce_add (ce_lc A.toWh hc (ci_range1 A.toWh gl__law_near_range T.b_range (ce_bi1 A.toWh fn_len call_len gl__law_near_len T.b_len bo_len (ce_var A.toWh 4 rfl vis__law_near_many nm_many.1 nm_many.2) (by decide) (by decide +kernel))) (own := [("k", 5)]) (blkOk_by (by decide +kernel)) (by decide) (fun _ _ _ _ _ => cg_name ((Wh.blk A.toWh _ _ _ _ _).sto (i := 5) rfl (by decide +kernel))) (fun _ _ _ _ _ => cts_nil) (fun _ _ _ _ _ => ce_add (ce_mod (ce_ix (ce_var (Wh.blk A.toWh _ _ _ _ _) 2 rfl (vis_of (by decide +kernel)) nm_G.1 nm_G.2) (ce_var (Wh.blk A.toWh _ _ _ _ _) 5 rfl (vis_of (by decide +kernel)) nm_k.1 nm_k.2) (fun _ _ => rfl)) (ce_var (Wh.blk A.toWh _ _ _ _ _) 1 rfl (vis_of (by decide +kernel)) nm_p.1 nm_p.2)) (ce_mul (ce_mul (ce_sub (ce_mod (ce_ix (ce_var (Wh.blk A.toWh _ _ _ _ _) 4 rfl (vis_of (by decide +kernel)) nm_many.1 nm_many.2) (ce_var (Wh.blk A.toWh _ _ _ _ _) 5 rfl (vis_of (by decide +kernel)) nm_k.1 nm_k.2) (fun _ _ => rfl)) (ce_int)) (ce_int)) (ce_var (Wh.blk A.toWh _ _ _ _ _) 1 rfl (vis_of (by decide +kernel)) nm_p.1 nm_p.2)) (ce_ty1 (Wh.blk A.toWh _ _ _ _ _) fn_int call_int1 (gl_of (by decide +kernel)) T.b_int bo_int (ce_ne hr.units (ce_ix (ce_var (Wh.blk A.toWh _ _ _ _ _) 4 rfl (vis_of (by decide +kernel)) nm_many.1 nm_many.2) (ce_var (Wh.blk A.toWh _ _ _ _ _) 5 rfl (vis_of (by decide +kernel)) nm_k.1 nm_k.2) (fun _ _ => rfl)) (ce_int)) (by decide) (by decide +kernel))))) (ce_lst (ca_cons (ce_int) (ca_nil))))))))
abbrev st_by_prime : Stmt := topS 10
theorem sc_by_prime : FnScope N_by_prime ["p", "f"] (defScope st_by_prime) := ⟨rfl, rfl, rfl, by decide +kernel, rfl, by decide +kernel, by decide +kernel⟩
theorem lcl_by_prime_f : (defScope st_by_prime).names.lookup ("f" : Str) = some .local := by decide +kernel
theorem loc_by_prime_f : Loc (defScope st_by_prime) ("f" : Str) := .inl lcl_by_prime_f
theorem vis_by_prime_f : Vis (defScope st_by_prime) ("f" : Str) := (.inl lcl_by_prime_f)
theorem lcl_by_prime_found : (defScope st_by_prime).names.lookup ("found" : Str) = some .local := by decide +kernel
theorem loc_by_prime_found : Loc (defScope st_by_prime) ("found" : Str) := .inl lcl_by_prime_found
theorem vis_by_prime_found : Vis (defScope st_by_prime) ("found" : Str) := (.inl lcl_by_prime_found)
theorem der_by_prime {X : Cx} {Z : Zp} (T : Tx X.K X.mg Z.cl)  (A : WhD X N_by_prime (defScope st_by_prime)) (hc : X.calm = true) (hr : Room 1 X.A) : CSs X Z (defBody st_by_prime) rd_by_prime :=
  css_cons (cs_setLc A hc 2 rfl lcl_by_prime_found rfl (by decide +kernel) rfl (ci_val (ce_var A.toWh 1 rfl vis_by_prime_f nm_f.1 nm_f.2)) (own := [("number", 3)]) (blkOk_by (by decide +kernel)) (by decide) (fun _ _ _ _ _ => cg_name ((Wh.blk A.toWh _ _ _ _ _).sto (i := 3) rfl (by decide +kernel))) (fun _ _ _ _ _ => cts_nil) (fun _ _ _ _ _ => ce_mod (ce_var (Wh.blk A.toWh _ _ _ _ _) 3 rfl (vis_of (by decide +kernel)) nm_number.1 nm_number.2) (ce_var (Wh.blk A.toWh _ _ _ _ _) 0 rfl (vis_of (by decide +kernel)) nm_p.1 nm_p.2))) (css_cons (cs_while (ct_w (cw_and (ct_ne hr.units (ce_var A.toWh 2 rfl vis_by_prime_found nm_found.1 nm_found.2) (ce_lst (ca_nil))) (cw_and1 (ct_eq hr.units (ce_ix (ce_var A.toWh 2 rfl vis_by_prime_found nm_found.1 nm_found.2) (ce_neg (ce_int)) (fun _ _ => rfl)) (ce_int))))) (show CSs X _ _ rd_by_prime_b0 from css_one (cs_pop A 2 rfl vis_by_prime_found nm_found.1 nm_found.2 (hline := rfl)))) (css_one (cs_retV A.toWh 2 rfl vis_by_prime_found nm_found.1 nm_found.2)))
abbrev st_poly_less : Stmt := topS 11
theorem sc_poly_less : FnScope N_poly_less ["one", "other"] (defScope st_poly_less) := ⟨rfl, rfl, rfl, by decide +kernel, rfl, by decide +kernel, by decide +kernel⟩
theorem lcl_poly_less_first : (defScope st_poly_less).names.lookup ("first" : Str) = some .cell := by decide +kernel
theorem loc_poly_less_first : Loc (defScope st_poly_less) ("first" : Str) := .inr lcl_poly_less_first
theorem vis_poly_less_first : Vis (defScope st_poly_less) ("first" : Str) := .inr (.inl lcl_poly_less_first)
theorem lcl_poly_less_many : (defScope st_poly_less).names.lookup ("many" : Str) = some .local := by decide +kernel
theorem loc_poly_less_many : Loc (defScope st_poly_less) ("many" : Str) := .inl lcl_poly_less_many
theorem vis_poly_less_many : Vis (defScope st_poly_less) ("many" : Str) := (.inl lcl_poly_less_many)
theorem lcl_poly_less_one : (defScope st_poly_less).names.lookup ("one" : Str) = some .local := by decide +kernel
theorem loc_poly_less_one : Loc (defScope st_poly_less) ("one" : Str) := .inl lcl_poly_less_one
theorem vis_poly_less_one : Vis (defScope st_poly_less) ("one" : Str) := (.inl lcl_poly_less_one)
theorem lcl_poly_less_other : (defScope st_poly_less).names.lookup ("other" : Str) = some .local := by decide +kernel
theorem loc_poly_less_other : Loc (defScope st_poly_less) ("other" : Str) := .inl lcl_poly_less_other
theorem vis_poly_less_other : Vis (defScope st_poly_less) ("other" : Str) := (.inl lcl_poly_less_other)
theorem lcl_poly_less_then : (defScope st_poly_less).names.lookup ("then" : Str) = some .cell := by decide +kernel
theorem loc_poly_less_then : Loc (defScope st_poly_less) ("then" : Str) := .inr lcl_poly_less_then
theorem vis_poly_less_then : Vis (defScope st_poly_less) ("then" : Str) := .inr (.inl lcl_poly_less_then)
theorem gl_poly_less_len : GlN (defScope st_poly_less) ("len" : Str) := (by decide +kernel : (defScope st_poly_less).names.lookup ("len" : Str) = some .globalImplicit)
theorem gl_poly_less_list : GlN (defScope st_poly_less) ("list" : Str) := (by decide +kernel : (defScope st_poly_less).names.lookup ("list" : Str) = some .globalImplicit)
theorem gl_poly_less_max : GlN (defScope st_poly_less) ("max" : Str) := (by decide +kernel : (defScope st_poly_less).names.lookup ("max" : Str) = some .globalImplicit)
theorem gl_poly_less_range : GlN (defScope st_poly_less) ("range" : Str) := (by decide +kernel : (defScope st_poly_less).names.lookup ("range" : Str) = some .globalImplicit)
theorem der_poly_less {X : Cx} {Z : Zp} (T : Tx X.K X.mg Z.cl)  (A : WhD X N_poly_less (defScope st_poly_less)) (hc : X.calm = true) (hr : Room 1 X.A) : CSs X Z (defBody st_poly_less) rd_poly_less :=
  css_cons (cs_set A 2 rfl loc_poly_less_many (ce_bi2 A.toWh fn_max (call_max2 hc) gl_poly_less_max T.b_max bo_max (ce_bi1 A.toWh fn_len call_len gl_poly_less_len T.b_len bo_len (ce_var A.toWh 0 rfl vis_poly_less_one nm_one.1 nm_one.2) (by decide) (by decide +kernel)) (ce_bi1 A.toWh fn_len call_len gl_poly_less_len T.b_len bo_len (ce_var A.toWh 1 rfl vis_poly_less_other nm_other.1 nm_other.2) (by decide) (by decide +kernel)) (by decide) (by decide +kernel))) (css_cons (cs_set A 3 rfl loc_poly_less_first (ce_add (ce_ty1 A.toWh fn_list call_list_of gl_poly_less_list T.b_list bo_list (ce_var A.toWh 0 rfl vis_poly_less_one nm_one.1 nm_one.2) (by decide) (by decide +kernel)) (ce_mul (ce_lst (ca_cons (ce_int) (ca_nil))) (ce_sub (ce_var A.toWh 2 rfl vis_poly_less_many nm_many.1 nm_many.2) (ce_bi1 A.toWh fn_len call_len gl_poly_less_len T.b_len bo_len (ce_var A.toWh 0 rfl vis_poly_less_one nm_one.1 nm_one.2) (by decide) (by decide +kernel)))))) (css_fz 3 (css_cons (cs_set A 4 rfl loc_poly_less_then (ce_add (ce_ty1 A.toWh fn_list call_list_of gl_poly_less_list T.b_list bo_list (ce_var A.toWh 1 rfl vis_poly_less_other nm_other.1 nm_other.2) (by decide) (by decide +kernel)) (ce_mul (ce_lst (ca_cons (ce_int) (ca_nil))) (ce_sub (ce_var A.toWh 2 rfl vis_poly_less_many nm_many.1 nm_many.2) (ce_bi1 A.toWh fn_len call_len gl_poly_less_len T.b_len bo_len (ce_var A.toWh 1 rfl vis_poly_less_other nm_other.1 nm_other.2) (by decide) (by decide +kernel)))))) (css_fz 4 (css_one (cs_ret (ce_lc A.toWh hc (ci_range1 A.toWh gl_poly_less_range T.b_range (ce_var A.toWh 2 rfl vis_poly_less_many nm_many.1 nm_many.2)) (own := [("k", 5)]) (blkOk_by (by decide +kernel)) (by decide) (fun _ _ _ _ _ => cg_name ((Wh.blk A.toWh _ _ _ _ _).sto (i := 5) rfl (by decide +kernel))) (fun _ _ _ _ _ => cts_nil) (fun _ _ _ _ _ => ce_sub (ce_ix (ce_var (Wh.blk A.toWh _ _ _ _ _) 3 rfl (vis_of (by decide +kernel)) nm_first.1 nm_first.2) (ce_var (Wh.blk A.toWh _ _ _ _ _) 5 rfl (vis_of (by decide +kernel)) nm_k.1 nm_k.2) (fun _ _ => rfl)) (ce_ix (ce_var (Wh.blk A.toWh _ _ _ _ _) 4 rfl (vis_of (by decide +kernel)) nm_then.1 nm_then.2) (ce_var (Wh.blk A.toWh _ _ _ _ _) 5 rfl (vis_of (by decide +kernel)) nm_k.1 nm_k.2) (fun _ _ => rfl))))))))))
abbrev st_poly_product : Stmt := topS 8
theorem sc_poly_product : FnScope N_poly_product ["f", "g"] (defScope st_poly_product) := ⟨rfl, rfl, rfl, by decide +kernel, rfl, by decide +kernel, by decide +kernel⟩
theorem lcl_poly_product_f : (defScope st_poly_product).names.lookup ("f" : Str) = some .local := by decide +kernel
theorem loc_poly_product_f : Loc (defScope st_poly_product) ("f" : Str) := .inl lcl_poly_product_f
theorem vis_poly_product_f : Vis (defScope st_poly_product) ("f" : Str) := (.inl lcl_poly_product_f)
theorem lcl_poly_product_found : (defScope st_poly_product).names.lookup ("found" : Str) = some .local := by decide +kernel
theorem loc_poly_product_found : Loc (defScope st_poly_product) ("found" : Str) := .inl lcl_poly_product_found
theorem vis_poly_product_found : Vis (defScope st_poly_product) ("found" : Str) := (.inl lcl_poly_product_found)
theorem lcl_poly_product_g : (defScope st_poly_product).names.lookup ("g" : Str) = some .local := by decide +kernel
theorem loc_poly_product_g : Loc (defScope st_poly_product) ("g" : Str) := .inl lcl_poly_product_g
theorem vis_poly_product_g : Vis (defScope st_poly_product) ("g" : Str) := (.inl lcl_poly_product_g)
theorem lcl_poly_product_j : (defScope st_poly_product).names.lookup ("j" : Str) = some .local := by decide +kernel
theorem loc_poly_product_j : Loc (defScope st_poly_product) ("j" : Str) := .inl lcl_poly_product_j
theorem vis_poly_product_j : Vis (defScope st_poly_product) ("j" : Str) := (.inl lcl_poly_product_j)
theorem lcl_poly_product_k : (defScope st_poly_product).names.lookup ("k" : Str) = some .local := by decide +kernel
theorem loc_poly_product_k : Loc (defScope st_poly_product) ("k" : Str) := .inl lcl_poly_product_k
theorem vis_poly_product_k : Vis (defScope st_poly_product) ("k" : Str) := (.inl lcl_poly_product_k)
theorem gl_poly_product_len : GlN (defScope st_poly_product) ("len" : Str) := (by decide +kernel : (defScope st_poly_product).names.lookup ("len" : Str) = some .globalImplicit)
theorem gl_poly_product_range : GlN (defScope st_poly_product) ("range" : Str) := (by decide +kernel : (defScope st_poly_product).names.lookup ("range" : Str) = some .globalImplicit)
theorem der_poly_product {X : Cx} {Z : Zp} (T : Tx X.K X.mg Z.cl)  (A : WhD X N_poly_product (defScope st_poly_product)) (hc : X.calm = true) (hr : Room 1 X.A) : CSs X Z (defBody st_poly_product) rd_poly_product :=
  css_cons (cs_set A 2 rfl loc_poly_product_found (ce_mul (ce_lst (ca_cons (ce_int) (ca_nil))) (ce_sub (ce_add (ce_bi1 A.toWh fn_len call_len gl_poly_product_len T.b_len bo_len (ce_var A.toWh 0 rfl vis_poly_product_f nm_f.1 nm_f.2) (by decide) (by decide +kernel)) (ce_bi1 A.toWh fn_len call_len gl_poly_product_len T.b_len bo_len (ce_var A.toWh 1 rfl vis_poly_product_g nm_g.1 nm_g.2) (by decide) (by decide +kernel))) (ce_int)))) (css_cons (cs_for hc (ci_range1 A.toWh gl_poly_product_range T.b_range (ce_bi1 A.toWh fn_len call_len gl_poly_product_len T.b_len bo_len (ce_var A.toWh 0 rfl vis_poly_product_f nm_f.1 nm_f.2) (by decide) (by decide +kernel))) (cg_name (A.sto (i := 3) rfl loc_poly_product_k)) (fun _ => (show CSs X _ _ rd_poly_product_b1 from css_one (cs_for hc (ci_range1 A.toWh gl_poly_product_range T.b_range (ce_bi1 A.toWh fn_len call_len gl_poly_product_len T.b_len bo_len (ce_var A.toWh 1 rfl vis_poly_product_g nm_g.1 nm_g.2) (by decide) (by decide +kernel))) (cg_name (A.sto (i := 4) rfl loc_poly_product_j)) (fun _ => (show CSs X _ _ rd_poly_product_b0 from css_one (cs_augIx A 2 rfl vis_poly_product_found nm_found.1 nm_found.2 (ce_mul (ce_ix (ce_var A.toWh 0 rfl vis_poly_product_f nm_f.1 nm_f.2) (ce_var A.toWh 3 rfl vis_poly_product_k nm_k.1 nm_k.2) (fun _ _ => rfl)) (ce_ix (ce_var A.toWh 1 rfl vis_poly_product_g nm_g.1 nm_g.2) (ce_var A.toWh 4 rfl vis_poly_product_j nm_j.1 nm_j.2) (fun _ _ => rfl))) (ce_add (ce_var A.toWh 3 rfl vis_poly_product_k nm_k.1 nm_k.2) (ce_var A.toWh 4 rfl vis_poly_product_j nm_j.1 nm_j.2))))))))) (css_one (cs_retV A.toWh 2 rfl vis_poly_product_found nm_found.1 nm_found.2)))
abbrev st_need_parts : Stmt := topS 15
theorem sc_need_parts : FnScope N_need_parts ["p", "N", "f", "g", "h"] (defScope st_need_parts) := ⟨rfl, rfl, rfl, by decide +kernel, rfl, by decide +kernel, by decide +kernel⟩
theorem lcl_need_parts_N : (defScope st_need_parts).names.lookup ("N" : Str) = some .local := by decide +kernel
theorem loc_need_parts_N : Loc (defScope st_need_parts) ("N" : Str) := .inl lcl_need_parts_N
theorem vis_need_parts_N : Vis (defScope st_need_parts) ("N" : Str) := (.inl lcl_need_parts_N)
theorem lcl_need_parts_f : (defScope st_need_parts).names.lookup ("f" : Str) = some .local := by decide +kernel
theorem loc_need_parts_f : Loc (defScope st_need_parts) ("f" : Str) := .inl lcl_need_parts_f
theorem vis_need_parts_f : Vis (defScope st_need_parts) ("f" : Str) := (.inl lcl_need_parts_f)
theorem lcl_need_parts_g : (defScope st_need_parts).names.lookup ("g" : Str) = some .local := by decide +kernel
theorem loc_need_parts_g : Loc (defScope st_need_parts) ("g" : Str) := .inl lcl_need_parts_g
theorem vis_need_parts_g : Vis (defScope st_need_parts) ("g" : Str) := (.inl lcl_need_parts_g)
theorem lcl_need_parts_h : (defScope st_need_parts).names.lookup ("h" : Str) = some .local := by decide +kernel
theorem loc_need_parts_h : Loc (defScope st_need_parts) ("h" : Str) := .inl lcl_need_parts_h
theorem vis_need_parts_h : Vis (defScope st_need_parts) ("h" : Str) := (.inl lcl_need_parts_h)
theorem lcl_need_parts_p : (defScope st_need_parts).names.lookup ("p" : Str) = some .local := by decide +kernel
theorem loc_need_parts_p : Loc (defScope st_need_parts) ("p" : Str) := .inl lcl_need_parts_p
theorem vis_need_parts_p : Vis (defScope st_need_parts) ("p" : Str) := (.inl lcl_need_parts_p)
theorem gl_need_parts_NoParts : GlN (defScope st_need_parts) ("NoParts" : Str) := (by decide +kernel : (defScope st_need_parts).names.lookup ("NoParts" : Str) = some .globalImplicit)
theorem gl_need_parts_by_prime : GlN (defScope st_need_parts) ("by_prime" : Str) := (by decide +kernel : (defScope st_need_parts).names.lookup ("by_prime" : Str) = some .globalImplicit)
theorem gl_need_parts_len : GlN (defScope st_need_parts) ("len" : Str) := (by decide +kernel : (defScope st_need_parts).names.lookup ("len" : Str) = some .globalImplicit)
theorem gl_need_parts_poly_less : GlN (defScope st_need_parts) ("poly_less" : Str) := (by decide +kernel : (defScope st_need_parts).names.lookup ("poly_less" : Str) = some .globalImplicit)
theorem gl_need_parts_poly_product : GlN (defScope st_need_parts) ("poly_product" : Str) := (by decide +kernel : (defScope st_need_parts).names.lookup ("poly_product" : Str) = some .globalImplicit)
theorem der_need_parts {X : Cx} {Z : Zp} (T : Tx X.K X.mg Z.cl) (G_by_prime : FnAt X.prog X.w X.K X.mg X.base Z.cl 2 "by_prime" ["p", "f"] sp_by_prime) (G_poly_less : FnAt X.prog X.w X.K X.mg X.base Z.cl 2 "poly_less" ["one", "other"] sp_poly_less) (G_poly_product : FnAt X.prog X.w X.K X.mg X.base Z.cl 2 "poly_product" ["f", "g"] sp_poly_product) (A : WhD X N_need_parts (defScope st_need_parts)) (hc : X.calm = true) (hr : Room 2 X.A) : CSs X Z (defBody st_need_parts) rd_need_parts :=
  css_cons (cs_if (ct_w (cw_or (ct_lt (ce_var A.toWh 1 rfl vis_need_parts_N nm_N.1 nm_N.2) (ce_int)) (cw_or (ct_lt (ce_bi1 A.toWh fn_len call_len gl_need_parts_len T.b_len bo_len (ce_var A.toWh 3 rfl vis_need_parts_g nm_g.1 nm_g.2) (by decide) (by decide +kernel)) (ce_int)) (cw_or (ct_lt (ce_bi1 A.toWh fn_len call_len gl_need_parts_len T.b_len bo_len (ce_var A.toWh 4 rfl vis_need_parts_h nm_h.1 nm_h.2) (by decide) (by decide +kernel)) (ce_int)) (cw_or1 (ct_ne hr.units (ce_bi1 A.toWh fn_len call_len gl_need_parts_len T.b_len bo_len (ce_var A.toWh 2 rfl vis_need_parts_f nm_f.1 nm_f.2) (by decide) (by decide +kernel)) (ce_sub (ce_add (ce_bi1 A.toWh fn_len call_len gl_need_parts_len T.b_len bo_len (ce_var A.toWh 3 rfl vis_need_parts_g nm_g.1 nm_g.2) (by decide) (by decide +kernel)) (ce_bi1 A.toWh fn_len call_len gl_need_parts_len T.b_len bo_len (ce_var A.toWh 4 rfl vis_need_parts_h nm_h.1 nm_h.2) (by decide) (by decide +kernel))) (ce_int)))))))) (css_one (cs_raise (c := .NoParts) T.x_NoParts A.toWh hc gl_need_parts_NoParts (by decide +kernel))) (css_nil)) (css_one (cs_if (ct_w (cw_or (ct_ne hr.units (ce_ix (ce_var A.toWh 2 rfl vis_need_parts_f nm_f.1 nm_f.2) (ce_neg (ce_int)) (fun _ _ => rfl)) (ce_int)) (cw_or (ct_ne hr.units (ce_ix (ce_var A.toWh 3 rfl vis_need_parts_g nm_g.1 nm_g.2) (ce_neg (ce_int)) (fun _ _ => rfl)) (ce_int)) (cw_or (ct_ne hr.units (ce_ix (ce_var A.toWh 4 rfl vis_need_parts_h nm_h.1 nm_h.2) (ce_neg (ce_int)) (fun _ _ => rfl)) (ce_int)) (cw_or1 (ct_ne hr.units (ce_call G_by_prime A.toWh (hr.mono (by decide)) gl_need_parts_by_prime (ca_cons (ce_var A.toWh 0 rfl vis_need_parts_p nm_p.1 nm_p.2) (ca_cons (ce_call G_poly_less A.toWh (hr.mono (by decide)) gl_need_parts_poly_less (ca_cons (ce_var A.toWh 2 rfl vis_need_parts_f nm_f.1 nm_f.2) (ca_cons (ce_call G_poly_product A.toWh (hr.mono (by decide)) gl_need_parts_poly_product (ca_cons (ce_var A.toWh 3 rfl vis_need_parts_g nm_g.1 nm_g.2) (ca_cons (ce_var A.toWh 4 rfl vis_need_parts_h nm_h.1 nm_h.2) (ca_nil))) nm_poly_product.1) (ca_nil))) nm_poly_less.1) (ca_nil))) nm_by_prime.1) (ce_lst (ca_nil)))))))) (css_one (cs_raise (c := .NoParts) T.x_NoParts A.toWh hc gl_need_parts_NoParts (by decide +kernel))) (css_nil)))
abbrev st_power_of : Stmt := topS 5
theorem sc_power_of : FnScope N_power_of ["p", "e"] (defScope st_power_of) := ⟨rfl, rfl, rfl, by decide +kernel, rfl, by decide +kernel, by decide +kernel⟩
theorem lcl_power_of_e : (defScope st_power_of).names.lookup ("e" : Str) = some .local := by decide +kernel
theorem loc_power_of_e : Loc (defScope st_power_of) ("e" : Str) := .inl lcl_power_of_e
theorem vis_power_of_e : Vis (defScope st_power_of) ("e" : Str) := (.inl lcl_power_of_e)
theorem lcl_power_of_found : (defScope st_power_of).names.lookup ("found" : Str) = some .local := by decide +kernel
theorem loc_power_of_found : Loc (defScope st_power_of) ("found" : Str) := .inl lcl_power_of_found
theorem vis_power_of_found : Vis (defScope st_power_of) ("found" : Str) := (.inl lcl_power_of_found)
theorem lcl_power_of_k : (defScope st_power_of).names.lookup ("k" : Str) = some .local := by decide +kernel
theorem loc_power_of_k : Loc (defScope st_power_of) ("k" : Str) := .inl lcl_power_of_k
theorem vis_power_of_k : Vis (defScope st_power_of) ("k" : Str) := (.inl lcl_power_of_k)
theorem lcl_power_of_p : (defScope st_power_of).names.lookup ("p" : Str) = some .local := by decide +kernel
theorem loc_power_of_p : Loc (defScope st_power_of) ("p" : Str) := .inl lcl_power_of_p
theorem vis_power_of_p : Vis (defScope st_power_of) ("p" : Str) := (.inl lcl_power_of_p)
theorem gl_power_of_range : GlN (defScope st_power_of) ("range" : Str) := (by decide +kernel : (defScope st_power_of).names.lookup ("range" : Str) = some .globalImplicit)
theorem der_power_of {X : Cx} {Z : Zp} (T : Tx X.K X.mg Z.cl)  (A : WhD X N_power_of (defScope st_power_of)) (hc : X.calm = true) (hr : Room 1 X.A) : CSs X Z (defBody st_power_of) rd_power_of :=
  css_cons (cs_set A 2 rfl loc_power_of_found (ce_int)) (css_cons (cs_for hc (ci_range1 A.toWh gl_power_of_range T.b_range (ce_var A.toWh 1 rfl vis_power_of_e nm_e.1 nm_e.2)) (cg_name (A.sto (i := 3) rfl loc_power_of_k)) (fun _ => (show CSs X _ _ rd_power_of_b0 from css_one (cs_augMul A 2 rfl loc_power_of_found (ce_var A.toWh 0 rfl vis_power_of_p nm_p.1 nm_p.2))))) (css_one (cs_retV A.toWh 2 rfl vis_power_of_found nm_found.1 nm_found.2)))
abbrev st_inverse_of : Stmt := topS 6
theorem sc_inverse_of : FnScope N_inverse_of ["p", "e", "x"] (defScope st_inverse_of) := ⟨rfl, rfl, rfl, by decide +kernel, rfl, by decide +kernel, by decide +kernel⟩
theorem lcl_inverse_of_before : (defScope st_inverse_of).names.lookup ("before" : Str) = some .local := by decide +kernel
theorem loc_inverse_of_before : Loc (defScope st_inverse_of) ("before" : Str) := .inl lcl_inverse_of_before
theorem vis_inverse_of_before : Vis (defScope st_inverse_of) ("before" : Str) := (.inl lcl_inverse_of_before)
theorem lcl_inverse_of_e : (defScope st_inverse_of).names.lookup ("e" : Str) = some .local := by decide +kernel
theorem loc_inverse_of_e : Loc (defScope st_inverse_of) ("e" : Str) := .inl lcl_inverse_of_e
theorem vis_inverse_of_e : Vis (defScope st_inverse_of) ("e" : Str) := (.inl lcl_inverse_of_e)
theorem lcl_inverse_of_found : (defScope st_inverse_of).names.lookup ("found" : Str) = some .local := by decide +kernel
theorem loc_inverse_of_found : Loc (defScope st_inverse_of) ("found" : Str) := .inl lcl_inverse_of_found
theorem vis_inverse_of_found : Vis (defScope st_inverse_of) ("found" : Str) := (.inl lcl_inverse_of_found)
theorem lcl_inverse_of_high : (defScope st_inverse_of).names.lookup ("high" : Str) = some .local := by decide +kernel
theorem loc_inverse_of_high : Loc (defScope st_inverse_of) ("high" : Str) := .inl lcl_inverse_of_high
theorem vis_inverse_of_high : Vis (defScope st_inverse_of) ("high" : Str) := (.inl lcl_inverse_of_high)
theorem lcl_inverse_of_low : (defScope st_inverse_of).names.lookup ("low" : Str) = some .local := by decide +kernel
theorem loc_inverse_of_low : Loc (defScope st_inverse_of) ("low" : Str) := .inl lcl_inverse_of_low
theorem vis_inverse_of_low : Vis (defScope st_inverse_of) ("low" : Str) := (.inl lcl_inverse_of_low)
theorem lcl_inverse_of_p : (defScope st_inverse_of).names.lookup ("p" : Str) = some .local := by decide +kernel
theorem loc_inverse_of_p : Loc (defScope st_inverse_of) ("p" : Str) := .inl lcl_inverse_of_p
theorem vis_inverse_of_p : Vis (defScope st_inverse_of) ("p" : Str) := (.inl lcl_inverse_of_p)
theorem lcl_inverse_of_times : (defScope st_inverse_of).names.lookup ("times" : Str) = some .local := by decide +kernel
theorem loc_inverse_of_times : Loc (defScope st_inverse_of) ("times" : Str) := .inl lcl_inverse_of_times
theorem vis_inverse_of_times : Vis (defScope st_inverse_of) ("times" : Str) := (.inl lcl_inverse_of_times)
theorem lcl_inverse_of_whole : (defScope st_inverse_of).names.lookup ("whole" : Str) = some .local := by decide +kernel
theorem loc_inverse_of_whole : Loc (defScope st_inverse_of) ("whole" : Str) := .inl lcl_inverse_of_whole
theorem vis_inverse_of_whole : Vis (defScope st_inverse_of) ("whole" : Str) := (.inl lcl_inverse_of_whole)
theorem lcl_inverse_of_x : (defScope st_inverse_of).names.lookup ("x" : Str) = some .local := by decide +kernel
theorem loc_inverse_of_x : Loc (defScope st_inverse_of) ("x" : Str) := .inl lcl_inverse_of_x
theorem vis_inverse_of_x : Vis (defScope st_inverse_of) ("x" : Str) := (.inl lcl_inverse_of_x)
theorem gl_inverse_of_NoInverse : GlN (defScope st_inverse_of) ("NoInverse" : Str) := (by decide +kernel : (defScope st_inverse_of).names.lookup ("NoInverse" : Str) = some .globalImplicit)
theorem gl_inverse_of_power_of : GlN (defScope st_inverse_of) ("power_of" : Str) := (by decide +kernel : (defScope st_inverse_of).names.lookup ("power_of" : Str) = some .globalImplicit)
theorem der_inverse_of {X : Cx} {Z : Zp} (T : Tx X.K X.mg Z.cl) (G_power_of : FnAt X.prog X.w X.K X.mg X.base Z.cl 2 "power_of" ["p", "e"] sp_power_of) (A : WhD X N_inverse_of (defScope st_inverse_of)) (hc : X.calm = true) (hr : Room 2 X.A) : CSs X Z (defBody st_inverse_of) rd_inverse_of :=
  css_cons (cs_if (ct_eq hr.units (ce_var A.toWh 1 rfl vis_inverse_of_e nm_e.1 nm_e.2) (ce_int)) (css_one (cs_ret (ce_int))) (css_nil)) (css_cons (cs_if (ct_eq hr.units (ce_mod (ce_var A.toWh 2 rfl vis_inverse_of_x nm_x.1 nm_x.2) (ce_var A.toWh 0 rfl vis_inverse_of_p nm_p.1 nm_p.2)) (ce_int)) (css_one (cs_raise (c := .NoInverse) T.x_NoInverse A.toWh hc gl_inverse_of_NoInverse (by decide +kernel))) (css_nil)) (css_cons (cs_set A 3 rfl loc_inverse_of_whole (ce_call G_power_of A.toWh (hr.mono (by decide)) gl_inverse_of_power_of (ca_cons (ce_var A.toWh 0 rfl vis_inverse_of_p nm_p.1 nm_p.2) (ca_cons (ce_var A.toWh 1 rfl vis_inverse_of_e nm_e.1 nm_e.2) (ca_nil))) nm_power_of.1)) (css_fz 3 (css_cons (cs_set A 4 rfl loc_inverse_of_high (ce_var A.toWh 3 rfl vis_inverse_of_whole nm_whole.1 nm_whole.2)) (css_cons (cs_set A 5 rfl loc_inverse_of_low (ce_mod (ce_var A.toWh 2 rfl vis_inverse_of_x nm_x.1 nm_x.2) (ce_var A.toWh 3 rfl vis_inverse_of_whole nm_whole.1 nm_whole.2))) (css_cons (cs_set A 6 rfl loc_inverse_of_before (ce_int)) (css_cons (cs_set A 7 rfl loc_inverse_of_found (ce_int)) (css_cons (cs_while (ct_gt (ce_var A.toWh 5 rfl vis_inverse_of_low nm_low.1 nm_low.2) (ce_int)) (show CSs X _ _ rd_inverse_of_b0 from css_cons (cs_set A 8 rfl loc_inverse_of_times (ce_fdiv (ce_var A.toWh 4 rfl vis_inverse_of_high nm_high.1 nm_high.2) (ce_var A.toWh 5 rfl vis_inverse_of_low nm_low.1 nm_low.2))) (css_cons (cs_par A hc 4 5 rfl rfl (by decide) lcl_inverse_of_high lcl_inverse_of_low (ce_var A.toWh 5 rfl vis_inverse_of_low nm_low.1 nm_low.2) (ce_sub (ce_var A.toWh 4 rfl vis_inverse_of_high nm_high.1 nm_high.2) (ce_mul (ce_var A.toWh 8 rfl vis_inverse_of_times nm_times.1 nm_times.2) (ce_var A.toWh 5 rfl vis_inverse_of_low nm_low.1 nm_low.2))) (fun _ he => sw_par A.kind lcl_inverse_of_high lcl_inverse_of_low (by decide +kernel) rfl rfl rfl rfl rfl he)) (css_one (cs_par A hc 6 7 rfl rfl (by decide) lcl_inverse_of_before lcl_inverse_of_found (ce_var A.toWh 7 rfl vis_inverse_of_found nm_found.1 nm_found.2) (ce_sub (ce_var A.toWh 6 rfl vis_inverse_of_before nm_before.1 nm_before.2) (ce_mul (ce_var A.toWh 8 rfl vis_inverse_of_times nm_times.1 nm_times.2) (ce_var A.toWh 7 rfl vis_inverse_of_found nm_found.1 nm_found.2))) (fun _ he => sw_par A.kind lcl_inverse_of_before lcl_inverse_of_found (by decide +kernel) rfl rfl rfl rfl rfl he)))))) (css_one (cs_ret (ce_mod (ce_var A.toWh 7 rfl vis_inverse_of_found nm_found.1 nm_found.2) (ce_var A.toWh 3 rfl vis_inverse_of_whole nm_whole.1 nm_whole.2))))))))))))
abbrev st_poly_parted : Stmt := topS 13
theorem sc_poly_parted : FnScope N_poly_parted ["p", "f", "g"] (defScope st_poly_parted) := ⟨rfl, rfl, rfl, by decide +kernel, rfl, by decide +kernel, by decide +kernel⟩
theorem lcl_poly_parted_at : (defScope st_poly_parted).names.lookup ("at" : Str) = some .local := by decide +kernel
theorem loc_poly_parted_at : Loc (defScope st_poly_parted) ("at" : Str) := .inl lcl_poly_parted_at
theorem vis_poly_parted_at : Vis (defScope st_poly_parted) ("at" : Str) := (.inl lcl_poly_parted_at)
theorem lcl_poly_parted_by : (defScope st_poly_parted).names.lookup ("by" : Str) = some .cell := by decide +kernel
theorem loc_poly_parted_by : Loc (defScope st_poly_parted) ("by" : Str) := .inr lcl_poly_parted_by
theorem vis_poly_parted_by : Vis (defScope st_poly_parted) ("by" : Str) := .inr (.inl lcl_poly_parted_by)
theorem lcl_poly_parted_f : (defScope st_poly_parted).names.lookup ("f" : Str) = some .local := by decide +kernel
theorem loc_poly_parted_f : Loc (defScope st_poly_parted) ("f" : Str) := .inl lcl_poly_parted_f
theorem vis_poly_parted_f : Vis (defScope st_poly_parted) ("f" : Str) := (.inl lcl_poly_parted_f)
theorem lcl_poly_parted_g : (defScope st_poly_parted).names.lookup ("g" : Str) = some .local := by decide +kernel
theorem loc_poly_parted_g : Loc (defScope st_poly_parted) ("g" : Str) := .inl lcl_poly_parted_g
theorem vis_poly_parted_g : Vis (defScope st_poly_parted) ("g" : Str) := (.inl lcl_poly_parted_g)
theorem lcl_poly_parted_often : (defScope st_poly_parted).names.lookup ("often" : Str) = some .local := by decide +kernel
theorem loc_poly_parted_often : Loc (defScope st_poly_parted) ("often" : Str) := .inl lcl_poly_parted_often
theorem vis_poly_parted_often : Vis (defScope st_poly_parted) ("often" : Str) := (.inl lcl_poly_parted_often)
theorem lcl_poly_parted_p : (defScope st_poly_parted).names.lookup ("p" : Str) = some .local := by decide +kernel
theorem loc_poly_parted_p : Loc (defScope st_poly_parted) ("p" : Str) := .inl lcl_poly_parted_p
theorem vis_poly_parted_p : Vis (defScope st_poly_parted) ("p" : Str) := (.inl lcl_poly_parted_p)
theorem lcl_poly_parted_rest : (defScope st_poly_parted).names.lookup ("rest" : Str) = some .local := by decide +kernel
theorem loc_poly_parted_rest : Loc (defScope st_poly_parted) ("rest" : Str) := .inl lcl_poly_parted_rest
theorem vis_poly_parted_rest : Vis (defScope st_poly_parted) ("rest" : Str) := (.inl lcl_poly_parted_rest)
theorem lcl_poly_parted_turned : (defScope st_poly_parted).names.lookup ("turned" : Str) = some .local := by decide +kernel
theorem loc_poly_parted_turned : Loc (defScope st_poly_parted) ("turned" : Str) := .inl lcl_poly_parted_turned
theorem vis_poly_parted_turned : Vis (defScope st_poly_parted) ("turned" : Str) := (.inl lcl_poly_parted_turned)
theorem gl_poly_parted_by_prime : GlN (defScope st_poly_parted) ("by_prime" : Str) := (by decide +kernel : (defScope st_poly_parted).names.lookup ("by_prime" : Str) = some .globalImplicit)
theorem gl_poly_parted_inverse_of : GlN (defScope st_poly_parted) ("inverse_of" : Str) := (by decide +kernel : (defScope st_poly_parted).names.lookup ("inverse_of" : Str) = some .globalImplicit)
theorem gl_poly_parted_len : GlN (defScope st_poly_parted) ("len" : Str) := (by decide +kernel : (defScope st_poly_parted).names.lookup ("len" : Str) = some .globalImplicit)
theorem gl_poly_parted_max : GlN (defScope st_poly_parted) ("max" : Str) := (by decide +kernel : (defScope st_poly_parted).names.lookup ("max" : Str) = some .globalImplicit)
theorem gl_poly_parted_poly_less : GlN (defScope st_poly_parted) ("poly_less" : Str) := (by decide +kernel : (defScope st_poly_parted).names.lookup ("poly_less" : Str) = some .globalImplicit)
theorem der_poly_parted {X : Cx} {Z : Zp} (T : Tx X.K X.mg Z.cl) (G_by_prime : FnAt X.prog X.w X.K X.mg X.base Z.cl 2 "by_prime" ["p", "f"] sp_by_prime) (G_inverse_of : FnAt X.prog X.w X.K X.mg X.base Z.cl 3 "inverse_of" ["p", "e", "x"] sp_inverse_of) (G_poly_less : FnAt X.prog X.w X.K X.mg X.base Z.cl 2 "poly_less" ["one", "other"] sp_poly_less) (A : WhD X N_poly_parted (defScope st_poly_parted)) (hc : X.calm = true) (hr : Room 3 X.A) : CSs X Z (defBody st_poly_parted) rd_poly_parted :=
  css_cons (cs_set A 3 rfl loc_poly_parted_rest (ce_call G_by_prime A.toWh (hr.mono (by decide)) gl_poly_parted_by_prime (ca_cons (ce_var A.toWh 0 rfl vis_poly_parted_p nm_p.1 nm_p.2) (ca_cons (ce_var A.toWh 1 rfl vis_poly_parted_f nm_f.1 nm_f.2) (ca_nil))) nm_by_prime.1)) (css_fz 3 (css_cons (cs_set A 4 rfl loc_poly_parted_turned (ce_call G_inverse_of A.toWh (hr.mono (by decide)) gl_poly_parted_inverse_of (ca_cons (ce_var A.toWh 0 rfl vis_poly_parted_p nm_p.1 nm_p.2) (ca_cons (ce_int) (ca_cons (ce_ix (ce_var A.toWh 2 rfl vis_poly_parted_g nm_g.1 nm_g.2) (ce_neg (ce_int)) (fun _ _ => rfl)) (ca_nil)))) nm_inverse_of.1)) (css_fz 4 (css_cons (cs_set A 5 rfl loc_poly_parted_often (ce_mul (ce_lst (ca_cons (ce_int) (ca_nil))) (ce_bi2 A.toWh fn_max (call_max2 hc) gl_poly_parted_max T.b_max bo_max (ce_add (ce_sub (ce_bi1 A.toWh fn_len call_len gl_poly_parted_len T.b_len bo_len (ce_var A.toWh 3 rfl vis_poly_parted_rest nm_rest.1 nm_rest.2) (by decide) (by decide +kernel)) (ce_bi1 A.toWh fn_len call_len gl_poly_parted_len T.b_len bo_len (ce_var A.toWh 2 rfl vis_poly_parted_g nm_g.1 nm_g.2) (by decide) (by decide +kernel))) (ce_int)) (ce_int) (by decide) (by decide +kernel)))) (css_cons (cs_while (ct_ge (ce_bi1 A.toWh fn_len call_len gl_poly_parted_len T.b_len bo_len (ce_var A.toWh 3 rfl vis_poly_parted_rest nm_rest.1 nm_rest.2) (by decide) (by decide +kernel)) (ce_bi1 A.toWh fn_len call_len gl_poly_parted_len T.b_len bo_len (ce_var A.toWh 2 rfl vis_poly_parted_g nm_g.1 nm_g.2) (by decide) (by decide +kernel))) (show CSs X _ _ rd_poly_parted_b0 from css_cons (cs_set A 6 rfl loc_poly_parted_by (ce_mod (ce_mul (ce_ix (ce_var A.toWh 3 rfl vis_poly_parted_rest nm_rest.1 nm_rest.2) (ce_neg (ce_int)) (fun _ _ => rfl)) (ce_var A.toWh 4 rfl vis_poly_parted_turned nm_turned.1 nm_turned.2)) (ce_var A.toWh 0 rfl vis_poly_parted_p nm_p.1 nm_p.2))) (css_cons (cs_set A 7 rfl loc_poly_parted_at (ce_sub (ce_bi1 A.toWh fn_len call_len gl_poly_parted_len T.b_len bo_len (ce_var A.toWh 3 rfl vis_poly_parted_rest nm_rest.1 nm_rest.2) (by decide) (by decide +kernel)) (ce_bi1 A.toWh fn_len call_len gl_poly_parted_len T.b_len bo_len (ce_var A.toWh 2 rfl vis_poly_parted_g nm_g.1 nm_g.2) (by decide) (by decide +kernel)))) (css_cons (cs_setIx A.toWh 5 rfl vis_poly_parted_often nm_often.1 nm_often.2 (ce_var A.toWh 6 rfl vis_poly_parted_by nm_by.1 nm_by.2) (ce_var A.toWh 7 rfl vis_poly_parted_at nm_at.1 nm_at.2)) (css_cons (cs_set A 3 rfl loc_poly_parted_rest (ce_call G_by_prime A.toWh (hr.mono (by decide)) gl_poly_parted_by_prime (ca_cons (ce_var A.toWh 0 rfl vis_poly_parted_p nm_p.1 nm_p.2) (ca_cons (ce_call G_poly_less A.toWh (hr.mono (by decide)) gl_poly_parted_poly_less (ca_cons (ce_var A.toWh 3 rfl vis_poly_parted_rest nm_rest.1 nm_rest.2) (ca_cons (ce_add (ce_mul (ce_lst (ca_cons (ce_int) (ca_nil))) (ce_var A.toWh 7 rfl vis_poly_parted_at nm_at.1 nm_at.2)) (ce_lc A.toWh hc (ci_val (ce_var A.toWh 2 rfl vis_poly_parted_g nm_g.1 nm_g.2)) (own := [("number", 8)]) (blkOk_by (by decide +kernel)) (by decide) (fun _ _ _ _ _ => cg_name ((Wh.blk A.toWh _ _ _ _ _).sto (i := 8) rfl (by decide +kernel))) (fun _ _ _ _ _ => cts_nil) (fun _ _ _ _ _ => ce_mul (ce_var (Wh.blk A.toWh _ _ _ _ _) 6 rfl (vis_of (by decide +kernel)) nm_by.1 nm_by.2) (ce_var (Wh.blk A.toWh _ _ _ _ _) 8 rfl (vis_of (by decide +kernel)) nm_number.1 nm_number.2)))) (ca_nil))) nm_poly_less.1) (ca_nil))) nm_by_prime.1)) (css_fz 3 (css_nil))))))) (css_fz 5 (css_fz 5 (css_one (cs_ret (ce_tup (ca_cons (ce_var A.toWh 5 rfl vis_poly_parted_often nm_often.1 nm_often.2) (ca_cons (ce_var A.toWh 3 rfl vis_poly_parted_rest nm_rest.1 nm_rest.2) (ca_nil)))))))))))))
abbrev st_poly_times : Stmt := topS 12
theorem sc_poly_times : FnScope N_poly_times ["one", "other"] (defScope st_poly_times) := ⟨rfl, rfl, rfl, by decide +kernel, rfl, by decide +kernel, by decide +kernel⟩
theorem lcl_poly_times_one : (defScope st_poly_times).names.lookup ("one" : Str) = some .local := by decide +kernel
theorem loc_poly_times_one : Loc (defScope st_poly_times) ("one" : Str) := .inl lcl_poly_times_one
theorem vis_poly_times_one : Vis (defScope st_poly_times) ("one" : Str) := (.inl lcl_poly_times_one)
theorem lcl_poly_times_other : (defScope st_poly_times).names.lookup ("other" : Str) = some .local := by decide +kernel
theorem loc_poly_times_other : Loc (defScope st_poly_times) ("other" : Str) := .inl lcl_poly_times_other
theorem vis_poly_times_other : Vis (defScope st_poly_times) ("other" : Str) := (.inl lcl_poly_times_other)
theorem gl_poly_times_poly_product : GlN (defScope st_poly_times) ("poly_product" : Str) := (by decide +kernel : (defScope st_poly_times).names.lookup ("poly_product" : Str) = some .globalImplicit)
theorem der_poly_times {X : Cx} {Z : Zp} (T : Tx X.K X.mg Z.cl) (G_poly_product : FnAt X.prog X.w X.K X.mg X.base Z.cl 2 "poly_product" ["f", "g"] sp_poly_product) (A : WhD X N_poly_times (defScope st_poly_times)) (hc : X.calm = true) (hr : Room 2 X.A) : CSs X Z (defBody st_poly_times) rd_poly_times :=
  css_cons (cs_if (ct_w (cw_or (ct_eq hr.units (ce_var A.toWh 0 rfl vis_poly_times_one nm_one.1 nm_one.2) (ce_lst (ca_nil))) (cw_or1 (ct_eq hr.units (ce_var A.toWh 1 rfl vis_poly_times_other nm_other.1 nm_other.2) (ce_lst (ca_nil)))))) (css_one (cs_ret (ce_lst (ca_nil)))) (css_nil)) (css_one (cs_ret (ce_call G_poly_product A.toWh (hr.mono (by decide)) gl_poly_times_poly_product (ca_cons (ce_var A.toWh 0 rfl vis_poly_times_one nm_one.1 nm_one.2) (ca_cons (ce_var A.toWh 1 rfl vis_poly_times_other nm_other.1 nm_other.2) (ca_nil))) nm_poly_product.1)))
abbrev st_poly_turned : Stmt := topS 14
theorem sc_poly_turned : FnScope N_poly_turned ["p", "g", "h"] (defScope st_poly_turned) := ⟨rfl, rfl, rfl, by decide +kernel, rfl, by decide +kernel, by decide +kernel⟩
theorem lcl_poly_turned_behind : (defScope st_poly_turned).names.lookup ("behind" : Str) = some .local := by decide +kernel
theorem loc_poly_turned_behind : Loc (defScope st_poly_turned) ("behind" : Str) := .inl lcl_poly_turned_behind
theorem vis_poly_turned_behind : Vis (defScope st_poly_turned) ("behind" : Str) := (.inl lcl_poly_turned_behind)
theorem lcl_poly_turned_by : (defScope st_poly_turned).names.lookup ("by" : Str) = some .cell := by decide +kernel
theorem loc_poly_turned_by : Loc (defScope st_poly_turned) ("by" : Str) := .inr lcl_poly_turned_by
theorem vis_poly_turned_by : Vis (defScope st_poly_turned) ("by" : Str) := .inr (.inl lcl_poly_turned_by)
theorem lcl_poly_turned_first : (defScope st_poly_turned).names.lookup ("first" : Str) = some .local := by decide +kernel
theorem loc_poly_turned_first : Loc (defScope st_poly_turned) ("first" : Str) := .inl lcl_poly_turned_first
theorem vis_poly_turned_first : Vis (defScope st_poly_turned) ("first" : Str) := (.inl lcl_poly_turned_first)
theorem lcl_poly_turned_found : (defScope st_poly_turned).names.lookup ("found" : Str) = some .local := by decide +kernel
theorem loc_poly_turned_found : Loc (defScope st_poly_turned) ("found" : Str) := .inl lcl_poly_turned_found
theorem vis_poly_turned_found : Vis (defScope st_poly_turned) ("found" : Str) := (.inl lcl_poly_turned_found)
theorem lcl_poly_turned_g : (defScope st_poly_turned).names.lookup ("g" : Str) = some .local := by decide +kernel
theorem loc_poly_turned_g : Loc (defScope st_poly_turned) ("g" : Str) := .inl lcl_poly_turned_g
theorem vis_poly_turned_g : Vis (defScope st_poly_turned) ("g" : Str) := (.inl lcl_poly_turned_g)
theorem lcl_poly_turned_h : (defScope st_poly_turned).names.lookup ("h" : Str) = some .local := by decide +kernel
theorem loc_poly_turned_h : Loc (defScope st_poly_turned) ("h" : Str) := .inl lcl_poly_turned_h
theorem vis_poly_turned_h : Vis (defScope st_poly_turned) ("h" : Str) := (.inl lcl_poly_turned_h)
theorem lcl_poly_turned_often : (defScope st_poly_turned).names.lookup ("often" : Str) = some .local := by decide +kernel
theorem loc_poly_turned_often : Loc (defScope st_poly_turned) ("often" : Str) := .inl lcl_poly_turned_often
theorem vis_poly_turned_often : Vis (defScope st_poly_turned) ("often" : Str) := (.inl lcl_poly_turned_often)
theorem lcl_poly_turned_p : (defScope st_poly_turned).names.lookup ("p" : Str) = some .local := by decide +kernel
theorem loc_poly_turned_p : Loc (defScope st_poly_turned) ("p" : Str) := .inl lcl_poly_turned_p
theorem vis_poly_turned_p : Vis (defScope st_poly_turned) ("p" : Str) := (.inl lcl_poly_turned_p)
theorem lcl_poly_turned_rest : (defScope st_poly_turned).names.lookup ("rest" : Str) = some .local := by decide +kernel
theorem loc_poly_turned_rest : Loc (defScope st_poly_turned) ("rest" : Str) := .inl lcl_poly_turned_rest
theorem vis_poly_turned_rest : Vis (defScope st_poly_turned) ("rest" : Str) := (.inl lcl_poly_turned_rest)
theorem lcl_poly_turned_then : (defScope st_poly_turned).names.lookup ("then" : Str) = some .local := by decide +kernel
theorem loc_poly_turned_then : Loc (defScope st_poly_turned) ("then" : Str) := .inl lcl_poly_turned_then
theorem vis_poly_turned_then : Vis (defScope st_poly_turned) ("then" : Str) := (.inl lcl_poly_turned_then)
theorem gl_poly_turned_by_prime : GlN (defScope st_poly_turned) ("by_prime" : Str) := (by decide +kernel : (defScope st_poly_turned).names.lookup ("by_prime" : Str) = some .globalImplicit)
theorem gl_poly_turned_inverse_of : GlN (defScope st_poly_turned) ("inverse_of" : Str) := (by decide +kernel : (defScope st_poly_turned).names.lookup ("inverse_of" : Str) = some .globalImplicit)
theorem gl_poly_turned_len : GlN (defScope st_poly_turned) ("len" : Str) := (by decide +kernel : (defScope st_poly_turned).names.lookup ("len" : Str) = some .globalImplicit)
theorem gl_poly_turned_poly_less : GlN (defScope st_poly_turned) ("poly_less" : Str) := (by decide +kernel : (defScope st_poly_turned).names.lookup ("poly_less" : Str) = some .globalImplicit)
theorem gl_poly_turned_poly_parted : GlN (defScope st_poly_turned) ("poly_parted" : Str) := (by decide +kernel : (defScope st_poly_turned).names.lookup ("poly_parted" : Str) = some .globalImplicit)
theorem gl_poly_turned_poly_times : GlN (defScope st_poly_turned) ("poly_times" : Str) := (by decide +kernel : (defScope st_poly_turned).names.lookup ("poly_times" : Str) = some .globalImplicit)
theorem der_poly_turned {X : Cx} {Z : Zp} (T : Tx X.K X.mg Z.cl) (G_by_prime : FnAt X.prog X.w X.K X.mg X.base Z.cl 2 "by_prime" ["p", "f"] sp_by_prime) (G_inverse_of : FnAt X.prog X.w X.K X.mg X.base Z.cl 3 "inverse_of" ["p", "e", "x"] sp_inverse_of) (G_poly_less : FnAt X.prog X.w X.K X.mg X.base Z.cl 2 "poly_less" ["one", "other"] sp_poly_less) (G_poly_parted : FnAt X.prog X.w X.K X.mg X.base Z.cl 4 "poly_parted" ["p", "f", "g"] sp_poly_parted) (G_poly_times : FnAt X.prog X.w X.K X.mg X.base Z.cl 3 "poly_times" ["one", "other"] sp_poly_times) (A : WhD X N_poly_turned (defScope st_poly_turned)) (hc : X.calm = true) (hr : Room 4 X.A) : CSs X Z (defBody st_poly_turned) rd_poly_turned :=
  css_cons (cs_set A 3 rfl loc_poly_turned_first (ce_call G_by_prime A.toWh (hr.mono (by decide)) gl_poly_turned_by_prime (ca_cons (ce_var A.toWh 0 rfl vis_poly_turned_p nm_p.1 nm_p.2) (ca_cons (ce_var A.toWh 1 rfl vis_poly_turned_g nm_g.1 nm_g.2) (ca_nil))) nm_by_prime.1)) (css_fz 3 (css_cons (cs_set A 4 rfl loc_poly_turned_then (ce_ix (ce_call G_poly_parted A.toWh (hr.mono (by decide)) gl_poly_turned_poly_parted (ca_cons (ce_var A.toWh 0 rfl vis_poly_turned_p nm_p.1 nm_p.2) (ca_cons (ce_var A.toWh 2 rfl vis_poly_turned_h nm_h.1 nm_h.2) (ca_cons (ce_var A.toWh 3 rfl vis_poly_turned_first nm_first.1 nm_first.2) (ca_nil)))) nm_poly_parted.1) (ce_int) (fun _ _ => rfl))) (css_cons (cs_set A 5 rfl loc_poly_turned_found (ce_lst (ca_nil))) (css_fz 5 (css_cons (cs_set A 6 rfl loc_poly_turned_behind (ce_lst (ca_cons (ce_int) (ca_nil)))) (css_fz 6 (css_cons (cs_while (ct_ne hr.units (ce_var A.toWh 4 rfl vis_poly_turned_then nm_then.1 nm_then.2) (ce_lst (ca_nil))) (show CSs X _ _ rd_poly_turned_b0 from css_cons (cs_unp (ce_call G_poly_parted A.toWh (hr.mono (by decide)) gl_poly_turned_poly_parted (ca_cons (ce_var A.toWh 0 rfl vis_poly_turned_p nm_p.1 nm_p.2) (ca_cons (ce_var A.toWh 3 rfl vis_poly_turned_first nm_first.1 nm_first.2) (ca_cons (ce_var A.toWh 4 rfl vis_poly_turned_then nm_then.1 nm_then.2) (ca_nil)))) nm_poly_parted.1) (cg_tup hc (cgs_cons (A.sto (i := 7) rfl loc_poly_turned_often) (cgs_cons (A.sto (i := 8) rfl loc_poly_turned_rest) (cgs_nil))) rfl) (fun _ => rfl) (fun _ => rfl)) (css_cons (cs_par A hc 5 6 rfl rfl (by decide) lcl_poly_turned_found lcl_poly_turned_behind (ce_var A.toWh 6 rfl vis_poly_turned_behind nm_behind.1 nm_behind.2) (ce_call G_by_prime A.toWh (hr.mono (by decide)) gl_poly_turned_by_prime (ca_cons (ce_var A.toWh 0 rfl vis_poly_turned_p nm_p.1 nm_p.2) (ca_cons (ce_call G_poly_less A.toWh (hr.mono (by decide)) gl_poly_turned_poly_less (ca_cons (ce_var A.toWh 5 rfl vis_poly_turned_found nm_found.1 nm_found.2) (ca_cons (ce_call G_poly_times A.toWh (hr.mono (by decide)) gl_poly_turned_poly_times (ca_cons (ce_var A.toWh 7 rfl vis_poly_turned_often nm_often.1 nm_often.2) (ca_cons (ce_var A.toWh 6 rfl vis_poly_turned_behind nm_behind.1 nm_behind.2) (ca_nil))) nm_poly_times.1) (ca_nil))) nm_poly_less.1) (ca_nil))) nm_by_prime.1) (fun _ he => sw_par A.kind lcl_poly_turned_found lcl_poly_turned_behind (by decide +kernel) rfl rfl rfl rfl rfl he)) (css_fz 6 (css_one (cs_par A hc 3 4 rfl rfl (by decide) lcl_poly_turned_first lcl_poly_turned_then (ce_var A.toWh 4 rfl vis_poly_turned_then nm_then.1 nm_then.2) (ce_var A.toWh 8 rfl vis_poly_turned_rest nm_rest.1 nm_rest.2) (fun _ he => sw_par A.kind lcl_poly_turned_first lcl_poly_turned_then (by decide +kernel) rfl rfl rfl rfl rfl he))))))) (css_cons (cs_if (ct_gt (ce_bi1 A.toWh fn_len call_len gl_poly_turned_len T.b_len bo_len (ce_var A.toWh 3 rfl vis_poly_turned_first nm_first.1 nm_first.2) (by decide) (by decide +kernel)) (ce_int)) (css_one (cs_ret (ce_non))) (css_nil)) (css_cons (cs_set A 9 rfl loc_poly_turned_by (ce_call G_inverse_of A.toWh (hr.mono (by decide)) gl_poly_turned_inverse_of (ca_cons (ce_var A.toWh 0 rfl vis_poly_turned_p nm_p.1 nm_p.2) (ca_cons (ce_int) (ca_cons (ce_ix (ce_var A.toWh 3 rfl vis_poly_turned_first nm_first.1 nm_first.2) (ce_int) (fun _ _ => rfl)) (ca_nil)))) nm_inverse_of.1)) (css_fz 9 (css_one (cs_ret (ce_call G_by_prime A.toWh (hr.mono (by decide)) gl_poly_turned_by_prime (ca_cons (ce_var A.toWh 0 rfl vis_poly_turned_p nm_p.1 nm_p.2) (ca_cons (ce_lc A.toWh hc (ci_val (ce_var A.toWh 5 rfl vis_poly_turned_found nm_found.1 nm_found.2)) (own := [("number", 10)]) (blkOk_by (by decide +kernel)) (by decide) (fun _ _ _ _ _ => cg_name ((Wh.blk A.toWh _ _ _ _ _).sto (i := 10) rfl (by decide +kernel))) (fun _ _ _ _ _ => cts_nil) (fun _ _ _ _ _ => ce_mul (ce_var (Wh.blk A.toWh _ _ _ _ _) 9 rfl (vis_of (by decide +kernel)) nm_by.1 nm_by.2) (ce_var (Wh.blk A.toWh _ _ _ _ _) 10 rfl (vis_of (by decide +kernel)) nm_number.1 nm_number.2))) (ca_nil))) nm_by_prime.1)))))))))))))
abbrev st_with_more : Stmt := topS 16
theorem sc_with_more : FnScope N_with_more ["f", "more", "power"] (defScope st_with_more) := ⟨rfl, rfl, rfl, by decide +kernel, rfl, by decide +kernel, by decide +kernel⟩
theorem lcl_with_more_f : (defScope st_with_more).names.lookup ("f" : Str) = some .local := by decide +kernel
theorem loc_with_more_f : Loc (defScope st_with_more) ("f" : Str) := .inl lcl_with_more_f
theorem vis_with_more_f : Vis (defScope st_with_more) ("f" : Str) := (.inl lcl_with_more_f)
theorem lcl_with_more_found : (defScope st_with_more).names.lookup ("found" : Str) = some .local := by decide +kernel
theorem loc_with_more_found : Loc (defScope st_with_more) ("found" : Str) := .inl lcl_with_more_found
theorem vis_with_more_found : Vis (defScope st_with_more) ("found" : Str) := (.inl lcl_with_more_found)
theorem lcl_with_more_k : (defScope st_with_more).names.lookup ("k" : Str) = some .local := by decide +kernel
theorem loc_with_more_k : Loc (defScope st_with_more) ("k" : Str) := .inl lcl_with_more_k
theorem vis_with_more_k : Vis (defScope st_with_more) ("k" : Str) := (.inl lcl_with_more_k)
theorem lcl_with_more_more : (defScope st_with_more).names.lookup ("more" : Str) = some .local := by decide +kernel
theorem loc_with_more_more : Loc (defScope st_with_more) ("more" : Str) := .inl lcl_with_more_more
theorem vis_with_more_more : Vis (defScope st_with_more) ("more" : Str) := (.inl lcl_with_more_more)
theorem lcl_with_more_power : (defScope st_with_more).names.lookup ("power" : Str) = some .local := by decide +kernel
theorem loc_with_more_power : Loc (defScope st_with_more) ("power" : Str) := .inl lcl_with_more_power
theorem vis_with_more_power : Vis (defScope st_with_more) ("power" : Str) := (.inl lcl_with_more_power)
theorem gl_with_more_len : GlN (defScope st_with_more) ("len" : Str) := (by decide +kernel : (defScope st_with_more).names.lookup ("len" : Str) = some .globalImplicit)
theorem gl_with_more_list : GlN (defScope st_with_more) ("list" : Str) := (by decide +kernel : (defScope st_with_more).names.lookup ("list" : Str) = some .globalImplicit)
theorem gl_with_more_range : GlN (defScope st_with_more) ("range" : Str) := (by decide +kernel : (defScope st_with_more).names.lookup ("range" : Str) = some .globalImplicit)
theorem der_with_more {X : Cx} {Z : Zp} (T : Tx X.K X.mg Z.cl)  (A : WhD X N_with_more (defScope st_with_more)) (hc : X.calm = true) (hr : Room 1 X.A) : CSs X Z (defBody st_with_more) rd_with_more :=
  css_cons (cs_set A 3 rfl loc_with_more_found (ce_ty1 A.toWh fn_list call_list_of gl_with_more_list T.b_list bo_list (ce_var A.toWh 0 rfl vis_with_more_f nm_f.1 nm_f.2) (by decide) (by decide +kernel))) (css_cons (cs_for hc (ci_range1 A.toWh gl_with_more_range T.b_range (ce_bi1 A.toWh fn_len call_len gl_with_more_len T.b_len bo_len (ce_var A.toWh 1 rfl vis_with_more_more nm_more.1 nm_more.2) (by decide) (by decide +kernel))) (cg_name (A.sto (i := 4) rfl loc_with_more_k)) (fun _ => (show CSs X _ _ rd_with_more_b0 from css_one (cs_augIx A 3 rfl vis_with_more_found nm_found.1 nm_found.2 (ce_mul (ce_var A.toWh 2 rfl vis_with_more_power nm_power.1 nm_power.2) (ce_ix (ce_var A.toWh 1 rfl vis_with_more_more nm_more.1 nm_more.2) (ce_var A.toWh 4 rfl vis_with_more_k nm_k.1 nm_k.2) (fun _ _ => rfl))) (ce_var A.toWh 4 rfl vis_with_more_k nm_k.1 nm_k.2))))) (css_one (cs_retV A.toWh 3 rfl vis_with_more_found nm_found.1 nm_found.2)))
abbrev st_parts_at : Stmt := topS 17
theorem sc_parts_at : FnScope N_parts_at ["p", "N", "f", "g", "h"] (defScope st_parts_at) := ⟨rfl, rfl, rfl, by decide +kernel, rfl, by decide +kernel, by decide +kernel⟩
theorem lcl_parts_at_N : (defScope st_parts_at).names.lookup ("N" : Str) = some .local := by decide +kernel
theorem loc_parts_at_N : Loc (defScope st_parts_at) ("N" : Str) := .inl lcl_parts_at_N
theorem vis_parts_at_N : Vis (defScope st_parts_at) ("N" : Str) := (.inl lcl_parts_at_N)
theorem lcl_parts_at_f : (defScope st_parts_at).names.lookup ("f" : Str) = some .local := by decide +kernel
theorem loc_parts_at_f : Loc (defScope st_parts_at) ("f" : Str) := .inl lcl_parts_at_f
theorem vis_parts_at_f : Vis (defScope st_parts_at) ("f" : Str) := (.inl lcl_parts_at_f)
theorem lcl_parts_at_g : (defScope st_parts_at).names.lookup ("g" : Str) = some .local := by decide +kernel
theorem loc_parts_at_g : Loc (defScope st_parts_at) ("g" : Str) := .inl lcl_parts_at_g
theorem vis_parts_at_g : Vis (defScope st_parts_at) ("g" : Str) := (.inl lcl_parts_at_g)
theorem lcl_parts_at_h : (defScope st_parts_at).names.lookup ("h" : Str) = some .local := by decide +kernel
theorem loc_parts_at_h : Loc (defScope st_parts_at) ("h" : Str) := .inl lcl_parts_at_h
theorem vis_parts_at_h : Vis (defScope st_parts_at) ("h" : Str) := (.inl lcl_parts_at_h)
theorem lcl_parts_at_k : (defScope st_parts_at).names.lookup ("k" : Str) = some .local := by decide +kernel
theorem loc_parts_at_k : Loc (defScope st_parts_at) ("k" : Str) := .inl lcl_parts_at_k
theorem vis_parts_at_k : Vis (defScope st_parts_at) ("k" : Str) := (.inl lcl_parts_at_k)
theorem lcl_parts_at_lack : (defScope st_parts_at).names.lookup ("lack" : Str) = some .local := by decide +kernel
theorem loc_parts_at_lack : Loc (defScope st_parts_at) ("lack" : Str) := .inl lcl_parts_at_lack
theorem vis_parts_at_lack : Vis (defScope st_parts_at) ("lack" : Str) := (.inl lcl_parts_at_lack)
theorem lcl_parts_at_one : (defScope st_parts_at).names.lookup ("one" : Str) = some .local := by decide +kernel
theorem loc_parts_at_one : Loc (defScope st_parts_at) ("one" : Str) := .inl lcl_parts_at_one
theorem vis_parts_at_one : Vis (defScope st_parts_at) ("one" : Str) := (.inl lcl_parts_at_one)
theorem lcl_parts_at_other : (defScope st_parts_at).names.lookup ("other" : Str) = some .local := by decide +kernel
theorem loc_parts_at_other : Loc (defScope st_parts_at) ("other" : Str) := .inl lcl_parts_at_other
theorem vis_parts_at_other : Vis (defScope st_parts_at) ("other" : Str) := (.inl lcl_parts_at_other)
theorem lcl_parts_at_p : (defScope st_parts_at).names.lookup ("p" : Str) = some .cell := by decide +kernel
theorem loc_parts_at_p : Loc (defScope st_parts_at) ("p" : Str) := .inr lcl_parts_at_p
theorem vis_parts_at_p : Vis (defScope st_parts_at) ("p" : Str) := .inr (.inl lcl_parts_at_p)
theorem lcl_parts_at_power : (defScope st_parts_at).names.lookup ("power" : Str) = some .cell := by decide +kernel
theorem loc_parts_at_power : Loc (defScope st_parts_at) ("power" : Str) := .inr lcl_parts_at_power
theorem vis_parts_at_power : Vis (defScope st_parts_at) ("power" : Str) := .inr (.inl lcl_parts_at_power)
theorem lcl_parts_at_turned : (defScope st_parts_at).names.lookup ("turned" : Str) = some .local := by decide +kernel
theorem loc_parts_at_turned : Loc (defScope st_parts_at) ("turned" : Str) := .inl lcl_parts_at_turned
theorem vis_parts_at_turned : Vis (defScope st_parts_at) ("turned" : Str) := (.inl lcl_parts_at_turned)
theorem lcl_parts_at_u : (defScope st_parts_at).names.lookup ("u" : Str) = some .local := by decide +kernel
theorem loc_parts_at_u : Loc (defScope st_parts_at) ("u" : Str) := .inl lcl_parts_at_u
theorem vis_parts_at_u : Vis (defScope st_parts_at) ("u" : Str) := (.inl lcl_parts_at_u)
theorem lcl_parts_at_w : (defScope st_parts_at).names.lookup ("w" : Str) = some .local := by decide +kernel
theorem loc_parts_at_w : Loc (defScope st_parts_at) ("w" : Str) := .inl lcl_parts_at_w
theorem vis_parts_at_w : Vis (defScope st_parts_at) ("w" : Str) := (.inl lcl_parts_at_w)
theorem gl_parts_at_NoParts : GlN (defScope st_parts_at) ("NoParts" : Str) := (by decide +kernel : (defScope st_parts_at).names.lookup ("NoParts" : Str) = some .globalImplicit)
theorem gl_parts_at_need_parts : GlN (defScope st_parts_at) ("need_parts" : Str) := (by decide +kernel : (defScope st_parts_at).names.lookup ("need_parts" : Str) = some .globalImplicit)
theorem gl_parts_at_poly_less : GlN (defScope st_parts_at) ("poly_less" : Str) := (by decide +kernel : (defScope st_parts_at).names.lookup ("poly_less" : Str) = some .globalImplicit)
theorem gl_parts_at_poly_parted : GlN (defScope st_parts_at) ("poly_parted" : Str) := (by decide +kernel : (defScope st_parts_at).names.lookup ("poly_parted" : Str) = some .globalImplicit)
theorem gl_parts_at_poly_product : GlN (defScope st_parts_at) ("poly_product" : Str) := (by decide +kernel : (defScope st_parts_at).names.lookup ("poly_product" : Str) = some .globalImplicit)
theorem gl_parts_at_poly_times : GlN (defScope st_parts_at) ("poly_times" : Str) := (by decide +kernel : (defScope st_parts_at).names.lookup ("poly_times" : Str) = some .globalImplicit)
theorem gl_parts_at_poly_turned : GlN (defScope st_parts_at) ("poly_turned" : Str) := (by decide +kernel : (defScope st_parts_at).names.lookup ("poly_turned" : Str) = some .globalImplicit)
theorem gl_parts_at_power_of : GlN (defScope st_parts_at) ("power_of" : Str) := (by decide +kernel : (defScope st_parts_at).names.lookup ("power_of" : Str) = some .globalImplicit)
theorem gl_parts_at_range : GlN (defScope st_parts_at) ("range" : Str) := (by decide +kernel : (defScope st_parts_at).names.lookup ("range" : Str) = some .globalImplicit)
theorem gl_parts_at_with_more : GlN (defScope st_parts_at) ("with_more" : Str) := (by decide +kernel : (defScope st_parts_at).names.lookup ("with_more" : Str) = some .globalImplicit)
theorem der_parts_at {X : Cx} {Z : Zp} (T : Tx X.K X.mg Z.cl) (G_need_parts : FnAt X.prog X.w X.K X.mg X.base Z.cl 3 "need_parts" ["p", "N", "f", "g", "h"] sp_need_parts) (G_poly_less : FnAt X.prog X.w X.K X.mg X.base Z.cl 2 "poly_less" ["one", "other"] sp_poly_less) (G_poly_parted : FnAt X.prog X.w X.K X.mg X.base Z.cl 4 "poly_parted" ["p", "f", "g"] sp_poly_parted) (G_poly_product : FnAt X.prog X.w X.K X.mg X.base Z.cl 2 "poly_product" ["f", "g"] sp_poly_product) (G_poly_times : FnAt X.prog X.w X.K X.mg X.base Z.cl 3 "poly_times" ["one", "other"] sp_poly_times) (G_poly_turned : FnAt X.prog X.w X.K X.mg X.base Z.cl 5 "poly_turned" ["p", "g", "h"] sp_poly_turned) (G_power_of : FnAt X.prog X.w X.K X.mg X.base Z.cl 2 "power_of" ["p", "e"] sp_power_of) (G_with_more : FnAt X.prog X.w X.K X.mg X.base Z.cl 2 "with_more" ["f", "more", "power"] sp_with_more) (A : WhD X N_parts_at (defScope st_parts_at)) (hc : X.calm = true) (hr : Room 5 X.A) : CSs X Z (defBody st_parts_at) rd_parts_at :=
  css_cons (cs_expr (ce_call G_need_parts A.toWh (hr.mono (by decide)) gl_parts_at_need_parts (ca_cons (ce_var A.toWh 0 rfl vis_parts_at_p nm_p.1 nm_p.2) (ca_cons (ce_var A.toWh 1 rfl vis_parts_at_N nm_N.1 nm_N.2) (ca_cons (ce_var A.toWh 2 rfl vis_parts_at_f nm_f.1 nm_f.2) (ca_cons (ce_var A.toWh 3 rfl vis_parts_at_g nm_g.1 nm_g.2) (ca_cons (ce_var A.toWh 4 rfl vis_parts_at_h nm_h.1 nm_h.2) (ca_nil)))))) nm_need_parts.1)) (css_cons (cs_set A 5 rfl loc_parts_at_turned (ce_call G_poly_turned A.toWh (hr.mono (by decide)) gl_parts_at_poly_turned (ca_cons (ce_var A.toWh 0 rfl vis_parts_at_p nm_p.1 nm_p.2) (ca_cons (ce_var A.toWh 3 rfl vis_parts_at_g nm_g.1 nm_g.2) (ca_cons (ce_var A.toWh 4 rfl vis_parts_at_h nm_h.1 nm_h.2) (ca_nil)))) nm_poly_turned.1)) (css_fz 5 (css_cons (cs_if (ct_is (ce_var A.toWh 5 rfl vis_parts_at_turned nm_turned.1 nm_turned.2) (ce_non)) (css_one (cs_raise (c := .NoParts) T.x_NoParts A.toWh hc gl_parts_at_NoParts (by decide +kernel))) (css_nil)) (css_cons (cs_setLc A hc 6 rfl lcl_parts_at_one rfl (by decide +kernel) rfl (ci_val (ce_var A.toWh 3 rfl vis_parts_at_g nm_g.1 nm_g.2)) (own := [("number", 13)]) (blkOk_by (by decide +kernel)) (by decide) (fun _ _ _ _ _ => cg_name ((Wh.blk A.toWh _ _ _ _ _).sto (i := 13) rfl (by decide +kernel))) (fun _ _ _ _ _ => cts_nil) (fun _ _ _ _ _ => ce_mod (ce_var (Wh.blk A.toWh _ _ _ _ _) 13 rfl (vis_of (by decide +kernel)) nm_number.1 nm_number.2) (ce_var (Wh.blk A.toWh _ _ _ _ _) 0 rfl (vis_of (by decide +kernel)) nm_p.1 nm_p.2))) (css_cons (cs_setLc A hc 7 rfl lcl_parts_at_other rfl (by decide +kernel) rfl (ci_val (ce_var A.toWh 4 rfl vis_parts_at_h nm_h.1 nm_h.2)) (own := [("number", 13)]) (blkOk_by (by decide +kernel)) (by decide) (fun _ _ _ _ _ => cg_name ((Wh.blk A.toWh _ _ _ _ _).sto (i := 13) rfl (by decide +kernel))) (fun _ _ _ _ _ => cts_nil) (fun _ _ _ _ _ => ce_mod (ce_var (Wh.blk A.toWh _ _ _ _ _) 13 rfl (vis_of (by decide +kernel)) nm_number.1 nm_number.2) (ce_var (Wh.blk A.toWh _ _ _ _ _) 0 rfl (vis_of (by decide +kernel)) nm_p.1 nm_p.2))) (css_cons (cs_for hc (ci_range2 A.toWh gl_parts_at_range T.b_range (ce_int) (ce_var A.toWh 1 rfl vis_parts_at_N nm_N.1 nm_N.2)) (cg_name (A.sto (i := 8) rfl loc_parts_at_k)) (fun _ => (show CSs X _ _ rd_parts_at_b0 from css_fz 6 (css_fz 7 (css_cons (cs_set A 9 rfl loc_parts_at_power (ce_call G_power_of A.toWh (hr.mono (by decide)) gl_parts_at_power_of (ca_cons (ce_var A.toWh 0 rfl vis_parts_at_p nm_p.1 nm_p.2) (ca_cons (ce_var A.toWh 8 rfl vis_parts_at_k nm_k.1 nm_k.2) (ca_nil))) nm_power_of.1)) (css_fz 9 (css_cons (cs_setLc A hc 10 rfl lcl_parts_at_lack rfl (by decide +kernel) rfl (ci_val (ce_call G_poly_less A.toWh (hr.mono (by decide)) gl_parts_at_poly_less (ca_cons (ce_var A.toWh 2 rfl vis_parts_at_f nm_f.1 nm_f.2) (ca_cons (ce_call G_poly_product A.toWh (hr.mono (by decide)) gl_parts_at_poly_product (ca_cons (ce_var A.toWh 6 rfl vis_parts_at_one nm_one.1 nm_one.2) (ca_cons (ce_var A.toWh 7 rfl vis_parts_at_other nm_other.1 nm_other.2) (ca_nil))) nm_poly_product.1) (ca_nil))) nm_poly_less.1)) (own := [("number", 13)]) (blkOk_by (by decide +kernel)) (by decide) (fun _ _ _ _ _ => cg_name ((Wh.blk A.toWh _ _ _ _ _).sto (i := 13) rfl (by decide +kernel))) (fun _ _ _ _ _ => cts_nil) (fun _ _ _ _ _ => ce_fdiv (ce_var (Wh.blk A.toWh _ _ _ _ _) 13 rfl (vis_of (by decide +kernel)) nm_number.1 nm_number.2) (ce_var (Wh.blk A.toWh _ _ _ _ _) 9 rfl (vis_of (by decide +kernel)) nm_power.1 nm_power.2))) (css_fz 10 (css_cons (cs_set A 11 rfl loc_parts_at_u (ce_ix (ce_call G_poly_parted A.toWh (hr.mono (by decide)) gl_parts_at_poly_parted (ca_cons (ce_var A.toWh 0 rfl vis_parts_at_p nm_p.1 nm_p.2) (ca_cons (ce_call G_poly_times A.toWh (hr.mono (by decide)) gl_parts_at_poly_times (ca_cons (ce_var A.toWh 5 rfl vis_parts_at_turned nm_turned.1 nm_turned.2) (ca_cons (ce_ix (ce_call G_poly_parted A.toWh (hr.mono (by decide)) gl_parts_at_poly_parted (ca_cons (ce_var A.toWh 0 rfl vis_parts_at_p nm_p.1 nm_p.2) (ca_cons (ce_var A.toWh 10 rfl vis_parts_at_lack nm_lack.1 nm_lack.2) (ca_cons (ce_var A.toWh 6 rfl vis_parts_at_one nm_one.1 nm_one.2) (ca_nil)))) nm_poly_parted.1) (ce_int) (fun _ _ => rfl)) (ca_nil))) nm_poly_times.1) (ca_cons (ce_var A.toWh 6 rfl vis_parts_at_one nm_one.1 nm_one.2) (ca_nil)))) nm_poly_parted.1) (ce_int) (fun _ _ => rfl))) (css_cons (cs_set A 12 rfl loc_parts_at_w (ce_ix (ce_call G_poly_parted A.toWh (hr.mono (by decide)) gl_parts_at_poly_parted (ca_cons (ce_var A.toWh 0 rfl vis_parts_at_p nm_p.1 nm_p.2) (ca_cons (ce_call G_poly_less A.toWh (hr.mono (by decide)) gl_parts_at_poly_less (ca_cons (ce_var A.toWh 10 rfl vis_parts_at_lack nm_lack.1 nm_lack.2) (ca_cons (ce_call G_poly_times A.toWh (hr.mono (by decide)) gl_parts_at_poly_times (ca_cons (ce_var A.toWh 11 rfl vis_parts_at_u nm_u.1 nm_u.2) (ca_cons (ce_var A.toWh 7 rfl vis_parts_at_other nm_other.1 nm_other.2) (ca_nil))) nm_poly_times.1) (ca_nil))) nm_poly_less.1) (ca_cons (ce_var A.toWh 6 rfl vis_parts_at_one nm_one.1 nm_one.2) (ca_nil)))) nm_poly_parted.1) (ce_int) (fun _ _ => rfl))) (css_cons (cs_set A 6 rfl loc_parts_at_one (ce_call G_with_more A.toWh (hr.mono (by decide)) gl_parts_at_with_more (ca_cons (ce_var A.toWh 6 rfl vis_parts_at_one nm_one.1 nm_one.2) (ca_cons (ce_var A.toWh 11 rfl vis_parts_at_u nm_u.1 nm_u.2) (ca_cons (ce_var A.toWh 9 rfl vis_parts_at_power nm_power.1 nm_power.2) (ca_nil)))) nm_with_more.1)) (css_one (cs_set A 7 rfl loc_parts_at_other (ce_call G_with_more A.toWh (hr.mono (by decide)) gl_parts_at_with_more (ca_cons (ce_var A.toWh 7 rfl vis_parts_at_other nm_other.1 nm_other.2) (ca_cons (ce_var A.toWh 12 rfl vis_parts_at_w nm_w.1 nm_w.2) (ca_cons (ce_var A.toWh 9 rfl vis_parts_at_power nm_power.1 nm_power.2) (ca_nil)))) nm_with_more.1)))))))))))))) (css_one (cs_retTl A.toWh 6 7 rfl rfl (by decide) vis_parts_at_one vis_parts_at_other nm_one.1 nm_one.2 nm_other.1 nm_other.2))))))))
abbrev st__law_parts : Stmt := topS 29
theorem sc__law_parts : FnScope N__law_parts ["p", "N", "f", "g", "h"] (defScope st__law_parts) := ⟨rfl, rfl, rfl, by decide +kernel, rfl, by decide +kernel, by decide +kernel⟩
theorem lcl__law_parts_N : (defScope st__law_parts).names.lookup ("N" : Str) = some .local := by decide +kernel
theorem loc__law_parts_N : Loc (defScope st__law_parts) ("N" : Str) := .inl lcl__law_parts_N
theorem vis__law_parts_N : Vis (defScope st__law_parts) ("N" : Str) := (.inl lcl__law_parts_N)
theorem lcl__law_parts_f : (defScope st__law_parts).names.lookup ("f" : Str) = some .local := by decide +kernel
theorem loc__law_parts_f : Loc (defScope st__law_parts) ("f" : Str) := .inl lcl__law_parts_f
theorem vis__law_parts_f : Vis (defScope st__law_parts) ("f" : Str) := (.inl lcl__law_parts_f)
theorem lcl__law_parts_found : (defScope st__law_parts).names.lookup ("found" : Str) = some .local := by decide +kernel
theorem loc__law_parts_found : Loc (defScope st__law_parts) ("found" : Str) := .inl lcl__law_parts_found
theorem vis__law_parts_found : Vis (defScope st__law_parts) ("found" : Str) := (.inl lcl__law_parts_found)
theorem lcl__law_parts_g : (defScope st__law_parts).names.lookup ("g" : Str) = some .local := by decide +kernel
theorem loc__law_parts_g : Loc (defScope st__law_parts) ("g" : Str) := .inl lcl__law_parts_g
theorem vis__law_parts_g : Vis (defScope st__law_parts) ("g" : Str) := (.inl lcl__law_parts_g)
theorem lcl__law_parts_h : (defScope st__law_parts).names.lookup ("h" : Str) = some .local := by decide +kernel
theorem loc__law_parts_h : Loc (defScope st__law_parts) ("h" : Str) := .inl lcl__law_parts_h
theorem vis__law_parts_h : Vis (defScope st__law_parts) ("h" : Str) := (.inl lcl__law_parts_h)
theorem lcl__law_parts_p : (defScope st__law_parts).names.lookup ("p" : Str) = some .local := by decide +kernel
theorem loc__law_parts_p : Loc (defScope st__law_parts) ("p" : Str) := .inl lcl__law_parts_p
theorem vis__law_parts_p : Vis (defScope st__law_parts) ("p" : Str) := (.inl lcl__law_parts_p)
theorem gl__law_parts_NoParts : GlN (defScope st__law_parts) ("NoParts" : Str) := (by decide +kernel : (defScope st__law_parts).names.lookup ("NoParts" : Str) = some .globalImplicit)
theorem gl__law_parts_parts_at : GlN (defScope st__law_parts) ("parts_at" : Str) := (by decide +kernel : (defScope st__law_parts).names.lookup ("parts_at" : Str) = some .globalImplicit)
theorem der__law_parts {X : Cx} {Z : Zp} (T : Tx X.K X.mg Z.cl) (G_parts_at : FnAt X.prog X.w X.K X.mg X.base Z.cl 6 "parts_at" ["p", "N", "f", "g", "h"] sp_parts_at) (A : WhD X N__law_parts (defScope st__law_parts)) (hc : X.calm = true) (hr : Room 6 X.A) : CSs X Z (defBody st__law_parts) rd__law_parts :=
  css_cons (cs_set A 5 rfl loc__law_parts_found (ce_non)) (css_cons (cs_try A T.t_NoParts gl__law_parts_NoParts (by decide +kernel) (all_cons T.s_NoInverse_NoParts (all_cons T.s_NoParts_NoParts (all_nil))) (fun xp xe => css_cons (cs_set (A.tr xp xe) 5 rfl loc__law_parts_found (ce_call G_parts_at (A.tr xp xe).toWh (hr.mono (by decide)) gl__law_parts_parts_at (ca_cons (ce_var (A.tr xp xe).toWh 0 rfl vis__law_parts_p nm_p.1 nm_p.2) (ca_cons (ce_var (A.tr xp xe).toWh 1 rfl vis__law_parts_N nm_N.1 nm_N.2) (ca_cons (ce_var (A.tr xp xe).toWh 2 rfl vis__law_parts_f nm_f.1 nm_f.2) (ca_cons (ce_var (A.tr xp xe).toWh 3 rfl vis__law_parts_g nm_g.1 nm_g.2) (ca_cons (ce_var (A.tr xp xe).toWh 4 rfl vis__law_parts_h nm_h.1 nm_h.2) (ca_nil)))))) nm_parts_at.1)) (css_fz 5 (css_nil))) (fun xa xo xp => css_one (cs_set (A.suite xa ((xa, xo) :: xp)) 5 rfl loc__law_parts_found (ce_non)))) (css_one (cs_retV A.toWh 5 rfl vis__law_parts_found nm_found.1 nm_found.2)))
abbrev st__law_prime : Stmt := topS 20
theorem sc__law_prime : FnScope N__law_prime ["cell"] (defScope st__law_prime) := ⟨rfl, rfl, rfl, by decide +kernel, rfl, by decide +kernel, by decide +kernel⟩
theorem lcl__law_prime_cell : (defScope st__law_prime).names.lookup ("cell" : Str) = some .local := by decide +kernel
theorem loc__law_prime_cell : Loc (defScope st__law_prime) ("cell" : Str) := .inl lcl__law_prime_cell
theorem vis__law_prime_cell : Vis (defScope st__law_prime) ("cell" : Str) := (.inl lcl__law_prime_cell)
theorem lcl__law_prime_primes : (defScope st__law_prime).names.lookup ("primes" : Str) = some .local := by decide +kernel
theorem loc__law_prime_primes : Loc (defScope st__law_prime) ("primes" : Str) := .inl lcl__law_prime_primes
theorem vis__law_prime_primes : Vis (defScope st__law_prime) ("primes" : Str) := (.inl lcl__law_prime_primes)
theorem der__law_prime {X : Cx} {Z : Zp} (T : Tx X.K X.mg Z.cl)  (A : WhD X N__law_prime (defScope st__law_prime)) (hc : X.calm = true) (hr : Room 1 X.A) : CSs X Z (defBody st__law_prime) rd__law_prime :=
  css_cons (cs_set A 1 rfl loc__law_prime_primes (ce_lst (ca_cons (ce_int) (ca_cons (ce_int) (ca_cons (ce_int) (ca_cons (ce_int) (ca_cons (ce_int) (ca_cons (ce_int) (ca_cons (ce_int) (ca_cons (ce_int) (ca_cons (ce_int) (ca_cons (ce_int) (ca_cons (ce_int) (ca_cons (ce_int) (ca_cons (ce_int) (ca_cons (ce_int) (ca_cons (ce_int) (ca_cons (ce_int) (ca_cons (ce_int) (ca_cons (ce_int) (ca_cons (ce_int) (ca_cons (ce_int) (ca_cons (ce_int) (ca_cons (ce_int) (ca_cons (ce_int) (ca_cons (ce_int) (ca_cons (ce_int) (ca_nil)))))))))))))))))))))))))))) (css_fz 1 (css_cons (cs_if (ct_eq hr.units (ce_mod (ce_var A.toWh 0 rfl vis__law_prime_cell nm_cell.1 nm_cell.2) (ce_int)) (ce_int)) (css_one (cs_ret (ce_ix (ce_var A.toWh 1 rfl vis__law_prime_primes nm_primes.1 nm_primes.2) (ce_mod (ce_fdiv (ce_var A.toWh 0 rfl vis__law_prime_cell nm_cell.1 nm_cell.2) (ce_int)) (ce_int)) (fun _ _ => rfl)))) (css_nil)) (css_one (cs_ret (ce_ix (ce_var A.toWh 1 rfl vis__law_prime_primes nm_primes.1 nm_primes.2) (ce_mod (ce_fdiv (ce_var A.toWh 0 rfl vis__law_prime_cell nm_cell.1 nm_cell.2) (ce_int)) (ce_int)) (fun _ _ => rfl))))))
abbrev st__law_times : Stmt := topS 22
theorem sc__law_times : FnScope N__law_times ["f", "g"] (defScope st__law_times) := ⟨rfl, rfl, rfl, by decide +kernel, rfl, by decide +kernel, by decide +kernel⟩
theorem lcl__law_times_f : (defScope st__law_times).names.lookup ("f" : Str) = some .local := by decide +kernel
theorem loc__law_times_f : Loc (defScope st__law_times) ("f" : Str) := .inl lcl__law_times_f
theorem vis__law_times_f : Vis (defScope st__law_times) ("f" : Str) := (.inl lcl__law_times_f)
theorem lcl__law_times_found : (defScope st__law_times).names.lookup ("found" : Str) = some .local := by decide +kernel
theorem loc__law_times_found : Loc (defScope st__law_times) ("found" : Str) := .inl lcl__law_times_found
theorem vis__law_times_found : Vis (defScope st__law_times) ("found" : Str) := (.inl lcl__law_times_found)
theorem lcl__law_times_g : (defScope st__law_times).names.lookup ("g" : Str) = some .local := by decide +kernel
theorem loc__law_times_g : Loc (defScope st__law_times) ("g" : Str) := .inl lcl__law_times_g
theorem vis__law_times_g : Vis (defScope st__law_times) ("g" : Str) := (.inl lcl__law_times_g)
theorem lcl__law_times_j : (defScope st__law_times).names.lookup ("j" : Str) = some .local := by decide +kernel
theorem loc__law_times_j : Loc (defScope st__law_times) ("j" : Str) := .inl lcl__law_times_j
theorem vis__law_times_j : Vis (defScope st__law_times) ("j" : Str) := (.inl lcl__law_times_j)
theorem lcl__law_times_k : (defScope st__law_times).names.lookup ("k" : Str) = some .local := by decide +kernel
theorem loc__law_times_k : Loc (defScope st__law_times) ("k" : Str) := .inl lcl__law_times_k
theorem vis__law_times_k : Vis (defScope st__law_times) ("k" : Str) := (.inl lcl__law_times_k)
theorem gl__law_times_len : GlN (defScope st__law_times) ("len" : Str) := (by decide +kernel : (defScope st__law_times).names.lookup ("len" : Str) = some .globalImplicit)
theorem gl__law_times_range : GlN (defScope st__law_times) ("range" : Str) := (by decide +kernel : (defScope st__law_times).names.lookup ("range" : Str) = some .globalImplicit)
theorem der__law_times {X : Cx} {Z : Zp} (T : Tx X.K X.mg Z.cl)  (A : WhD X N__law_times (defScope st__law_times)) (hc : X.calm = true) (hr : Room 1 X.A) : CSs X Z (defBody st__law_times) rd__law_times :=
  css_cons (cs_set A 2 rfl loc__law_times_found (ce_mul (ce_lst (ca_cons (ce_int) (ca_nil))) (ce_sub (ce_add (ce_bi1 A.toWh fn_len call_len gl__law_times_len T.b_len bo_len (ce_var A.toWh 0 rfl vis__law_times_f nm_f.1 nm_f.2) (by decide) (by decide +kernel)) (ce_bi1 A.toWh fn_len call_len gl__law_times_len T.b_len bo_len (ce_var A.toWh 1 rfl vis__law_times_g nm_g.1 nm_g.2) (by decide) (by decide +kernel))) (ce_int)))) (css_cons (cs_for hc (ci_range1 A.toWh gl__law_times_range T.b_range (ce_bi1 A.toWh fn_len call_len gl__law_times_len T.b_len bo_len (ce_var A.toWh 0 rfl vis__law_times_f nm_f.1 nm_f.2) (by decide) (by decide +kernel))) (cg_name (A.sto (i := 3) rfl loc__law_times_k)) (fun _ => (show CSs X _ _ rd__law_times_b1 from css_one (cs_for hc (ci_range1 A.toWh gl__law_times_range T.b_range (ce_bi1 A.toWh fn_len call_len gl__law_times_len T.b_len bo_len (ce_var A.toWh 1 rfl vis__law_times_g nm_g.1 nm_g.2) (by decide) (by decide +kernel))) (cg_name (A.sto (i := 4) rfl loc__law_times_j)) (fun _ => (show CSs X _ _ rd__law_times_b0 from css_one (cs_setIx A.toWh 2 rfl vis__law_times_found nm_found.1 nm_found.2 (ce_add (ce_ix (ce_var A.toWh 2 rfl vis__law_times_found nm_found.1 nm_found.2) (ce_add (ce_var A.toWh 3 rfl vis__law_times_k nm_k.1 nm_k.2) (ce_var A.toWh 4 rfl vis__law_times_j nm_j.1 nm_j.2)) (fun _ _ => rfl)) (ce_mul (ce_ix (ce_var A.toWh 0 rfl vis__law_times_f nm_f.1 nm_f.2) (ce_var A.toWh 3 rfl vis__law_times_k nm_k.1 nm_k.2) (fun _ _ => rfl)) (ce_ix (ce_var A.toWh 1 rfl vis__law_times_g nm_g.1 nm_g.2) (ce_var A.toWh 4 rfl vis__law_times_j nm_j.1 nm_j.2) (fun _ _ => rfl)))) (ce_add (ce_var A.toWh 3 rfl vis__law_times_k nm_k.1 nm_k.2) (ce_var A.toWh 4 rfl vis__law_times_j nm_j.1 nm_j.2))))))))) (css_one (cs_retV A.toWh 2 rfl vis__law_times_found nm_found.1 nm_found.2)))
abbrev st__law_whole : Stmt := topS 26
theorem sc__law_whole : FnScope N__law_whole ["found"] (defScope st__law_whole) := ⟨rfl, rfl, rfl, by decide +kernel, rfl, by decide +kernel, by decide +kernel⟩
theorem lcl__law_whole_found : (defScope st__law_whole).names.lookup ("found" : Str) = some .local := by decide +kernel
theorem loc__law_whole_found : Loc (defScope st__law_whole) ("found" : Str) := .inl lcl__law_whole_found
theorem vis__law_whole_found : Vis (defScope st__law_whole) ("found" : Str) := (.inl lcl__law_whole_found)
theorem gl__law_whole_isinstance : GlN (defScope st__law_whole) ("isinstance" : Str) := (by decide +kernel : (defScope st__law_whole).names.lookup ("isinstance" : Str) = some .globalImplicit)
theorem gl__law_whole_list : GlN (defScope st__law_whole) ("list" : Str) := (by decide +kernel : (defScope st__law_whole).names.lookup ("list" : Str) = some .globalImplicit)
theorem der__law_whole {X : Cx} {Z : Zp} (T : Tx X.K X.mg Z.cl)  (A : WhD X N__law_whole (defScope st__law_whole)) (hc : X.calm = true) (hr : Room 1 X.A) : CSs X Z (defBody st__law_whole) rd__law_whole :=
  css_one (cs_ret (ce_and (ce_isi (T := .list) A.toWh gl__law_whole_isinstance T.b_isinstance bo_isinstance gl__law_whole_list T.b_list bo_list (ce_var A.toWh 0 rfl vis__law_whole_found nm_found.1 nm_found.2) (by decide) (by decide +kernel) (by decide) (by decide +kernel)) (ce_one (ce_eq hr.units (ce_lc A.toWh hc (ci_val (ce_var A.toWh 0 rfl vis__law_whole_found nm_found.1 nm_found.2)) (own := [("x", 1)]) (blkOk_by (by decide +kernel)) (by decide) (fun _ _ _ _ _ => cg_name ((Wh.blk A.toWh _ _ _ _ _).sto (i := 1) rfl (by decide +kernel))) (fun _ _ _ _ _ => cts_one (ct_w (cw_or (ct_not (ct_val (ce_isi (T := .int) (Wh.blk A.toWh _ _ _ _ _) (gl_of (by decide +kernel)) T.b_isinstance bo_isinstance (gl_of (by decide +kernel)) T.b_int bo_int (ce_var (Wh.blk A.toWh _ _ _ _ _) 1 rfl (vis_of (by decide +kernel)) nm_x.1 nm_x.2) (by decide) (by decide +kernel) (by decide) (by decide +kernel)) (fun _ => rfl))) (cw_or1 (ct_val (ce_isi (T := .bool) (Wh.blk A.toWh _ _ _ _ _) (gl_of (by decide +kernel)) T.b_isinstance bo_isinstance (gl_of (by decide +kernel)) T.b_bool bo_bool (ce_var (Wh.blk A.toWh _ _ _ _ _) 1 rfl (vis_of (by decide +kernel)) nm_x.1 nm_x.2) (by decide) (by decide +kernel) (by decide) (by decide +kernel)) (fun _ => rfl)))))) (fun _ _ _ _ _ => ce_var (Wh.blk A.toWh _ _ _ _ _) 1 rfl (vis_of (by decide +kernel)) nm_x.1 nm_x.2)) (ce_lst (ca_nil))))))
abbrev st_law : Stmt := topS 30
theorem sc_law : FnScope N_law ["script"] (defScope st_law) := ⟨rfl, rfl, rfl, by decide +kernel, rfl, by decide +kernel, by decide +kernel⟩
theorem lcl_law_G : (defScope st_law).names.lookup ("G" : Str) = some .local := by decide +kernel
theorem loc_law_G : Loc (defScope st_law) ("G" : Str) := .inl lcl_law_G
theorem vis_law_G : Vis (defScope st_law) ("G" : Str) := (.inl lcl_law_G)
theorem lcl_law_H : (defScope st_law).names.lookup ("H" : Str) = some .local := by decide +kernel
theorem loc_law_H : Loc (defScope st_law) ("H" : Str) := .inl lcl_law_H
theorem vis_law_H : Vis (defScope st_law) ("H" : Str) := (.inl lcl_law_H)
theorem lcl_law_N : (defScope st_law).names.lookup ("N" : Str) = some .local := by decide +kernel
theorem loc_law_N : Loc (defScope st_law) ("N" : Str) := .inl lcl_law_N
theorem vis_law_N : Vis (defScope st_law) ("N" : Str) := (.inl lcl_law_N)
theorem lcl_law_f : (defScope st_law).names.lookup ("f" : Str) = some .local := by decide +kernel
theorem loc_law_f : Loc (defScope st_law) ("f" : Str) := .inl lcl_law_f
theorem vis_law_f : Vis (defScope st_law) ("f" : Str) := (.inl lcl_law_f)
theorem lcl_law_found : (defScope st_law).names.lookup ("found" : Str) = some .local := by decide +kernel
theorem loc_law_found : Loc (defScope st_law) ("found" : Str) := .inl lcl_law_found
theorem vis_law_found : Vis (defScope st_law) ("found" : Str) := (.inl lcl_law_found)
theorem lcl_law_g : (defScope st_law).names.lookup ("g" : Str) = some .local := by decide +kernel
theorem loc_law_g : Loc (defScope st_law) ("g" : Str) := .inl lcl_law_g
theorem vis_law_g : Vis (defScope st_law) ("g" : Str) := (.inl lcl_law_g)
theorem lcl_law_h : (defScope st_law).names.lookup ("h" : Str) = some .local := by decide +kernel
theorem loc_law_h : Loc (defScope st_law) ("h" : Str) := .inl lcl_law_h
theorem vis_law_h : Vis (defScope st_law) ("h" : Str) := (.inl lcl_law_h)
theorem lcl_law_handed : (defScope st_law).names.lookup ("handed" : Str) = some .local := by decide +kernel
theorem loc_law_handed : Loc (defScope st_law) ("handed" : Str) := .inl lcl_law_handed
theorem vis_law_handed : Vis (defScope st_law) ("handed" : Str) := (.inl lcl_law_handed)
theorem lcl_law_k : (defScope st_law).names.lookup ("k" : Str) = some .local := by decide +kernel
theorem loc_law_k : Loc (defScope st_law) ("k" : Str) := .inl lcl_law_k
theorem vis_law_k : Vis (defScope st_law) ("k" : Str) := (.inl lcl_law_k)
theorem lcl_law_p : (defScope st_law).names.lookup ("p" : Str) = some .local := by decide +kernel
theorem loc_law_p : Loc (defScope st_law) ("p" : Str) := .inl lcl_law_p
theorem vis_law_p : Vis (defScope st_law) ("p" : Str) := (.inl lcl_law_p)
theorem lcl_law_power : (defScope st_law).names.lookup ("power" : Str) = some .local := by decide +kernel
theorem loc_law_power : Loc (defScope st_law) ("power" : Str) := .inl lcl_law_power
theorem vis_law_power : Vis (defScope st_law) ("power" : Str) := (.inl lcl_law_power)
theorem lcl_law_script : (defScope st_law).names.lookup ("script" : Str) = some .local := by decide +kernel
theorem loc_law_script : Loc (defScope st_law) ("script" : Str) := .inl lcl_law_script
theorem vis_law_script : Vis (defScope st_law) ("script" : Str) := (.inl lcl_law_script)
theorem gl_law__law_apart : GlN (defScope st_law) ("_law_apart" : Str) := (by decide +kernel : (defScope st_law).names.lookup ("_law_apart" : Str) = some .globalImplicit)
theorem gl_law__law_cell_at : GlN (defScope st_law) ("_law_cell_at" : Str) := (by decide +kernel : (defScope st_law).names.lookup ("_law_cell_at" : Str) = some .globalImplicit)
theorem gl_law__law_drawn : GlN (defScope st_law) ("_law_drawn" : Str) := (by decide +kernel : (defScope st_law).names.lookup ("_law_drawn" : Str) = some .globalImplicit)
theorem gl_law__law_near : GlN (defScope st_law) ("_law_near" : Str) := (by decide +kernel : (defScope st_law).names.lookup ("_law_near" : Str) = some .globalImplicit)
theorem gl_law__law_parts : GlN (defScope st_law) ("_law_parts" : Str) := (by decide +kernel : (defScope st_law).names.lookup ("_law_parts" : Str) = some .globalImplicit)
theorem gl_law__law_power : GlN (defScope st_law) ("_law_power" : Str) := (by decide +kernel : (defScope st_law).names.lookup ("_law_power" : Str) = some .globalImplicit)
theorem gl_law__law_prime : GlN (defScope st_law) ("_law_prime" : Str) := (by decide +kernel : (defScope st_law).names.lookup ("_law_prime" : Str) = some .globalImplicit)
theorem gl_law__law_times : GlN (defScope st_law) ("_law_times" : Str) := (by decide +kernel : (defScope st_law).names.lookup ("_law_times" : Str) = some .globalImplicit)
theorem gl_law__law_whole : GlN (defScope st_law) ("_law_whole" : Str) := (by decide +kernel : (defScope st_law).names.lookup ("_law_whole" : Str) = some .globalImplicit)
theorem gl_law_isinstance : GlN (defScope st_law) ("isinstance" : Str) := (by decide +kernel : (defScope st_law).names.lookup ("isinstance" : Str) = some .globalImplicit)
theorem gl_law_len : GlN (defScope st_law) ("len" : Str) := (by decide +kernel : (defScope st_law).names.lookup ("len" : Str) = some .globalImplicit)
theorem gl_law_list : GlN (defScope st_law) ("list" : Str) := (by decide +kernel : (defScope st_law).names.lookup ("list" : Str) = some .globalImplicit)
theorem gl_law_range : GlN (defScope st_law) ("range" : Str) := (by decide +kernel : (defScope st_law).names.lookup ("range" : Str) = some .globalImplicit)
theorem gl_law_tuple : GlN (defScope st_law) ("tuple" : Str) := (by decide +kernel : (defScope st_law).names.lookup ("tuple" : Str) = some .globalImplicit)
theorem der_law {X : Cx} {Z : Zp} (T : Tx X.K X.mg Z.cl) (G__law_apart : FnAt X.prog X.w X.K X.mg X.base Z.cl 3 "_law_apart" ["p", "g", "h"] sp__law_apart) (G__law_cell_at : FnAt X.prog X.w X.K X.mg X.base Z.cl 2 "_law_cell_at" ["script", "k"] sp__law_cell_at) (G__law_drawn : FnAt X.prog X.w X.K X.mg X.base Z.cl 3 "_law_drawn" ["script", "p", "N"] sp__law_drawn) (G__law_near : FnAt X.prog X.w X.K X.mg X.base Z.cl 3 "_law_near" ["script", "p", "G", "start"] sp__law_near) (G__law_parts : FnAt X.prog X.w X.K X.mg X.base Z.cl 7 "_law_parts" ["p", "N", "f", "g", "h"] sp__law_parts) (G__law_power : FnAt X.prog X.w X.K X.mg X.base Z.cl 2 "_law_power" ["p", "e"] sp__law_power) (G__law_prime : FnAt X.prog X.w X.K X.mg X.base Z.cl 2 "_law_prime" ["cell"] sp__law_prime) (G__law_times : FnAt X.prog X.w X.K X.mg X.base Z.cl 2 "_law_times" ["f", "g"] sp__law_times) (G__law_whole : FnAt X.prog X.w X.K X.mg X.base Z.cl 2 "_law_whole" ["found"] sp__law_whole) (A : WhD X N_law (defScope st_law)) (hc : X.calm = true) (hr : Room 7 X.A) : CSs X Z (defBody st_law) rd_law :=
  css_cons (cs_set A 1 rfl loc_law_p (ce_call G__law_prime A.toWh (hr.mono (by decide)) gl_law__law_prime (ca_cons (ce_call G__law_cell_at A.toWh (hr.mono (by decide)) gl_law__law_cell_at (ca_cons (ce_var A.toWh 0 rfl vis_law_script nm_script.1 nm_script.2) (ca_cons (ce_int) (ca_nil))) nm__law_cell_at.1) (ca_nil)) nm__law_prime.1)) (css_fz 1 (css_cons (cs_set A 2 rfl loc_law_N (ce_add (ce_int) (ce_mod (ce_call G__law_cell_at A.toWh (hr.mono (by decide)) gl_law__law_cell_at (ca_cons (ce_var A.toWh 0 rfl vis_law_script nm_script.1 nm_script.2) (ca_cons (ce_int) (ca_nil))) nm__law_cell_at.1) (ce_int)))) (css_cons (cs_while (ct_gt (ce_call G__law_power A.toWh (hr.mono (by decide)) gl_law__law_power (ca_cons (ce_var A.toWh 1 rfl vis_law_p nm_p.1 nm_p.2) (ca_cons (ce_var A.toWh 2 rfl vis_law_N nm_N.1 nm_N.2) (ca_nil))) nm__law_power.1) (ce_pow (ce_int) (ce_int))) (show CSs X _ _ rd_law_b0 from css_one (cs_set A 2 rfl loc_law_N (ce_sub (ce_var A.toWh 2 rfl vis_law_N nm_N.1 nm_N.2) (ce_int))))) (css_cons (cs_unp (ce_call G__law_drawn A.toWh (hr.mono (by decide)) gl_law__law_drawn (ca_cons (ce_var A.toWh 0 rfl vis_law_script nm_script.1 nm_script.2) (ca_cons (ce_var A.toWh 1 rfl vis_law_p nm_p.1 nm_p.2) (ca_cons (ce_var A.toWh 2 rfl vis_law_N nm_N.1 nm_N.2) (ca_nil)))) nm__law_drawn.1) (cg_tup hc (cgs_cons (A.sto (i := 3) rfl loc_law_G) (cgs_cons (A.sto (i := 4) rfl loc_law_H) (cgs_nil))) rfl) (fun _ => rfl) (fun _ => rfl)) (css_cons (cs_set A 5 rfl loc_law_f (ce_call G__law_times A.toWh (hr.mono (by decide)) gl_law__law_times (ca_cons (ce_var A.toWh 3 rfl vis_law_G nm_G.1 nm_G.2) (ca_cons (ce_var A.toWh 4 rfl vis_law_H nm_H.1 nm_H.2) (ca_nil))) nm__law_times.1)) (css_cons (cs_set A 6 rfl loc_law_power (ce_call G__law_power A.toWh (hr.mono (by decide)) gl_law__law_power (ca_cons (ce_var A.toWh 1 rfl vis_law_p nm_p.1 nm_p.2) (ca_cons (ce_var A.toWh 2 rfl vis_law_N nm_N.1 nm_N.2) (ca_nil))) nm__law_power.1)) (css_fz 6 (css_cons (cs_for hc (ci_range1 A.toWh gl_law_range T.b_range (ce_sub (ce_bi1 A.toWh fn_len call_len gl_law_len T.b_len bo_len (ce_var A.toWh 5 rfl vis_law_f nm_f.1 nm_f.2) (by decide) (by decide +kernel)) (ce_int))) (cg_name (A.sto (i := 7) rfl loc_law_k)) (fun _ => (show CSs X _ _ rd_law_b2 from css_one (cs_setIx A.toWh 5 rfl vis_law_f nm_f.1 nm_f.2 (ce_add (ce_ix (ce_var A.toWh 5 rfl vis_law_f nm_f.1 nm_f.2) (ce_var A.toWh 7 rfl vis_law_k nm_k.1 nm_k.2) (fun _ _ => rfl)) (ce_mul (ce_sub (ce_mod (ce_call G__law_cell_at A.toWh (hr.mono (by decide)) gl_law__law_cell_at (ca_cons (ce_var A.toWh 0 rfl vis_law_script nm_script.1 nm_script.2) (ca_cons (ce_add (ce_int) (ce_var A.toWh 7 rfl vis_law_k nm_k.1 nm_k.2)) (ca_nil))) nm__law_cell_at.1) (ce_int)) (ce_int)) (ce_var A.toWh 6 rfl vis_law_power nm_power.1 nm_power.2))) (ce_var A.toWh 7 rfl vis_law_k nm_k.1 nm_k.2))))) (css_cons (cs_set A 8 rfl loc_law_g (ce_call G__law_near A.toWh (hr.mono (by decide)) gl_law__law_near (ca_cons (ce_var A.toWh 0 rfl vis_law_script nm_script.1 nm_script.2) (ca_cons (ce_var A.toWh 1 rfl vis_law_p nm_p.1 nm_p.2) (ca_cons (ce_var A.toWh 3 rfl vis_law_G nm_G.1 nm_G.2) (ca_cons (ce_int) (ca_nil))))) nm__law_near.1)) (css_fz 8 (css_cons (cs_set A 9 rfl loc_law_h (ce_call G__law_near A.toWh (hr.mono (by decide)) gl_law__law_near (ca_cons (ce_var A.toWh 0 rfl vis_law_script nm_script.1 nm_script.2) (ca_cons (ce_var A.toWh 1 rfl vis_law_p nm_p.1 nm_p.2) (ca_cons (ce_var A.toWh 4 rfl vis_law_H nm_H.1 nm_H.2) (ca_cons (ce_int) (ca_nil))))) nm__law_near.1)) (css_fz 9 (css_cons (cs_set A 10 rfl loc_law_handed (ce_lst (ca_cons (ce_ty1 A.toWh fn_list call_list_of gl_law_list T.b_list bo_list (ce_var A.toWh 5 rfl vis_law_f nm_f.1 nm_f.2) (by decide) (by decide +kernel)) (ca_cons (ce_ty1 A.toWh fn_list call_list_of gl_law_list T.b_list bo_list (ce_var A.toWh 8 rfl vis_law_g nm_g.1 nm_g.2) (by decide) (by decide +kernel)) (ca_cons (ce_ty1 A.toWh fn_list call_list_of gl_law_list T.b_list bo_list (ce_var A.toWh 9 rfl vis_law_h nm_h.1 nm_h.2) (by decide) (by decide +kernel)) (ca_nil)))))) (css_fz 10 (css_cons (cs_set A 11 rfl loc_law_found (ce_call G__law_parts A.toWh (hr.mono (by decide)) gl_law__law_parts (ca_cons (ce_var A.toWh 1 rfl vis_law_p nm_p.1 nm_p.2) (ca_cons (ce_var A.toWh 2 rfl vis_law_N nm_N.1 nm_N.2) (ca_cons (ce_ix (ce_var A.toWh 10 rfl vis_law_handed nm_handed.1 nm_handed.2) (ce_int) (fun _ _ => rfl)) (ca_cons (ce_ix (ce_var A.toWh 10 rfl vis_law_handed nm_handed.1 nm_handed.2) (ce_int) (fun _ _ => rfl)) (ca_cons (ce_ix (ce_var A.toWh 10 rfl vis_law_handed nm_handed.1 nm_handed.2) (ce_int) (fun _ _ => rfl)) (ca_nil)))))) nm__law_parts.1)) (css_fz 5 (css_cons (cs_if (ct_ne hr.units (ce_var A.toWh 10 rfl vis_law_handed nm_handed.1 nm_handed.2) (ce_lst (ca_cons (ce_var A.toWh 5 rfl vis_law_f nm_f.1 nm_f.2) (ca_cons (ce_var A.toWh 8 rfl vis_law_g nm_g.1 nm_g.2) (ca_cons (ce_var A.toWh 9 rfl vis_law_h nm_h.1 nm_h.2) (ca_nil)))))) (css_one (cs_ret (ce_bl))) (css_nil)) (css_cons (cs_if (ct_not (ct_val (ce_call G__law_apart A.toWh (hr.mono (by decide)) gl_law__law_apart (ca_cons (ce_var A.toWh 1 rfl vis_law_p nm_p.1 nm_p.2) (ca_cons (ce_var A.toWh 8 rfl vis_law_g nm_g.1 nm_g.2) (ca_cons (ce_var A.toWh 9 rfl vis_law_h nm_h.1 nm_h.2) (ca_nil)))) nm__law_apart.1) (fun _ => rfl))) (css_fz 11 (css_one (cs_ret (ce_is (ce_var A.toWh 11 rfl vis_law_found nm_found.1 nm_found.2) (ce_non))))) (css_nil)) (css_cons (cs_if (ct_w (cw_or (ct_not (ct_val (ce_isi (T := .tuple) A.toWh gl_law_isinstance T.b_isinstance bo_isinstance gl_law_tuple T.b_tuple bo_tuple (ce_var A.toWh 11 rfl vis_law_found nm_found.1 nm_found.2) (by decide) (by decide +kernel) (by decide) (by decide +kernel)) (fun _ => rfl))) (cw_or (ct_ne hr.units (ce_bi1 A.toWh fn_len call_len gl_law_len T.b_len bo_len (ce_var A.toWh 11 rfl vis_law_found nm_found.1 nm_found.2) (by decide) (by decide +kernel)) (ce_int)) (cw_or (ct_not (ct_val (ce_callR G__law_whole A.toWh (hr.mono (by decide)) gl_law__law_whole (cr_cons (ce_ix (ce_var A.toWh 11 rfl vis_law_found nm_found.1 nm_found.2) (ce_int) (fun _ _ => rfl)) (cr_nil)) nm__law_whole.1) (fun _ => rfl))) (cw_or1 (ct_not (ct_val (ce_callR G__law_whole A.toWh (hr.mono (by decide)) gl_law__law_whole (cr_cons (ce_ix (ce_var A.toWh 11 rfl vis_law_found nm_found.1 nm_found.2) (ce_int) (fun _ _ => rfl)) (cr_nil)) nm__law_whole.1) (fun _ => rfl)))))))) (css_one (cs_ret (ce_bl))) (css_nil)) (css_cons (cs_if (ct_ne hr.units (ce_var A.toWh 11 rfl vis_law_found nm_found.1 nm_found.2) (ce_tup (ca_cons (ce_var A.toWh 3 rfl vis_law_G nm_G.1 nm_G.2) (ca_cons (ce_var A.toWh 4 rfl vis_law_H nm_H.1 nm_H.2) (ca_nil))))) (css_one (cs_ret (ce_bl))) (css_nil)) (css_cons (cs_tlApp A 11 rfl vis_law_found nm_found.1 nm_found.2 (ce_int) (hline := rfl)) (css_cons (cs_tlClr A 11 rfl vis_law_found nm_found.1 nm_found.2 (hline := rfl)) (css_fz 5 (css_fz 5 (css_one (cs_ret (ce_and (ce_eq hr.units (ce_see (ce_call G__law_parts A.toWh (hr.mono (by decide)) gl_law__law_parts (ca_cons (ce_var A.toWh 1 rfl vis_law_p nm_p.1 nm_p.2) (ca_cons (ce_var A.toWh 2 rfl vis_law_N nm_N.1 nm_N.2) (ca_cons (ce_ix (ce_var A.toWh 10 rfl vis_law_handed nm_handed.1 nm_handed.2) (ce_int) (fun _ _ => rfl)) (ca_cons (ce_ix (ce_var A.toWh 10 rfl vis_law_handed nm_handed.1 nm_handed.2) (ce_int) (fun _ _ => rfl)) (ca_cons (ce_ix (ce_var A.toWh 10 rfl vis_law_handed nm_handed.1 nm_handed.2) (ce_int) (fun _ _ => rfl)) (ca_nil)))))) nm__law_parts.1)) (ce_tup (ca_cons (ce_var A.toWh 3 rfl vis_law_G nm_G.1 nm_G.2) (ca_cons (ce_var A.toWh 4 rfl vis_law_H nm_H.1 nm_H.2) (ca_nil))))) (ce_one (ce_eq hr.units (ce_var A.toWh 10 rfl vis_law_handed nm_handed.1 nm_handed.2) (ce_lst (ca_cons (ce_var A.toWh 5 rfl vis_law_f nm_f.1 nm_f.2) (ca_cons (ce_var A.toWh 8 rfl vis_law_g nm_g.1 nm_g.2) (ca_cons (ce_var A.toWh 9 rfl vis_law_h nm_h.1 nm_h.2) (ca_nil))))))))))))))))))))))))))))))))))
section
variable {P : Program} {w : World} {K : PySem.W.Frag} {mg : Str → Option Value} {base : Heap} {cl : Xn → Addr} {h : Heap}
theorem at__law_cut (X : K.In h) (G : h.Ns mainGlobals mg) (T : Tx K mg cl) (F : FunK K "_law_cut" st__law_cut)  : FnAt P w K mg base cl 2 "_law_cut" ["f"] sp__law_cut :=
  fn_at X G F sc__law_cut len__law_cut (fun _ _ _ _ _ _ us hl => match us, hl with | [_], _ => rfl) (by rintro X Z rfl ⟨A, hc, hr, rfl, rfl, rfl, rfl, rfl⟩; exact der__law_cut T  A hc hr) pure__law_cut
theorem at__law_left (X : K.In h) (G : h.Ns mainGlobals mg) (T : Tx K mg cl) (F : FunK K "_law_left" st__law_left)  : FnAt P w K mg base cl 2 "_law_left" ["p", "f", "g"] sp__law_left :=
  fn_at X G F sc__law_left len__law_left (fun _ _ _ _ _ _ us hl => match us, hl with | [_, _, _], _ => rfl) (by rintro X Z rfl ⟨A, hc, hr, rfl, rfl, rfl, rfl, rfl⟩; exact der__law_left T  A hc hr) pure__law_left
theorem at__law_apart (X : K.In h) (G : h.Ns mainGlobals mg) (T : Tx K mg cl) (F : FunK K "_law_apart" st__law_apart) (G__law_cut : FnAt P w K mg base cl 2 "_law_cut" ["f"] sp__law_cut) (G__law_left : FnAt P w K mg base cl 2 "_law_left" ["p", "f", "g"] sp__law_left) : FnAt P w K mg base cl 3 "_law_apart" ["p", "g", "h"] sp__law_apart :=
  fn_at X G F sc__law_apart len__law_apart (fun _ _ _ _ _ _ us hl => match us, hl with | [_, _, _], _ => rfl) (by rintro X Z rfl ⟨A, hc, hr, rfl, rfl, rfl, rfl, rfl⟩; exact der__law_apart T G__law_cut G__law_left A hc hr) pure__law_apart
theorem at__law_cell_at (X : K.In h) (G : h.Ns mainGlobals mg) (T : Tx K mg cl) (F : FunK K "_law_cell_at" st__law_cell_at)  : FnAt P w K mg base cl 2 "_law_cell_at" ["script", "k"] sp__law_cell_at :=
  fn_at X G F sc__law_cell_at len__law_cell_at (fun _ _ _ _ _ _ us hl => match us, hl with | [_, _], _ => rfl) (by rintro X Z rfl ⟨A, hc, hr, rfl, rfl, rfl, rfl, rfl⟩; exact der__law_cell_at T  A hc hr) pure__law_cell_at
theorem at__law_power (X : K.In h) (G : h.Ns mainGlobals mg) (T : Tx K mg cl) (F : FunK K "_law_power" st__law_power)  : FnAt P w K mg base cl 2 "_law_power" ["p", "e"] sp__law_power :=
  fn_at X G F sc__law_power len__law_power (fun _ _ _ _ _ _ us hl => match us, hl with | [_, _], _ => rfl) (by rintro X Z rfl ⟨A, hc, hr, rfl, rfl, rfl, rfl, rfl⟩; exact der__law_power T  A hc hr) pure__law_power
theorem at__law_drawn (X : K.In h) (G : h.Ns mainGlobals mg) (T : Tx K mg cl) (F : FunK K "_law_drawn" st__law_drawn) (G__law_cell_at : FnAt P w K mg base cl 2 "_law_cell_at" ["script", "k"] sp__law_cell_at) (G__law_power : FnAt P w K mg base cl 2 "_law_power" ["p", "e"] sp__law_power) : FnAt P w K mg base cl 3 "_law_drawn" ["script", "p", "N"] sp__law_drawn :=
  fn_at X G F sc__law_drawn len__law_drawn (fun _ _ _ _ _ _ us hl => match us, hl with | [_, _, _], _ => rfl) (by rintro X Z rfl ⟨A, hc, hr, rfl, rfl, rfl, rfl, rfl⟩; exact der__law_drawn T G__law_cell_at G__law_power A hc hr) pure__law_drawn
theorem at__law_near (X : K.In h) (G : h.Ns mainGlobals mg) (T : Tx K mg cl) (F : FunK K "_law_near" st__law_near) (G__law_cell_at : FnAt P w K mg base cl 2 "_law_cell_at" ["script", "k"] sp__law_cell_at) : FnAt P w K mg base cl 3 "_law_near" ["script", "p", "G", "start"] sp__law_near :=
  fn_at X G F sc__law_near len__law_near (fun _ _ _ _ _ _ us hl => match us, hl with | [_, _, _, _], _ => rfl) (by rintro X Z rfl ⟨A, hc, hr, rfl, rfl, rfl, rfl, rfl⟩; exact der__law_near T G__law_cell_at A hc hr) pure__law_near
theorem at_by_prime (X : K.In h) (G : h.Ns mainGlobals mg) (T : Tx K mg cl) (F : FunK K "by_prime" st_by_prime)  : FnAt P w K mg base cl 2 "by_prime" ["p", "f"] sp_by_prime :=
  fn_at X G F sc_by_prime len_by_prime (fun _ _ _ _ _ _ us hl => match us, hl with | [_, _], _ => rfl) (by rintro X Z rfl ⟨A, hc, hr, rfl, rfl, rfl, rfl, rfl⟩; exact der_by_prime T  A hc hr) pure_by_prime
theorem at_poly_less (X : K.In h) (G : h.Ns mainGlobals mg) (T : Tx K mg cl) (F : FunK K "poly_less" st_poly_less)  : FnAt P w K mg base cl 2 "poly_less" ["one", "other"] sp_poly_less :=
  fn_at X G F sc_poly_less len_poly_less (fun _ _ _ _ _ _ us hl => match us, hl with | [_, _], _ => rfl) (by rintro X Z rfl ⟨A, hc, hr, rfl, rfl, rfl, rfl, rfl⟩; exact der_poly_less T  A hc hr) pure_poly_less
theorem at_poly_product (X : K.In h) (G : h.Ns mainGlobals mg) (T : Tx K mg cl) (F : FunK K "poly_product" st_poly_product)  : FnAt P w K mg base cl 2 "poly_product" ["f", "g"] sp_poly_product :=
  fn_at X G F sc_poly_product len_poly_product (fun _ _ _ _ _ _ us hl => match us, hl with | [_, _], _ => rfl) (by rintro X Z rfl ⟨A, hc, hr, rfl, rfl, rfl, rfl, rfl⟩; exact der_poly_product T  A hc hr) pure_poly_product
theorem at_need_parts (X : K.In h) (G : h.Ns mainGlobals mg) (T : Tx K mg cl) (F : FunK K "need_parts" st_need_parts) (G_by_prime : FnAt P w K mg base cl 2 "by_prime" ["p", "f"] sp_by_prime) (G_poly_less : FnAt P w K mg base cl 2 "poly_less" ["one", "other"] sp_poly_less) (G_poly_product : FnAt P w K mg base cl 2 "poly_product" ["f", "g"] sp_poly_product) : FnAt P w K mg base cl 3 "need_parts" ["p", "N", "f", "g", "h"] sp_need_parts :=
  fn_at X G F sc_need_parts len_need_parts (fun _ _ _ _ _ _ us hl => match us, hl with | [_, _, _, _, _], _ => rfl) (by rintro X Z rfl ⟨A, hc, hr, rfl, rfl, rfl, rfl, rfl⟩; exact der_need_parts T G_by_prime G_poly_less G_poly_product A hc hr) pure_need_parts
theorem at_power_of (X : K.In h) (G : h.Ns mainGlobals mg) (T : Tx K mg cl) (F : FunK K "power_of" st_power_of)  : FnAt P w K mg base cl 2 "power_of" ["p", "e"] sp_power_of :=
  fn_at X G F sc_power_of len_power_of (fun _ _ _ _ _ _ us hl => match us, hl with | [_, _], _ => rfl) (by rintro X Z rfl ⟨A, hc, hr, rfl, rfl, rfl, rfl, rfl⟩; exact der_power_of T  A hc hr) pure_power_of
theorem at_inverse_of (X : K.In h) (G : h.Ns mainGlobals mg) (T : Tx K mg cl) (F : FunK K "inverse_of" st_inverse_of) (G_power_of : FnAt P w K mg base cl 2 "power_of" ["p", "e"] sp_power_of) : FnAt P w K mg base cl 3 "inverse_of" ["p", "e", "x"] sp_inverse_of :=
  fn_at X G F sc_inverse_of len_inverse_of (fun _ _ _ _ _ _ us hl => match us, hl with | [_, _, _], _ => rfl) (by rintro X Z rfl ⟨A, hc, hr, rfl, rfl, rfl, rfl, rfl⟩; exact der_inverse_of T G_power_of A hc hr) pure_inverse_of
theorem at_poly_parted (X : K.In h) (G : h.Ns mainGlobals mg) (T : Tx K mg cl) (F : FunK K "poly_parted" st_poly_parted) (G_by_prime : FnAt P w K mg base cl 2 "by_prime" ["p", "f"] sp_by_prime) (G_inverse_of : FnAt P w K mg base cl 3 "inverse_of" ["p", "e", "x"] sp_inverse_of) (G_poly_less : FnAt P w K mg base cl 2 "poly_less" ["one", "other"] sp_poly_less) : FnAt P w K mg base cl 4 "poly_parted" ["p", "f", "g"] sp_poly_parted :=
  fn_at X G F sc_poly_parted len_poly_parted (fun _ _ _ _ _ _ us hl => match us, hl with | [_, _, _], _ => rfl) (by rintro X Z rfl ⟨A, hc, hr, rfl, rfl, rfl, rfl, rfl⟩; exact der_poly_parted T G_by_prime G_inverse_of G_poly_less A hc hr) pure_poly_parted
theorem at_poly_times (X : K.In h) (G : h.Ns mainGlobals mg) (T : Tx K mg cl) (F : FunK K "poly_times" st_poly_times) (G_poly_product : FnAt P w K mg base cl 2 "poly_product" ["f", "g"] sp_poly_product) : FnAt P w K mg base cl 3 "poly_times" ["one", "other"] sp_poly_times :=
  fn_at X G F sc_poly_times len_poly_times (fun _ _ _ _ _ _ us hl => match us, hl with | [_, _], _ => rfl) (by rintro X Z rfl ⟨A, hc, hr, rfl, rfl, rfl, rfl, rfl⟩; exact der_poly_times T G_poly_product A hc hr) pure_poly_times
theorem at_poly_turned (X : K.In h) (G : h.Ns mainGlobals mg) (T : Tx K mg cl) (F : FunK K "poly_turned" st_poly_turned) (G_by_prime : FnAt P w K mg base cl 2 "by_prime" ["p", "f"] sp_by_prime) (G_inverse_of : FnAt P w K mg base cl 3 "inverse_of" ["p", "e", "x"] sp_inverse_of) (G_poly_less : FnAt P w K mg base cl 2 "poly_less" ["one", "other"] sp_poly_less) (G_poly_parted : FnAt P w K mg base cl 4 "poly_parted" ["p", "f", "g"] sp_poly_parted) (G_poly_times : FnAt P w K mg base cl 3 "poly_times" ["one", "other"] sp_poly_times) : FnAt P w K mg base cl 5 "poly_turned" ["p", "g", "h"] sp_poly_turned :=
  fn_at X G F sc_poly_turned len_poly_turned (fun _ _ _ _ _ _ us hl => match us, hl with | [_, _, _], _ => rfl) (by rintro X Z rfl ⟨A, hc, hr, rfl, rfl, rfl, rfl, rfl⟩; exact der_poly_turned T G_by_prime G_inverse_of G_poly_less G_poly_parted G_poly_times A hc hr) pure_poly_turned
theorem at_with_more (X : K.In h) (G : h.Ns mainGlobals mg) (T : Tx K mg cl) (F : FunK K "with_more" st_with_more)  : FnAt P w K mg base cl 2 "with_more" ["f", "more", "power"] sp_with_more :=
  fn_at X G F sc_with_more len_with_more (fun _ _ _ _ _ _ us hl => match us, hl with | [_, _, _], _ => rfl) (by rintro X Z rfl ⟨A, hc, hr, rfl, rfl, rfl, rfl, rfl⟩; exact der_with_more T  A hc hr) pure_with_more
theorem at_parts_at (X : K.In h) (G : h.Ns mainGlobals mg) (T : Tx K mg cl) (F : FunK K "parts_at" st_parts_at) (G_need_parts : FnAt P w K mg base cl 3 "need_parts" ["p", "N", "f", "g", "h"] sp_need_parts) (G_poly_less : FnAt P w K mg base cl 2 "poly_less" ["one", "other"] sp_poly_less) (G_poly_parted : FnAt P w K mg base cl 4 "poly_parted" ["p", "f", "g"] sp_poly_parted) (G_poly_product : FnAt P w K mg base cl 2 "poly_product" ["f", "g"] sp_poly_product) (G_poly_times : FnAt P w K mg base cl 3 "poly_times" ["one", "other"] sp_poly_times) (G_poly_turned : FnAt P w K mg base cl 5 "poly_turned" ["p", "g", "h"] sp_poly_turned) (G_power_of : FnAt P w K mg base cl 2 "power_of" ["p", "e"] sp_power_of) (G_with_more : FnAt P w K mg base cl 2 "with_more" ["f", "more", "power"] sp_with_more) : FnAt P w K mg base cl 6 "parts_at" ["p", "N", "f", "g", "h"] sp_parts_at :=
  fn_at X G F sc_parts_at len_parts_at (fun _ _ _ _ _ _ us hl => match us, hl with | [_, _, _, _, _], _ => rfl) (by rintro X Z rfl ⟨A, hc, hr, rfl, rfl, rfl, rfl, rfl⟩; exact der_parts_at T G_need_parts G_poly_less G_poly_parted G_poly_product G_poly_times G_poly_turned G_power_of G_with_more A hc hr) pure_parts_at
theorem at__law_parts (X : K.In h) (G : h.Ns mainGlobals mg) (T : Tx K mg cl) (F : FunK K "_law_parts" st__law_parts) (G_parts_at : FnAt P w K mg base cl 6 "parts_at" ["p", "N", "f", "g", "h"] sp_parts_at) : FnAt P w K mg base cl 7 "_law_parts" ["p", "N", "f", "g", "h"] sp__law_parts :=
  fn_at X G F sc__law_parts len__law_parts (fun _ _ _ _ _ _ us hl => match us, hl with | [_, _, _, _, _], _ => rfl) (by rintro X Z rfl ⟨A, hc, hr, rfl, rfl, rfl, rfl, rfl⟩; exact der__law_parts T G_parts_at A hc hr) pure__law_parts
theorem at__law_prime (X : K.In h) (G : h.Ns mainGlobals mg) (T : Tx K mg cl) (F : FunK K "_law_prime" st__law_prime)  : FnAt P w K mg base cl 2 "_law_prime" ["cell"] sp__law_prime :=
  fn_at X G F sc__law_prime len__law_prime (fun _ _ _ _ _ _ us hl => match us, hl with | [_], _ => rfl) (by rintro X Z rfl ⟨A, hc, hr, rfl, rfl, rfl, rfl, rfl⟩; exact der__law_prime T  A hc hr) pure__law_prime
theorem at__law_times (X : K.In h) (G : h.Ns mainGlobals mg) (T : Tx K mg cl) (F : FunK K "_law_times" st__law_times)  : FnAt P w K mg base cl 2 "_law_times" ["f", "g"] sp__law_times :=
  fn_at X G F sc__law_times len__law_times (fun _ _ _ _ _ _ us hl => match us, hl with | [_, _], _ => rfl) (by rintro X Z rfl ⟨A, hc, hr, rfl, rfl, rfl, rfl, rfl⟩; exact der__law_times T  A hc hr) pure__law_times
theorem at__law_whole (X : K.In h) (G : h.Ns mainGlobals mg) (T : Tx K mg cl) (F : FunK K "_law_whole" st__law_whole)  : FnAt P w K mg base cl 2 "_law_whole" ["found"] sp__law_whole :=
  fn_at X G F sc__law_whole len__law_whole (fun _ _ _ _ _ _ us hl => match us, hl with | [_], _ => rfl) (by rintro X Z rfl ⟨A, hc, hr, rfl, rfl, rfl, rfl, rfl⟩; exact der__law_whole T  A hc hr) pure__law_whole
end
theorem all_mk {P : Program} {w : World} {K : PySem.W.Frag} {h : Heap} {mg : Str → Option Value} {fa : Addr} (X : K.In h) (G : h.Ns mainGlobals mg) (hfa : mg "law" = some (.ref fa)) (F__law_cut : FunK K "_law_cut" st__law_cut) (F__law_left : FunK K "_law_left" st__law_left) (F__law_apart : FunK K "_law_apart" st__law_apart) (F__law_cell_at : FunK K "_law_cell_at" st__law_cell_at) (F__law_power : FunK K "_law_power" st__law_power) (F__law_drawn : FunK K "_law_drawn" st__law_drawn) (F__law_near : FunK K "_law_near" st__law_near) (F_by_prime : FunK K "by_prime" st_by_prime) (F_poly_less : FunK K "poly_less" st_poly_less) (F_poly_product : FunK K "poly_product" st_poly_product) (F_need_parts : FunK K "need_parts" st_need_parts) (F_power_of : FunK K "power_of" st_power_of) (F_inverse_of : FunK K "inverse_of" st_inverse_of) (F_poly_parted : FunK K "poly_parted" st_poly_parted) (F_poly_times : FunK K "poly_times" st_poly_times) (F_poly_turned : FunK K "poly_turned" st_poly_turned) (F_with_more : FunK K "with_more" st_with_more) (F_parts_at : FunK K "parts_at" st_parts_at) (F__law_parts : FunK K "_law_parts" st__law_parts) (F__law_prime : FunK K "_law_prime" st__law_prime) (F__law_times : FunK K "_law_times" st__law_times) (F__law_whole : FunK K "_law_whole" st__law_whole) (F_law : FunK K "law" st_law) (b_bool : PySem.W.nsIn K mainGlobals "bool" = some none) (b_enumerate : PySem.W.nsIn K mainGlobals "enumerate" = some none) (b_int : PySem.W.nsIn K mainGlobals "int" = some none) (b_isinstance : PySem.W.nsIn K mainGlobals "isinstance" = some none) (b_len : PySem.W.nsIn K mainGlobals "len" = some none) (b_list : PySem.W.nsIn K mainGlobals "list" = some none) (b_max : PySem.W.nsIn K mainGlobals "max" = some none) (b_range : PySem.W.nsIn K mainGlobals "range" = some none) (b_tuple : PySem.W.nsIn K mainGlobals "tuple" = some none) (x_NoInverse : ExcFK K "NoInverse") (x_NoParts : ExcFK K "NoParts") (t_NoParts : ExcTK K "NoParts") (s_NoInverse_NoParts : SubK K "NoInverse" "NoParts" false) (s_NoParts_NoParts : SubK K "NoParts" "NoParts" true) :
    ∃ fd : FuncData, (∀ (s : Shared) (u : Value), BindsTo s fd ⟨[u], []⟩ [("script", u)]) ∧ ∀ base : Heap, K.In base → base.Ns mainGlobals mg → FnOk P w K mg base (L2.CX P w) 8 fa fd ["script"] (spL K) := by
  obtain ⟨f, oc, od, an, sl, kV, dc, pm, cd, ct, a, l, c, kp⟩ := id F_law
  have e := hfa.symm.trans (PySem.W.mg_of X G a)
  cases e
  refine ⟨PySem.W.fnOf "law" "law" (defArgs st_law) (defBody st_law) (defScope st_law) .none kV dc pm an cd ct, fun s v => .of_eq rfl, fun base hb hg => ?_⟩
  have T : Tx K mg (clOf mg) := ⟨PySem.W.mg_none_of X G b_bool, PySem.W.mg_none_of X G b_enumerate, PySem.W.mg_none_of X G b_int, PySem.W.mg_none_of X G b_isinstance, PySem.W.mg_none_of X G b_len, PySem.W.mg_none_of X G b_list, PySem.W.mg_none_of X G b_max, PySem.W.mg_none_of X G b_range, PySem.W.mg_none_of X G b_tuple, excF_mk X G .NoInverse x_NoInverse, excF_mk X G .NoParts x_NoParts, excT_mk X G .NoParts t_NoParts, subX_mk X G .NoInverse .NoParts s_NoInverse_NoParts, subX_mk X G .NoParts .NoParts s_NoParts_NoParts⟩
  have G__law_cut := at__law_cut (P := P) (w := w) (base := base) X G T F__law_cut 
  have G__law_left := at__law_left (P := P) (w := w) (base := base) X G T F__law_left 
  have G__law_apart := at__law_apart (P := P) (w := w) (base := base) X G T F__law_apart G__law_cut G__law_left
  have G__law_cell_at := at__law_cell_at (P := P) (w := w) (base := base) X G T F__law_cell_at 
  have G__law_power := at__law_power (P := P) (w := w) (base := base) X G T F__law_power 
  have G__law_drawn := at__law_drawn (P := P) (w := w) (base := base) X G T F__law_drawn G__law_cell_at G__law_power
  have G__law_near := at__law_near (P := P) (w := w) (base := base) X G T F__law_near G__law_cell_at
  have G_by_prime := at_by_prime (P := P) (w := w) (base := base) X G T F_by_prime 
  have G_poly_less := at_poly_less (P := P) (w := w) (base := base) X G T F_poly_less 
  have G_poly_product := at_poly_product (P := P) (w := w) (base := base) X G T F_poly_product 
  have G_need_parts := at_need_parts (P := P) (w := w) (base := base) X G T F_need_parts G_by_prime G_poly_less G_poly_product
  have G_power_of := at_power_of (P := P) (w := w) (base := base) X G T F_power_of 
  have G_inverse_of := at_inverse_of (P := P) (w := w) (base := base) X G T F_inverse_of G_power_of
  have G_poly_parted := at_poly_parted (P := P) (w := w) (base := base) X G T F_poly_parted G_by_prime G_inverse_of G_poly_less
  have G_poly_times := at_poly_times (P := P) (w := w) (base := base) X G T F_poly_times G_poly_product
  have G_poly_turned := at_poly_turned (P := P) (w := w) (base := base) X G T F_poly_turned G_by_prime G_inverse_of G_poly_less G_poly_parted G_poly_times
  have G_with_more := at_with_more (P := P) (w := w) (base := base) X G T F_with_more 
  have G_parts_at := at_parts_at (P := P) (w := w) (base := base) X G T F_parts_at G_need_parts G_poly_less G_poly_parted G_poly_product G_poly_times G_poly_turned G_power_of G_with_more
  have G__law_parts := at__law_parts (P := P) (w := w) (base := base) X G T F__law_parts G_parts_at
  have G__law_prime := at__law_prime (P := P) (w := w) (base := base) X G T F__law_prime 
  have G__law_times := at__law_times (P := P) (w := w) (base := base) X G T F__law_times 
  have G__law_whole := at__law_whole (P := P) (w := w) (base := base) X G T F__law_whole 
  exact law_ok (cl := clOf mg) (fun_mk (st := st_law) l c kp) sc_law (by rintro X ⟨F0, H0, cl⟩ rfl ⟨A, hc, hr, rfl, rfl, rfl, rfl, rfl⟩; exact der_law T G__law_apart G__law_cell_at G__law_drawn G__law_near G__law_parts G__law_power G__law_prime G__law_times G__law_whole A hc hr) pure_law
end Pz
open PySem PySem.W PyProof.Rows
set_option maxHeartbeats 0 in
theorem PySem.Challenge.cw_deeprests_k71_parts_found_back_holds : PySem.Challenge.rw_deeprests_k71_parts_found_back.Holds := by
  w_on; o_law; k_head; (case hw => w_witness2)
  k_fill
  refine L2.walk_ofB (l := PySem.Challenge.rw_deeprests_k71_parts_found_back) (n := 63) (k := 8) (x := "script") (CX := fun w => L2.CX PySem.Challenge.rw_deeprests_k71_parts_found_back.prog w) (sp := fun w => Pz.spL _) rfl (by decide) rfl ⟨rfl, by decide, by decide⟩ (fun w h Y => PySem.W.kIn_of Y) ?F (fun _ _ a ns hl hb _ hS => ⟨a, ns, rfl, hS, hl, hb, fun _ => rfl⟩) (fun _ _ _ _ _ h => Pz.cx_no h)
  case F =>
    intro w mg fa h KX G hmg
    refine' Pz.all_mk KX G hmg ?F__law_cut ?F__law_left ?F__law_apart ?F__law_cell_at ?F__law_power ?F__law_drawn ?F__law_near ?F_by_prime ?F_poly_less ?F_poly_product ?F_need_parts ?F_power_of ?F_inverse_of ?F_poly_parted ?F_poly_times ?F_poly_turned ?F_with_more ?F_parts_at ?F__law_parts ?F__law_prime ?F__law_times ?F__law_whole ?F_law ?b_bool ?b_enumerate ?b_int ?b_isinstance ?b_len ?b_list ?b_max ?b_range ?b_tuple ?x_NoInverse ?x_NoParts ?t_NoParts ?s_NoInverse_NoParts ?s_NoParts_NoParts
    all_goals clear hmg
    (case F__law_cut => (refine' Pz.funk_mk ?a0 ?l0 ?c0 ?k0; (case a0 => k_is); (case l0 => k_is); (case c0 => k_is); (case k0 => k_is)))
    (case F__law_left => (refine' Pz.funk_mk ?a1 ?l1 ?c1 ?k1; (case a1 => k_is); (case l1 => k_is); (case c1 => k_is); (case k1 => k_is)))
    (case F__law_apart => (refine' Pz.funk_mk ?a2 ?l2 ?c2 ?k2; (case a2 => k_is); (case l2 => k_is); (case c2 => k_is); (case k2 => k_is)))
    (case F__law_cell_at => (refine' Pz.funk_mk ?a3 ?l3 ?c3 ?k3; (case a3 => k_is); (case l3 => k_is); (case c3 => k_is); (case k3 => k_is)))
    (case F__law_power => (refine' Pz.funk_mk ?a4 ?l4 ?c4 ?k4; (case a4 => k_is); (case l4 => k_is); (case c4 => k_is); (case k4 => k_is)))
    (case F__law_drawn => (refine' Pz.funk_mk ?a5 ?l5 ?c5 ?k5; (case a5 => k_is); (case l5 => k_is); (case c5 => k_is); (case k5 => k_is)))
    (case F__law_near => (refine' Pz.funk_mk ?a6 ?l6 ?c6 ?k6; (case a6 => k_is); (case l6 => k_is); (case c6 => k_is); (case k6 => k_is)))
    (case F_by_prime => (refine' Pz.funk_mk ?a7 ?l7 ?c7 ?k7; (case a7 => k_is); (case l7 => k_is); (case c7 => k_is); (case k7 => k_is)))
    (case F_poly_less => (refine' Pz.funk_mk ?a8 ?l8 ?c8 ?k8; (case a8 => k_is); (case l8 => k_is); (case c8 => k_is); (case k8 => k_is)))
    (case F_poly_product => (refine' Pz.funk_mk ?a9 ?l9 ?c9 ?k9; (case a9 => k_is); (case l9 => k_is); (case c9 => k_is); (case k9 => k_is)))
    (case F_need_parts => (refine' Pz.funk_mk ?a10 ?l10 ?c10 ?k10; (case a10 => k_is); (case l10 => k_is); (case c10 => k_is); (case k10 => k_is)))
    (case F_power_of => (refine' Pz.funk_mk ?a11 ?l11 ?c11 ?k11; (case a11 => k_is); (case l11 => k_is); (case c11 => k_is); (case k11 => k_is)))
    (case F_inverse_of => (refine' Pz.funk_mk ?a12 ?l12 ?c12 ?k12; (case a12 => k_is); (case l12 => k_is); (case c12 => k_is); (case k12 => k_is)))
    (case F_poly_parted => (refine' Pz.funk_mk ?a13 ?l13 ?c13 ?k13; (case a13 => k_is); (case l13 => k_is); (case c13 => k_is); (case k13 => k_is)))
    (case F_poly_times => (refine' Pz.funk_mk ?a14 ?l14 ?c14 ?k14; (case a14 => k_is); (case l14 => k_is); (case c14 => k_is); (case k14 => k_is)))
    (case F_poly_turned => (refine' Pz.funk_mk ?a15 ?l15 ?c15 ?k15; (case a15 => k_is); (case l15 => k_is); (case c15 => k_is); (case k15 => k_is)))
    (case F_with_more => (refine' Pz.funk_mk ?a16 ?l16 ?c16 ?k16; (case a16 => k_is); (case l16 => k_is); (case c16 => k_is); (case k16 => k_is)))
    (case F_parts_at => (refine' Pz.funk_mk ?a17 ?l17 ?c17 ?k17; (case a17 => k_is); (case l17 => k_is); (case c17 => k_is); (case k17 => k_is)))
    (case F__law_parts => (refine' Pz.funk_mk ?a18 ?l18 ?c18 ?k18; (case a18 => k_is); (case l18 => k_is); (case c18 => k_is); (case k18 => k_is)))
    (case F__law_prime => (refine' Pz.funk_mk ?a19 ?l19 ?c19 ?k19; (case a19 => k_is); (case l19 => k_is); (case c19 => k_is); (case k19 => k_is)))
    (case F__law_times => (refine' Pz.funk_mk ?a20 ?l20 ?c20 ?k20; (case a20 => k_is); (case l20 => k_is); (case c20 => k_is); (case k20 => k_is)))
    (case F__law_whole => (refine' Pz.funk_mk ?a21 ?l21 ?c21 ?k21; (case a21 => k_is); (case l21 => k_is); (case c21 => k_is); (case k21 => k_is)))
    (case F_law => (refine' Pz.funk_mk ?a22 ?l22 ?c22 ?k22; (case a22 => k_is); (case l22 => k_is); (case c22 => k_is); (case k22 => k_is)))
    (case b_bool => k_is)
    (case b_enumerate => k_is)
    (case b_int => k_is)
    (case b_isinstance => k_is)
    (case b_len => k_is)
    (case b_list => k_is)
    (case b_max => k_is)
    (case b_range => k_is)
    (case b_tuple => k_is)
    (case x_NoInverse => (refine' Pz.excfk_mk ?q9 ?kk9 ?x9 ?b9 ?t9; (case q9 => k_is); (case kk9 => k_is); (case x9 => k_exc); (case b9 => k_is); (case t9 => k_is)))
    (case x_NoParts => (refine' Pz.excfk_mk ?q10 ?kk10 ?x10 ?b10 ?t10; (case q10 => k_is); (case kk10 => k_is); (case x10 => k_exc); (case b10 => k_is); (case t10 => k_is)))
    (case t_NoParts => (refine' Pz.exctk_mk ?q11 ?b11 ?t11 ?i11; (case q11 => k_is); (case b11 => k_is); (case t11 => k_is); (case i11 => k_is)))
    (case s_NoInverse_NoParts => (refine' Pz.subk_mk ?q12 ?r12 ?s12; (case q12 => k_is); (case r12 => k_is); (case s12 => first | rfl | k_is)))
    (case s_NoParts_NoParts => (refine' Pz.subk_mk ?q13 ?r13 ?s13; (case q13 => k_is); (case r13 => k_is); (case s13 => first | rfl | k_is)))
