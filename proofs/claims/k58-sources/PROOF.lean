import PyProof.Rows.All
import HandS.Style
import HandS.Deep
import HandS.Codes
import Wide.All
import OpenK.AllK
import Wide.FinOn
import HandS.ForMost
import HandS.ForExc
import HandS.Flow
import HandS.IsInst
import HandS.Wide
import HandS.ExcOwn
import HandS.ExcIs
import HandS.TryOnly
import HandS.WideBits
import HandS.EndBits
import HandS.ReplaceLit
import HandS.ReplaceDef
import HandS.StrMore
import KE.IntTextLaws
import PyProof.Rows.StrCut
import HandS.ExcCtx
import HandS.SuiteRaise
import HandS.RaiseFrom
import HandS.ForDict
import PyProof.InstSpecial
import HandS.New0
import HandS.Iter
import HandS.Conv
import HandS.SortInts
import PySem.Challenge.RW_versiontables_k58_sources
set_option Elab.async false
set_option linter.all false
set_option autoImplicit false
set_option maxRecDepth 100000
set_option maxHeartbeats 4000000
namespace AL
open PySem PySem.Spec PyProof.Rows L2

/-- an abstract value: frozen data, a place of the store, or a raw value -/
inductive AV where
  | d (x : PyData)
  | o (l : Nat)
  | v (x : V)
/-- an abstract mutable object: a list of data, a list of any, a dict to data, a dict to any, an instance -/
inductive MO where
  | dead
  | ld (xs : List PyData)
  | lst (xs : List AV)
  | dd (kvs : List (Key × PyData))
  | dk (kvs : List (Key × AV))
  | ins (C : Addr) (fs : List (Str × AV))
  /-- a dict with tuples as keys -/
  | dt (kvs : List (List Key × PyData))
  /-- locked dicts -/
  | fd (kvs : List (Key × PyData))
  | fk (kvs : List (Key × AV))
  | ft (kvs : List (List Key × PyData))
abbrev Sto := List MO
abbrev AE := List (Option AV)

mutual
theorem dp_mono {K : PySem.W.Frag} {F F' : Hp} (h : Same F F') : ∀ (d : PyData) (v : V), Dp K F v d → Dp K F' v d
  | .none, _, q => by cases q; exact .non
  | .bool b, _, q => by cases q; exact .bl b
  | .int i, _, q => by cases q; exact .int i
  | .str x, _, q => by cases q; exact .str x
  | .list ds, _, q => by
    cases q with
    | lst hs ha => exact .lst (h.seq hs) (dpa_mono h ds _ ha)
  | .tuple ds, _, q => by
    cases q with
    | tup hs ha =>
      refine .tup ?_ (dpa_mono h ds _ ha)
      rcases hs with (hs | ⟨o, hs⟩) | hs
      · exact .inl (.inl (h _ _ hs))
      · exact .inl (.inr ⟨o, h _ _ hs⟩)
      · exact .inr hs
  | .dict _, _, q => by cases q
theorem dpa_mono {K : PySem.W.Frag} {F F' : Hp} (h : Same F F') : ∀ (ds : List PyData) (vs : List V), DpAll K F vs ds → DpAll K F' vs ds
  | [], _, q => by cases q; exact .nil
  | d :: ds, _, q => by
    cases q with
    | cons h1 h2 => exact .cons (dp_mono h d _ h1) (dpa_mono h ds _ h2)
end
theorem dpa_len {K : PySem.W.Frag} {F : Hp} : ∀ {vs : List V} {ds : List PyData}, DpAll K F vs ds → vs.length = ds.length
  | _, _, .nil => rfl
  | _, _, .cons _ t => by rw [List.length_cons, List.length_cons, dpa_len t]
theorem dpa_get {K : PySem.W.Frag} {F : Hp} : ∀ {vs : List V} {ds : List PyData} {i : Nat} {v : V}, DpAll K F vs ds → vs[i]? = some v → ∃ d, ds[i]? = some d ∧ Dp K F v d
  | _, _, _, _, .nil, e => by simp at e
  | _, _, 0, _, .cons h _, e => by simp at e; subst e; exact ⟨_, rfl, h⟩
  | _, _, i + 1, v, .cons _ t, e => by
    obtain ⟨d, h1, h2⟩ := dpa_get (i := i) (v := v) t (by simpa using e)
    exact ⟨d, by simpa using h1, h2⟩
theorem dpa_get' {K : PySem.W.Frag} {F : Hp} : ∀ {vs : List V} {ds : List PyData} {i : Nat} {d : PyData}, DpAll K F vs ds → ds[i]? = some d → ∃ v, vs[i]? = some v ∧ Dp K F v d
  | _, _, _, _, .nil, e => by simp at e
  | _, _, 0, _, .cons h _, e => by simp at e; subst e; exact ⟨_, rfl, h⟩
  | _, _, i + 1, d, .cons _ t, e => by
    obtain ⟨v, h1, h2⟩ := dpa_get' (i := i) (d := d) t (by simpa using e)
    exact ⟨v, by simpa using h1, h2⟩
theorem dpa_app {K : PySem.W.Frag} {F : Hp} : ∀ {vs ws : List V} {ds es : List PyData}, DpAll K F vs ds → DpAll K F ws es → DpAll K F (vs ++ ws) (ds ++ es)
  | _, _, _, _, .nil, s => s
  | _, _, _, _, .cons r t, s => .cons r (dpa_app t s)
theorem dpa_take {K : PySem.W.Frag} {F : Hp} : ∀ {vs : List V} {ds : List PyData} (n : Nat), DpAll K F vs ds → DpAll K F (vs.take n) (ds.take n)
  | _, _, 0, _ => .nil
  | _, _, _ + 1, .nil => .nil
  | _, _, n + 1, .cons r t => .cons r (dpa_take n t)
theorem dpa_drop {K : PySem.W.Frag} {F : Hp} : ∀ {vs : List V} {ds : List PyData} (n : Nat), DpAll K F vs ds → DpAll K F (vs.drop n) (ds.drop n)
  | _, _, 0, r => r
  | _, _, _ + 1, .nil => .nil
  | _, _, n + 1, .cons _ t => dpa_drop n t
theorem dpa_set {K : PySem.W.Frag} {F : Hp} {v : V} {d : PyData} (r : Dp K F v d) : ∀ {vs : List V} {ds : List PyData} (i : Nat), DpAll K F vs ds → DpAll K F (vs.set i v) (ds.set i d)
  | _, _, _, .nil => .nil
  | _, _, 0, .cons _ t => .cons r t
  | _, _, i + 1, .cons q t => .cons q (dpa_set r i t)

/-! ### what stands for what -/
def RV (K : PySem.W.Frag) (φ : List Addr) (F : Hp) (x : V) : AV → Prop
  | .d y => Dp K F x y
  | .o l => ∃ a, φ[l]? = some a ∧ x = .ref a
  | .v y => x = y
abbrev RVs (K : PySem.W.Frag) (φ : List Addr) (F : Hp) : List V → List AV → Prop := Paired (RV K φ F)
abbrev RKV {κ : Type} (K : PySem.W.Frag) (φ : List Addr) (F : Hp) : List (κ × V) → List (κ × AV) → Prop := Paired fun p q => p.1 = q.1 ∧ RV K φ F p.2 q.2
abbrev RKD {κ : Type} (K : PySem.W.Frag) (F : Hp) : List (κ × V) → List (κ × PyData) → Prop := Paired fun p q => p.1 = q.1 ∧ Dp K F p.2 q.2
def RO (K : PySem.W.Frag) (φ : List Addr) (F H : Hp) (a : Addr) : MO → Prop
  | .dead => ∃ o, H a = some o
  | .ld xs => F a = none ∧ ∃ vs, H a = some (.lst vs) ∧ DpAll K F vs xs
  | .lst xs => F a = none ∧ ∃ vs, H a = some (.lst vs) ∧ RVs K φ F vs xs
  | .dd kvs => F a = none ∧ ∃ es, H a = some (.dK es) ∧ RKD K F es kvs
  | .dk kvs => F a = none ∧ ∃ es, H a = some (.dK es) ∧ RKV K φ F es kvs
  | .ins C fs => F a = none ∧ ∃ dx es, H a = some (.ins C dx es) ∧ RKV K φ F es fs
  | .dt kvs => F a = none ∧ ∃ es, H a = some (.dT es) ∧ RKD K F es kvs
  | .fd kvs => ∃ o es, F a = some (.frz o (.dK es)) ∧ H a = some (.frz o (.dK es)) ∧ RKD K F es kvs
  | .fk kvs => ∃ o es, F a = some (.frz o (.dK es)) ∧ H a = some (.frz o (.dK es)) ∧ RKV K φ F es kvs
  | .ft kvs => ∃ o es, F a = some (.frz o (.dT es)) ∧ H a = some (.frz o (.dT es)) ∧ RKD K F es kvs
structure Ok (K : PySem.W.Frag) (B φ : List Addr) (F H : Hp) (S : Sto) : Prop where
  sub : Same F H
  nd : φ.Nodup
  dis : ∀ a ∈ φ, a ∉ B
  bs : ∀ b ∈ B, H b ≠ none
  len : φ.length = S.length
  own : ∀ (l : Nat) (a : Addr) (o : MO), φ[l]? = some a → S[l]? = some o → RO K φ F H a o
/-- the heap has grown -/
structure Gr (B φ : List Addr) (F H : Hp) (φ' : List Addr) (F' H' : Hp) : Prop where
  pre : ∃ ψ, φ' = φ ++ ψ
  ff : Same F F'
  bb : ∀ b ∈ B, H' b = H b ∧ F' b = F b
structure GrS (B : List Addr) (F H : Hp) (F' H' : Hp) : Prop where
  ff : Same F F'
  bb : ∀ b ∈ B, H' b = H b ∧ F' b = F b
section
variable {K : PySem.W.Frag} {B φ φ' φ'' : List Addr} {F F' F'' H H' H'' : Hp} {S : Sto}
theorem Gr.refl : Gr B φ F H φ F H := ⟨⟨[], by simp⟩, Same.refl _, fun _ _ => ⟨rfl, rfl⟩⟩
theorem GrS.refl : GrS B F H F H := ⟨Same.refl _, fun _ _ => ⟨rfl, rfl⟩⟩
theorem Gr.trans (a : Gr B φ F H φ' F' H') (b : Gr B φ' F' H' φ'' F'' H'') : Gr B φ F H φ'' F'' H'' := by
  obtain ⟨ψ, rfl⟩ := a.pre
  obtain ⟨ψ', rfl⟩ := b.pre
  exact ⟨⟨ψ ++ ψ', by simp⟩, a.ff.trans b.ff, fun c hc => ⟨(b.bb c hc).1.trans (a.bb c hc).1, (b.bb c hc).2.trans (a.bb c hc).2⟩⟩
theorem GrS.trans (a : GrS B F H F' H') (b : GrS B F' H' F'' H'') : GrS B F H F'' H'' :=
  ⟨a.ff.trans b.ff, fun c hc => ⟨(b.bb c hc).1.trans (a.bb c hc).1, (b.bb c hc).2.trans (a.bb c hc).2⟩⟩
theorem Gr.s (a : Gr B φ F H φ' F' H') : GrS B F H F' H' := ⟨a.ff, a.bb⟩
theorem rv_mono {x : V} {av : AV} (g : ∃ ψ, φ' = φ ++ ψ) (s : Same F F') (h : RV K φ F x av) : RV K φ' F' x av := by
  cases av with
  | d y => exact dp_mono s _ _ h
  | o l =>
    obtain ⟨a, e, r⟩ := h
    obtain ⟨ψ, rfl⟩ := g
    exact ⟨a, by rw [List.getElem?_append_left (List.getElem?_eq_some_iff.mp e).1]; exact e, r⟩
  | v y => exact h
theorem RV.gr {x : V} {av : AV} (h : RV K φ F x av) (g : Gr B φ F H φ' F' H') : RV K φ' F' x av := rv_mono g.pre g.ff h
theorem RVs.gr {xs : List V} {avs : List AV} (h : RVs K φ F xs avs) (g : Gr B φ F H φ' F' H') : RVs K φ' F' xs avs := Paired.mapP h fun _ _ q => rv_mono g.pre g.ff q
theorem ro_mono {a : Addr} {o : MO} (g : ∃ ψ, φ' = φ ++ ψ) (s : Same F F') (hF : F' a = F a) (hH : H' a = H a) (h : RO K φ F H a o) : RO K φ' F' H' a o := by
  cases o with
  | dead => obtain ⟨u, e⟩ := h; exact ⟨u, by rw [hH]; exact e⟩
  | ld xs => obtain ⟨n, vs, e, r⟩ := h; exact ⟨by rw [hF]; exact n, vs, by rw [hH]; exact e, dpa_mono s _ _ r⟩
  | lst xs => obtain ⟨n, vs, e, r⟩ := h; exact ⟨by rw [hF]; exact n, vs, by rw [hH]; exact e, Paired.mapP r fun _ _ q => rv_mono g s q⟩
  | dd kvs => obtain ⟨n, vs, e, r⟩ := h; exact ⟨by rw [hF]; exact n, vs, by rw [hH]; exact e, Paired.mapP r fun _ _ q => ⟨q.1, dp_mono s _ _ q.2⟩⟩
  | dk kvs => obtain ⟨n, vs, e, r⟩ := h; exact ⟨by rw [hF]; exact n, vs, by rw [hH]; exact e, Paired.mapP r fun _ _ q => ⟨q.1, rv_mono g s q.2⟩⟩
  | ins C fs => obtain ⟨n, dx, vs, e, r⟩ := h; exact ⟨by rw [hF]; exact n, dx, vs, by rw [hH]; exact e, Paired.mapP r fun _ _ q => ⟨q.1, rv_mono g s q.2⟩⟩
  | dt kvs => obtain ⟨n, vs, e, r⟩ := h; exact ⟨by rw [hF]; exact n, vs, by rw [hH]; exact e, Paired.mapP r fun _ _ q => ⟨q.1, dp_mono s _ _ q.2⟩⟩
  | fd kvs => obtain ⟨o, vs, n, e, r⟩ := h; exact ⟨o, vs, by rw [hF]; exact n, by rw [hH]; exact e, Paired.mapP r fun _ _ q => ⟨q.1, dp_mono s _ _ q.2⟩⟩
  | fk kvs => obtain ⟨o, vs, n, e, r⟩ := h; exact ⟨o, vs, by rw [hF]; exact n, by rw [hH]; exact e, Paired.mapP r fun _ _ q => ⟨q.1, rv_mono g s q.2⟩⟩
  | ft kvs => obtain ⟨o, vs, n, e, r⟩ := h; exact ⟨o, vs, by rw [hF]; exact n, by rw [hH]; exact e, Paired.mapP r fun _ _ q => ⟨q.1, dp_mono s _ _ q.2⟩⟩
theorem RO.some {a : Addr} {o : MO} (h : RO K φ F H a o) : ∃ u, H a = some u := by
  cases o with
  | dead => exact h
  | ld xs => obtain ⟨n, vs, e, r⟩ := h; exact ⟨_, e⟩
  | lst xs => obtain ⟨n, vs, e, r⟩ := h; exact ⟨_, e⟩
  | dd kvs => obtain ⟨n, vs, e, r⟩ := h; exact ⟨_, e⟩
  | dk kvs => obtain ⟨n, vs, e, r⟩ := h; exact ⟨_, e⟩
  | ins C fs => obtain ⟨n, dx, vs, e, r⟩ := h; exact ⟨_, e⟩
  | dt kvs => obtain ⟨n, vs, e, r⟩ := h; exact ⟨_, e⟩
  | fd kvs => obtain ⟨o, vs, n, e, r⟩ := h; exact ⟨_, e⟩
  | fk kvs => obtain ⟨o, vs, n, e, r⟩ := h; exact ⟨_, e⟩
  | ft kvs => obtain ⟨o, vs, n, e, r⟩ := h; exact ⟨_, e⟩
theorem Ok.obj (k : Ok K B φ F H S) {l : Nat} {a : Addr} (h : φ[l]? = some a) : ∃ o, S[l]? = some o ∧ RO K φ F H a o := by
  have hl := (List.getElem?_eq_some_iff.mp h).1
  rw [k.len] at hl
  exact ⟨S[l], by simp [hl], k.own l a _ h (by simp [hl])⟩
theorem Ok.at (k : Ok K B φ F H S) {l : Nat} {o : MO} (h : S[l]? = some o) : ∃ a, φ[l]? = some a ∧ RO K φ F H a o := by
  have hl := (List.getElem?_eq_some_iff.mp h).1
  rw [← k.len] at hl
  exact ⟨φ[l], by simp [hl], k.own l _ _ (by simp [hl]) h⟩
theorem Ok.ne (k : Ok K B φ F H S) {p : Addr} (hp : H p = none) : p ∉ φ ∧ p ∉ B := by
  refine ⟨fun hm => ?_, fun hm => k.bs p hm hp⟩
  obtain ⟨l, hl⟩ := List.mem_iff_getElem?.mp hm
  obtain ⟨o, _, r⟩ := k.obj hl
  obtain ⟨u, e⟩ := r.some
  rw [hp] at e
  cases e
theorem Ok.inj (k : Ok K B φ F H S) {l m : Nat} {a : Addr} (h1 : φ[l]? = some a) (h2 : φ[m]? = some a) : l = m := nd_ix k.nd h1 h2
/-- new data at p -/
theorem Ok.data (k : Ok K B φ F H S) {p : Addr} {o : HO} (hp : H p = none) : Ok K B φ (upd F p o) (upd H p o) S ∧ Gr B φ F H φ (upd F p o) (upd H p o) := by
  have hF : F p = none := k.sub.free hp
  have sF : Same F (upd F p o) := fun b u e => by rw [upd_ne (ne_of_none e hF)]; exact e
  have np := k.ne hp
  refine ⟨⟨fun b u e => ?_, k.nd, k.dis, fun b hb => ?_, k.len, fun l a u h1 h2 => ?_⟩, ⟨[], by simp⟩, sF, fun b hb => ?_⟩
  · by_cases hb : b = p
    · subst hb; rw [upd_same] at e ⊢; exact e
    · rw [upd_ne hb] at e ⊢; exact k.sub _ _ e
  · rw [upd_ne (fun (e : b = p) => np.2 (e ▸ hb))]; exact k.bs b hb
  · have ha : a ≠ p := fun e => np.1 (e ▸ List.mem_of_getElem? h1)
    exact ro_mono ⟨[], by simp⟩ sF (upd_ne ha) (upd_ne ha) (k.own l a u h1 h2)
  · have ha : b ≠ p := fun e => np.2 (e ▸ hb)
    exact ⟨upd_ne ha, upd_ne ha⟩
/-- a new object of the store at p -/
theorem Ok.new (k : Ok K B φ F H S) {p : Addr} {o : HO} {m : MO} (hp : H p = none) (hm : F p = none → RO K (φ ++ [p]) F (upd H p o) p m) : Ok K B (φ ++ [p]) F (upd H p o) (S ++ [m]) ∧ Gr B φ F H (φ ++ [p]) F (upd H p o) := by
  have hF : F p = none := k.sub.free hp
  have np := k.ne hp
  refine ⟨⟨fun b u e => ?_, ?_, fun a ha => ?_, fun b hb => ?_, by simp [k.len], fun l a u h1 h2 => ?_⟩, ⟨[p], rfl⟩, Same.refl _, fun b hb => ?_⟩
  · rw [upd_ne (fun z => by subst z; rw [hF] at e; cases e)]; exact k.sub _ _ e
  · rw [List.nodup_append]
    refine ⟨k.nd, by simp, fun a ha b hb => ?_⟩
    rw [List.mem_singleton] at hb
    subst hb
    exact fun e => np.1 (e ▸ ha)
  · rcases List.mem_append.mp ha with ha | ha
    · exact k.dis a ha
    · rw [List.mem_singleton] at ha; subst ha; exact np.2
  · rw [upd_ne (fun (e : b = p) => np.2 (e ▸ hb))]; exact k.bs b hb
  · by_cases hl : l < φ.length
    · rw [List.getElem?_append_left hl] at h1
      rw [List.getElem?_append_left (by rw [← k.len]; exact hl)] at h2
      have ha : a ≠ p := fun e => np.1 (e ▸ List.mem_of_getElem? h1)
      exact ro_mono ⟨[p], rfl⟩ (Same.refl _) rfl (upd_ne ha) (k.own l a u h1 h2)
    · have e1 : l = φ.length := by
        have := (List.getElem?_eq_some_iff.mp h1).1
        rw [List.length_append, List.length_singleton] at this
        omega
      subst e1
      rw [List.getElem?_append_right (Nat.le_refl _), Nat.sub_self] at h1
      rw [k.len, List.getElem?_append_right (Nat.le_refl _), Nat.sub_self] at h2
      cases h1
      cases h2
      exact hm hF
  · have ha : b ≠ p := fun e => np.2 (e ▸ hb)
    exact ⟨upd_ne ha, rfl⟩
/-- the object at place l is changed -/
theorem Ok.put (k : Ok K B φ F H S) {l : Nat} {a : Addr} {o : HO} {m : MO} (hl : φ[l]? = some a) (hm : RO K φ F (upd H a o) a m) (hF : F a = none) : Ok K B φ F (upd H a o) (S.set l m) ∧ Gr B φ F H φ F (upd H a o) := by
  have nB := k.dis a (List.mem_of_getElem? hl)
  refine ⟨⟨fun b u e => ?_, k.nd, k.dis, fun b hb => ?_, by rw [List.length_set]; exact k.len, fun j b u h1 h2 => ?_⟩, ⟨[], by simp⟩, Same.refl _, fun b hb => ?_⟩
  · rw [upd_ne (fun z => by subst z; rw [hF] at e; cases e)]; exact k.sub _ _ e
  · rw [upd_ne (fun (e : b = a) => nB (e ▸ hb))]; exact k.bs b hb
  · by_cases hj : j = l
    · subst hj
      rw [hl] at h1
      cases h1
      rw [List.getElem?_set_self (by rw [← k.len]; exact (List.getElem?_eq_some_iff.mp hl).1)] at h2
      cases h2
      exact hm
    · rw [List.getElem?_set_ne (fun e => hj e.symm)] at h2
      have ha : b ≠ a := fun e => hj (k.inj h1 (e ▸ hl))
      exact ro_mono ⟨[], by simp⟩ (Same.refl _) rfl (upd_ne ha) (k.own j b u h1 h2)
  · have ha : b ≠ a := fun e => nB (e ▸ hb)
    exact ⟨upd_ne ha, rfl⟩
end
end AL

namespace AL
open PySem PySem.Spec PyProof.Rows L2

/-! ### the contexts -/
structure CV where
  A : Around
  s_0 : Shared
  H_0 : Hp
  env : Env
  outer : List Env
  stack : List Env
  ex : List Addr
  fn : Str → Bool
  calm : Bool
  pn : List (Addr × Obj)
  xe : Value → Shared → Prop
structure Bs where
  P : Program
  w : World
  K : PySem.W.Frag
  mg : Str → Option Value
  base : Heap
abbrev mkc (b : Bs) (N : List Str) (v : CV) : Cx := ⟨b.P, b.w, b.K, b.mg, b.base, v.A, N, v.s_0, v.H_0, v.env, v.outer, v.stack, v.ex, v.fn, v.calm, v.pn, v.xe⟩
/-- what an exception in the air may be: with a context or without -/
theorem sky_imp {B : Heap} {l : List Env} {a : Addr} {L : Addr} {h : Heap} {Z Z' : Obj → Prop} (z : ∀ o, Z o → Z' o) (x : Sky B l a Z L h) : Sky B l a Z' L h := by
  rcases x with ⟨a1, a2, a3, oe, vs, b1, b2, b3⟩ | x | ⟨a1, a2, a3, x⟩
  · exact .inl ⟨a1, a2, a3, oe, vs, b1, z _ b2, b3⟩
  · exact .inr (.inl (L2H.flyingZ_imp z x))
  · exact .inr (.inr ⟨a1, a2, a3, L2H.tracedZ_imp z x⟩)
theorem takes_n {X : Cx} {W : WX} (t : L2.Takes X W) : L2N.Takes X W := fun u s' ⟨a, B, sI, pins, σ, H, cls, d, e, I, nb, up, sky, r⟩ =>
  t u s' ⟨a, B, sI, pins, σ, H, cls, d, e, I, nb, up, sky_imp (fun _ z => z.zc) sky, r⟩
def TakesB (n : Bool) (X : Cx) (W : WX) : Prop := match n with
  | true => L2N.Takes X W
  | false => L2.Takes X W
theorem TakesB.n {n : Bool} {X : Cx} {W : WX} (t : TakesB n X W) : L2N.Takes X W := by
  cases n with
  | true => exact t
  | false => exact takes_n t
theorem TakesB.c {n : Bool} {X : Cx} {W : WX} (t : TakesB n X W) (h : n = false) : L2.Takes X W := by
  subst h
  exact t
/-- a family of contexts over one base, one list of names -/
structure Fam where
  b : Bs
  N : List Str
  k : Nat
  ι : Type
  V : ι → CV
  nd : N.Nodup
  /-- within an except suite -/
  hot : Bool
  hr : hot = false → ∀ i, Room k (V i).A
  calm : hot = false → ∀ i, (V i).calm = true
  /-- the scope of names, that all share -/
  sc : Scope
  hsc : ∀ i, (V i).env.scope = sc
  po : hot = false → ∀ i, PassesOwn (model b.P b.w) (V i).A (V i).env (V i).xe
  /-- what is wished of an exception that leaves -/
  W : WX
  /-- only exceptions without a context -/
  nn : Bool
  tk : ∀ i, TakesB nn (mkc b N (V i)) W
  /-- places of a caller stand in front of the store -/
  an : Bool
abbrev Fam.cx (C : Fam) (i : C.ι) : Cx := mkc C.b C.N (C.V i)

/-! ### the weakest readings -/
def WE (C : Fam) (e : Expr) : TE := fun σ H Q => ∃ t : TE, (∀ i, PE (C.cx i) e t) ∧ t σ H Q
def WT (C : Fam) (e : Expr) : TT := fun σ H Q => ∃ t : TT, (∀ i, PT (C.cx i) e t) ∧ t σ H Q
def WW (C : Fam) (e : Expr) : TT := fun σ H Q => ∃ t : TT, (∀ i, PW (C.cx i) e t) ∧ t σ H Q
def WA (C : Fam) (es : List Expr) : TA := fun σ H Q => ∃ t : TA, (∀ i, PA (C.cx i) es t) ∧ t σ H Q
def WS (C : Fam) (st : Stmt) : TS := fun D σ H => ∃ t : TS, (∀ i, PS (C.cx i) st t) ∧ t D σ H
def WSs (C : Fam) (st : List Stmt) : TS := fun D σ H => ∃ t : TS, (∀ i, PSs (C.cx i) st t) ∧ t D σ H
def WG (C : Fam) (e : Expr) : TG := fun v σ H Q => ∃ t : TG, (∀ i, PG (C.cx i) e t) ∧ t v σ H Q
section
variable (C : Fam)
theorem we (e : Expr) (i : C.ι) : PE (C.cx i) e (WE C e) := ⟨fun pins s σ H Q I ⟨t, h, q⟩ => (h i).run pins s σ H Q I q⟩
theorem wt (e : Expr) (i : C.ι) : PT (C.cx i) e (WT C e) := ⟨fun pins s σ H Q I ⟨t, h, q⟩ => (h i).run pins s σ H Q I q⟩
theorem ww (e : Expr) (i : C.ι) : PW (C.cx i) e (WW C e) := ⟨fun wh pins s σ H Q I ⟨t, h, q⟩ => (h i).run wh pins s σ H Q I q⟩
theorem wa (es : List Expr) (i : C.ι) : PA (C.cx i) es (WA C es) := ⟨fun pos pins s σ H Q I ⟨t, h, q⟩ => (h i).run pos pins s σ H Q I q⟩
theorem wss (st : List Stmt) (i : C.ι) : PSs (C.cx i) st (WSs C st) := ⟨fun pins s σ H D I ⟨t, h, q⟩ => (h i).run pins s σ H D I q⟩
theorem ws (st : Stmt) (i : C.ι) : PS (C.cx i) st (WS C st) := ⟨fun pins s σ H D I ⟨t, h, q⟩ => (h i).run pins s σ H D I q⟩
theorem wg (e : Expr) (i : C.ι) : PG (C.cx i) e (WG C e) := ⟨fun pins s σ H v u Q I r ⟨t, h, q⟩ => (h i).run pins s σ H v u Q I r q⟩
end

/-! ### the frame's values -/
structure EnvR (K : PySem.W.Frag) (φ : List Addr) (F : Hp) (σ : L2.St) (E : AE) : Prop where
  len : σ.length = E.length
  get : ∀ (i : Nat) (av : AV), E[i]? = some (some av) → ∃ v, σ[i]? = some (some v) ∧ RV K φ F v av
section
variable {K : PySem.W.Frag} {B φ φ' : List Addr} {F F' H H' : Hp} {S : Sto} {σ : L2.St} {E : AE}
theorem EnvR.mono (h : EnvR K φ F σ E) (g : ∃ ψ, φ' = φ ++ ψ) (s : Same F F') : EnvR K φ' F' σ E :=
  ⟨h.len, fun i av e => let ⟨v, e', r⟩ := h.get i av e; ⟨v, e', rv_mono g s r⟩⟩
theorem EnvR.gr (h : EnvR K φ F σ E) (g : Gr B φ F H φ' F' H') : EnvR K φ' F' σ E := h.mono g.pre g.ff
theorem EnvR.set {v : V} {av : AV} (h : EnvR K φ F σ E) (r : RV K φ F v av) (i : Nat) : EnvR K φ F (σ.set i (some v)) (E.set i (some av)) := by
  refine ⟨by rw [List.length_set, List.length_set]; exact h.len, fun j bv e => ?_⟩
  by_cases hj : i = j
  · subst hj
    by_cases hl : i < E.length
    · rw [List.getElem?_set_self hl] at e
      cases e
      exact ⟨v, List.getElem?_set_self (by rw [h.len]; exact hl), r⟩
    · have : (E.set i (some av))[i]? = none := List.getElem?_eq_none (by rw [List.length_set]; omega)
      rw [this] at e
      cases e
  · rw [List.getElem?_set_ne hj] at e
    obtain ⟨u, e', r'⟩ := h.get j bv e
    exact ⟨u, by rw [List.getElem?_set_ne hj]; exact e', r'⟩
/-- forget slots -/
theorem EnvR.weak {E' : AE} (h : EnvR K φ F σ E) (hl : E'.length = E.length) (w : ∀ (i : Nat) (av : AV), E'[i]? = some (some av) → E[i]? = some (some av)) : EnvR K φ F σ E' :=
  ⟨by rw [hl]; exact h.len, fun i av e => h.get i av (w i av e)⟩
end

/-! ### judgements of expressions -/
def JE (C : Fam) (E : AE) (S : Sto) (e : Expr) (av : AV) (S' : Sto) : Prop := ∀ (B : List Addr) (σ : L2.St) (φ : List Addr) (F H : Hp) (Q : VK), EnvR C.b.K φ F σ E → Ok C.b.K B φ F H S →
  (∀ v φ' F' H', Gr B φ F H φ' F' H' → Ok C.b.K B φ' F' H' S' → RV C.b.K φ' F' v av → Q v H') → WE C e σ H Q
def JA (C : Fam) (E : AE) (S : Sto) (es : List Expr) (avs : List AV) (S' : Sto) : Prop := ∀ (B : List Addr) (σ : L2.St) (φ : List Addr) (F H : Hp) (Q : List V → Hp → Prop), EnvR C.b.K φ F σ E → Ok C.b.K B φ F H S →
  (∀ vs φ' F' H', Gr B φ F H φ' F' H' → Ok C.b.K B φ' F' H' S' → RVs C.b.K φ' F' vs avs → Q vs H') → WA C es σ H Q
def JT (C : Fam) (E : AE) (S : Sto) (e : Expr) (c : Bool) (S' : Sto) : Prop := ∀ (B : List Addr) (σ : L2.St) (φ : List Addr) (F H : Hp) (Q : Bool → Hp → Prop), EnvR C.b.K φ F σ E → Ok C.b.K B φ F H S →
  (∀ φ' F' H', Gr B φ F H φ' F' H' → Ok C.b.K B φ' F' H' S' → Q c H') → WT C e σ H Q
def JW (C : Fam) (E : AE) (S : Sto) (e : Expr) (c : Bool) (S' : Sto) : Prop := ∀ (B : List Addr) (σ : L2.St) (φ : List Addr) (F H : Hp) (Q : Bool → Hp → Prop), EnvR C.b.K φ F σ E → Ok C.b.K B φ F H S →
  (∀ φ' F' H', Gr B φ F H φ' F' H' → Ok C.b.K B φ' F' H' S' → Q c H') → WW C e σ H Q

/-! ### the values' rules, by data -/
/-- what a binary rule gives -/
def SR2 (K : PySem.W.Frag) (S : Sto) (r : R2) (av bv cv : AV) (S' : Sto) : Prop := ∀ (B φ : List Addr) (F H : Hp) (x y : V) (Q : VK), Ok K B φ F H S → RV K φ F x av → RV K φ F y bv →
  (∀ v φ' F' H', Gr B φ F H φ' F' H' → Ok K B φ' F' H' S' → RV K φ' F' v cv → Q v H') → r x y H Q
def SRU (K : PySem.W.Frag) (S : Sto) (r : V → Hp → VK → Prop) (av cv : AV) (S' : Sto) : Prop := ∀ (B φ : List Addr) (F H : Hp) (x : V) (Q : VK), Ok K B φ F H S → RV K φ F x av →
  (∀ v φ' F' H', Gr B φ F H φ' F' H' → Ok K B φ' F' H' S' → RV K φ' F' v cv → Q v H') → r x H Q
def SRL (K : PySem.W.Frag) (S : Sto) (r : List V → Hp → VK → Prop) (avs : List AV) (cv : AV) (S' : Sto) : Prop := ∀ (B φ : List Addr) (F H : Hp) (xs : List V) (Q : VK), Ok K B φ F H S → RVs K φ F xs avs →
  (∀ v φ' F' H', Gr B φ F H φ' F' H' → Ok K B φ' F' H' S' → RV K φ' F' v cv → Q v H') → r xs H Q
def SRM (K : PySem.W.Frag) (S : Sto) (r : V → List V → Hp → VK → Prop) (av : AV) (avs : List AV) (cv : AV) (S' : Sto) : Prop := ∀ (B φ : List Addr) (F H : Hp) (x : V) (xs : List V) (Q : VK), Ok K B φ F H S → RV K φ F x av → RVs K φ F xs avs →
  (∀ v φ' F' H', Gr B φ F H φ' F' H' → Ok K B φ' F' H' S' → RV K φ' F' v cv → Q v H') → r x xs H Q

section
variable {C : Fam} {E : AE} {S S1 S2 S3 S4 : Sto} {a b c e : Expr} {es : List Expr} {av bv cv : AV} {avs : List AV} {pos : Pos}
/-! ### names and constants -/
theorem je_var (i : Nat) {x : Str} (hE : E[i]? = some (some av) := by rfl) (hN : C.N[i]? = some x := by rfl) (hv : Vis C.sc x := by first | exact Or.inl rfl | exact Or.inr (Or.inl rfl) | exact Or.inr (Or.inr rfl))
    (hd : (x == ("__debug__" : Str)) = false := by decide) (hcd : (x == ("__classdict__" : Str)) = false := by decide) : JE C E S (.Name x pos) av S := by
  intro B σ φ F H Q hE' k q
  obtain ⟨v, e, r⟩ := hE'.get i av hE
  exact ⟨tVar i, fun j => pe_var hN (by show Vis (C.V j).env.scope x; rw [C.hsc j]; exact hv) hd hcd, v, e, q v φ F H .refl k r⟩
theorem je_int {i : Int} {j : Nat} : JE C E S (.Constant (.int i) j pos) (.d (.int i)) S := fun B σ φ F H Q hE k q => ⟨_, fun _ => pe_int, q _ φ F H .refl k (.int i)⟩
theorem je_bl {i : Bool} {j : Nat} : JE C E S (.Constant (.bool i) j pos) (.d (.bool i)) S := fun B σ φ F H Q hE k q => ⟨_, fun _ => pe_bl, q _ φ F H .refl k (.bl i)⟩
theorem je_non {j : Nat} : JE C E S (.Constant .none j pos) (.d .none) S := fun B σ φ F H Q hE k q => ⟨_, fun _ => pe_non, q _ φ F H .refl k .non⟩
theorem je_str {x : Str} {j : Nat} : JE C E S (.Constant (.str x) j pos) (.d (.str x)) S := fun B σ φ F H Q hE k q => ⟨_, fun _ => pe_str, q _ φ F H .refl k (.str x)⟩
/-- a module's constant -/
theorem je_glob {x : Str} {v : V} {u : Value} (hm : C.b.mg x = some u) (r : RelV v u) (h : ∀ φ F, RV C.b.K φ F v av) (hg : C.sc.names.lookup x = some .globalImplicit := by rfl) (hd : (x == ("__debug__" : Str)) = false := by decide) : JE C E S (.Name x pos) av S :=
  fun B σ φ F H Q hE k q => ⟨_, fun i => pe_glob (show (C.V i).env.kindOf x = _ by unfold Env.kindOf; rw [C.hsc i]; exact hg) hm r hd, q _ φ F H .refl k (h φ F)⟩
theorem je_bltn {x : Str} {v : V} {u : Value} (hm : C.b.mg x = none) (hv : bootBuiltins x = some u) (r : RelV v u) (hg : C.sc.names.lookup x = some .globalImplicit := by rfl) (hn : x ≠ "__name__" := by decide) (hd : (x == ("__debug__" : Str)) = false := by decide) : JE C E S (.Name x pos) (.v v) S :=
  fun B σ φ F H Q hE k q => ⟨_, fun i => pe_bltn (show (C.V i).env.kindOf x = _ by unfold Env.kindOf; rw [C.hsc i]; exact hg) hm hv r hn hd, q _ φ F H .refl k rfl⟩

/-! ### operators -/
theorem je_bin {op : Operator} {r : R2} (ho : ∀ i, OpR (C.cx i) (binaryOp op) r) (hs : SR2 C.b.K S2 r av bv cv S3) (ha : JE C E S a av S1) (hb : JE C E S1 b bv S2) : JE C E S (.BinOp a op b pos) cv S3 := by
  intro B σ φ F H Q hE k q
  refine ⟨tOp r (WE C a) (WE C b), fun i => pe_op (ho i) (we C a i) (we C b i), ?_⟩
  refine ha B σ φ F H _ hE k fun x φ1 F1 H1 g1 k1 r1 => ?_
  refine hb B σ φ1 F1 H1 _ (hE.gr g1) k1 fun y φ2 F2 H2 g2 k2 r2 => ?_
  exact hs B φ2 F2 H2 x y Q k2 (r1.gr g2) r2 fun v φ3 F3 H3 g3 k3 r3 => q v φ3 F3 H3 (g1.trans (g2.trans g3)) k3 r3
theorem je_cmp {op : CmpOp} {r : R2} (ho : ∀ i, OpR (C.cx i) (compareOp op) r) (hs : SR2 C.b.K S2 r av bv cv S3) (ha : JE C E S a av S1) (hb : JE C E S1 b bv S2) (hm : behindInMarks op b = false) : JE C E S (.Compare a [op] [b] pos) cv S3 := by
  intro B σ φ F H Q hE k q
  refine ⟨tOp r (WE C a) (WE C b), fun i => pe_cmpR (ho i) (we C a i) (we C b i) hm, ?_⟩
  refine ha B σ φ F H _ hE k fun x φ1 F1 H1 g1 k1 r1 => ?_
  refine hb B σ φ1 F1 H1 _ (hE.gr g1) k1 fun y φ2 F2 H2 g2 k2 r2 => ?_
  exact hs B φ2 F2 H2 x y Q k2 (r1.gr g2) r2 fun v φ3 F3 H3 g3 k3 r3 => q v φ3 F3 H3 (g1.trans (g2.trans g3)) k3 r3
theorem jt_cmp {op : CmpOp} {r : R2} {z : Bool} (ho : ∀ i, OpR (C.cx i) (compareOp op) r) (hs : SR2 C.b.K S2 r av bv (.d (.bool z)) S3) (ha : JE C E S a av S1) (hb : JE C E S1 b bv S2) (hm : behindInMarks op b = false) : JT C E S (.Compare a [op] [b] pos) z S3 := by
  intro B σ φ F H Q hE k q
  refine ⟨tTest (tOp r (WE C a) (WE C b)), fun i => pt_cmpR (ho i) (we C a i) (we C b i) hm, ?_⟩
  refine ha B σ φ F H _ hE k fun x φ1 F1 H1 g1 k1 r1 => ?_
  refine hb B σ φ1 F1 H1 _ (hE.gr g1) k1 fun y φ2 F2 H2 g2 k2 r2 => ?_
  refine hs B φ2 F2 H2 x y _ k2 (r1.gr g2) r2 fun v φ3 F3 H3 g3 k3 r3 => ?_
  cases r3
  exact ⟨z, rfl, q φ3 F3 H3 (g1.trans (g2.trans g3)) k3⟩
theorem je_un {op : UnaryOp} {r : V → Hp → VK → Prop} (ho : ∀ i, UnR (C.cx i) (unaryOp op) r) (hs : SRU C.b.K S1 r av cv S2) (ha : JE C E S a av S1) : JE C E S (.UnaryOp op a pos) cv S2 := by
  intro B σ φ F H Q hE k q
  refine ⟨tUn r (WE C a), fun i => pe_un (ho i) (we C a i), ?_⟩
  refine ha B σ φ F H _ hE k fun x φ1 F1 H1 g1 k1 r1 => ?_
  exact hs B φ1 F1 H1 x Q k1 r1 fun v φ3 F3 H3 g3 k3 r3 => q v φ3 F3 H3 (g1.trans g3) k3 r3
/-! ### tests -/
theorem jt_val {z : Bool} (h : JE C E S e (.d (.bool z)) S1) (he : ∀ (i : C.ι) whole, isTrue e (C.V i).env whole = (do let v ← whole; standAt e.pos; holding [v] (truthy v)) := by intro _ _; rfl) : JT C E S e z S1 := by
  intro B σ φ F H Q hE k q
  refine ⟨tB (WE C e), fun i => pt_val (we C e i) (he i), ?_⟩
  refine h B σ φ F H _ hE k fun x φ1 F1 H1 g1 k1 r1 => ?_
  cases r1
  exact ⟨z, rfl, q φ1 F1 H1 g1 k1⟩
theorem jt_not {z : Bool} (h : JT C E S e z S1) : JT C E S (.UnaryOp .Not e pos) (!z) S1 := by
  intro B σ φ F H Q hE k q
  exact ⟨tNot (WT C e), fun i => pt_not (wt C e i), h B σ φ F H _ hE k fun φ1 F1 H1 g1 k1 => q φ1 F1 H1 g1 k1⟩
theorem jt_w {z : Bool} (h : JW C E S e z S1) : JT C E S e z S1 := fun B σ φ F H Q hE k q => ⟨WW C e, fun i => (ww C e i).pt, h B σ φ F H Q hE k q⟩
theorem jw_and1 {z : Bool} (h : JT C E S a z S1) : JW C E S (.BoolOp .And [a] pos) z S1 := fun B σ φ F H Q hE k q => ⟨WT C a, fun i => pw_and1 (wt C a i), h B σ φ F H Q hE k q⟩
theorem jw_or1 {z : Bool} (h : JT C E S a z S1) : JW C E S (.BoolOp .Or [a] pos) z S1 := fun B σ φ F H Q hE k q => ⟨WT C a, fun i => pw_or1 (wt C a i), h B σ φ F H Q hE k q⟩
/-- a and ..: the rest is asked where a is true -/
theorem jw_and {x y z : Bool} (h : JT C E S a x S1) (h2 : x = true → JW C E S1 (.BoolOp .And (b :: es) pos) y S2) (hf : x = false → S1 = S2) (hz : z = (x && y) := by rfl) : JW C E S (.BoolOp .And (a :: b :: es) pos) z S2 := by
  intro B σ φ F H Q hE k q
  refine ⟨tAnd (WT C a) (WW C (.BoolOp .And (b :: es) pos)), fun i => pw_and (wt C a i) (ww C _ i), ?_⟩
  subst hz
  refine h B σ φ F H _ hE k fun φ1 F1 H1 g1 k1 => ?_
  cases x with
  | true => exact h2 rfl B σ φ1 F1 H1 Q (hE.gr g1) k1 fun φ2 F2 H2 g2 k2 => q φ2 F2 H2 (g1.trans g2) k2
  | false => exact q φ1 F1 H1 g1 (hf rfl ▸ k1)
theorem jw_or {x y z : Bool} (h : JT C E S a x S1) (h2 : x = false → JW C E S1 (.BoolOp .Or (b :: es) pos) y S2) (hf : x = true → S1 = S2) (hz : z = (x || y) := by rfl) : JW C E S (.BoolOp .Or (a :: b :: es) pos) z S2 := by
  intro B σ φ F H Q hE k q
  refine ⟨tOr (WT C a) (WW C (.BoolOp .Or (b :: es) pos)), fun i => pw_or (wt C a i) (ww C _ i), ?_⟩
  subst hz
  refine h B σ φ F H _ hE k fun φ1 F1 H1 g1 k1 => ?_
  cases x with
  | false => exact h2 rfl B σ φ1 F1 H1 Q (hE.gr g1) k1 fun φ2 F2 H2 g2 k2 => q φ2 F2 H2 (g1.trans g2) k2
  | true => exact q φ1 F1 H1 g1 (hf rfl ▸ k1)
/-! ### and, or, not as values -/
theorem je_one {op : BoolOp} (h : JE C E S a av S1) : JE C E S (.BoolOp op [a] pos) av S1 := fun B σ φ F H Q hE k q => ⟨WE C a, fun i => pe_one (we C a i), h B σ φ F H Q hE k q⟩
theorem je_and {x y z : Bool} (h : JE C E S a (.d (.bool x)) S1) (h2 : x = true → JE C E S1 (.BoolOp .And (b :: es) pos) (.d (.bool y)) S2) (hf : x = false → S1 = S2) (hz : z = (x && y) := by rfl) : JE C E S (.BoolOp .And (a :: b :: es) pos) (.d (.bool z)) S2 := by
  intro B σ φ F H Q hE k q
  refine ⟨tAndV (WE C a) (WE C (.BoolOp .And (b :: es) pos)), fun i => pe_and (we C a i) (we C _ i), ?_⟩
  subst hz
  refine h B σ φ F H _ hE k fun v φ1 F1 H1 g1 k1 r1 => ?_
  cases r1
  refine ⟨x, rfl, ?_⟩
  cases x with
  | true => exact h2 rfl B σ φ1 F1 H1 Q (hE.gr g1) k1 fun v φ2 F2 H2 g2 k2 => q v φ2 F2 H2 (g1.trans g2) k2
  | false => exact q _ φ1 F1 H1 g1 (hf rfl ▸ k1) (.bl _)
theorem je_or {x y z : Bool} (h : JE C E S a (.d (.bool x)) S1) (h2 : x = false → JE C E S1 (.BoolOp .Or (b :: es) pos) (.d (.bool y)) S2) (hf : x = true → S1 = S2) (hz : z = (x || y) := by rfl) : JE C E S (.BoolOp .Or (a :: b :: es) pos) (.d (.bool z)) S2 := by
  intro B σ φ F H Q hE k q
  refine ⟨tOrV (WE C a) (WE C (.BoolOp .Or (b :: es) pos)), fun i => pe_or (we C a i) (we C _ i), ?_⟩
  subst hz
  refine h B σ φ F H _ hE k fun v φ1 F1 H1 g1 k1 r1 => ?_
  cases r1
  refine ⟨x, rfl, ?_⟩
  cases x with
  | false => exact h2 rfl B σ φ1 F1 H1 Q (hE.gr g1) k1 fun v φ2 F2 H2 g2 k2 => q v φ2 F2 H2 (g1.trans g2) k2
  | true => exact q _ φ1 F1 H1 g1 (hf rfl ▸ k1) (.bl _)
theorem je_not {x : Bool} (h : JE C E S a (.d (.bool x)) S1) : JE C E S (.UnaryOp .Not a pos) (.d (.bool (!x))) S1 := by
  intro B σ φ F H Q hE k q
  refine ⟨tNotV (WE C a), fun i => pe_not (we C a i), ?_⟩
  refine h B σ φ F H _ hE k fun v φ1 F1 H1 g1 k1 r1 => ?_
  cases r1
  exact ⟨x, rfl, q _ φ1 F1 H1 g1 k1 (.bl _)⟩
theorem je_if {z : Bool} (h : JT C E S c z S1) (h1 : z = true → JE C E S1 a av S2) (h2 : z = false → JE C E S1 b av S2) : JE C E S (.IfExp c a b pos) av S2 := by
  intro B σ φ F H Q hE k q
  refine ⟨tIf (WT C c) (WE C a) (WE C b), fun i => pe_ifExp (wt C c i) (we C a i) (we C b i), ?_⟩
  refine h B σ φ F H _ hE k fun φ1 F1 H1 g1 k1 => ?_
  cases z with
  | true => exact h1 rfl B σ φ1 F1 H1 Q (hE.gr g1) k1 fun v φ2 F2 H2 g2 k2 => q v φ2 F2 H2 (g1.trans g2) k2
  | false => exact h2 rfl B σ φ1 F1 H1 Q (hE.gr g1) k1 fun v φ2 F2 H2 g2 k2 => q v φ2 F2 H2 (g1.trans g2) k2
/-! ### arguments, calls of builtins, displays -/
theorem ja_nil : JA C E S [] [] S := fun B σ φ F H Q hE k q => ⟨tNil, fun _ => pa_nil, q [] φ F H .refl k .nil⟩
theorem ja_cons (h : JE C E S e av S1) (h2 : JA C E S1 es avs S2) (hs : ∀ i : C.ι, starEach (e :: es) (C.V i).env = (false, eval e (C.V i).env) :: starEach es (C.V i).env := by intro _; rfl) : JA C E S (e :: es) (av :: avs) S2 := by
  intro B σ φ F H Q hE k q
  refine ⟨tCons (WE C e) (WA C es), fun i => pa_cons (we C e i) (wa C es i) (hs i), ?_⟩
  refine h B σ φ F H _ hE k fun v φ1 F1 H1 g1 k1 r1 => ?_
  exact h2 B σ φ1 F1 H1 _ (hE.gr g1) k1 fun vs φ2 F2 H2 g2 k2 r2 => q _ φ2 F2 H2 (g1.trans g2) k2 (.cons (r1.gr g2) r2)
theorem gl_of {x : Str} (hg : C.sc.names.lookup x = some .globalImplicit) (i : C.ι) : Gl (C.cx i) x := by
  show (C.V i).env.kindOf x = _
  unfold Env.kindOf
  rw [C.hsc i]
  exact hg
theorem je_callB {x : Str} {p : Pos} {id : String} {r : List V → Hp → VK → Prop} (hc : ∀ i, CallR (C.cx i) (.builtin id) r) (hs : SRL C.b.K S1 r avs cv S2) (hm : C.b.mg x = none) (hv : bootBuiltins x = some (.builtin id)) (ha : JA C E S (e :: es) avs S1)
    (hg : C.sc.names.lookup x = some .globalImplicit := by rfl) (hn : x ≠ "__name__" := by decide) (hdb : (x == ("__debug__" : Str)) = false := by decide)
    (he : ∀ i : C.ι, starEach (e :: es) (C.V i).env = (false, eval e (C.V i).env) :: starEach es (C.V i).env := by intro _; rfl) (hpl : ∀ i : C.ι, (backTo pos (starEach es (C.V i).env)).any (·.1) = false := by intro _; rfl) : JE C E S (.Call (.Name x p) (e :: es) [] pos) cv S2 := by
  intro B σ φ F H Q hE k q
  refine ⟨tCB r (WA C (e :: es)), fun i => pe_callB (hc i) (gl_of hg i) hm hv (wa C _ i) hn hdb (he i) (hpl i), ?_⟩
  refine ha B σ φ F H _ hE k fun vs φ1 F1 H1 g1 k1 r1 => ?_
  exact hs B φ1 F1 H1 vs Q k1 r1 fun v φ3 F3 H3 g3 k3 r3 => q v φ3 F3 H3 (g1.trans g3) k3 r3
theorem je_callTy {x : Str} {p : Pos} {id : String} {r : List V → Hp → VK → Prop} (hc : ∀ i, CallR (C.cx i) (.type id) r) (hs : SRL C.b.K S1 r avs cv S2) (hm : C.b.mg x = none) (hv : bootBuiltins x = some (.type id)) (ha : JA C E S (e :: es) avs S1)
    (hg : C.sc.names.lookup x = some .globalImplicit := by rfl) (hn : x ≠ "__name__" := by decide) (hdb : (x == ("__debug__" : Str)) = false := by decide)
    (he : ∀ i : C.ι, starEach (e :: es) (C.V i).env = (false, eval e (C.V i).env) :: starEach es (C.V i).env := by intro _; rfl) (hpl : ∀ i : C.ι, (backTo pos (starEach es (C.V i).env)).any (·.1) = false := by intro _; rfl) : JE C E S (.Call (.Name x p) (e :: es) [] pos) cv S2 := by
  intro B σ φ F H Q hE k q
  refine ⟨tCB r (WA C (e :: es)), fun i => pe_callTy (hc i) (gl_of hg i) hm hv (wa C _ i) hn hdb (he i) (hpl i), ?_⟩
  refine ha B σ φ F H _ hE k fun vs φ1 F1 H1 g1 k1 r1 => ?_
  exact hs B φ1 F1 H1 vs Q k1 r1 fun v φ3 F3 H3 g3 k3 r3 => q v φ3 F3 H3 (g1.trans g3) k3 r3
theorem rvs_data {K : PySem.W.Frag} {φ : List Addr} {F : Hp} : ∀ {vs : List V} {ds : List PyData}, RVs K φ F vs (ds.map AV.d) → DpAll K F vs ds
  | _, [], r => by cases r; exact .nil
  | _, d :: ds, r => by
    cases r with
    | cons r t => exact .cons r (rvs_data t)
theorem rvs_of {K : PySem.W.Frag} {φ : List Addr} {F : Hp} : ∀ {vs : List V} {ds : List PyData}, DpAll K F vs ds → RVs K φ F vs (ds.map AV.d)
  | _, _, .nil => .nil
  | _, _, .cons r t => .cons r (rvs_of t)
/-- (a, b, ..) of data -/
theorem je_tup {ds : List PyData} {j : Nat} (ha : JA C E S es (ds.map AV.d) S1) (hl : ds.length ≤ sizeLine := by decide) : JE C E S (.Tuple es j pos) (.d (.tuple ds)) S1 := by
  intro B σ φ F H Q hE k q
  refine ⟨tTup (WA C es), fun i => pe_tup (wa C es i), ?_⟩
  refine ha B σ φ F H _ hE k fun vs φ1 F1 H1 g1 k1 r1 => ?_
  have r := rvs_data r1
  refine ⟨by rw [dpa_len r]; exact hl, fun p hp => ?_⟩
  obtain ⟨k2, g2⟩ := k1.data (o := .tup vs) hp
  exact q _ _ _ _ (g1.trans g2) k2 (.tup (.inl (.inl upd_same)) (dpa_mono g2.ff _ _ r))
/-- [a, b, ..] of data, that is never changed -/
theorem je_lstd {ds : List PyData} (ha : JA C E S es (ds.map AV.d) S1) (hl : ds.length ≤ sizeLine := by decide) : JE C E S (.List es pos) (.d (.list ds)) S1 := by
  intro B σ φ F H Q hE k q
  refine ⟨tLst (WA C es), fun i => pe_lst (wa C es i), ?_⟩
  refine ha B σ φ F H _ hE k fun vs φ1 F1 H1 g1 k1 r1 => ?_
  have r := rvs_data r1
  refine ⟨by rw [dpa_len r]; exact hl, fun p hp => ?_⟩
  obtain ⟨k2, g2⟩ := k1.data (o := .lst vs) hp
  exact q _ _ _ _ (g1.trans g2) k2 (.lst (.inl (.inl upd_same)) (dpa_mono g2.ff _ _ r))
/-- [a, b, ..] of data, an object of the store -/
theorem je_lst {ds : List PyData} (ha : JA C E S es (ds.map AV.d) S1) (hl : ds.length ≤ sizeLine := by decide) : JE C E S (.List es pos) (.o S1.length) (S1 ++ [.ld ds]) := by
  intro B σ φ F H Q hE k q
  refine ⟨tLst (WA C es), fun i => pe_lst (wa C es i), ?_⟩
  refine ha B σ φ F H _ hE k fun vs φ1 F1 H1 g1 k1 r1 => ?_
  have r := rvs_data r1
  refine ⟨by rw [dpa_len r]; exact hl, fun p hp => ?_⟩
  obtain ⟨k2, g2⟩ := k1.new (o := .lst vs) (m := .ld ds) hp fun hF => ⟨hF, vs, upd_same, r⟩
  refine q _ _ _ _ (g1.trans g2) k2 ⟨p, ?_, rfl⟩
  rw [← k1.len]
  simp
end
end AL

namespace AL
open PySem PySem.Spec PyProof.Rows L2

/-! ### statements -/
/-- an exception: its class by name, its one field -/
structure XD where
  name : Str
  fs : Option (Str × PyData) := none
structure Po where
  nx : AE → Sto → Prop
  rt : AV → Sto → Prop
  bk : AE → Sto → Prop := fun _ _ => False
  ct : AE → Sto → Prop := fun _ _ => False
  xe : XD → AE → Sto → Prop := fun _ _ _ => False
/-- the exception as it lies in the heap -/
def RepX (b : Bs) (F H : Hp) (x : XD) (cls : Value) (d : Option Addr) : Prop := ∃ A, b.mg x.name = some (.ref A) ∧ cls = .ref A ∧ match x.fs with
  | none => d = none
  | some (f, y) => ∃ dd v, d = some dd ∧ H dd = some (.xd [(f, v)]) ∧ Dp b.K F v y
/-- the heap has grown; the addresses an stand in front -/
structure GrA (an : List Addr) (B : List Addr) (F H : Hp) (φ' : List Addr) (F' H' : Hp) : Prop where
  s : GrS B F H F' H'
  pre : ∃ ψ, φ' = an ++ ψ
theorem GrA.after {an B φ' : List Addr} {F H F1 H1 F' H' : Hp} (g : GrA an B F1 H1 φ' F' H') (g0 : GrS B F H F1 H1) : GrA an B F H φ' F' H' := ⟨g0.trans g.s, g.pre⟩
theorem GrA.gr {an B φ1 φ' : List Addr} {F H F1 H1 F' H' : Hp} (g0 : GrA an B F H φ1 F1 H1) (g : Gr B φ1 F1 H1 φ' F' H') : GrA an B F H φ' F' H' := by
  refine ⟨g0.s.trans g.s, ?_⟩
  obtain ⟨ψ, e⟩ := g0.pre
  obtain ⟨χ, e2⟩ := g.pre
  exact ⟨ψ ++ χ, by rw [e2, e, List.append_assoc]⟩
theorem GrA.preg {an B φ1 φ' : List Addr} {F H F1 H1 F' H' : Hp} (g0 : GrA an B F H φ1 F1 H1) (g : Gr B φ1 F1 H1 φ' F' H') : ∃ ψ, φ' = an ++ ψ := (g0.gr g).pre
/-- the ends that are wanted, from an abstract wish -/
structure DR (C : Fam) (B φ : List Addr) (F H : Hp) (D : Ends) (p : Po) where
  an : List Addr
  hn : C.an = false → an = []
  st : ∃ ψ, φ = an ++ ψ
  nx : ∀ (E : AE) (σ : L2.St) (φ' : List Addr) (F' H' : Hp) (S : Sto), p.nx E S → GrA an B F H φ' F' H' → EnvR C.b.K φ' F' σ E → Ok C.b.K B φ' F' H' S → D.nx σ H'
  rt : ∀ (av : AV) (v : V) (φ' : List Addr) (F' H' : Hp) (S : Sto), p.rt av S → GrA an B F H φ' F' H' → RV C.b.K φ' F' v av → Ok C.b.K B φ' F' H' S → D.rt v H'
  bk : ∀ (E : AE) (σ : L2.St) (φ' : List Addr) (F' H' : Hp) (S : Sto), p.bk E S → GrA an B F H φ' F' H' → EnvR C.b.K φ' F' σ E → Ok C.b.K B φ' F' H' S → D.bk σ H'
  ct : ∀ (E : AE) (σ : L2.St) (φ' : List Addr) (F' H' : Hp) (S : Sto), p.ct E S → GrA an B F H φ' F' H' → EnvR C.b.K φ' F' σ E → Ok C.b.K B φ' F' H' S → D.ct σ H'
  xe : ∀ (x : XD) (E : AE) (σ : L2.St) (φ' : List Addr) (F' H' : Hp) (S : Sto) (cls : Value) (d : Option Addr), p.xe x E S → GrA an B F H φ' F' H' → EnvR C.b.K φ' F' σ E → Ok C.b.K B φ' F' H' S → RepX C.b F' H' x cls d → C.W cls d σ H'
theorem DR.rf {C : Fam} {B φ : List Addr} {F H : Hp} {D : Ends} {p : Po} (d : DR C B φ F H D p) : GrA d.an B F H φ F H := ⟨.refl, d.st⟩
theorem DR.gs {C : Fam} {B φ φ1 : List Addr} {F H F1 H1 : Hp} {D : Ends} {p : Po} (d : DR C B φ F H D p) (g : Gr B φ F H φ1 F1 H1) : GrA d.an B F H φ1 F1 H1 := d.rf.gr g
def DR.goA {C : Fam} {B φ φ1 : List Addr} {F H F1 H1 : Hp} {D : Ends} {p : Po} (d : DR C B φ F H D p) (g : GrA d.an B F H φ1 F1 H1) : DR C B φ1 F1 H1 D p :=
  ⟨d.an, d.hn, g.pre, fun E σ φ F' H' S a b => d.nx E σ φ F' H' S a (b.after g.s), fun E σ φ F' H' S a b => d.rt E σ φ F' H' S a (b.after g.s), fun E σ φ F' H' S a b => d.bk E σ φ F' H' S a (b.after g.s), fun E σ φ F' H' S a b => d.ct E σ φ F' H' S a (b.after g.s), fun x E σ φ F' H' S cls dd a b => d.xe x E σ φ F' H' S cls dd a (b.after g.s)⟩
def DR.go {C : Fam} {B φ φ1 : List Addr} {F H F1 H1 : Hp} {D : Ends} {p : Po} (d : DR C B φ F H D p) (g : Gr B φ F H φ1 F1 H1) : DR C B φ1 F1 H1 D p := d.goA (d.gs g)
def JS (C : Fam) (E : AE) (S : Sto) (st : Stmt) (p : Po) : Prop := ∀ (B : List Addr) (σ : L2.St) (φ : List Addr) (F H : Hp) (D : Ends), EnvR C.b.K φ F σ E → Ok C.b.K B φ F H S → DR C B φ F H D p → WS C st D σ H
def JSs (C : Fam) (E : AE) (S : Sto) (ss : List Stmt) (p : Po) : Prop := ∀ (B : List Addr) (σ : L2.St) (φ : List Addr) (F H : Hp) (D : Ends), EnvR C.b.K φ F σ E → Ok C.b.K B φ F H S → DR C B φ F H D p → WSs C ss D σ H
/-- behind a statement the rest is to be walked -/
abbrev Po.then (p : Po) (C : Fam) (rest : List Stmt) : Po := { p with nx := fun E S => JSs C E S rest p }
section
variable {C : Fam} {E E' : AE} {S S1 S2 S3 : Sto} {a b c e tg iter : Expr} {es : List Expr} {av bv cv : AV} {avs : List AV} {pos : Pos} {st : Stmt} {rest body els : List Stmt} {p : Po}
theorem jss_nil (h : p.nx E S) : JSs C E S [] p := fun B σ φ F H D hE k d => ⟨tNext, fun _ => pss_nil, d.nx E σ φ F H S h d.rf hE k⟩
theorem jss_cons (h : JS C E S st (p.then C rest)) : JSs C E S (st :: rest) p := by
  intro B σ φ F H D hE k d
  refine ⟨tSeq (WS C st) (WSs C rest), fun i => pss_cons (ws C st i) (wss C rest i), ?_⟩
  refine h B σ φ F H _ hE k ⟨d.an, d.hn, d.st, fun E' σ' φ' F' H' S' a g hE' k' => ?_, d.rt, d.bk, d.ct, d.xe⟩
  exact a B σ' φ' F' H' D hE' k' (d.goA g)
theorem jss_mono {q : Po} (h : JSs C E S rest q) (hn : ∀ E S, q.nx E S → p.nx E S) (hr : ∀ E S, q.rt E S → p.rt E S) (hb : ∀ E S, q.bk E S → p.bk E S) (hc : ∀ E S, q.ct E S → p.ct E S) (hx : ∀ x E S, q.xe x E S → p.xe x E S := by exact fun _ _ _ q => q) : JSs C E S rest p :=
  fun B σ φ F H D hE k d => h B σ φ F H D hE k ⟨d.an, d.hn, d.st, fun E σ φ F' H' S a => d.nx E σ φ F' H' S (hn _ _ a), fun E σ φ F' H' S a => d.rt E σ φ F' H' S (hr _ _ a), fun E σ φ F' H' S a => d.bk E σ φ F' H' S (hb _ _ a), fun E σ φ F' H' S a => d.ct E σ φ F' H' S (hc _ _ a), fun x E σ φ F' H' S cls dd a => d.xe x E σ φ F' H' S cls dd (hx _ _ _ a)⟩
/-- forget slots -/
theorem jss_weak {E' : AE} (h : JSs C E' S rest p) (hl : E'.length = E.length) (w : ∀ (i : Nat) (av : AV), E'[i]? = some (some av) → E[i]? = some (some av)) : JSs C E S rest p :=
  fun B σ φ F H D hE k d => h B σ φ F H D (hE.weak hl w) k d
theorem jss_pass (h : JSs C E S rest p) : JSs C E S (.Pass pos :: rest) p :=
  jss_cons fun B σ φ F H D hE k d => ⟨tNext, fun _ => ps_pass, d.nx E σ φ F H S h d.rf hE k⟩
theorem jss_break (h : p.bk E S) : JSs C E S (.Break pos :: rest) p :=
  jss_cons fun B σ φ F H D hE k d => ⟨tBreak, fun _ => ps_break, d.bk E σ φ F H S h d.rf hE k⟩
theorem jss_cont (h : p.ct E S) : JSs C E S (.Continue pos :: rest) p :=
  jss_cons fun B σ φ F H D hE k d => ⟨tCont, fun _ => ps_continue, d.ct E σ φ F H S h d.rf hE k⟩
theorem jss_expr (he : JE C E S e av S1) (h : JSs C E S1 rest p) (hs : ∀ i : C.ι, swapsWith e none pos.line (C.V i).env = pure false := by intro _; rfl) : JSs C E S (.Expr e pos :: rest) p :=
  jss_cons fun B σ φ F H D hE k d => ⟨tDrop (WE C e), fun i => ps_expr (we C e i) (hs i), he B σ φ F H _ hE k fun v φ1 F1 H1 g1 k1 r1 => d.nx E σ φ1 F1 H1 S1 h (d.gs g1) (hE.gr g1) k1⟩
theorem jss_ret (he : JE C E S e av S1) (h : p.rt av S1) : JSs C E S (.Return (some e) pos :: rest) p :=
  jss_cons fun B σ φ F H D hE k d => ⟨tRet (WE C e), fun i => ps_ret (we C e i), he B σ φ F H _ hE k fun v φ1 F1 H1 g1 k1 r1 => d.rt av v φ1 F1 H1 S1 h (d.gs g1) r1 k1⟩
theorem jss_retN (h : p.rt (.d .none) S) : JSs C E S (.Return none pos :: rest) p :=
  jss_cons fun B σ φ F H D hE k d => ⟨tRetN, fun i => ps_retN, d.rt (.d .none) .non φ F H S h d.rf .non k⟩
theorem loc_of {x : Str} (hx : Loc C.sc x) (i : C.ι) : Loc (C.V i).env.scope x := by rw [C.hsc i]; exact hx
theorem fn_of' {x : Str} (hf : (∀ i : C.ι, (C.V i).fn x = true) ∨ C.sc.names.lookup x = some .local) (i : C.ι) : (C.cx i).fn x = true ∨ (C.cx i).env.scope.names.lookup x = some .local := by
  rcases hf with h | h
  · exact .inl (h i)
  · exact .inr (by show (C.V i).env.scope.names.lookup x = _; rw [C.hsc i]; exact h)
/-- x = e -/
theorem jss_set (j : Nat) {x : Str} {pos' : Pos} (he : JE C E S e av S1) (h : JSs C (E.set j (some av)) S1 rest p) (hi : C.N[j]? = some x := by rfl) (hx : Loc C.sc x := by first | exact .inl rfl | exact .inr rfl)
    (hs : ∀ i : C.ι, swapsWith e (some (.Name x pos')) pos.line (C.V i).env = pure false := by intro _; rfl) (hf : (∀ i : C.ι, (C.V i).fn x = true) ∨ C.sc.names.lookup x = some .local := by first | exact .inr rfl | exact .inl (fun _ => rfl)) : JSs C E S (.Assign [.Name x pos'] e pos :: rest) p :=
  jss_cons fun B σ φ F H D hE k d => ⟨tAsg (WE C e) (gName j), fun i => ps_set C.nd hi (loc_of hx i) (we C e i) (hs i) (fn_of' hf i), he B σ φ F H _ hE k fun v φ1 F1 H1 g1 k1 r1 => d.nx _ _ φ1 F1 H1 S1 h (d.gs g1) ((hE.gr g1).set r1 j) k1⟩
/-- if c: .. else: .. -/
theorem jss_if {z : Bool} (hc : JT C E S c z S1) (ht : z = true → JSs C E S1 body (p.then C rest)) (hf : z = false → JSs C E S1 els (p.then C rest)) : JSs C E S (.If c body els pos :: rest) p :=
  jss_cons fun B σ φ F H D hE k d => ⟨tIfS (WT C c) (WSs C body) (WSs C els), fun i => ps_if (wt C c i) (wss C body i) (wss C els i), hc B σ φ F H _ hE k fun φ1 F1 H1 g1 k1 => by
    cases z with
    | true => exact ht rfl B σ φ1 F1 H1 D (hE.gr g1) k1 (d.go g1)
    | false => exact hf rfl B σ φ1 F1 H1 D (hE.gr g1) k1 (d.go g1)⟩
/-- the same with what is known behind it -/
theorem jss_ifM {z : Bool} (M : AE → Sto → Prop) (hc : JT C E S c z S1) (ht : z = true → JSs C E S1 body { p with nx := M }) (hf : z = false → JSs C E S1 els { p with nx := M }) (h : ∀ E S, M E S → JSs C E S rest p) : JSs C E S (.If c body els pos :: rest) p :=
  jss_if hc (fun e => jss_mono (ht e) h (fun _ _ q => q) (fun _ _ q => q) fun _ _ q => q) fun e => jss_mono (hf e) h (fun _ _ q => q) (fun _ _ q => q) fun _ _ q => q
/-- x op= e -/
theorem jss_aug (j : Nat) {x : Str} {op : Operator} {pos' : Pos} {ti : TIp} (ho : ∀ i : C.ι, PIp (C.cx i) op ti) (hE0 : E[j]? = some (some av)) (he : JE C E S e bv S1) (hs : SR2 C.b.K S1 ti av bv cv S2) (h : JSs C (E.set j (some cv)) S2 rest p) (hi : C.N[j]? = some x := by rfl) (hx : Loc C.sc x := by first | exact .inl rfl | exact .inr rfl)
    (hf : (∀ i : C.ι, (C.V i).fn x = true) ∨ C.sc.names.lookup x = some .local := by first | exact .inr rfl | exact .inl (fun _ => rfl)) : JSs C E S (.AugAssign (.Name x pos') op e pos :: rest) p :=
  jss_cons fun B σ φ F H D hE k d => ⟨tAug j (WE C e) ti, fun i => ps_aug C.nd hi (loc_of hx i) (we C e i) (ho i) (fn_of' hf i), by
    obtain ⟨v, e1, r⟩ := hE.get j av hE0
    refine ⟨v, e1, he B σ φ F H _ hE k fun y φ1 F1 H1 g1 k1 r1 => ?_⟩
    exact hs B φ1 F1 H1 v y _ k1 (r.gr g1) r1 fun z φ2 F2 H2 g2 k2 r2 => d.nx _ _ φ2 F2 H2 S2 h (d.gs (g1.trans g2)) ((hE.gr (g1.trans g2)).set r2 j) k2⟩
/-! ### targets -/
/-- σ' is σ but for the slots is -/
def OffE (js : List Nat) (σ σ' : L2.St) : Prop := σ'.length = σ.length ∧ ∀ j, j ∉ js → σ'[j]? = σ[j]?
theorem OffE.refl {js : List Nat} {σ : L2.St} : OffE js σ σ := ⟨rfl, fun _ _ => rfl⟩
theorem OffE.trans {js : List Nat} {σ σ1 σ2 : L2.St} (h : OffE js σ σ1) (h2 : OffE js σ1 σ2) : OffE js σ σ2 := ⟨h2.1.trans h.1, fun j q => (h2.2 j q).trans (h.2 j q)⟩
theorem OffE.mono {js ks : List Nat} {σ σ1 : L2.St} (h : OffE js σ σ1) (m : ∀ j ∈ js, j ∈ ks) : OffE ks σ σ1 := ⟨h.1, fun j q => h.2 j fun z => q (m j z)⟩
def JG (C : Fam) (E : AE) (tg : Expr) (av : AV) (js : List Nat) (E' : AE) : Prop := ∀ (B : List Addr) (S : Sto) (σ : L2.St) (φ : List Addr) (F H : Hp) (v : V) (Q : L2.St → Hp → Prop), EnvR C.b.K φ F σ E → Ok C.b.K B φ F H S → RV C.b.K φ F v av →
  (∀ σ', OffE js σ σ' → EnvR C.b.K φ F σ' E' → Q σ' H) → WG C tg v σ H Q
def WGs (C : Fam) (es : List Expr) : TGs := fun v σ H Q => ∃ t : TGs, (∀ i, PGs (C.cx i) es t) ∧ t v σ H Q
theorem wgs (C : Fam) (es : List Expr) (i : C.ι) : PGs (C.cx i) es (WGs C es) := ⟨fun pins s σ H v u Q I r ⟨t, h, q⟩ => (h i).run pins s σ H v u Q I r q⟩
def JGs (C : Fam) (E : AE) (tgs : List Expr) (ds : List PyData) (js : List Nat) (E' : AE) : Prop := ∀ (B : List Addr) (S : Sto) (σ : L2.St) (φ : List Addr) (F H : Hp) (vs : List V) (Q : L2.St → Hp → Prop), EnvR C.b.K φ F σ E → Ok C.b.K B φ F H S → DpAll C.b.K F vs ds →
  (∀ σ', OffE js σ σ' → EnvR C.b.K φ F σ' E' → Q σ' H) → WGs C tgs vs σ H Q
theorem jg_name (j : Nat) {x : Str} (hi : C.N[j]? = some x := by rfl) (hx : Loc C.sc x := by first | exact .inl rfl | exact .inr rfl)
    (hf : (∀ i : C.ι, (C.V i).fn x = true) ∨ C.sc.names.lookup x = some .local := by first | exact .inr rfl | exact .inl (fun _ => rfl)) : JG C E (.Name x pos) av [j] (E.set j (some av)) :=
  fun B S σ φ F H v Q hE k r q => ⟨gName j, fun i => pg_name C.nd hi (loc_of hx i) (fn_of' hf i), q _ ⟨List.length_set, fun m hm => List.getElem?_set_ne (fun z => hm (by simp [z]))⟩ (hE.set r j)⟩
theorem jgs_nil : JGs C E [] [] [] E := fun B S σ φ F H vs Q hE k r q => ⟨gNil, fun i => pgs_nil, by cases r; exact ⟨rfl, q σ .refl hE⟩⟩
theorem jgs_cons {d : PyData} {ds : List PyData} {js ks : List Nat} {E1 E2 : AE} (h1 : JG C E a (.d d) js E1) (h2 : JGs C E1 es ds ks E2) (hs : ∀ i : C.ι, (assignEach (a :: es) (C.V i).env).map (·.2) = assign a (C.V i).env :: (assignEach es (C.V i).env).map (·.2) := by intro _; rfl) :
    JGs C E (a :: es) (d :: ds) (js ++ ks) E2 := fun B S σ φ F H vs Q hE k r q => ⟨gCons (WG C a) (WGs C es), fun i => pgs_cons (wg C a i) (wgs C es i) (hs i), by
  cases r with
  | cons r rr => exact ⟨_, _, rfl, h1 B S σ φ F H _ _ hE k r fun σ1 o1 hE1 => h2 B S σ1 φ F H _ Q hE1 k rr fun σ2 o2 hE2 => q σ2 ((o1.mono fun j hj => List.mem_append_left _ hj).trans (o2.mono fun j hj => List.mem_append_right _ hj)) hE2⟩⟩
theorem jg_tup {ds : List PyData} {js : List Nat} {j : Nat} (h : JGs C E es ds js E') (hn : ∀ i : C.ι, (assignEach es (C.V i).env).length = ds.length := by intro _; rfl) (hst : ∀ i : C.ι, (assignEach es (C.V i).env).findIdx? (·.1) = none := by intro _; rfl) (hh : C.hot = false := by rfl) : JG C E (.Tuple es j pos) (.d (.tuple ds)) js E' :=
  fun B S σ φ F H v Q hE k r q => ⟨gTup C.b.K ds.length (WGs C es), fun i => pg_tup (C.calm hh i) (wgs C es i) (hn i) (hst i), by
    cases r with
    | tup hs ha =>
      refine ⟨_, _, rfl, ?_, dpa_len ha, h B S σ φ F H _ Q hE k ha q⟩
      rcases hs with (hs | ⟨o, hs⟩) | hs
      · exact .inl (.inl (k.sub _ _ hs))
      · exact .inl (.inr ⟨o, k.sub _ _ hs⟩)
      · exact .inr hs⟩
/-- target = e -/
theorem jss_asg {js : List Nat} (he : JE C E S e av S1) (hg : JG C E tg av js E') (h : JSs C E' S1 rest p) (hs : ∀ i : C.ι, swapsWithSole [tg] e pos.line (C.V i).env = pure false := by intro _; rfl) (hw : ∀ i : C.ι, swappedStores [tg] e (C.V i).env = pure none := by intro _; rfl) (h1 : ∀ i : C.ι, (assignEach [tg] (C.V i).env).map (·.2) = [assign tg (C.V i).env] := by intro _; rfl) : JSs C E S (.Assign [tg] e pos :: rest) p :=
  jss_cons fun B σ φ F H D hE k d => ⟨tAsg (WE C e) (WG C tg), fun i => ps_asg (we C e i) (wg C tg i) (hs i) (hw i) (h1 i), he B σ φ F H _ hE k fun v φ1 F1 H1 g1 k1 r1 =>
    hg B S1 σ φ1 F1 H1 v _ (hE.gr g1) k1 r1 fun σ' _ hE' => d.nx _ _ φ1 F1 H1 S1 h (d.gs g1) hE' k1⟩
/-! ### what is walked -/
def WI (C : Fam) (tg iter : Expr) : TI := fun σ H R => ∃ t : TI, (∀ i, PI (C.cx i) tg iter t) ∧ t σ H R
theorem wi (C : Fam) (tg iter : Expr) (i : C.ι) : PI (C.cx i) tg iter (WI C tg iter) := ⟨fun pins s σ H Q I ⟨t, h, q⟩ => (h i).run pins s σ H Q I q⟩
/-- the iterator J yields the data ds -/
def ItOk (K : PySem.W.Frag) (B : List Addr) (F1 : Hp) (J : It) (ds : List PyData) : Prop := ∀ (φ : List Addr) (F H : Hp) (S : Sto), Same F1 F → Ok K B φ F H S →
  (∀ i d, ds[i]? = some d → J.go i H ∧ ∀ x H', J.yld i H x H' → ∃ F', Gr B φ F H φ F' H' ∧ Ok K B φ F' H' S ∧ Dp K F' x d) ∧ J.stop ds.length H
def JI (C : Fam) (E : AE) (S : Sto) (tg iter : Expr) (ds : List PyData) (S' : Sto) : Prop := ∀ (B : List Addr) (σ : L2.St) (φ : List Addr) (F H : Hp) (R : It → Hp → Prop), EnvR C.b.K φ F σ E → Ok C.b.K B φ F H S →
  (∀ J φ1 F1 H1, Gr B φ F H φ1 F1 H1 → Ok C.b.K B φ1 F1 H1 S' → ItOk C.b.K B F1 J ds → R J H1) → WI C tg iter σ H R
theorem Ok.seqL {K : PySem.W.Frag} {B φ : List Addr} {F H : Hp} {S : Sto} (k : Ok K B φ F H S) {a : Addr} {xs : List V} (h : SqL K F a xs) : SqL K H a xs := k.sub.seq h
theorem same_seqT {K : PySem.W.Frag} {F H : Hp} (k : Same F H) {a : Addr} {xs : List V} (hs : SqT K F a xs) : SqT K H a xs := by
  rcases hs with (hs | ⟨o, hs⟩) | hs
  · exact .inl (.inl (k _ _ hs))
  · exact .inl (.inr ⟨o, k _ _ hs⟩)
  · exact .inr hs
theorem ji_list {ds : List PyData} (h : JE C E S iter (.d (.list ds)) S1) : JI C E S tg iter ds S1 := by
  intro B σ φ F H R hE k q
  refine ⟨iList C.b.K (WE C iter), fun i => pi_list (we C iter i), h B σ φ F H _ hE k fun v φ1 F1 H1 g1 k1 r1 => ?_⟩
  cases r1 with
  | @lst a xs _ hs ha =>
    refine ⟨a, rfl, ⟨xs, k1.seqL hs⟩, q _ φ1 F1 H1 g1 k1 fun ψ F2 H2 S2 s2 k2 => ?_⟩
    have hs2 : SqL C.b.K H2 a xs := k2.seqL (s2.seq hs)
    refine ⟨fun i d hd => ?_, ⟨xs, hs2, by rw [dpa_len ha]; exact Nat.le_refl _⟩⟩
    obtain ⟨x, hx, rx⟩ := dpa_get' ha hd
    refine ⟨⟨xs, x, hs2, hx⟩, fun y H' hy => ?_⟩
    obtain ⟨rfl, hy⟩ := hy
    have e := (hy xs hs2).symm.trans hx
    cases e
    exact ⟨F2, .refl, k2, dp_mono s2 _ _ rx⟩
theorem ji_tup {ds : List PyData} (h : JE C E S iter (.d (.tuple ds)) S1) : JI C E S tg iter ds S1 := by
  intro B σ φ F H R hE k q
  refine ⟨iTup C.b.K (WE C iter), fun i => pi_tup (we C iter i), h B σ φ F H _ hE k fun v φ1 F1 H1 g1 k1 r1 => ?_⟩
  cases r1 with
  | @tup a xs _ hs ha =>
    refine ⟨a, rfl, ⟨xs, same_seqT k1.sub hs⟩, q _ φ1 F1 H1 g1 k1 fun ψ F2 H2 S2 s2 k2 => ?_⟩
    have hs2 : SqT C.b.K H2 a xs := same_seqT k2.sub (same_seqT s2 hs)
    refine ⟨fun i d hd => ?_, ⟨xs, hs2, by rw [dpa_len ha]; exact Nat.le_refl _⟩⟩
    obtain ⟨x, hx, rx⟩ := dpa_get' ha hd
    refine ⟨⟨xs, x, hs2, hx⟩, fun y H' hy => ?_⟩
    obtain ⟨rfl, hy⟩ := hy
    have e := (hy xs hs2).symm.trans hx
    cases e
    exact ⟨F2, .refl, k2, dp_mono s2 _ _ rx⟩
/-- the numbers lo, lo + 1, .. -/
def rngD (lo : Int) (n : Nat) : List PyData := (List.range n).map fun (i : Nat) => PyData.int (lo + (i : Int))
theorem rngD_get {lo : Int} {n i : Nat} {d : PyData} (h : (rngD lo n)[i]? = some d) : i < n ∧ d = .int (lo + i) := by
  unfold rngD at h
  rw [List.getElem?_map] at h
  by_cases hi : i < n
  · rw [List.getElem?_range hi] at h
    cases h
    exact ⟨hi, rfl⟩
  · rw [List.getElem?_eq_none (by simpa using hi)] at h
    cases h
theorem rngD_len (lo : Int) (n : Nat) : (rngD lo n).length = n := by simp [rngD]
theorem itr_ok {K : PySem.W.Frag} {B : List Addr} {F1 : Hp} {lo : Int} {n : Nat} : ItOk K B F1 (Itr lo n) (rngD lo n) := by
  intro φ F H S s k
  refine ⟨fun i d hd => ?_, by rw [rngD_len]; exact Nat.le_refl _⟩
  obtain ⟨hi, rfl⟩ := rngD_get hd
  refine ⟨hi, fun x H' hy => ?_⟩
  obtain ⟨rfl, rfl⟩ := hy
  exact ⟨F, .refl, k, .int _⟩
theorem ji_range1 {n : Int} {q pos : Pos} (h : JA C E S [a] [.d (.int n)] S1) (hm : C.b.mg "range" = none) (h1 : -(2 ^ 62) ≤ n) (h2 : n < 2 ^ 62) (hg : C.sc.names.lookup ("range" : Str) = some .globalImplicit := by rfl) (hs : ∀ i : C.ι, starEach [a] (C.V i).env = [(false, eval a (C.V i).env)] := by intro _; rfl) :
    JI C E S tg (.Call (.Name "range" q) [a] [] pos) (rngD 0 n.toNat) S1 := by
  intro B σ φ F H R hE k q
  refine ⟨iRng1 (WA C [a]), fun i => pi_range1 (gl_of hg i) hm (wa C [a] i) (hs i), h B σ φ F H _ hE k fun vs φ1 F1 H1 g1 k1 r1 => ?_⟩
  cases r1 with
  | cons r r' =>
    cases r'
    cases r
    exact ⟨n, rfl, h1, h2, q _ φ1 F1 H1 g1 k1 itr_ok⟩
theorem ji_range2 {lo hi : Int} {q pos : Pos} (h : JA C E S [a, b] [.d (.int lo), .d (.int hi)] S1) (hm : C.b.mg "range" = none) (hb : -(2 ^ 62) ≤ lo ∧ lo < 2 ^ 62 ∧ -(2 ^ 62) ≤ hi ∧ hi < 2 ^ 62) (hg : C.sc.names.lookup ("range" : Str) = some .globalImplicit := by rfl)
    (hs : ∀ i : C.ι, starEach [a, b] (C.V i).env = [(false, eval a (C.V i).env), (false, eval b (C.V i).env)] := by intro _; rfl) (hs2 : ∀ i : C.ι, starEach [b] (C.V i).env = [(false, eval b (C.V i).env)] := by intro _; rfl) :
    JI C E S tg (.Call (.Name "range" q) [a, b] [] pos) (rngD lo (hi - lo).toNat) S1 := by
  intro B σ φ F H R hE k q
  refine ⟨iRng2 (WA C [a, b]), fun i => pi_range2 (gl_of hg i) hm (wa C [a, b] i) (hs i) (hs2 i), h B σ φ F H _ hE k fun vs φ1 F1 H1 g1 k1 r1 => ?_⟩
  cases r1 with
  | cons r r' =>
    cases r' with
    | cons r2 r'' =>
      cases r''
      cases r
      cases r2
      exact ⟨lo, hi, rfl, hb, q _ φ1 F1 H1 g1 k1 itr_ok⟩
/-- for target in iter: body -/
theorem jss_for {ds : List PyData} (hi : JI C E S tg iter ds S1) (Inv : Nat → AE → Sto → Prop) (h0 : Inv 0 E S1)
    (step : ∀ i d E' S', ds[i]? = some d → Inv i E' S' → ∃ js E'', JG C E' tg (.d d) js E'' ∧ JSs C E'' S' body { nx := Inv (i + 1), ct := Inv (i + 1), rt := p.rt, bk := fun E S => JSs C E S rest p, xe := p.xe })
    (fin : ∀ E' S', Inv ds.length E' S' → JSs C E' S' rest p) (hs : ∀ (i : C.ι) x, foldedSetIterable iter (C.V i).env x = pure x := by intro _ _; rfl) (hh : C.hot = false := by rfl) : JSs C E S (.For tg iter body [] pos :: rest) p := by
  refine jss_cons fun B σ φ F H D hE k d => ⟨tFor (WI C tg iter) (WG C tg) (WSs C body), fun i => ps_for (C.po hh i) (C.calm hh i) (wi C tg iter i) (wg C tg i) (wss C body i) (hs i), ?_⟩
  refine hi B σ φ F H _ hE k fun J φ1 F1 H1 g1 k1 it => ?_
  refine ⟨fun i m σ' H' => ∃ E' S' φ' F', m = ds.length - i ∧ i ≤ ds.length ∧ Inv i E' S' ∧ GrA d.an B F H φ' F' H' ∧ Same F1 F' ∧ EnvR C.b.K φ' F' σ' E' ∧ Ok C.b.K B φ' F' H' S', ⟨_, E, S1, φ1, F1, rfl, Nat.zero_le _, h0, d.gs g1, Same.refl _, hE.gr g1, k1⟩, ?_⟩
  rintro i m σ' H' ⟨E', S', φ', F', rfl, hle, inv, gs, s1, hE', k'⟩
  obtain ⟨go, stop⟩ := it φ' F' H' S' s1 k'
  by_cases hlt : i < ds.length
  · have hd : ds[i]? = some ds[i] := by simp [hlt]
    obtain ⟨g, y⟩ := go i _ hd
    obtain ⟨js, E'', hg, hb⟩ := step i _ E' S' hd inv
    refine .inr ⟨g, fun σ2 H2 => ∃ E2 S2 φ2 F2, Inv (i + 1) E2 S2 ∧ GrA d.an B F H φ2 F2 H2 ∧ Same F1 F2 ∧ EnvR C.b.K φ2 F2 σ2 E2 ∧ Ok C.b.K B φ2 F2 H2 S2, fun σ2 H2 z => ?_, fun x H2 hy => ?_⟩
    · obtain ⟨E2, S2, φ2, F2, a1, a2, a3, a4, a5⟩ := z
      exact ⟨ds.length - (i + 1), by omega, E2, S2, φ2, F2, rfl, hlt, a1, a2, a3, a4, a5⟩
    · obtain ⟨F2, g2, k2, rx⟩ := y x H2 hy
      refine hg B S' σ' φ' F2 H2 x _ (hE'.gr g2) k2 rx fun σ3 _ hE3 => ?_
      refine hb B σ3 φ' F2 H2 _ hE3 k2 ⟨d.an, d.hn, gs.preg g2, ?_, ?_, ?_, ?_, fun x E4 σ4 φ4 F4 H4 S4 cls dd a g4 hE4 k4 => d.xe x E4 σ4 φ4 F4 H4 S4 cls dd a (g4.after (gs.s.trans g2.s)) hE4 k4⟩
      · exact fun E4 σ4 φ4 F4 H4 S4 a g4 hE4 k4 => ⟨E4, S4, φ4, F4, a, g4.after (gs.s.trans g2.s), s1.trans (g2.ff.trans g4.s.ff), hE4, k4⟩
      · exact fun av v φ4 F4 H4 S4 a g4 r4 k4 => d.rt av v φ4 F4 H4 S4 a (g4.after (gs.s.trans g2.s)) r4 k4
      · exact fun E4 σ4 φ4 F4 H4 S4 a g4 hE4 k4 => d.nx E4 σ4 φ4 F4 H4 S4 a (g4.after (gs.s.trans g2.s)) hE4 k4
      · exact fun E4 σ4 φ4 F4 H4 S4 a g4 hE4 k4 => ⟨E4, S4, φ4, F4, a, g4.after (gs.s.trans g2.s), s1.trans (g2.ff.trans g4.s.ff), hE4, k4⟩
  · have e : i = ds.length := by omega
    subst e
    exact .inl ⟨stop, d.nx E' σ' φ' F' H' S' (fin E' S' inv) gs hE' k'⟩
/-- while c: body -/
theorem jss_while (Inv : Nat → AE → Sto → Prop) (h0 : ∃ m, Inv m E S)
    (step : ∀ m E' S', Inv m E' S' → ∃ z S'', JT C E' S' c z S'' ∧ (z = true → JSs C E' S'' body { nx := fun E S => ∃ m', m' < m ∧ Inv m' E S, ct := fun E S => ∃ m', m' < m ∧ Inv m' E S, rt := p.rt, bk := fun E S => JSs C E S rest p, xe := p.xe }) ∧ (z = false → JSs C E' S'' rest p)) (hh : C.hot = false := by rfl) : JSs C E S (.While c body [] pos :: rest) p := by
  refine jss_cons fun B σ φ F H D hE k d => ⟨tWhile (WT C c) (WSs C body), fun i => ps_while (C.po hh i) (wt C c i) (wss C body i), ?_⟩
  obtain ⟨m0, h0⟩ := h0
  refine ⟨fun m σ' H' => ∃ E' S' φ' F', Inv m E' S' ∧ GrA d.an B F H φ' F' H' ∧ EnvR C.b.K φ' F' σ' E' ∧ Ok C.b.K B φ' F' H' S', ⟨m0, E, S, φ, F, h0, d.rf, hE, k⟩, ?_⟩
  rintro m σ' H' ⟨E', S', φ', F', inv, gs, hE', k'⟩
  obtain ⟨z, S'', ht, hb, hf⟩ := step m E' S' inv
  refine ht B σ' φ' F' H' _ hE' k' fun φ2 F2 H2 g2 k2 => ?_
  cases z with
  | false => exact d.nx E' σ' φ2 F2 H2 S'' (hf rfl) (gs.gr g2) (hE'.gr g2) k2
  | true =>
    refine ⟨fun σ2 H2 => ∃ m', m' < m ∧ ∃ E2 S2 φ2 F2, Inv m' E2 S2 ∧ GrA d.an B F H φ2 F2 H2 ∧ EnvR C.b.K φ2 F2 σ2 E2 ∧ Ok C.b.K B φ2 F2 H2 S2, fun σ2 H2 z => ?_, ?_⟩
    · obtain ⟨m', hm, E2, S2, φ2, F2, a⟩ := z
      exact ⟨m', hm, E2, S2, φ2, F2, a⟩
    · refine hb rfl B σ' φ2 F2 H2 _ (hE'.gr g2) k2 ⟨d.an, d.hn, gs.preg g2, ?_, ?_, ?_, ?_, fun x E4 σ4 φ4 F4 H4 S4 cls dd a g4 hE4 k4 => d.xe x E4 σ4 φ4 F4 H4 S4 cls dd a (g4.after (gs.s.trans g2.s)) hE4 k4⟩
      · rintro E4 σ4 φ4 F4 H4 S4 ⟨m', hm, a⟩ g4 hE4 k4
        exact ⟨m', hm, E4, S4, φ4, F4, a, g4.after (gs.s.trans g2.s), hE4, k4⟩
      · exact fun av v φ4 F4 H4 S4 a g4 r4 k4 => d.rt av v φ4 F4 H4 S4 a (g4.after (gs.s.trans g2.s)) r4 k4
      · exact fun E4 σ4 φ4 F4 H4 S4 a g4 hE4 k4 => d.nx E4 σ4 φ4 F4 H4 S4 a (g4.after (gs.s.trans g2.s)) hE4 k4
      · rintro E4 σ4 φ4 F4 H4 S4 ⟨m', hm, a⟩ g4 hE4 k4
        exact ⟨m', hm, E4, S4, φ4, F4, a, g4.after (gs.s.trans g2.s), hE4, k4⟩
end
end AL

namespace AL
open PySem PySem.Spec PyProof.Rows L2

/-! ### comprehensions -/
abbrev blkV (v : CV) (N : List Str) (s : Shared) (H : Hp) (scope : Scope) (cenv : Env) (fp : List Addr) : CV :=
  ⟨v.A, s, H, cenv, v.stack, v.stack, fp, fun x => scope.names.lookup x == some .cell, v.calm, [], fun _ _ => False⟩
abbrev BI (ι : Type) : Type := ι × Shared × Hp × Addr × List (Str × Addr) × List Addr
/-- the contexts of a comprehension's block -/
def Fam.blk (C : Fam) (scope : Scope) : Fam where
  b := C.b
  N := C.N
  k := C.k
  ι := BI C.ι
  V := fun j => blkV (C.V j.1) C.N j.2.1 j.2.2.1 scope (compEnvC scope j.2.2.2.2.1 j.2.2.2.1 (C.V j.1).env) j.2.2.2.2.2
  nd := C.nd
  hot := C.hot
  hr := fun h j => C.hr h j.1
  calm := fun h j => C.calm h j.1
  sc := relS scope C.sc
  hsc := fun j => by show relS scope (C.V j.1).env.scope = _; rw [C.hsc j.1]
  po := fun _ j => PassesOwn.never
  W := fun _ _ _ _ => False
  nn := false
  tk := fun j => takes0
  an := C.an
def wipeE (E : AE) : List Nat → AE
  | [] => E
  | v :: vs => (wipeE E vs).set v none
section
variable {K : PySem.W.Frag} {B φ φ' : List Addr} {F F' H H' : Hp} {S : Sto} {σ : L2.St} {E : AE}
theorem wipeE_len (E : AE) : ∀ vs : List Nat, (wipeE E vs).length = E.length
  | [] => rfl
  | v :: vs => by unfold wipeE; rw [List.length_set, wipeE_len E vs]
theorem EnvR.wipe (h : EnvR K φ F σ E) : ∀ vs : List Nat, EnvR K φ F (L2.wipe σ vs) (wipeE E vs)
  | [] => h
  | v :: vs => by
    have ih := h.wipe vs
    refine ⟨by rw [L2.wipe_length, wipeE_len]; exact h.len, fun i av e => ?_⟩
    unfold wipeE at e
    unfold L2.wipe
    by_cases hi : v = i
    · subst hi
      by_cases hv : v < (wipeE E vs).length
      · rw [List.getElem?_set_self hv] at e; cases e
      · rw [List.getElem?_eq_none (by simpa using hv)] at e; cases e
    · rw [List.getElem?_set_ne hi] at e
      rw [List.getElem?_set_ne hi]
      exact ih.get i av e
theorem wipe_get (σ : L2.St) : ∀ (vs : List Nat) (j : Nat), (L2.wipe σ vs)[j]? = if j ∈ vs then (if j < σ.length then some none else none) else σ[j]?
  | [], j => by simp [L2.wipe]
  | v :: vs, j => by
    unfold L2.wipe
    rw [List.getElem?_set, wipe_length, wipe_get σ vs j]
    by_cases h : v = j
    · subst h
      simp
    · rw [if_neg h]
      have h' : ¬ j = v := fun e => h e.symm
      simp [h']
theorem OffE.wipe {js vs : List Nat} {σ1 : L2.St} (o : OffE js (L2.wipe σ vs) σ1) (h : ∀ j ∈ js, j ∈ vs) : L2.wipe σ1 vs = L2.wipe σ vs := by
  apply List.ext_getElem?
  intro j
  have hl : σ1.length = σ.length := by rw [o.1, wipe_length]
  rw [wipe_get, wipe_get, hl]
  by_cases hj : j ∈ vs
  · rw [if_pos hj, if_pos hj]
  · rw [if_neg hj, if_neg hj, o.2 j (fun z => hj (h j z)), wipe_get, if_neg hj]
end
theorem paired_two {α β : Type} {P Q R : α → β → Prop} (f : ∀ x0 x y, P x0 y → Q x y → R x y) : ∀ {l0 l : List α} {m : List β}, Paired P l0 m → Paired Q l m → Paired R l m
  | _, _, _, .nil, .nil => .nil
  | _, _, _, .cons p t, .cons q u => .cons (f _ _ _ p q) (paired_two f t u)
def WTs (C : Fam) (e : List Expr) : TT := fun σ H Q => ∃ t : TT, (∀ i, PTs (C.cx i) e t) ∧ t σ H Q
theorem wts (C : Fam) (e : List Expr) (i : C.ι) : PTs (C.cx i) e (WTs C e) := ⟨fun pins s σ H Q I ⟨t, h, q⟩ => (h i).run pins s σ H Q I q⟩
def JTs (C : Fam) (E : AE) (S : Sto) (es : List Expr) (c : Bool) : Prop := ∀ (B : List Addr) (σ : L2.St) (φ : List Addr) (F H : Hp) (Q : Bool → Hp → Prop), EnvR C.b.K φ F σ E → Ok C.b.K B φ F H S →
  (∀ φ' F' H', Gr B φ F H φ' F' H' → Ok C.b.K B φ' F' H' S → Q c H') → WTs C es σ H Q
section
variable {C : Fam} {E E' : AE} {S S1 S2 S3 : Sto} {a b c e tg iter elt : Expr} {es ifs : List Expr} {av bv cv : AV} {avs : List AV} {pos : Pos} {st : Stmt} {rest body els : List Stmt} {p : Po} {scope : Scope}
theorem jts_nil : JTs C E S [] true := fun B σ φ F H Q hE k q => ⟨tYes, fun _ => pts_nil, q φ F H .refl k⟩
theorem jts_one {z : Bool} (h : JT C E S c z S) : JTs C E S [c] z := fun B σ φ F H Q hE k q => ⟨WT C c, fun i => pts_one (wt C c i), h B σ φ F H Q hE k q⟩
/-- [elt for tg in iter if ..]: data; g: what each item gives -/
theorem lc_ok {ds : List PyData} {own : List (Str × Nat)} (hi : JI C E S tg iter ds S1) (g : Nat → Option PyData)
    (step : ∀ i d, ds[i]? = some d → ∃ js E', (∀ j ∈ js, j ∈ own.map (·.2)) ∧ JG (C.blk scope) (wipeE E (own.map (·.2))) tg (.d d) js E' ∧ ∃ z, (∀ T, JTs (C.blk scope) E' (S1 ++ [T]) ifs z) ∧
      (z = false → g i = none) ∧ (z = true → ∃ y, g i = some y ∧ ∀ T, JE (C.blk scope) E' (S1 ++ [T]) elt (.d y) (S1 ++ [T])))
    (hl : ds.length ≤ sizeLine) {B : List Addr} {σ : L2.St} {φ : List Addr} {F H : Hp} {Q : VK} (hE : EnvR C.b.K φ F σ E) (k : Ok C.b.K B φ F H S)
    (q : ∀ v φ' F' H', Gr B φ F H φ' F' H' → Ok C.b.K B φ' F' H' S1 → RV C.b.K φ' F' v (.d (.list ((List.range ds.length).filterMap g))) → Q v H') :
    tLc (WI C tg iter) (WG (C.blk scope) tg) (WTs (C.blk scope) ifs) (WE (C.blk scope) elt) (own.map (·.2)) σ H Q := by
  refine hi B σ φ F H _ hE k fun J φ1 F1 H1 g1 k1 it => fun D hD => ?_
  have hDF : F1 D = none := k1.sub.free hD
  obtain ⟨k2, g2⟩ := k1.new (o := .lst []) (m := .ld []) hD fun hF => ⟨hF, [], upd_same, .nil⟩
  -- the state at a turn: the list at D, the store's last
  refine ⟨fun i m H' => ∃ φ' F' acc, m = ds.length - i ∧ i ≤ ds.length ∧ acc = (List.range i).filterMap g ∧ (∃ ψ, φ' = φ1 ++ [D] ++ ψ) ∧ Gr B (φ1 ++ [D]) F1 (upd H1 D (.lst [])) φ' F' H' ∧ Ok C.b.K B φ' F' H' (S1 ++ [.ld acc]),
    ⟨ds.length, φ1 ++ [D], F1, [], by simp, Nat.zero_le _, by simp, ⟨[], by simp⟩, .refl, k2⟩, ?_⟩
  rintro i m H' ⟨φ', F', acc, rfl, hle, hacc, ⟨ψ, hψ⟩, gr, k'⟩
  have hlen : φ'.length = S1.length + 1 := by rw [k'.len, List.length_append, List.length_singleton]
  have hψ0 : ψ = [] := by
    rw [hψ, List.length_append, List.length_append, List.length_singleton, k1.len] at hlen
    exact List.length_eq_zero_iff.mp (by omega)
  subst hψ0
  rw [List.append_nil] at hψ
  subst hψ
  have hDφ : (φ1 ++ [D])[S1.length]? = some D := by rw [← k1.len]; simp
  have hSl : (S1 ++ [MO.ld acc])[S1.length]? = some (.ld acc) := by simp
  obtain ⟨nF, vs, hH, ra⟩ := k'.own _ _ _ hDφ hSl
  have hacl : acc.length ≤ i := by
    rw [hacc]
    refine Nat.le_trans (List.length_filterMap_le _ _) ?_
    simp
  obtain ⟨go, stop⟩ := it _ F' H' _ gr.ff k'
  by_cases hlt : i < ds.length
  · have hd : ds[i]? = some ds[i] := by simp [hlt]
    obtain ⟨hg, y⟩ := go i _ hd
    obtain ⟨js, E', hjs, jg, z, hz, z0, z1⟩ := step i _ hd
    refine .inr ⟨hg, fun H2 => ∃ F2, Gr B (φ1 ++ [D]) F1 (upd H1 D (.lst [])) (φ1 ++ [D]) F2 H2 ∧ Ok C.b.K B (φ1 ++ [D]) F2 H2 (S1 ++ [.ld ((List.range (i + 1)).filterMap g)]), fun H2 z => ?_, fun x H2 hy => ?_⟩
    · obtain ⟨F2, a1, a2⟩ := z
      exact ⟨ds.length - (i + 1), by omega, φ1 ++ [D], F2, _, rfl, hlt, rfl, ⟨[], by simp⟩, a1, a2⟩
    · obtain ⟨F2, g2', k2', rx⟩ := y x H2 hy
      have hEw : EnvR C.b.K (φ1 ++ [D]) F2 (L2.wipe σ (own.map (·.2))) (wipeE E (own.map (·.2))) := EnvR.wipe (((hE.gr g1).gr g2).gr (gr.trans g2')) _
      refine jg B _ _ _ F2 H2 x _ hEw k2' rx fun σ3 o3 hE3 => ?_
      refine ⟨o3.wipe hjs, ?_⟩
      refine hz (.ld acc) B σ3 _ F2 H2 _ hE3 k2' fun φ3 F3 H3 g3 k3 => ?_
      have hφ3 : φ3 = φ1 ++ [D] := by
        obtain ⟨χ, e⟩ := g3.pre
        have := k3.len
        rw [e, List.length_append, hlen, List.length_append, List.length_singleton] at this
        rw [e, List.length_eq_zero_iff.mp (show χ.length = 0 by omega), List.append_nil]
      subst hφ3
      have er : (List.range (i + 1)).filterMap g = acc ++ (match g i with | some y => [y] | none => []) := by
        rw [List.range_succ, List.filterMap_append, ← hacc]
        cases hgi : g i <;> simp [hgi]
      cases z with
      | false =>
        refine ⟨F3, gr.trans (g2'.trans g3), ?_⟩
        rw [er, z0 rfl, List.append_nil]
        exact k3
      | true =>
        obtain ⟨y0, hy0, je⟩ := z1 rfl
        refine je (.ld acc) B σ3 _ F3 H3 _ (hE3.gr g3) k3 fun v φ4 F4 H4 g4 k4 r4 => ?_
        have hφ4 : φ4 = φ1 ++ [D] := by
          obtain ⟨χ, e⟩ := g4.pre
          have := k4.len
          rw [e, List.length_append, hlen, List.length_append, List.length_singleton] at this
          rw [e, List.length_eq_zero_iff.mp (show χ.length = 0 by omega), List.append_nil]
        subst hφ4
        obtain ⟨nF4, vs4, hH4, ra4⟩ := k4.own _ _ _ hDφ hSl
        refine ⟨vs4, hH4, by rw [dpa_len ra4]; exact Nat.lt_of_le_of_lt hacl (Nat.lt_of_lt_of_le hlt hl), F4, ?_⟩
        obtain ⟨k5, g5⟩ := k4.put (o := .lst (vs4 ++ [v])) (m := .ld (acc ++ [y0])) hDφ ⟨nF4, _, upd_same, dpa_app ra4 (.cons r4 .nil)⟩ nF4
        refine ⟨gr.trans (g2'.trans (g3.trans (g4.trans g5))), ?_⟩
        rw [er, hy0]
        have : (S1 ++ [MO.ld acc]).set S1.length (.ld (acc ++ [y0])) = S1 ++ [.ld (acc ++ [y0])] := by simp
        rw [this] at k5
        exact k5
  · have e : i = ds.length := by omega
    subst e
    refine .inl ⟨stop, ?_⟩
    -- the list is frozen
    have sF : Same F' (upd F' D (.lst vs)) := fun b u e => by rw [upd_ne (ne_of_none e nF)]; exact e
    have hDφ1 : D ∉ φ1 := fun hm => by
      have := k'.nd
      rw [List.nodup_append] at this
      exact this.2.2 D hm D (by simp) rfl
    have k6 : Ok C.b.K B φ1 (upd F' D (.lst vs)) H' S1 := by
      refine ⟨fun b u e => ?_, k1.nd, k1.dis, k'.bs, k1.len, fun l a o h1 h2 => ?_⟩
      · by_cases hb : b = D
        · subst hb; rw [upd_same] at e; cases e; exact hH
        · rw [upd_ne hb] at e; exact k'.sub _ _ e
      · have hl1 : l < φ1.length := (List.getElem?_eq_some_iff.mp h1).1
        have ha : a ≠ D := fun e => hDφ1 (e ▸ List.mem_of_getElem? h1)
        have r0 := k1.own l a o h1 h2
        have r := k'.own l a o (by rw [List.getElem?_append_left hl1]; exact h1) (by rw [List.getElem?_append_left (by rw [← k1.len]; exact hl1)]; exact h2)
        -- the places of o stand in φ1
        have rv : ∀ (x : V) (w : AV), (∃ x0, RV C.b.K φ1 F1 x0 w) → RV C.b.K (φ1 ++ [D]) F' x w → RV C.b.K φ1 (upd F' D (.lst vs)) x w := fun x w ⟨x0, h0⟩ h => by
          cases w with
          | d y => exact dp_mono sF _ _ h
          | o m =>
            obtain ⟨a0, e0, _⟩ := h0
            obtain ⟨a1, e1, r1⟩ := h
            rw [List.getElem?_append_left (List.getElem?_eq_some_iff.mp e0).1] at e1
            exact ⟨a1, e1, r1⟩
          | v y => exact h
        cases o with
        | dead => exact r
        | ld xs => obtain ⟨n, ws, e, r⟩ := r; exact ⟨by rw [upd_ne ha]; exact n, ws, e, dpa_mono sF _ _ r⟩
        | lst xs =>
          obtain ⟨n, ws, e, r⟩ := r
          obtain ⟨_, ws0, _, r0⟩ := r0
          exact ⟨by rw [upd_ne ha]; exact n, ws, e, paired_two (fun x0 x y q0 q1 => rv x y ⟨x0, q0⟩ q1) r0 r⟩
        | dd kvs => obtain ⟨n, ws, e, r⟩ := r; exact ⟨by rw [upd_ne ha]; exact n, ws, e, Paired.mapP r fun _ _ q => ⟨q.1, dp_mono sF _ _ q.2⟩⟩
        | dk kvs =>
          obtain ⟨n, ws, e, r⟩ := r
          obtain ⟨_, ws0, _, r0⟩ := r0
          exact ⟨by rw [upd_ne ha]; exact n, ws, e, paired_two (fun p0 p q' q0 q1 => ⟨q1.1, rv p.2 q'.2 ⟨p0.2, q0.2⟩ q1.2⟩) r0 r⟩
        | ins Cc fs =>
          obtain ⟨n, dx, ws, e, r⟩ := r
          obtain ⟨_, _, ws0, _, r0⟩ := r0
          exact ⟨by rw [upd_ne ha]; exact n, dx, ws, e, paired_two (fun p0 p q' q0 q1 => ⟨q1.1, rv p.2 q'.2 ⟨p0.2, q0.2⟩ q1.2⟩) r0 r⟩
        | dt kvs => obtain ⟨n, ws, e, r⟩ := r; exact ⟨by rw [upd_ne ha]; exact n, ws, e, Paired.mapP r fun _ _ q => ⟨q.1, dp_mono sF _ _ q.2⟩⟩
        | fd kvs => obtain ⟨o, ws, n, e, r⟩ := r; exact ⟨o, ws, by rw [upd_ne ha]; exact n, e, Paired.mapP r fun _ _ q => ⟨q.1, dp_mono sF _ _ q.2⟩⟩
        | fk kvs =>
          obtain ⟨o, ws, n, e, r⟩ := r
          obtain ⟨_, ws0, _, _, r0⟩ := r0
          exact ⟨o, ws, by rw [upd_ne ha]; exact n, e, paired_two (fun p0 p q' q0 q1 => ⟨q1.1, rv p.2 q'.2 ⟨p0.2, q0.2⟩ q1.2⟩) r0 r⟩
        | ft kvs => obtain ⟨o, ws, n, e, r⟩ := r; exact ⟨o, ws, by rw [upd_ne ha]; exact n, e, Paired.mapP r fun _ _ q => ⟨q.1, dp_mono sF _ _ q.2⟩⟩
    have hDB : D ∉ B := (k1.ne hD).2
    refine q (.ref D) φ1 _ H' ⟨g1.pre, g1.ff.trans (gr.ff.trans sF), fun b hb => ?_⟩ k6 ?_
    · have hbD : b ≠ D := fun e => hDB (e ▸ hb)
      have u1 := g1.bb b hb
      have u2 := gr.bb b hb
      rw [upd_ne hbD] at u2
      exact ⟨u2.1.trans u1.1, by rw [upd_ne hbD]; exact u2.2.trans u1.2⟩
    · rw [← hacc]
      exact .lst (.inl (.inl upd_same)) (dpa_mono sF _ _ ra)
theorem blkok_of {own : List (Str × Nat)} (h : blkC C.N C.sc scope own = true) (i : C.ι) : BlkOk (C.cx i).N (C.cx i).env.scope scope own := by
  show BlkOk C.N (C.V i).env.scope scope own
  rw [C.hsc i]
  exact blkOk_by h
theorem je_lc {ds : List PyData} (own : List (Str × Nat)) (hi : JI C E S tg iter ds S1) (g : Nat → Option PyData)
    (step : ∀ i d, ds[i]? = some d → ∃ js E', (∀ j ∈ js, j ∈ own.map (·.2)) ∧ JG (C.blk scope) (wipeE E (own.map (·.2))) tg (.d d) js E' ∧ ∃ z, (∀ T, JTs (C.blk scope) E' (S1 ++ [T]) ifs z) ∧
      (z = false → g i = none) ∧ (z = true → ∃ y, g i = some y ∧ ∀ T, JE (C.blk scope) E' (S1 ++ [T]) elt (.d y) (S1 ++ [T])))
    (hl : ds.length ≤ sizeLine) (ok : blkC C.N C.sc scope own = true := by kernel_rfl) (hs : ∀ (i : C.ι) x, foldedSetIterable iter (C.V i).env x = pure x := by intro _ _; rfl) (hh : C.hot = false := by rfl) :
    JE C E S (.ListComp elt [⟨tg, iter, ifs, 0⟩] scope pos) (.d (.list ((List.range ds.length).filterMap g))) S1 := fun B σ φ F H Q hE k q =>
  ⟨_, fun i => pe_lc (own := own) (C.calm hh i) C.nd (wi C tg iter i) (blkok_of ok i) (fun s H c cl fp => wg (C.blk scope) tg ⟨i, s, H, c, cl, fp⟩) (fun s H c cl fp => wts (C.blk scope) ifs ⟨i, s, H, c, cl, fp⟩) (fun s H c cl fp => we (C.blk scope) elt ⟨i, s, H, c, cl, fp⟩) (hs i),
    lc_ok hi g step hl hE k q⟩
/-- y = [elt for ..], y a local, on one line -/
theorem jss_lc {ds : List PyData} (j : Nat) {y : Str} {py spos : Pos} (own : List (Str × Nat)) (hi : JI C E S tg iter ds S1) (g : Nat → Option PyData)
    (step : ∀ i d, ds[i]? = some d → ∃ js E', (∀ j ∈ js, j ∈ own.map (·.2)) ∧ JG (C.blk scope) (wipeE E (own.map (·.2))) tg (.d d) js E' ∧ ∃ z, (∀ T, JTs (C.blk scope) E' (S1 ++ [T]) ifs z) ∧
      (z = false → g i = none) ∧ (z = true → ∃ y, g i = some y ∧ ∀ T, JE (C.blk scope) E' (S1 ++ [T]) elt (.d y) (S1 ++ [T])))
    (hl : ds.length ≤ sizeLine) (h : JSs C (E.set j (some (.d (.list ((List.range ds.length).filterMap g))))) S1 rest p)
    (hy : C.N[j]? = some y := by rfl) (hyl : C.sc.names.lookup y = some .local := by rfl)
    (hsw : ∀ i : C.ι, swapsWith (.ListComp elt [⟨tg, iter, ifs, 0⟩] scope pos) (some (.Name y py)) spos.line (C.V i).env = pure true := by exact fun _ => sw_true rfl rfl rfl (by decide +kernel))
    (ok : blkC C.N C.sc scope own = true := by kernel_rfl) (hs : ∀ (i : C.ι) x, foldedSetIterable iter (C.V i).env x = pure x := by intro _ _; rfl) (hh : C.hot = false := by rfl) :
    JSs C E S (.Assign [.Name y py] (.ListComp elt [⟨tg, iter, ifs, 0⟩] scope pos) spos :: rest) p := jss_cons fun B σ φ F H D hE k d =>
  ⟨_, fun i => ps_setLc (own := own) (C.calm hh i) C.nd hy (by show (C.V i).env.scope.names.lookup y = _; rw [C.hsc i]; exact hyl) (hsw i) (wi C tg iter i) (blkok_of ok i) (fun s H c cl fp => wg (C.blk scope) tg ⟨i, s, H, c, cl, fp⟩) (fun s H c cl fp => wts (C.blk scope) ifs ⟨i, s, H, c, cl, fp⟩) (fun s H c cl fp => we (C.blk scope) elt ⟨i, s, H, c, cl, fp⟩) (hs i),
    lc_ok hi g step hl hE k fun v φ1 F1 H1 g1 k1 r1 => d.nx _ _ φ1 F1 H1 S1 h (d.gs g1) ((hE.gr g1).set r1 j) k1⟩
end
end AL

namespace AL
open PySem PySem.Spec PyProof.Rows L2

/-! ### data that is read -/
/-- what a value reads as: frozen data, or a list of the store -/
def rdO : Option MO → Option PyData
  | some (.ld xs) => some (.list xs)
  | _ => none
def rdA (S : Sto) : AV → Option PyData
  | .d y => some y
  | .o l => rdO S[l]?
  | .v _ => none
theorem rdO_some {o : Option MO} {d : PyData} (h : rdO o = some d) : ∃ xs, o = some (.ld xs) ∧ d = .list xs := by
  cases o with
  | none => cases h
  | some m =>
    cases m with
    | ld xs => cases h; exact ⟨xs, rfl, rfl⟩
    | _ => cases h
/-- the items of a list or a tuple -/
def itemsD : PyData → Option (List PyData)
  | .list ds => some ds
  | .tuple ds => some ds
  | _ => none
section
variable {K : PySem.W.Frag} {B φ : List Addr} {F H : Hp} {S : Sto} {av bv : AV} {x y : V} {d : PyData} {ds : List PyData}
theorem rd_list (k : Ok K B φ F H S) (r : RV K φ F x av) (h : rdA S av = some (.list ds)) : ∃ a vs, x = .ref a ∧ SqL K H a vs ∧ DpAll K F vs ds := by
  cases av with
  | d y =>
    cases h
    cases r with
    | lst hs ha => exact ⟨_, _, rfl, k.seqL hs, ha⟩
  | o l =>
    obtain ⟨a, e, rfl⟩ := r
    obtain ⟨xs, he, h⟩ := rdO_some h
    cases h
    obtain ⟨n, vs, hH, ra⟩ := k.own l a _ e he
    exact ⟨a, vs, rfl, .inl (.inl hH), ra⟩
  | v y => cases h
theorem rd_tup (k : Ok K B φ F H S) (r : RV K φ F x av) (h : rdA S av = some (.tuple ds)) : ∃ a vs, x = .ref a ∧ SqT K H a vs ∧ DpAll K F vs ds := by
  cases av with
  | d y =>
    cases h
    cases r with
    | tup hs ha => exact ⟨_, _, rfl, same_seqT k.sub hs, ha⟩
  | o l =>
    obtain ⟨xs, he, h⟩ := rdO_some h
    cases h
  | v y => cases h
theorem rd_dp (k : Ok K B φ F H S) (r : RV K φ F x av) (h : rdA S av = some d) : Dp K H x d := by
  cases av with
  | d y => cases h; exact dp_mono k.sub _ _ r
  | o l =>
    obtain ⟨a, e, rfl⟩ := r
    obtain ⟨xs, he, h⟩ := rdO_some h
    cases h
    obtain ⟨n, vs, hH, ra⟩ := k.own l a _ e he
    exact .lst (.inl (.inl hH)) (dpa_mono k.sub _ _ ra)
  | v y => cases h
theorem rd_seq (k : Ok K B φ F H S) (r : RV K φ F x av) (h : rdA S av = some d) (hi : itemsD d = some ds) : ∃ a vs, x = .ref a ∧ (SqL K H a vs ∨ SqT K H a vs) ∧ DpAll K F vs ds := by
  cases d with
  | list es =>
    cases hi
    obtain ⟨a, vs, e, s, r⟩ := rd_list k r h
    exact ⟨a, vs, e, .inl s, r⟩
  | tuple es =>
    cases hi
    obtain ⟨a, vs, e, s, r⟩ := rd_tup k r h
    exact ⟨a, vs, e, .inr s, r⟩
  | _ => cases hi
/-- from a wish at the same state -/
theorem fin0 {Q : VK} {v : V} (k : Ok K B φ F H S) (q : ∀ v φ' F' H', Gr B φ F H φ' F' H' → Ok K B φ' F' H' S → RV K φ' F' v av → Q v H') (r : RV K φ F v av) : Q v H := q v φ F H .refl k r
theorem fin_new {Q : VK} {p : Addr} {o : HO} (k : Ok K B φ F H S) (q : ∀ v φ' F' H', Gr B φ F H φ' F' H' → Ok K B φ' F' H' S → RV K φ' F' v (.d d) → Q v H') (hp : H p = none) (r : Dp K (upd F p o) (.ref p) d) : Q (.ref p) (upd H p o) :=
  q _ _ _ _ (k.data (o := o) hp).2 (k.data (o := o) hp).1 r
end

/-! ### rules of values -/
section
variable {K : PySem.W.Frag} {S : Sto} {av bv : AV} {d e : PyData} {ds es : List PyData}
theorem sr_i {Cn : Int → Int → Prop} {g : Int → Int → Int} {i j : Int} (h : Cn i j) : SR2 K S (rI Cn fun i j => .int (g i j)) (.d (.int i)) (.d (.int j)) (.d (.int (g i j))) S := fun B φ F H x y Q k r1 r2 q => by
  cases r1; cases r2; exact ⟨i, j, rfl, rfl, h, fin0 k q (.int _)⟩
theorem sr_i0 {g : Int → Int → Int} {i j : Int} : SR2 K S (rI0 fun i j => .int (g i j)) (.d (.int i)) (.d (.int j)) (.d (.int (g i j))) S := fun B φ F H x y Q k r1 r2 q => by
  cases r1; cases r2; exact ⟨i, j, rfl, rfl, fin0 k q (.int _)⟩
theorem sr_b0 {g : Int → Int → Bool} {i j : Int} : SR2 K S (rI0 fun i j => .bl (g i j)) (.d (.int i)) (.d (.int j)) (.d (.bool (g i j))) S := fun B φ F H x y Q k r1 r2 q => by
  cases r1; cases r2; exact ⟨i, j, rfl, rfl, fin0 k q (.bl _)⟩
theorem sr_ip {g : Int → Int → Int} {i j : Int} : SR2 K S (ipI g) (.d (.int i)) (.d (.int j)) (.d (.int (g i j))) S := fun B φ F H x y Q k r1 r2 q => by
  cases r1; cases r2; exact ⟨i, j, rfl, rfl, fin0 k q (.int _)⟩
theorem sr_u {g : Int → Int} {i : Int} : SRU K S (rU fun i => .int (g i)) (.d (.int i)) (.d (.int (g i))) S := fun B φ F H x Q k r1 q => by
  cases r1; exact ⟨i, rfl, fin0 k q (.int _)⟩
theorem sr_adds {i j : Str} (h : i.length + j.length ≤ sizeLine) : SR2 K S (fun x y H Q => ∃ i j, x = .str i ∧ y = .str j ∧ i.length + j.length ≤ sizeLine ∧ Q (.str (i ++ j)) H) (.d (.str i)) (.d (.str j)) (.d (.str (i ++ j))) S := fun B φ F H x y Q k r1 r2 q => by
  cases r1; cases r2; exact ⟨i, j, rfl, rfl, h, fin0 k q (.str _)⟩
theorem sr_eq_ii {i j : Int} : SR2 K S rEq (.d (.int i)) (.d (.int j)) (.d (.bool (decide (i = j)))) S := fun B φ F H x y Q k r1 r2 q => by
  cases r1; cases r2; exact ⟨rfl, by rw [show decide (V.int i = V.int j) = decide (i = j) by simp]; exact fin0 k q (.bl _)⟩
theorem sr_eq_ss {i j : Str} : SR2 K S rEq (.d (.str i)) (.d (.str j)) (.d (.bool (decide (i = j)))) S := fun B φ F H x y Q k r1 r2 q => by
  cases r1; cases r2; exact ⟨rfl, by rw [show decide (V.str i = V.str j) = decide (i = j) by simp]; exact fin0 k q (.bl _)⟩
theorem sr_eq_bb {i j : Bool} : SR2 K S rEq (.d (.bool i)) (.d (.bool j)) (.d (.bool (decide (i = j)))) S := fun B φ F H x y Q k r1 r2 q => by
  cases r1; cases r2; exact ⟨rfl, by rw [show decide (V.bl i = V.bl j) = decide (i = j) by simp]; exact fin0 k q (.bl _)⟩
theorem sr_ne_ii {i j : Int} : SR2 K S rNe (.d (.int i)) (.d (.int j)) (.d (.bool (!decide (i = j)))) S := fun B φ F H x y Q k r1 r2 q => by
  cases r1; cases r2; exact ⟨rfl, by rw [show decide (V.int i = V.int j) = decide (i = j) by simp]; exact fin0 k q (.bl _)⟩
theorem sr_ne_ss {i j : Str} : SR2 K S rNe (.d (.str i)) (.d (.str j)) (.d (.bool (!decide (i = j)))) S := fun B φ F H x y Q k r1 r2 q => by
  cases r1; cases r2; exact ⟨rfl, by rw [show decide (V.str i = V.str j) = decide (i = j) by simp]; exact fin0 k q (.bl _)⟩
theorem sr_ne_bb {i j : Bool} : SR2 K S rNe (.d (.bool i)) (.d (.bool j)) (.d (.bool (!decide (i = j)))) S := fun B φ F H x y Q k r1 r2 q => by
  cases r1; cases r2; exact ⟨rfl, by rw [show decide (V.bl i = V.bl j) = decide (i = j) by simp]; exact fin0 k q (.bl _)⟩
theorem sr_eqD (ha : rdA S av = some d) (hb : rdA S bv = some e) (h1 : SeqAt.shaped d = true) (h2 : SeqAt.shaped e = true) : SR2 K S (rEqD K) av bv (.d (.bool (PyData.eqv d e))) S := fun B φ F H x y Q k r1 r2 q =>
  ⟨d, e, rd_dp k r1 ha, rd_dp k r2 hb, h1, h2, fin0 k q (.bl _)⟩
theorem sr_neD (ha : rdA S av = some d) (hb : rdA S bv = some e) (h1 : SeqAt.shaped d = true) (h2 : SeqAt.shaped e = true) : SR2 K S (rNeD K) av bv (.d (.bool (!PyData.eqv d e))) S := fun B φ F H x y Q k r1 r2 q =>
  ⟨d, e, rd_dp k r1 ha, rd_dp k r2 hb, h1, h2, fin0 k q (.bl _)⟩
def isNoneD : PyData → Bool
  | .none => true
  | _ => false
theorem dp_none {F : Hp} {x : V} (h : Dp K F x d) : decide (x = .non) = isNoneD d := by
  cases h <;> simp [isNoneD]
/-- is None: of data, of a place of the store -/
def isNoneA : AV → Bool
  | .d x => isNoneD x
  | .o _ => false
  | .v x => decide (x = .non)
theorem rv_none {φ : List Addr} {F : Hp} {x : V} (h : RV K φ F x av) : decide (x = .non) = isNoneA av := by
  cases av with
  | d y => exact dp_none h
  | o l => obtain ⟨a, _, rfl⟩ := h; simp [isNoneA]
  | v y => cases h; rfl
theorem sr_isN : SR2 K S (fun x y H Q => y = .non ∧ Q (.bl (decide (x = .non))) H) av (.d .none) (.d (.bool (isNoneA av))) S := fun B φ F H x y Q k r1 r2 q => by
  cases r2
  exact ⟨rfl, by rw [rv_none r1]; exact fin0 k q (.bl _)⟩
theorem sr_notN : SR2 K S (fun x y H Q => y = .non ∧ Q (.bl (!decide (x = .non))) H) av (.d .none) (.d (.bool (!isNoneA av))) S := fun B φ F H x y Q k r1 r2 q => by
  cases r2
  exact ⟨rfl, by rw [rv_none r1]; exact fin0 k q (.bl _)⟩
theorem sr_lts {i j : Str} : SR2 K S (fun x y H Q => ∃ i j, x = .str i ∧ y = .str j ∧ Q (.bl (decide (i.cps.toList < j.cps.toList))) H) (.d (.str i)) (.d (.str j)) (.d (.bool (decide (i.cps.toList < j.cps.toList)))) S := fun B φ F H x y Q k r1 r2 q => by
  cases r1; cases r2; exact ⟨i, j, rfl, rfl, fin0 k q (.bl _)⟩
theorem sr_gts {i j : Str} : SR2 K S (fun x y H Q => ∃ i j, x = .str i ∧ y = .str j ∧ Q (.bl (decide (j.cps.toList < i.cps.toList))) H) (.d (.str i)) (.d (.str j)) (.d (.bool (decide (j.cps.toList < i.cps.toList)))) S := fun B φ F H x y Q k r1 r2 q => by
  cases r1; cases r2; exact ⟨i, j, rfl, rfl, fin0 k q (.bl _)⟩
theorem sr_insign {c : Nat} {z : Str} : SR2 K S (fun x y H Q => ∃ (c : Nat) (z : Str), x = .str ⟨#[c]⟩ ∧ y = .str z ∧ Q (.bl (decide (c ∈ z.cps.toList))) H) (.d (.str ⟨#[c]⟩)) (.d (.str z)) (.d (.bool (decide (c ∈ z.cps.toList)))) S := fun B φ F H x y Q k r1 r2 q => by
  cases r1; cases r2; exact ⟨c, z, rfl, rfl, fin0 k q (.bl _)⟩
theorem sr_notinsign {c : Nat} {z : Str} : SR2 K S (fun x y H Q => ∃ (c : Nat) (z : Str), x = .str ⟨#[c]⟩ ∧ y = .str z ∧ Q (.bl (!decide (c ∈ z.cps.toList))) H) (.d (.str ⟨#[c]⟩)) (.d (.str z)) (.d (.bool (!decide (c ∈ z.cps.toList)))) S := fun B φ F H x y Q k r1 r2 q => by
  cases r1; cases r2; exact ⟨c, z, rfl, rfl, fin0 k q (.bl _)⟩
/-- the data that is flat, as a value -/
def flatD : PyData → Option V
  | .none => some .non
  | .bool b => some (.bl b)
  | .int i => some (.int i)
  | .str x => some (.str x)
  | _ => none
theorem dp_flat {F : Hp} {x v : V} (h : Dp K F x d) (e : flatD d = some v) : x = v := by
  cases h <;> cases e <;> rfl
theorem dpa_flat {F : Hp} : ∀ {xs vs : List V} {ds : List PyData}, DpAll K F xs ds → ds.mapM flatD = some vs → xs = vs
  | _, vs, [], .nil, e => by simp at e; exact e.symm
  | _, vs, d :: ds, .cons h t, e => by
    rw [List.mapM_cons] at e
    cases hd : flatD d with
    | none => rw [hd] at e; cases e
    | some v =>
      rw [hd] at e
      cases ht : ds.mapM flatD with
      | none => rw [ht] at e; cases e
      | some us =>
        rw [ht] at e
        cases e
        rw [dp_flat h hd, dpa_flat t ht]
/-- x in xs, of flat things -/
theorem sr_in {neg : Bool} {v : V} {vs : List V} (hb : rdA S bv = some e) (hi : itemsD e = some es) (h1 : flatD d = some v) (h2 : es.mapM flatD = some vs) (f1 : flatV v = true) (f2 : vs.all flatV = true) :
    SR2 K S (rIn K neg) (.d d) bv (.d (.bool (if neg then !inV v vs else inV v vs))) S := fun B φ F H x y Q k r1 r2 q => by
  obtain ⟨a, us, rfl, hs, ra⟩ := rd_seq k r2 hb hi
  have e1 := dp_flat r1 h1
  have e2 := dpa_flat ra h2
  subst e1 e2
  exact ⟨a, us, rfl, hs, f1, f2, fin0 k q (.bl _)⟩
/-- s[i] -/
theorem sr_ix {i : Int} (ha : rdA S av = some d) (hi : itemsD d = some ds) (h : atI ds i = some e) : SR2 K S (rIx K) av (.d (.int i)) (.d e) S := fun B φ F H x y Q k r1 r2 q => by
  cases r2
  obtain ⟨j, _, h3, h4, _⟩ := atI_get h
  obtain ⟨a, vs, rfl, hs, ra⟩ := rd_seq k r1 ha hi
  have hat : ∃ v, atI vs i = some v ∧ Dp K F v e := by
    unfold atI at h ⊢
    rw [dpa_len ra]
    cases hx : ixN ds.length i with
    | none => rw [hx] at h; cases h
    | some m =>
      rw [hx] at h
      exact dpa_get' ra h
  obtain ⟨v, hv, rv⟩ := hat
  rcases hs with hs | hs
  · exact .inl ⟨a, vs, i, v, rfl, rfl, hs, hv, fin0 k q rv⟩
  · exact .inr (.inl ⟨a, vs, i, v, rfl, rfl, hs, hv, fin0 k q rv⟩)
theorem sr_ixs {i : Int} {z : Str} {c : Nat} (hz : z.length ≤ sizeLine) (h : atI z.cps.toList i = some c) : SR2 K S (rIx K) (.d (.str z)) (.d (.int i)) (.d (.str ⟨#[c]⟩)) S := fun B φ F H x y Q k r1 r2 q => by
  cases r1; cases r2
  exact .inr (.inr ⟨z, i, c, rfl, rfl, hz, h, fin0 k q (.str _)⟩)
end

/-! ### subscripts, slices, methods -/
section
variable {C : Fam} {E E' : AE} {S S1 S2 S3 S4 : Sto} {a b c e : Expr} {es : List Expr} {av bv cv : AV} {avs : List AV} {pos : Pos} {st : Stmt} {rest body els : List Stmt} {p : Po} {d : PyData} {ds : List PyData}
theorem je_ix (ha : JE C E S a av S1) (hb : JE C E S1 b bv S2) (hs : SR2 C.b.K S2 (rIx C.b.K) av bv cv S2) (hp : PlainIx b := by exact fun _ _ => rfl) : JE C E S (.Subscript a b pos) cv S2 := by
  intro B σ φ F H Q hE k q
  refine ⟨tOp (rIx C.b.K) (WE C a) (WE C b), fun i => pe_ix (X := C.cx i) ix_seq (we C a i) (we C b i) hp, ?_⟩
  refine ha B σ φ F H _ hE k fun x φ1 F1 H1 g1 k1 r1 => ?_
  refine hb B σ φ1 F1 H1 _ (hE.gr g1) k1 fun y φ2 F2 H2 g2 k2 r2 => ?_
  exact hs B φ2 F2 H2 x y Q k2 (r1.gr g2) r2 fun v φ3 F3 H3 g3 k3 r3 => q v φ3 F3 H3 (g1.trans (g2.trans g3)) k3 r3
def WO (C : Fam) (e : Option Expr) : TO := fun σ H Q => ∃ t : TO, (∀ i, PO (C.cx i) e t) ∧ t σ H Q
theorem wo (C : Fam) (e : Option Expr) (i : C.ι) : PO (C.cx i) e (WO C e) := ⟨fun pins s σ H Q I ⟨t, h, q⟩ => (h i).run pins s σ H Q I q⟩
def JO (C : Fam) (E : AE) (S : Sto) (e : Option Expr) (o : Option Int) (S' : Sto) : Prop := ∀ (B : List Addr) (σ : L2.St) (φ : List Addr) (F H : Hp) (Q : Option Int → Hp → Prop), EnvR C.b.K φ F σ E → Ok C.b.K B φ F H S →
  (∀ φ' F' H', Gr B φ F H φ' F' H' → Ok C.b.K B φ' F' H' S' → Q o H') → WO C e σ H Q
theorem jo_none : JO C E S none none S := fun B σ φ F H Q hE k q => ⟨tNoPart, fun _ => po_none, q φ F H .refl k⟩
theorem jo_some {i : Int} (h : JE C E S e (.d (.int i)) S1) : JO C E S (some e) (some i) S1 := fun B σ φ F H Q hE k q => ⟨tPart (WE C e), fun j => po_some (we C e j), h B σ φ F H _ hE k fun v φ1 F1 H1 g1 k1 r1 => by
  cases r1; exact ⟨i, rfl, q φ1 F1 H1 g1 k1⟩⟩
def SRS (K : PySem.W.Frag) (S : Sto) (r : V → Option Int → Option Int → Hp → VK → Prop) (av : AV) (lo hi : Option Int) (cv : AV) : Prop := ∀ (B φ : List Addr) (F H : Hp) (x : V) (Q : VK), Ok K B φ F H S → RV K φ F x av →
  (∀ v φ' F' H', Gr B φ F H φ' F' H' → Ok K B φ' F' H' S → RV K φ' F' v cv → Q v H') → r x lo hi H Q
theorem je_slice {r : V → Option Int → Option Int → Hp → VK → Prop} {lo hi : Option Expr} {i j : Option Int} {p2 : Pos} (hr : ∀ n, SlR (C.cx n) r) (ha : JE C E S a av S1) (hl : JO C E S1 lo i S2) (hh : JO C E S2 hi j S3) (hs : SRS C.b.K S3 r av i j cv) : JE C E S (.Subscript a (.Slice lo hi none p2) pos) cv S3 := by
  intro B σ φ F H Q hE k q
  refine ⟨tSl r (WE C a) (WO C lo) (WO C hi), fun i => pe_slice (hr i) (we C a i) (wo C lo i) (wo C hi i), ?_⟩
  refine ha B σ φ F H _ hE k fun x φ1 F1 H1 g1 k1 r1 => ?_
  refine hl B σ φ1 F1 H1 _ (hE.gr g1) k1 fun φ2 F2 H2 g2 k2 => ?_
  refine hh B σ φ2 F2 H2 _ (hE.gr (g1.trans g2)) k2 fun φ3 F3 H3 g3 k3 => ?_
  exact hs B φ3 F3 H3 x Q k3 (r1.gr (g2.trans g3)) fun v φ4 F4 H4 g4 k4 r4 => q v φ4 F4 H4 (g1.trans (g2.trans (g3.trans g4))) k4 r4
/-- ds[lo:hi] -/
def cutD (xs : List PyData) (lo hi : Option Int) : List PyData := (xs.drop (HT.sIx xs.length 0 lo)).take (HT.sIx xs.length xs.length hi - HT.sIx xs.length 0 lo)
theorem dpa_cut {K : PySem.W.Frag} {F : Hp} {vs : List V} {ds : List PyData} (h : DpAll K F vs ds) (lo hi : Option Int) : DpAll K F (cutV vs lo hi) (cutD ds lo hi) := by
  unfold cutV cutD
  rw [dpa_len h]
  exact dpa_take _ (dpa_drop _ h)
theorem srs_list {K : PySem.W.Frag} {lo hi : Option Int} (ha : rdA S av = some (.list ds)) : SRS K S (rSlL K) av lo hi (.d (.list (cutD ds lo hi))) := fun B φ F H x Q k r q => by
  obtain ⟨a, vs, rfl, hs, ra⟩ := rd_list k r ha
  refine ⟨a, vs, rfl, hs, fun p hp => fin_new k q hp (.lst (.inl (.inl upd_same)) (dpa_mono (k.data (o := .lst (cutV vs lo hi)) hp).2.ff _ _ (dpa_cut ra lo hi)))⟩
theorem srs_tup {K : PySem.W.Frag} {lo hi : Option Int} (ha : rdA S av = some (.tuple ds)) (hw : ¬ (HT.sIx ds.length 0 lo = 0 ∧ HT.sIx ds.length ds.length hi = ds.length)) : SRS K S (rSlT K) av lo hi (.d (.tuple (cutD ds lo hi))) := fun B φ F H x Q k r q => by
  obtain ⟨a, vs, rfl, hs, ra⟩ := rd_tup k r ha
  refine ⟨a, vs, rfl, hs, by rw [dpa_len ra]; exact hw, fun p hp => fin_new k q hp (.tup (.inl (.inl upd_same)) (dpa_mono (k.data (o := .tup (cutV vs lo hi)) hp).2.ff _ _ (dpa_cut ra lo hi)))⟩
theorem srs_str {K : PySem.W.Frag} {lo hi : Option Int} {z : Str} (hz : z.length ≤ sizeLine) : SRS K S rSlS (.d (.str z)) lo hi (.d (.str (cutS z lo hi))) := fun B φ F H x Q k r q => by
  cases r; exact ⟨z, rfl, hz, fin0 k q (.str _)⟩
/-- a text's method with arguments; without -/
theorem je_sm {o : Expr} {name : Str} {id : String} {apos : Pos} {r : V → List V → Hp → VK → Prop} {z : Str} (slot : Slot "str" name id) (hty : typeOf (.builtin id) = pure (.type "method_descriptor")) (hm : ∀ i, MtR (C.cx i) id r) (pa : PlainAttrs "str") (ho : JE C E S o (.d (.str z)) S1) (ha : JA C E S1 (e :: es) avs S2)
    (hs : SRM C.b.K S2 r (.d (.str z)) avs cv S3)
    (hbase : ∀ i : C.ι, attributeBase o name (C.V i).env (eval o (C.V i).env) = eval o (C.V i).env := by intro _; rfl)
    (hfew : ∀ i : C.ι, ((backTo pos (starEach (e :: es) (C.V i).env)).all (fun x => !x.1) && (backToKw pos (keywordEach [] (C.V i).env)).all (fun x => x.1.isSome)
      && decide ((e :: es).length + ([] : List Keyword).length + (if ([] : List Keyword).isEmpty then 0 else 1) < 30)) = true := by intro _; rfl)
    (hline : (apos.endLine == pos.line) = true := by rfl) (hst : ∀ i : C.ι, starEach (e :: es) (C.V i).env = (false, eval e (C.V i).env) :: starEach es (C.V i).env := by intro _; rfl) (hpl : ∀ i : C.ι, (backTo pos (starEach es (C.V i).env)).any (·.1) = false := by intro _; rfl) :
    JE C E S (.Call (.Attribute o name apos) (e :: es) [] pos) cv S3 := by
  intro B σ φ F H Q hE k q
  refine ⟨tBM C.b.K "str" r (WE C o) (WA C (e :: es)), fun i => pe_bm (X := C.cx i) pa slot hty (hm i) (we C o i) (wa C _ i) (hbase i) (hfew i) hline (hst i) (hpl i), ?_⟩
  refine ho B σ φ F H _ hE k fun x φ1 F1 H1 g1 k1 r1 => ?_
  cases r1
  refine ⟨rfl, ha B σ φ1 F1 H1 _ (hE.gr g1) k1 fun vs φ2 F2 H2 g2 k2 r2 => ?_⟩
  exact hs B φ2 F2 H2 _ vs Q k2 (.str z) r2 fun v φ3 F3 H3 g3 k3 r3 => q v φ3 F3 H3 (g1.trans (g2.trans g3)) k3 r3
theorem je_sm0 {o : Expr} {name : Str} {id : String} {apos : Pos} {r : V → List V → Hp → VK → Prop} {z : Str} (slot : Slot "str" name id) (hty : typeOf (.builtin id) = pure (.type "method_descriptor")) (hm : ∀ i, MtR (C.cx i) id r) (pa : PlainAttrs "str") (ho : JE C E S o (.d (.str z)) S1)
    (hs : SRM C.b.K S1 r (.d (.str z)) [] cv S2)
    (hbase : ∀ i : C.ι, attributeBase o name (C.V i).env (eval o (C.V i).env) = eval o (C.V i).env := by intro _; rfl) (hline : (apos.endLine == pos.line) = true := by rfl) :
    JE C E S (.Call (.Attribute o name apos) [] [] pos) cv S2 := by
  intro B σ φ F H Q hE k q
  refine ⟨tBM0 C.b.K "str" r (WE C o), fun i => pe_bm0 (X := C.cx i) pa slot hty (hm i) (we C o i) (hbase i) hline, ?_⟩
  refine ho B σ φ F H _ hE k fun x φ1 F1 H1 g1 k1 r1 => ?_
  cases r1
  exact ⟨rfl, hs B φ1 F1 H1 _ [] Q k1 (.str z) .nil fun v φ3 F3 H3 g3 k3 r3 => q v φ3 F3 H3 (g1.trans g3) k3 r3⟩
/-- the texts of data -/
theorem dpa_strs {K : PySem.W.Frag} {F : Hp} : ∀ {vs : List V} {ys : List Str}, DpAll K F vs (ys.map PyData.str) → vs = ys.map V.str
  | _, [], h => by cases h; rfl
  | _, y :: ys, h => by
    cases h with
    | cons h t => cases h; rw [dpa_strs t]; rfl
theorem dpa_ints {K : PySem.W.Frag} {F : Hp} : ∀ {vs : List V} {ys : List Int}, DpAll K F vs (ys.map PyData.int) → vs = ys.map V.int
  | _, [], h => by cases h; rfl
  | _, y :: ys, h => by
    cases h with
    | cons h t => cases h; rw [dpa_ints t]; rfl
theorem srm_join {K : PySem.W.Frag} {z : Str} {ys : List Str} (hb : rdA S bv = some d) (hi : itemsD d = some (ys.map PyData.str)) (hl : (ys.map (·.length)).sum + ys.length * z.length ≤ 16777216) :
    SRM K S (fun x xs H Q => ∃ a p, ∃ ys : List Str, x = .str a ∧ xs = [.ref p] ∧ (SqL K H p (ys.map V.str) ∨ SqT K H p (ys.map V.str)) ∧ (ys.map (·.length)).sum + ys.length * a.length ≤ 16777216 ∧ Q (.str (Txt.join a ys)) H) (.d (.str z)) [bv] (.d (.str (Txt.join z ys))) S :=
  fun B φ F H x xs Q k r1 r2 q => by
    cases r1
    cases r2 with
    | cons r2 t =>
      cases t
      obtain ⟨a, vs, rfl, hs, ra⟩ := rd_seq k r2 hb hi
      have e := dpa_strs ra
      subst e
      exact ⟨z, a, ys, rfl, rfl, hs, hl, fin0 k q (.str _)⟩
/-- xs.append(e), xs a list of data of the store, as a statement -/
theorem jss_append {o : Expr} {apos cpos : Pos} {l : Nat} (ho : JE C E S o (.o l) S1) (he : JE C E S1 e (.d d) S1) (hl : S1[l]? = some (.ld ds)) (hn : ds.length < sizeLine) (h : JSs C E (S1.set l (.ld (ds ++ [d]))) rest p)
    (hbase : ∀ i : C.ι, attributeBase o ("append" : Str) (C.V i).env (eval o (C.V i).env) = eval o (C.V i).env := by intro _; rfl)
    (hfew : ∀ i : C.ι, ((backTo cpos (starEach [e] (C.V i).env)).all (fun x => !x.1) && (backToKw cpos (keywordEach [] (C.V i).env)).all (fun x => x.1.isSome)
      && decide ([e].length + ([] : List Keyword).length + (if ([] : List Keyword).isEmpty then 0 else 1) < 30)) = true := by intro _; rfl)
    (hline : (apos.endLine == cpos.line) = true := by rfl) (hst : ∀ i : C.ι, starEach [e] (C.V i).env = (false, eval e (C.V i).env) :: starEach [] (C.V i).env := by intro _; rfl) (hpl : ∀ i : C.ι, (backTo cpos (starEach [] (C.V i).env)).any (·.1) = false := by intro _; rfl)
    (hs : ∀ i : C.ι, swapsWith (.Call (.Attribute o "append" apos) [e] [] cpos) none pos.line (C.V i).env = pure false := by intro _; rfl) :
    JSs C E S (.Expr (.Call (.Attribute o "append" apos) [e] [] cpos) pos :: rest) p := by
  refine jss_expr (av := .d .none) (S1 := S1.set l (.ld (ds ++ [d]))) ?_ h hs
  intro B σ φ F H Q hE k q
  refine ⟨tBM C.b.K "list" rAppend (WE C o) (tCons (WE C e) tNil), fun i => pe_bm (X := C.cx i) PySem.F.plainAttrs_list PySem.F.slot_list_append PySem.F.type_list_append mt_append (we C o i) (pa_cons (we C e i) pa_nil (hst i)) (hbase i) (hfew i) hline (hst i) (hpl i), ?_⟩
  refine ho B σ φ F H _ hE k fun x φ1 F1 H1 g1 k1 r1 => ?_
  obtain ⟨a, ea, rfl⟩ := id r1
  obtain ⟨n, vs, hH, ra⟩ := k1.own l a _ ea hl
  refine ⟨.inl ⟨rfl, vs, .inl (.inl hH)⟩, he B σ φ1 F1 H1 _ (hE.gr g1) k1 fun v φ2 F2 H2 g2 k2 r2 => ?_⟩
  obtain ⟨a2, ea2, e2⟩ := r1.gr g2
  cases e2
  obtain ⟨n2, vs2, hH2, ra2⟩ := k2.own l a _ ea2 hl
  refine ⟨a, vs2, v, rfl, rfl, hH2, by rw [dpa_len ra2]; exact hn, ?_⟩
  obtain ⟨k3, g3⟩ := k2.put (o := .lst (vs2 ++ [v])) (m := .ld (ds ++ [d])) ea2 ⟨n2, _, upd_same, dpa_app ra2 (.cons r2 .nil)⟩ n2
  exact q .non _ _ _ (g1.trans (g2.trans g3)) k3 .non
end

/-! ### places that are left behind -/
def clA (n : Nat) : AV → Bool
  | .o l => decide (l < n)
  | _ => true
def clE (n : Nat) : AE → Bool
  | [] => true
  | none :: r => clE n r
  | some a :: r => clA n a && clE n r
def clO (n : Nat) : MO → Bool
  | .lst xs => xs.all (clA n)
  | .dk kvs => kvs.all fun p => clA n p.2
  | .ins _ fs => fs.all fun p => clA n p.2
  | .fk kvs => kvs.all fun p => clA n p.2
  | _ => true
theorem clE_get {n : Nat} : ∀ {E : AE} {i : Nat} {av : AV}, clE n E = true → E[i]? = some (some av) → clA n av = true
  | [], _, _, _, e => by simp at e
  | none :: r, 0, _, _, e => by simp at e
  | some a :: r, 0, av, h, e => by
    simp at e
    subst e
    simp only [clE, Bool.and_eq_true] at h
    exact h.1
  | none :: r, i + 1, av, h, e => clE_get (E := r) (i := i) h (by simpa using e)
  | some a :: r, i + 1, av, h, e => by
    simp only [clE, Bool.and_eq_true] at h
    exact clE_get (E := r) (i := i) h.2 (by simpa using e)
section
variable {K : PySem.W.Frag} {B φ φ' ψ : List Addr} {F F' H H' : Hp} {S : Sto}
theorem rv_cut {x : V} {av : AV} (hc : clA φ.length av = true) (s : Same F F') (h : RV K (φ ++ ψ) F x av) : RV K φ F' x av := by
  cases av with
  | d y => exact dp_mono s _ _ h
  | o l =>
    obtain ⟨a, e, r⟩ := h
    rw [List.getElem?_append_left (of_decide_eq_true hc)] at e
    exact ⟨a, e, r⟩
  | v y => exact h
theorem paired_all {α β : Type} {P Q : α → β → Prop} {c : β → Bool} (f : ∀ x y, c y = true → P x y → Q x y) : ∀ {l : List α} {m : List β}, m.all c = true → Paired P l m → Paired Q l m
  | _, _, _, .nil => .nil
  | _, _, h, .cons p t => by
    simp only [List.all_cons, Bool.and_eq_true] at h
    exact .cons (f _ _ h.1 p) (paired_all f h.2 t)
theorem ro_cut {a : Addr} {o : MO} (hc : clO φ.length o = true) (s : Same F F') (hF : o ≠ .dead → F' a = F a) (h : RO K (φ ++ ψ) F H a o) : RO K φ F' H a o := by
  cases o with
  | dead => exact h
  | ld xs => obtain ⟨n, vs, e, r⟩ := h; exact ⟨by rw [hF (fun z => by cases z)]; exact n, vs, e, dpa_mono s _ _ r⟩
  | lst xs => obtain ⟨n, vs, e, r⟩ := h; exact ⟨by rw [hF (fun z => by cases z)]; exact n, vs, e, paired_all (c := clA φ.length) (fun x y hy q => rv_cut hy s q) hc r⟩
  | dd kvs => obtain ⟨n, vs, e, r⟩ := h; exact ⟨by rw [hF (fun z => by cases z)]; exact n, vs, e, Paired.mapP r fun _ _ q => ⟨q.1, dp_mono s _ _ q.2⟩⟩
  | dk kvs => obtain ⟨n, vs, e, r⟩ := h; exact ⟨by rw [hF (fun z => by cases z)]; exact n, vs, e, paired_all (c := fun (p : _ × AV) => clA φ.length p.2) (fun x y hy q => ⟨q.1, rv_cut hy s q.2⟩) hc r⟩
  | ins Cc fs => obtain ⟨n, dx, vs, e, r⟩ := h; exact ⟨by rw [hF (fun z => by cases z)]; exact n, dx, vs, e, paired_all (c := fun (p : _ × AV) => clA φ.length p.2) (fun x y hy q => ⟨q.1, rv_cut hy s q.2⟩) hc r⟩
  | dt kvs => obtain ⟨n, vs, e, r⟩ := h; exact ⟨by rw [hF (fun z => by cases z)]; exact n, vs, e, Paired.mapP r fun _ _ q => ⟨q.1, dp_mono s _ _ q.2⟩⟩
  | fd kvs => obtain ⟨o, vs, n, e, r⟩ := h; exact ⟨o, vs, by rw [hF (fun z => by cases z)]; exact n, e, Paired.mapP r fun _ _ q => ⟨q.1, dp_mono s _ _ q.2⟩⟩
  | fk kvs => obtain ⟨o, vs, n, e, r⟩ := h; exact ⟨o, vs, by rw [hF (fun z => by cases z)]; exact n, e, paired_all (c := fun (p : _ × AV) => clA φ.length p.2) (fun x y hy q => ⟨q.1, rv_cut hy s q.2⟩) hc r⟩
  | ft kvs => obtain ⟨o, vs, n, e, r⟩ := h; exact ⟨o, vs, by rw [hF (fun z => by cases z)]; exact n, e, Paired.mapP r fun _ _ q => ⟨q.1, dp_mono s _ _ q.2⟩⟩
/-- the store is cut: places behind are let go, the last of them frozen where wanted -/
theorem Ok.cut {S0 T : Sto} (k : Ok K B φ F H (S0 ++ T)) (hS : ∀ o ∈ S0, clO S0.length o = true) : Ok K B (φ.take S0.length) F H S0 ∧ (φ.take S0.length).length = S0.length := by
  have hl := k.len
  rw [List.length_append] at hl
  have hn : (φ.take S0.length).length = S0.length := by rw [List.length_take]; omega
  have hφ : φ = φ.take S0.length ++ φ.drop S0.length := (List.take_append_drop _ _).symm
  refine ⟨⟨k.sub, k.nd.sublist (List.take_sublist _ _), fun a ha => k.dis a (List.mem_of_mem_take ha), k.bs, hn, fun l a o h1 h2 => ?_⟩, hn⟩
  have hl1 : l < S0.length := by rw [← hn]; exact (List.getElem?_eq_some_iff.mp h1).1
  have h1' : φ[l]? = some a := by rw [List.getElem?_take_of_lt hl1] at h1; exact h1
  have r := k.own l a o h1' (by rw [List.getElem?_append_left hl1]; exact h2)
  rw [hφ] at r
  exact ro_cut (by rw [hn]; exact hS o (List.mem_of_getElem? h2)) (Same.refl _) (fun _ => rfl) r
/-- a list of data of the store becomes data -/
theorem Ok.freeze {l : Nat} {a : Addr} {ds : List PyData} (k : Ok K B φ F H S) (ha : φ[l]? = some a) (hl : S[l]? = some (.ld ds)) : ∃ F', Ok K B φ F' H (S.set l .dead) ∧ Gr B φ F H φ F' H ∧ Dp K F' (.ref a) (.list ds) := by
  obtain ⟨n, vs, hH, ra⟩ := k.own l a _ ha hl
  have sF : Same F (upd F a (.lst vs)) := fun b u e => by rw [upd_ne (ne_of_none e n)]; exact e
  have nB := k.dis a (List.mem_of_getElem? ha)
  refine ⟨upd F a (.lst vs), ⟨fun b u e => ?_, k.nd, k.dis, k.bs, by rw [List.length_set]; exact k.len, fun j b o h1 h2 => ?_⟩, ⟨⟨[], by simp⟩, sF, fun b hb => ⟨rfl, ?_⟩⟩, .lst (.inl (.inl upd_same)) (dpa_mono sF _ _ ra)⟩
  · by_cases hb : b = a
    · subst hb; rw [upd_same] at e; cases e; exact hH
    · rw [upd_ne hb] at e; exact k.sub _ _ e
  · by_cases hj : j = l
    · subst hj
      rw [ha] at h1
      cases h1
      rw [List.getElem?_set_self (by rw [← k.len]; exact (List.getElem?_eq_some_iff.mp ha).1)] at h2
      cases h2
      exact ⟨_, hH⟩
    · rw [List.getElem?_set_ne (fun e => hj e.symm)] at h2
      have hba : b ≠ a := fun e => hj (k.inj h1 (e ▸ ha))
      exact ro_mono ⟨[], by simp⟩ sF (upd_ne hba) rfl (k.own j b o h1 h2)
  · exact upd_ne (fun (e : b = a) => nB (e ▸ hb))
end
section
variable {C : Fam} {E E' : AE} {S S0 T S1 S2 S3 S4 : Sto} {a b c e : Expr} {es : List Expr} {av bv cv : AV} {avs : List AV} {pos : Pos} {st : Stmt} {rest body els : List Stmt} {p : Po} {d : PyData} {ds : List PyData}
/-- the store's end is let go -/
theorem jss_cut (h : JSs C E S0 rest p) (hS : ∀ o ∈ S0, clO S0.length o = true) (hE0 : clE S0.length E = true) (hC : C.an = false := by rfl) : JSs C E (S0 ++ T) rest p := by
  intro B σ φ F H D hE k d
  obtain ⟨k2, hn⟩ := k.cut hS
  have hφ : φ = φ.take S0.length ++ φ.drop S0.length := (List.take_append_drop _ _).symm
  refine h B σ (φ.take S0.length) F H D ⟨hE.len, fun i av e => ?_⟩ k2 (d.goA ⟨.refl, by rw [d.hn hC]; exact ⟨_, rfl⟩⟩)
  obtain ⟨v, e1, r⟩ := hE.get i av e
  rw [hφ] at r
  exact ⟨v, e1, rv_cut (by rw [hn]; exact clE_get hE0 e) (Same.refl _) r⟩
/-- the list of the store at l, which the name i holds, becomes data -/
theorem jss_frz (i : Nat) {l : Nat} (hi : E[i]? = some (some (.o l))) (hl : S[l]? = some (.ld ds)) (h : JSs C (E.set i (some (.d (.list ds)))) (S.set l .dead) rest p) : JSs C E S rest p := by
  intro B σ φ F H D hE k d
  obtain ⟨v, e1, a, ea, rfl⟩ := hE.get i _ hi
  obtain ⟨F', k2, g2, r2⟩ := k.freeze ea hl
  have hE2 : EnvR C.b.K φ F' (σ.set i (some (.ref a))) (E.set i (some (.d (.list ds)))) := (hE.gr g2).set (av := .d (.list ds)) r2 i
  have es : σ.set i (some (.ref a)) = σ := by
    apply List.ext_getElem?
    intro j
    by_cases hj : i = j
    · subst hj
      rw [List.getElem?_set_self (List.getElem?_eq_some_iff.mp e1).1, e1]
    · rw [List.getElem?_set_ne hj]
  rw [es] at hE2
  exact h B σ φ F' H D hE2 k2 (d.go g2)
/-- return of a list of the store -/
theorem jss_retf {l : Nat} (he : JE C E S e (.o l) S1) (hl : S1[l]? = some (.ld ds)) (h : p.rt (.d (.list ds)) (S1.set l .dead)) : JSs C E S (.Return (some e) pos :: rest) p :=
  jss_cons fun B σ φ F H D hE k d => ⟨tRet (WE C e), fun i => ps_ret (we C e i), he B σ φ F H _ hE k fun v φ1 F1 H1 g1 k1 r1 => by
    obtain ⟨a, ea, rfl⟩ := r1
    obtain ⟨F', k2, g2, r2⟩ := k1.freeze ea hl
    exact d.rt (.d (.list ds)) (.ref a) φ1 F' H1 _ h (d.gs (g1.trans g2)) r2 k2⟩
end

/-! ### defs without a store: data in, data out -/
/-- with the arguments ds it returns r -/
def spP (K : PySem.W.Frag) (R : List PyData → PyData → Prop) : Sp := fun vs H Q _ => ∃ (ds : List PyData) (r : PyData) (B : List Addr) (F : Hp), R ds r ∧ Same F H ∧ (∀ b ∈ B, H b ≠ none) ∧ DpAll K F vs ds ∧
  ∀ v F' H', GrS B F H F' H' → Same F' H' → Dp K F' v r → Q v H'
abbrev defV (qual : Str) (sc : Scope) (f : Addr) (cd : Value) (A : Around) (outer : List Env) (s : Shared) (H : Hp) : CV :=
  ⟨A.deeper (envOfC qual sc s.heap.objs.size f cd), s, H, envOfC qual sc s.heap.objs.size f cd, outer, envOfC qual sc s.heap.objs.size f cd :: outer, [], fun _ => true, true, [], fun _ _ => False⟩
/-- the one context of a def's body -/
def defF (b : Bs) (N : List Str) (k : Nat) (qual : Str) (sc : Scope) (f : Addr) (cd : Value) (A : Around) (outer : List Env) (s : Shared) (H : Hp) (nd : N.Nodup) (hr : Room k (A.deeper (envOfC qual sc s.heap.objs.size f cd))) (an : Bool := false) : Fam :=
  ⟨b, N, k, Unit, fun _ => defV qual sc f cd A outer s H, nd, false, fun _ _ => hr, fun _ _ => rfl, sc, fun _ => rfl, fun _ _ => PassesOwn.never, fun _ _ _ _ => False, false, fun _ => takes0, an⟩
def startE (N : List Str) (avs : List AV) : AE := avs.map some ++ List.replicate (N.length - avs.length) none
theorem envr_start {K : PySem.W.Frag} {φ : List Addr} {F : Hp} {N : List Str} {vs : List V} {avs : List AV} (r : RVs K φ F vs avs) : EnvR K φ F (L2.start N vs) (startE N avs) := by
  have hl : vs.length = avs.length := Paired.length r
  refine ⟨by simp [L2.start, startE, hl], fun i av e => ?_⟩
  unfold startE at e
  unfold L2.start
  by_cases hi : i < avs.length
  · rw [List.getElem?_append_left (by simpa using hi), List.getElem?_map] at e
    cases ea : avs[i]? with
    | none => rw [ea] at e; cases e
    | some bv =>
      rw [ea] at e
      cases e
      have hi2 : i < vs.length := by omega
      refine ⟨vs[i], by rw [List.getElem?_append_left (by simpa using hi2), List.getElem?_map, List.getElem?_eq_getElem hi2]; rfl, ?_⟩
      clear hl
      induction r generalizing i with
      | nil => simp at ea
      | cons h t ih =>
        cases i with
        | zero => simp at ea; subst ea; exact h
        | succ j => exact ih j (by simpa using hi) (by simpa using ea) (by simpa using hi2)
  · rw [List.getElem?_append_right (by simpa using Nat.le_of_not_lt hi), List.getElem?_replicate] at e
    split at e <;> cases e
section
variable {P : Program} {w : World} {K : PySem.W.Frag} {mg : Str → Option Value} {base : Heap}
/-- THE RULE for a def of data -/
theorem fn_data {x qual : Str} {st : Stmt} {f : Addr} {fd : FuncData} {N ps : List Str} {k : Nat} {R : List PyData → PyData → Prop} (F : Fun K x qual st f fd) (Sc : FnScope N ps (defScope st)) (len : ∀ ds r, R ds r → ds.length = ps.length)
    (body : ∀ (cd : Value) (A : Around) (outer : List Env) (s : Shared) (H : Hp) (hr : Room k (A.deeper (envOfC qual (defScope st) s.heap.objs.size f cd))) (ds : List PyData) (r : PyData), R ds r →
      JSs (defF ⟨P, w, K, mg, base⟩ N k qual (defScope st) f cd A outer s H Sc.nd hr) (startE N (ds.map AV.d)) [] (defBody st) { nx := fun _ _ => r = .none, rt := fun av _ => av = .d r }) : FnOk P w K mg base CX0 (k + 1) f fd ps (spP K R) := by
  refine F.ok Sc (fun vs H Q E h => ?_) fun cd A outer s H vs Q E hr h => ?_
  · obtain ⟨ds, r, B, F, hR, _, _, hd, _⟩ := h
    rw [dpa_len hd]
    exact len ds r hR
  · obtain ⟨ds, r, B, F', hR, sub, hB, hd, q⟩ := h
    have kk : Ok K B [] F' H [] := ⟨sub, List.nodup_nil, fun a ha => (by cases ha), hB, rfl, fun l a o h1 _ => (by simp at h1)⟩
    obtain ⟨t, ht, hq⟩ := body cd A outer s H hr ds r hR B (L2.start N vs) [] F' H { nx := fun _ H' => Q .non H', rt := Q } (envr_start (rvs_of hd)) kk
      ⟨[], fun _ => rfl, ⟨[], rfl⟩, fun E σ φ F2 H2 S a g hE k2 => by subst a; exact q .non F2 H2 g.s k2.sub .non, fun av v φ F2 H2 S a g rv k2 => by subst a; exact q v F2 H2 g.s k2.sub rv, fun _ _ _ _ _ _ a => a.elim, fun _ _ _ _ _ _ a => a.elim, fun _ _ _ _ _ _ _ _ _ a => a.elim⟩
    exact ⟨t, ht (), hq⟩
end
section
variable {C : Fam} {E E' : AE} {S S0 T S1 S2 S3 S4 : Sto} {a b c e : Expr} {es : List Expr} {av bv cv : AV} {avs : List AV} {pos : Pos} {d : PyData} {ds : List PyData}
theorem Ok.called {K : PySem.W.Frag} {B φ : List Addr} {F H F' H' : Hp} {S : Sto} (k : Ok K B φ F H S) (g : GrS (B ++ φ) F H F' H') (sub : Same F' H') : Ok K B φ F' H' S ∧ Gr B φ F H φ F' H' := by
  refine ⟨⟨sub, k.nd, k.dis, fun b hb => ?_, k.len, fun l a o h1 h2 => ?_⟩, ⟨[], by simp⟩, g.ff, fun b hb => g.bb b (List.mem_append_left _ hb)⟩
  · rw [(g.bb b (List.mem_append_left _ hb)).1]
    exact k.bs b hb
  · have q := g.bb a (List.mem_append_right _ (List.mem_of_getElem? h1))
    exact ro_mono ⟨[], by simp⟩ g.ff q.2 q.1 (k.own l a o h1 h2)
/-- f(..), f a def of data -/
theorem je_call {x : Str} {q0 : Pos} {f : Addr} {fd : FuncData} {ps : List Str} {j : Nat} {R : List PyData → PyData → Prop} (G : FnOk C.b.P C.b.w C.b.K C.b.mg C.b.base CX0 j f fd ps (spP C.b.K R)) (hj : j ≤ C.k) (hm : C.b.mg x = some (.ref f)) (kp : PySem.W.keepIn C.b.K (.ref f) = true) (hb : Binds C.b.K fd ps [])
    (ha : JA C E S (e :: es) (ds.map AV.d) S1) (hR : R ds d) (hg : C.sc.names.lookup x = some .globalImplicit := by rfl) (hdb : (x == ("__debug__" : Str)) = false := by decide) (he : ∀ i : C.ι, starEach (e :: es) (C.V i).env = (false, eval e (C.V i).env) :: starEach es (C.V i).env := by intro _; rfl)
    (hpl : ∀ i : C.ι, (backTo pos (starEach es (C.V i).env)).any (·.1) = false := by intro _; rfl) (hh : C.hot = false := by rfl) : JE C E S (.Call (.Name x q0) (e :: es) [] pos) (.d d) S1 := by
  intro B σ φ F H Q hE k q
  refine ⟨tCall (spP C.b.K R) [] E0 (WA C (e :: es)), fun i => pe_call (X := C.cx i) G ((C.hr hh i).mono hj) (gl_of hg i) hm kp hb .nil pass0 (wa C _ i) hdb (he i) (hpl i), ?_⟩
  refine ha B σ φ F H _ hE k fun vs φ1 F1 H1 g1 k1 r1 => ?_
  refine ⟨ds, d, B ++ φ1, F1, hR, k1.sub, fun b hb => ?_, by rw [List.append_nil]; exact rvs_data r1, fun v F' H' g2 sub r2 => ?_⟩
  · rcases List.mem_append.mp hb with hb | hb
    · exact k1.bs b hb
    · obtain ⟨l, hl⟩ := List.mem_iff_getElem?.mp hb
      obtain ⟨o, _, r⟩ := k1.obj hl
      obtain ⟨u, e⟩ := r.some
      rw [e]
      exact fun z => by cases z
  · obtain ⟨k2, g3⟩ := k1.called g2 sub
    exact q v φ1 F' H' (g1.trans g3) k2 r2
end
end AL

namespace AL
open PySem PySem.Spec PyProof.Rows L2

/-! ### more operators by values -/
section
variable {X : Cx}
/-- list + list, lists that are read -/
def rCatS (K : PySem.W.Frag) : R2 := fun x y H Q => ∃ l b xs zs, x = .ref l ∧ y = .ref b ∧ SqL K H l xs ∧ SqL K H b zs ∧ xs.length + zs.length ≤ sizeLine ∧ ∀ p, H p = none → Q (.ref p) (upd H p (.lst (xs ++ zs)))
theorem op_catS : OpR X (binaryOp .Add) (rCatS X.K) := by
  intro pins s σ H x y v u Q I rx ry h
  obtain ⟨l, b, xs, zs, rfl, rfl, hH, hB, hz, q⟩ := h
  cases rx
  cases ry
  obtain ⟨its, r, ⟨o1, n, h1, hc1, hd1, he1⟩, hl⟩ := I.list hH
  obtain ⟨its2, r2, ⟨o2, n2, h2, hc2, hd2, he2⟩, hl2⟩ := I.list hB
  obtain ⟨c1, d1, dt1, sl1⟩ := o1
  obtain ⟨c2, d2, dt2, sl2⟩ := o2
  simp only at hc1 hd1 he1 hc2 hd2 he2
  subst hc1 hd1 he1 hc2 hd2 he2
  have e : its.toArray ++ its2.toArray = (its ++ its2).toArray := by simp
  have hl1 := r.length
  have hl3 := r2.length
  refine concat_meets ⟨_, h1, rfl⟩ ⟨_, h2, rfl⟩ noFill_list_add seq_list_add PySem.F.slot_list_add PySem.F.entry_list_add (PySem.F.args_list_add_2 _ _) (list_addW l b its.toArray its2.toArray n n2 none none sl1 sl2 (by simp; omega)) ⟨h1, h2, ?_⟩
  rw [e]
  exact ⟨.ref _, _, I.lnew (t' := s.toks) (r.append r2) (by rw [List.length_append]; omega), rfl, q _ I.fresh⟩
/-- a text, n times -/
def repS (x : Str) (n : Nat) : Str := ⟨(List.replicate n x.cps.toList).flatten.toArray⟩
theorem fold_arr (xs : List Nat) : ∀ (n : Nat) (a : Array Nat), (List.replicate n xs.toArray).foldl (· ++ ·) a = a ++ (List.replicate n xs).flatten.toArray
  | 0, a => by simp
  | n + 1, a => by
    rw [List.replicate_succ, List.foldl_cons, fold_arr xs n, List.replicate_succ, List.flatten_cons]
    simp
def rRepS : R2 := fun x y H Q => ∃ z n, x = .str z ∧ y = .int n ∧ 0 ≤ n ∧ n < 2 ^ 62 ∧ z.length * n.toNat ≤ 16777216 ∧ Q (.str (repS z n.toNat)) H
theorem op_repS : OpR X (binaryOp .Mult) rRepS := by
  intro pins s σ H x y v u Q I rx ry h
  obtain ⟨z, n, rfl, rfl, h0, h1, hz, q⟩ := h
  obtain ⟨t, rfl⟩ := rx
  obtain ⟨t', rfl⟩ := ry
  have e : repS z n.toNat = ⟨(List.replicate n.toNat z.cps).foldl (· ++ ·) #[]⟩ := by
    have := fold_arr z.cps.toList n.toNat #[]
    simp only [Array.toArray_toList] at this
    unfold repS
    rw [this]
    simp
  refine PySem.P.mul_str ?_ (fun hn hb hd => ?_) (fun hn hb => ?_) ?_
  · rw [decide_eq_false (by omega), decide_eq_false (by omega)]; rfl
  · have hn' : 1 ≤ n := by omega
    have h2 : (z.length : Int) * n ≤ 16777216 := by
      obtain ⟨k, rfl⟩ := Int.eq_ofNat_of_zero_le h0
      rw [Int.toNat_natCast] at hz
      rw [← Int.natCast_mul]
      omega
    have h3 : (z.length : Int) ≤ 16777216 := by
      have : (z.length : Int) * 1 ≤ (z.length : Int) * n := Int.mul_le_mul_of_nonneg_left hn' (Int.natCast_nonneg _)
      omega
    have h4 : (z.length : Int) ≤ (2 ^ 63 - 1) / n := by
      rw [Int.le_ediv_iff_mul_le (by omega)]
      omega
    omega
  · unfold Builtin.Str.tooLong
    apply decide_eq_false
    have : sizeLine = 16777216 := sizeLine_eq
    omega
  · by_cases hn : n < 1
    · rw [if_pos hn]
      have : n = 0 := by omega
      subst this
      refine ⟨by decide, .str Str.empty, H, I.tok _, ⟨_, rfl⟩, ?_⟩
      exact q
    · rw [if_neg hn]
      by_cases hb : (n == 1 || z.length == 0) = true
      · rw [if_pos hb]
        have e2 : repS z n.toNat = z := by
          rw [Bool.or_eq_true] at hb
          rcases hb with hb | hb
          · have : n = 1 := by simpa using hb
            subst this
            unfold repS
            simp
          · have h5 : z.cps.toList = [] := by
              have : z.cps.size = 0 := by simpa [Str.length] using hb
              simpa using this
            apply Str.ext'
            unfold repS
            have h6 : z.cps = #[] := by simpa using h5
            rw [h6]
            simp
        rw [e2] at q
        exact ⟨.str z, H, I, ⟨t, rfl⟩, q⟩
      · rw [if_neg hb, ← e]
        refine ⟨?_, .str _, H, I.tok _, ⟨_, rfl⟩, q⟩
        rw [Bool.or_eq_true] at hb
        have hn2 : 2 ≤ n.toNat := by
          have : ¬ n = 1 := fun z => hb (.inl (by rw [z]; rfl))
          omega
        unfold repS
        simp [Str.length] at hb ⊢
        rw [Nat.mul_comm, sizeLine_eq]
        exact hz
end

/-! ### their data -/
section
variable {K : PySem.W.Frag} {B φ : List Addr} {F H : Hp} {S : Sto} {av bv : AV} {d e : PyData} {ds es : List PyData}
theorem sr_cat (ha : rdA S av = some (.list ds)) (hb : rdA S bv = some (.list es)) (hl : ds.length + es.length ≤ sizeLine) : SR2 K S (rCatS K) av bv (.d (.list (ds ++ es))) S := fun B φ F H x y Q k r1 r2 q => by
  obtain ⟨a, vs, rfl, hs, ra⟩ := rd_list k r1 ha
  obtain ⟨b, ws, rfl, ht, rb⟩ := rd_list k r2 hb
  exact ⟨a, b, vs, ws, rfl, rfl, hs, ht, by rw [dpa_len ra, dpa_len rb]; exact hl, fun p hp => fin_new k q hp (.lst (.inl (.inl upd_same)) (dpa_mono (k.data (o := .lst (vs ++ ws)) hp).2.ff _ _ (dpa_app ra rb)))⟩
theorem sr_reps {z : Str} {n : Int} (h0 : 0 ≤ n) (h1 : n < 2 ^ 62) (hz : z.length * n.toNat ≤ 16777216) : SR2 K S rRepS (.d (.str z)) (.d (.int n)) (.d (.str (repS z n.toNat))) S := fun B φ F H x y Q k r1 r2 q => by
  cases r1; cases r2; exact ⟨z, n, rfl, rfl, h0, h1, hz, fin0 k q (.str _)⟩
theorem sr_cattup (ha : rdA S av = some (.tuple ds)) (hb : rdA S bv = some (.tuple es)) (h1 : ds ≠ []) (h2 : es ≠ []) (hl : ds.length + es.length ≤ sizeLine) : SR2 K S (rCatT K) av bv (.d (.tuple (ds ++ es))) S := fun B φ F H x y Q k r1 r2 q => by
  obtain ⟨a, vs, rfl, hs, ra⟩ := rd_tup k r1 ha
  obtain ⟨b, ws, rfl, ht, rb⟩ := rd_tup k r2 hb
  have n1 : vs ≠ [] := fun z => by subst z; cases ra; exact h1 rfl
  have n2 : ws ≠ [] := fun z => by subst z; cases rb; exact h2 rfl
  refine ⟨a, b, vs, ws, rfl, rfl, hs, ht, n1, by rw [dpa_len ra, dpa_len rb]; exact hl, fun z => absurd z n2, fun _ p hp => fin_new k q hp (.tup (.inl (.inl upd_same)) (dpa_mono (k.data (o := .tup (vs ++ ws)) hp).2.ff _ _ (dpa_app ra rb)))⟩
theorem rvs1 {xs : List V} (r : RVs K φ F xs [av]) : ∃ x, xs = [x] ∧ RV K φ F x av := by
  cases r with
  | cons h t => cases t; exact ⟨_, rfl, h⟩
theorem rvs2 {xs : List V} (r : RVs K φ F xs [av, bv]) : ∃ x y, xs = [x, y] ∧ RV K φ F x av ∧ RV K φ F y bv := by
  cases r with
  | cons h t => cases t with | cons h2 t => cases t; exact ⟨_, _, rfl, h, h2⟩
theorem sl_len (ha : rdA S av = some d) (hi : itemsD d = some ds) : SRL K S (fun xs H Q => ∃ p ys, xs = [.ref p] ∧ (SqL K H p ys ∨ SqT K H p ys) ∧ Q (.int ys.length) H) [av] (.d (.int ds.length)) S := fun B φ F H xs Q k r0 q => by
  obtain ⟨x, rfl, r⟩ := rvs1 r0
  obtain ⟨a, vs, rfl, hs, ra⟩ := rd_seq k r ha hi
  exact ⟨a, vs, rfl, hs, by rw [dpa_len ra]; exact fin0 k q (.int _)⟩
theorem sl_lens {z : Str} (hz : z.length ≤ sizeLine) : SRL K S (fun xs H Q => ∃ z, xs = [.str z] ∧ z.length ≤ sizeLine ∧ Q (.int z.length) H) [.d (.str z)] (.d (.int z.length)) S := fun B φ F H xs Q k r0 q => by
  obtain ⟨x, rfl, r⟩ := rvs1 r0
  cases r
  exact ⟨z, rfl, hz, fin0 k q (.int _)⟩
theorem sl_int {i : Int} : SRL K S (fun xs H Q => (∃ i, xs = [.int i] ∧ Q (.int i) H) ∨ ∃ k, xs = [.bl k] ∧ Q (.int (if k then 1 else 0)) H) [.d (.int i)] (.d (.int i)) S := fun B φ F H xs Q k r0 q => by
  obtain ⟨x, rfl, r⟩ := rvs1 r0
  cases r
  exact .inl ⟨i, rfl, fin0 k q (.int _)⟩
theorem sl_intb {i : Bool} : SRL K S (fun xs H Q => (∃ i, xs = [.int i] ∧ Q (.int i) H) ∨ ∃ k, xs = [.bl k] ∧ Q (.int (if k then 1 else 0)) H) [.d (.bool i)] (.d (.int (if i then 1 else 0))) S := fun B φ F H xs Q k r0 q => by
  obtain ⟨x, rfl, r⟩ := rvs1 r0
  cases r
  exact .inr ⟨i, rfl, fin0 k q (.int _)⟩
theorem sl_strint {i : Int} (h : i.natAbs.log2 < 1920) : SRL K S (fun xs H Q => ∃ i : Int, xs = [.int i] ∧ i.natAbs.log2 < 1920 ∧ Q (.str (toString i)) H) [.d (.int i)] (.d (.str (toString i))) S := fun B φ F H xs Q k r0 q => by
  obtain ⟨x, rfl, r⟩ := rvs1 r0
  cases r
  exact ⟨i, rfl, h, fin0 k q (.str _)⟩
theorem sl_ord {c : Nat} : SRL K S (fun xs H Q => ∃ x : Str, xs = [.str x] ∧ x.length = 1 ∧ Q (.int (x.cps.getD 0 0 : Nat)) H) [.d (.str ⟨#[c]⟩)] (.d (.int (c : Nat))) S := fun B φ F H xs Q k r0 q => by
  obtain ⟨x, rfl, r⟩ := rvs1 r0
  cases r
  exact ⟨_, rfl, rfl, fin0 k q (.int _)⟩
theorem sl_min2 {i j : Int} : SRL K S (fun xs H Q => ∃ i j, xs = [.int i, .int j] ∧ Q (.int (if j < i then j else i)) H) [.d (.int i), .d (.int j)] (.d (.int (if j < i then j else i))) S := fun B φ F H xs Q k r0 q => by
  obtain ⟨x, y, rfl, r1, r2⟩ := rvs2 r0
  cases r1; cases r2
  exact ⟨i, j, rfl, fin0 k q (.int _)⟩
theorem sl_max2 {i j : Int} : SRL K S (fun xs H Q => ∃ i j, xs = [.int i, .int j] ∧ Q (.int (if j > i then j else i)) H) [.d (.int i), .d (.int j)] (.d (.int (if j > i then j else i))) S := fun B φ F H xs Q k r0 q => by
  obtain ⟨x, y, rfl, r1, r2⟩ := rvs2 r0
  cases r1; cases r2
  exact ⟨i, j, rfl, fin0 k q (.int _)⟩
/-- tuple(xs) -/
theorem sl_tuple (ha : rdA S av = some d) (hi : itemsD d = some ds) : SRL K S (fun xs H Q => ∃ p ys, xs = [.ref p] ∧ ((SqL K H p ys ∧ ∀ l, H l = none → Q (.ref l) (upd H l (.tup ys))) ∨ (SqT K H p ys ∧ Q (.ref p) H))) [av] (.d (.tuple ds)) S := fun B φ F H xs Q k r0 q => by
  obtain ⟨x, rfl, r⟩ := rvs1 r0
  cases d with
  | list es =>
    cases hi
    obtain ⟨a, vs, rfl, hs, ra⟩ := rd_list k r ha
    exact ⟨a, vs, rfl, .inl ⟨hs, fun p hp => fin_new k q hp (.tup (.inl (.inl upd_same)) (dpa_mono (k.data (o := .tup vs) hp).2.ff _ _ ra))⟩⟩
  | tuple es =>
    cases hi
    obtain ⟨a, vs, rfl, hs, ra⟩ := rd_tup k r ha
    refine ⟨a, vs, rfl, .inr ⟨hs, fin0 k q ?_⟩⟩
    cases av with
    | d y => cases ha; exact r
    | o l => obtain ⟨xs, _, h⟩ := rdO_some ha; cases h
    | v y => cases ha
  | _ => cases hi
/-- list(xs): data -/
theorem sl_listd (ha : rdA S av = some d) (hi : itemsD d = some ds) : SRL K S (fun xs H Q => ∃ p ys, xs = [.ref p] ∧ (SqL K H p ys ∨ SqT K H p ys) ∧ ∀ l, H l = none → Q (.ref l) (upd H l (.lst ys))) [av] (.d (.list ds)) S := fun B φ F H xs Q k r0 q => by
  obtain ⟨x, rfl, r⟩ := rvs1 r0
  obtain ⟨a, vs, rfl, hs, ra⟩ := rd_seq k r ha hi
  exact ⟨a, vs, rfl, hs, fun p hp => fin_new k q hp (.lst (.inl (.inl upd_same)) (dpa_mono (k.data (o := .lst vs) hp).2.ff _ _ ra))⟩
/-- list(xs): of the store -/
theorem sl_list (ha : rdA S av = some d) (hi : itemsD d = some ds) : SRL K S (fun xs H Q => ∃ p ys, xs = [.ref p] ∧ (SqL K H p ys ∨ SqT K H p ys) ∧ ∀ l, H l = none → Q (.ref l) (upd H l (.lst ys))) [av] (.o S.length) (S ++ [.ld ds]) := fun B φ F H xs Q k r0 q => by
  obtain ⟨x, rfl, r⟩ := rvs1 r0
  obtain ⟨a, vs, rfl, hs, ra⟩ := rd_seq k r ha hi
  refine ⟨a, vs, rfl, hs, fun p hp => ?_⟩
  obtain ⟨k2, g2⟩ := k.new (o := .lst vs) (m := .ld ds) hp fun hF => ⟨hF, vs, upd_same, ra⟩
  exact q _ _ _ _ g2 k2 ⟨p, by rw [← k.len]; simp, rfl⟩
/-- max of a list of numbers -/
theorem sl_max {ns : List Int} {m : Int} (ha : rdA S av = some (.list (ns.map PyData.int))) (hn : 0 < ns.length) (hm : ∀ z, z ∈ ns → (∀ y ∈ ns, y ≤ z) → z = m) : SRL K S (rMax K) [av] (.d (.int m)) S := fun B φ F H xs Q k r0 q => by
  obtain ⟨x, rfl, r⟩ := rvs1 r0
  obtain ⟨a, vs, rfl, hs, ra⟩ := rd_list k r ha
  have e := dpa_ints ra
  subst e
  exact ⟨a, ns, rfl, hs, hn, fun z h1 h2 => by rw [hm z h1 h2]; exact fin0 k q (.int _)⟩
/-! ### isinstance -/
def tyD : PyData → String
  | .none => "NoneType"
  | .bool _ => "bool"
  | .int _ => "int"
  | .str _ => "str"
  | .list _ => "list"
  | .tuple _ => "tuple"
  | .dict _ => "dict"
theorem dp_ty {x : V} (h : Dp K H x d) : TyX K H x (.type (tyD d)) := by
  cases h with
  | non => exact .base .non
  | bl b => exact .base (.bl b)
  | int i => exact .base (.int i)
  | str x => exact .base (.str x)
  | lst hs ha =>
    rcases hs with (hs | ⟨o, hs⟩) | ⟨o, its, n, hk, hc, _⟩
    · exact .base (.lst hs)
    · exact .base (.frz hs)
    · exact .kList hk hc
  | tup hs ha =>
    rcases hs with (hs | ⟨o, hs⟩) | ⟨o, its, n, hk, hc, _⟩
    · exact .base (.tup hs)
    · exact .fTuple hs
    · exact .kTuple hk hc
theorem sl_isi {T : String} {b : Bool} (ha : rdA S av = some d) (h : kitB (tyD d) T = some b := by decide +kernel) : SRL K S (rIsi K) [av, .v (.ty T)] (.d (.bool b)) S := fun B φ F H xs Q k r0 q => by
  obtain ⟨x, y, rfl, r1, r2⟩ := rvs2 r0
  cases r2
  exact ⟨x, .ty T, .type (tyD d), .type T, b, rfl, .ty T, dp_ty (rd_dp k r1 ha), kit_ty h, fin0 k q (.bl _)⟩
end
/-! ### what is walked, further -/
section
variable {C : Fam} {E E' : AE} {S S1 S2 S3 S4 : Sto} {a b c e tg iter : Expr} {es : List Expr} {av bv cv : AV} {avs : List AV} {pos : Pos} {d : PyData} {ds : List PyData}
/-- the signs of a text -/
def signsD (z : Str) : List PyData := z.cps.toList.map fun (c : Nat) => PyData.str ⟨#[c]⟩
theorem ji_str {z : Str} (h : JE C E S iter (.d (.str z)) S1) : JI C E S tg iter (signsD z) S1 := by
  intro B σ φ F H R hE k q
  refine ⟨iStr (WE C iter), fun i => pi_str (we C iter i), h B σ φ F H _ hE k fun v φ1 F1 H1 g1 k1 r1 => ?_⟩
  cases r1
  refine ⟨z, rfl, q _ φ1 F1 H1 g1 k1 fun ψ F2 H2 S2 s2 k2 => ?_⟩
  refine ⟨fun i d hd => ?_, by unfold signsD; rw [List.length_map]; exact Nat.le_of_eq (by simp)⟩
  unfold signsD at hd
  rw [List.getElem?_map] at hd
  cases hc : z.cps.toList[i]? with
  | none => rw [hc] at hd; cases hd
  | some c =>
    rw [hc] at hd
    cases hd
    have hc2 : z.cps[i]? = some c := by simpa using hc
    refine ⟨(Array.getElem?_eq_some_iff.mp hc2).1, fun x H' hy => ?_⟩
    obtain ⟨rfl, c', hc', rfl⟩ := hy
    rw [hc2] at hc'
    cases hc'
    exact ⟨F2, .refl, k2, .str _⟩
theorem ji_enum {elts : List Expr} {kk : Nat} {tpos p : Pos} (h : JA C E S [a] [.d (.list ds)] S1) (hm : C.b.mg "enumerate" = none) (hg : C.sc.names.lookup ("enumerate" : Str) = some .globalImplicit := by rfl) (hs : ∀ i : C.ι, starEach [a] (C.V i).env = [(false, eval a (C.V i).env)] := by intro _; rfl) :
    JI C E S (.Tuple elts kk tpos) (.Call (.Name "enumerate" p) [a] [] pos) ((List.range ds.length).zipWith (fun (i : Nat) d => PyData.tuple [.int i, d]) ds) S1 := by
  intro B σ φ F H R hE k q
  refine ⟨iEnum C.b.K (WA C [a]), fun i => pi_enum (X := C.cx i) (gl_of hg i) hm (wa C [a] i) (hs i), h B σ φ F H _ hE k fun vs φ1 F1 H1 g1 k1 r1 => ?_⟩
  obtain ⟨x, e0, r1'⟩ := rvs1 r1
  subst e0
  clear r1
  have r1 := r1'
  clear r1'
  cases r1 with
  | @lst a xs _ hs ha =>
    refine ⟨a, xs, rfl, k1.seqL hs, q _ φ1 F1 H1 g1 k1 fun ψ F2 H2 S2 s2 k2 => ?_⟩
    have hs2 : SqL C.b.K H2 a xs := k2.seqL (s2.seq hs)
    have hlen := dpa_len ha
    refine ⟨fun i d hd => ?_, ⟨xs, hs2, by rw [hlen]; simp⟩⟩
    rw [List.getElem?_zipWith] at hd
    by_cases hi : i < ds.length
    · rw [List.getElem?_range hi, List.getElem?_eq_getElem hi] at hd
      cases hd
      obtain ⟨x, hx, rx⟩ := dpa_get' ha (List.getElem?_eq_getElem hi)
      refine ⟨⟨xs, x, hs2, hx⟩, fun y H' hy => ?_⟩
      obtain ⟨T, x', rfl, hT, rfl, hy⟩ := hy
      have e := (hy xs hs2).symm.trans hx
      cases e
      obtain ⟨k3, g3⟩ := k2.data (o := .tup [.int (i : Nat), x]) hT
      exact ⟨_, g3, k3, .tup (.inl (.inl upd_same)) (.cons (.int _) (.cons (dp_mono (s2.trans g3.ff) _ _ rx) .nil))⟩
    · rw [List.getElem?_eq_none (by simpa using hi)] at hd
      cases hd
theorem ji_zip {elts : List Expr} {kk : Nat} {tpos p : Pos} {es' : List PyData} (h : JA C E S [a, b] [.d (.list ds), .d (.list es')] S1) (hm : C.b.mg "zip" = none) (hg : C.sc.names.lookup ("zip" : Str) = some .globalImplicit := by rfl) (hs : ∀ i : C.ι, starEach [a, b] (C.V i).env = (false, eval a (C.V i).env) :: starEach [b] (C.V i).env := by intro _; rfl)
    (hpl : ∀ i : C.ι, (backTo pos (starEach [b] (C.V i).env)).any (·.1) = false := by intro _; rfl) :
    JI C E S (.Tuple elts kk tpos) (.Call (.Name "zip" p) [a, b] [] pos) (ds.zipWith (fun x y => PyData.tuple [x, y]) es') S1 := by
  intro B σ φ F H R hE k q
  refine ⟨iZip C.b.K (WA C [a, b]), fun i => pi_zip (X := C.cx i) (gl_of hg i) hm (wa C [a, b] i) (hs i) (hpl i), h B σ φ F H _ hE k fun vs φ1 F1 H1 g1 k1 r1 => ?_⟩
  obtain ⟨x, y, e0, r1', r2⟩ := rvs2 r1
  subst e0
  clear r1
  have r1 := r1'
  clear r1'
  cases r1 with
  | @lst a xs _ hs ha =>
    cases r2 with
    | @lst b ys _ ht hb =>
      refine ⟨a, b, xs, ys, rfl, k1.seqL hs, k1.seqL ht, q _ φ1 F1 H1 g1 k1 fun ψ F2 H2 S2 s2 k2 => ?_⟩
      have hs2 : SqL C.b.K H2 a xs := k2.seqL (s2.seq hs)
      have ht2 : SqL C.b.K H2 b ys := k2.seqL (s2.seq ht)
      have hl1 := dpa_len ha
      have hl2 := dpa_len hb
      refine ⟨fun i d hd => ?_, ⟨xs, ys, hs2, ht2, by rw [hl1, hl2, List.length_zipWith]; omega⟩⟩
      rw [List.getElem?_zipWith] at hd
      cases h1 : ds[i]? with
      | none => rw [h1] at hd; cases hd
      | some d1 =>
        cases h2 : es'[i]? with
        | none => rw [h1, h2] at hd; cases hd
        | some d2 =>
          rw [h1, h2] at hd
          cases hd
          obtain ⟨x, hx, rx⟩ := dpa_get' ha h1
          obtain ⟨y, hy, ry⟩ := dpa_get' hb h2
          refine ⟨⟨xs, ys, x, y, hs2, ht2, hx, hy⟩, fun z H' hz => ?_⟩
          obtain ⟨T, x', y', rfl, hT, rfl, q1, q2⟩ := hz
          have e1 := (q1 xs hs2).symm.trans hx
          have e2 := (q2 ys ht2).symm.trans hy
          cases e1
          cases e2
          obtain ⟨k3, g3⟩ := k2.data (o := .tup [x, y]) hT
          exact ⟨_, g3, k3, .tup (.inl (.inl upd_same)) (.cons (dp_mono (s2.trans g3.ff) _ _ rx) (.cons (dp_mono (s2.trans g3.ff) _ _ ry) .nil))⟩
/-- xs[i] = e, xs a list of data of the store -/
theorem jss_setix {o ix : Expr} {l : Nat} {i : Int} {m : Nat} {pos' : Pos} (he : JE C E S e (.d d) S1) (ho : JE C E S1 o (.o l) S2) (hi : JE C E S2 ix (.d (.int i)) S3) (hl : S3[l]? = some (.ld ds)) (hx : ixN ds.length i = some m) {rest : List Stmt} {p : Po} (h : JSs C E (S3.set l (.ld (ds.set m d))) rest p)
    (hs : ∀ i : C.ι, swapsWithSole [.Subscript o ix pos'] e pos.line (C.V i).env = pure false := by intro _; rfl) (hw : ∀ i : C.ι, swappedStores [.Subscript o ix pos'] e (C.V i).env = pure none := by intro _; rfl) (h1 : ∀ i : C.ι, (assignEach [.Subscript o ix pos'] (C.V i).env).map (·.2) = [assign (.Subscript o ix pos') (C.V i).env] := by intro _; rfl)
    (ha : ∀ (i : C.ι) v, assign (.Subscript o ix pos') (C.V i).env v = (do let ov ← holding [v] (eval o (C.V i).env); let iv ← holding [v, ov] (eval ix (C.V i).env); standAt pos'; holding [v, ov, iv] (setItem ov iv v); release [v, ov, iv] []) := by intro _ _; rfl) : JSs C E S (.Assign [.Subscript o ix pos'] e pos :: rest) p :=
  jss_cons fun B σ φ F H D hE k d' => ⟨tAsg (WE C e) (gSub (WE C o) (WE C ix) rSetL), fun i => ps_asg (we C e i) (pg_sub (we C o i) (we C ix i) set_list (ha i)) (hs i) (hw i) (h1 i), by
    refine he B σ φ F H _ hE k fun v φ1 F1 H1 g1 k1 r1 => ?_
    refine ho B σ φ1 F1 H1 _ (hE.gr g1) k1 fun x φ2 F2 H2 g2 k2 r2 => ?_
    refine hi B σ φ2 F2 H2 _ (hE.gr (g1.trans g2)) k2 fun y φ3 F3 H3 g3 k3 r3 => ?_
    cases r3
    obtain ⟨a, ea, rfl⟩ := r2.gr g3
    obtain ⟨n, vs, hH, ra⟩ := k3.own l a _ ea hl
    refine ⟨a, vs, i, m, rfl, rfl, hH, by rw [dpa_len ra]; exact hx, ?_⟩
    obtain ⟨k4, g4⟩ := k3.put (o := .lst (vs.set m v)) (m := .ld (ds.set m d)) ea ⟨n, _, upd_same, dpa_set ((r1.gr (g2.trans g3))) m ra⟩ n
    exact d'.nx _ _ φ3 F3 _ _ h (d'.gs (g1.trans (g2.trans (g3.trans g4)))) (hE.gr (g1.trans (g2.trans (g3.trans g4)))) k4⟩
end
end AL

namespace AL
open PySem PySem.Spec PyProof.Rows L2
section
variable {C : Fam} {E E' : AE} {S S1 S2 S3 S4 : Sto} {a b c e tg iter o : Expr} {es : List Expr} {av bv cv : AV} {avs : List AV} {pos p apos : Pos} {d d' : PyData} {ds ds' : List PyData} {i j : Int} {s t : Str} {rest body els : List Stmt} {q : Po}
theorem je_add (ha : JE C E S a (.d (.int i)) S1) (hb : JE C E S1 b (.d (.int j)) S2) : JE C E S (.BinOp a .Add b pos) (.d (.int (i + j))) S2 := je_bin (fun _ => op_add) sr_i0 ha hb
theorem je_sub (ha : JE C E S a (.d (.int i)) S1) (hb : JE C E S1 b (.d (.int j)) S2) : JE C E S (.BinOp a .Sub b pos) (.d (.int (i - j))) S2 := je_bin (fun _ => op_sub) sr_i0 ha hb
theorem je_mul (ha : JE C E S a (.d (.int i)) S1) (hb : JE C E S1 b (.d (.int j)) S2) (h : CMul i j := by first | exact .inr ⟨by decide, by decide⟩ | exact .inl ⟨by decide, by decide⟩ | exact .inl ⟨by omega, by omega⟩ | exact .inr ⟨by omega, by omega⟩) : JE C E S (.BinOp a .Mult b pos) (.d (.int (i * j))) S2 := je_bin (fun _ => op_mul) (sr_i h) ha hb
theorem je_mulX (ha : JE C E S a (.d (.int i)) S1) (hb : JE C E S1 b (.d (.int j)) S2) (h : CMul i j) : JE C E S (.BinOp a .Mult b pos) (.d (.int (i * j))) S2 := je_bin (fun _ => op_mul) (sr_i h) ha hb
theorem je_fdiv (ha : JE C E S a (.d (.int i)) S1) (hb : JE C E S1 b (.d (.int j)) S2) (h : CDiv i j := by exact ⟨by decide, by decide⟩) : JE C E S (.BinOp a .FloorDiv b pos) (.d (.int (i / j))) S2 := je_bin (fun _ => op_fdiv) (sr_i h) ha hb
theorem je_mod (ha : JE C E S a (.d (.int i)) S1) (hb : JE C E S1 b (.d (.int j)) S2) (h : 0 < j := by first | decide | omega) : JE C E S (.BinOp a .Mod b pos) (.d (.int (i % j))) S2 := je_bin (fun _ => op_mod) (sr_i h) ha hb
theorem je_pow (ha : JE C E S a (.d (.int i)) S1) (hb : JE C E S1 b (.d (.int j)) S2) (h : CPow i j := by exact ⟨by decide, by decide, by decide⟩) : JE C E S (.BinOp a .Pow b pos) (.d (.int (i ^ j.toNat))) S2 := je_bin (fun _ => op_pow) (sr_i h) ha hb
theorem je_neg (ha : JE C E S a (.d (.int i)) S1) : JE C E S (.UnaryOp .USub a pos) (.d (.int (-i))) S1 := je_un (fun _ => un_neg) sr_u ha
theorem je_adds (ha : JE C E S a (.d (.str s)) S1) (hb : JE C E S1 b (.d (.str t)) S2) (h : s.length + t.length ≤ sizeLine) : JE C E S (.BinOp a .Add b pos) (.d (.str (s ++ t))) S2 := je_bin (fun _ => op_add_str) (sr_adds h) ha hb
theorem je_cat (ha : JE C E S a av S1) (hb : JE C E S1 b bv S2) (h1 : rdA S2 av = some (.list ds)) (h2 : rdA S2 bv = some (.list ds')) (hl : ds.length + ds'.length ≤ sizeLine) : JE C E S (.BinOp a .Add b pos) (.d (.list (ds ++ ds'))) S2 := je_bin (fun i => op_catS (X := C.cx i)) (sr_cat h1 h2 hl) ha hb
theorem je_reps (ha : JE C E S a (.d (.str s)) S1) (hb : JE C E S1 b (.d (.int j)) S2) (h0 : 0 ≤ j) (h1 : j < 2 ^ 62) (hz : s.length * j.toNat ≤ 16777216) : JE C E S (.BinOp a .Mult b pos) (.d (.str (repS s j.toNat))) S2 := je_bin (fun _ => op_repS) (sr_reps h0 h1 hz) ha hb
theorem je_lt (ha : JE C E S a (.d (.int i)) S1) (hb : JE C E S1 b (.d (.int j)) S2) : JE C E S (.Compare a [.Lt] [b] pos) (.d (.bool (decide (i < j)))) S2 := je_cmp (fun _ => op_lt) sr_b0 ha hb (nomark _)
theorem je_le (ha : JE C E S a (.d (.int i)) S1) (hb : JE C E S1 b (.d (.int j)) S2) : JE C E S (.Compare a [.LtE] [b] pos) (.d (.bool (decide (i ≤ j)))) S2 := je_cmp (fun _ => op_le) sr_b0 ha hb (nomark _)
theorem je_gt (ha : JE C E S a (.d (.int i)) S1) (hb : JE C E S1 b (.d (.int j)) S2) : JE C E S (.Compare a [.Gt] [b] pos) (.d (.bool (decide (j < i)))) S2 := je_cmp (fun _ => op_gt) sr_b0 ha hb (nomark _)
theorem je_ge (ha : JE C E S a (.d (.int i)) S1) (hb : JE C E S1 b (.d (.int j)) S2) : JE C E S (.Compare a [.GtE] [b] pos) (.d (.bool (decide (j ≤ i)))) S2 := je_cmp (fun _ => op_ge) sr_b0 ha hb (nomark _)
theorem je_eqi (ha : JE C E S a (.d (.int i)) S1) (hb : JE C E S1 b (.d (.int j)) S2) : JE C E S (.Compare a [.Eq] [b] pos) (.d (.bool (decide (i = j)))) S2 := je_cmp (fun _ => op_eq) sr_eq_ii ha hb (nomark _)
theorem je_nei (ha : JE C E S a (.d (.int i)) S1) (hb : JE C E S1 b (.d (.int j)) S2) : JE C E S (.Compare a [.NotEq] [b] pos) (.d (.bool (!decide (i = j)))) S2 := je_cmp (fun _ => op_ne) sr_ne_ii ha hb (nomark _)
theorem je_eqs (ha : JE C E S a (.d (.str s)) S1) (hb : JE C E S1 b (.d (.str t)) S2) : JE C E S (.Compare a [.Eq] [b] pos) (.d (.bool (decide (s = t)))) S2 := je_cmp (fun _ => op_eq) sr_eq_ss ha hb (nomark _)
theorem je_nes (ha : JE C E S a (.d (.str s)) S1) (hb : JE C E S1 b (.d (.str t)) S2) : JE C E S (.Compare a [.NotEq] [b] pos) (.d (.bool (!decide (s = t)))) S2 := je_cmp (fun _ => op_ne) sr_ne_ss ha hb (nomark _)
theorem je_eqb {x y : Bool} (ha : JE C E S a (.d (.bool x)) S1) (hb : JE C E S1 b (.d (.bool y)) S2) : JE C E S (.Compare a [.Eq] [b] pos) (.d (.bool (decide (x = y)))) S2 := je_cmp (fun _ => op_eq) sr_eq_bb ha hb (nomark _)
theorem je_neb {x y : Bool} (ha : JE C E S a (.d (.bool x)) S1) (hb : JE C E S1 b (.d (.bool y)) S2) : JE C E S (.Compare a [.NotEq] [b] pos) (.d (.bool (!decide (x = y)))) S2 := je_cmp (fun _ => op_ne) sr_ne_bb ha hb (nomark _)
theorem je_eqD (ha : JE C E S a av S1) (hb : JE C E S1 b bv S2) (h1 : rdA S2 av = some d) (h2 : rdA S2 bv = some d') (s1 : SeqAt.shaped d = true) (s2 : SeqAt.shaped d' = true) (hh : C.hot = false := by rfl) : JE C E S (.Compare a [.Eq] [b] pos) (.d (.bool (PyData.eqv d d'))) S2 := je_cmp (fun i => op_eqD (X := C.cx i) (C.hr hh i).units) (sr_eqD h1 h2 s1 s2) ha hb (nomark _)
theorem je_neD (ha : JE C E S a av S1) (hb : JE C E S1 b bv S2) (h1 : rdA S2 av = some d) (h2 : rdA S2 bv = some d') (s1 : SeqAt.shaped d = true) (s2 : SeqAt.shaped d' = true) (hh : C.hot = false := by rfl) : JE C E S (.Compare a [.NotEq] [b] pos) (.d (.bool (!PyData.eqv d d'))) S2 := je_cmp (fun i => op_neD (X := C.cx i) (C.hr hh i).units) (sr_neD h1 h2 s1 s2) ha hb (nomark _)
theorem je_isN {k : Nat} {pos' : Pos} (ha : JE C E S a av S1) : JE C E S (.Compare a [.Is] [.Constant .none k pos'] pos) (.d (.bool (isNoneA av))) S1 := je_cmp (fun _ => op_isN) sr_isN ha je_non (nomark _)
theorem je_notN {k : Nat} {pos' : Pos} (ha : JE C E S a av S1) : JE C E S (.Compare a [.IsNot] [.Constant .none k pos'] pos) (.d (.bool (!isNoneA av))) S1 := je_cmp (fun _ => op_notN) sr_notN ha je_non (nomark _)
theorem je_lts (ha : JE C E S a (.d (.str s)) S1) (hb : JE C E S1 b (.d (.str t)) S2) : JE C E S (.Compare a [.Lt] [b] pos) (.d (.bool (decide (s.cps.toList < t.cps.toList)))) S2 := je_cmp (fun _ => op_lt_str) sr_lts ha hb (nomark _)
theorem je_gts (ha : JE C E S a (.d (.str s)) S1) (hb : JE C E S1 b (.d (.str t)) S2) : JE C E S (.Compare a [.Gt] [b] pos) (.d (.bool (decide (t.cps.toList < s.cps.toList)))) S2 := je_cmp (fun _ => op_gt_str) sr_gts ha hb (nomark _)
theorem je_insign {x : Nat} (ha : JE C E S a (.d (.str ⟨#[x]⟩)) S1) (hb : JE C E S1 b (.d (.str t)) S2) (hm : behindInMarks .In b = false := by rfl) : JE C E S (.Compare a [.In] [b] pos) (.d (.bool (decide (x ∈ t.cps.toList)))) S2 := je_cmp (fun _ => op_in_sign) sr_insign ha hb hm
theorem je_notinsign {x : Nat} (ha : JE C E S a (.d (.str ⟨#[x]⟩)) S1) (hb : JE C E S1 b (.d (.str t)) S2) (hm : behindInMarks .NotIn b = false := by rfl) : JE C E S (.Compare a [.NotIn] [b] pos) (.d (.bool (!decide (x ∈ t.cps.toList)))) S2 := je_cmp (fun _ => op_notIn_sign) sr_notinsign ha hb hm
/-- a comparison that gives a bool, as a test: jt_val -/
theorem jt_lt (ha : JE C E S a (.d (.int i)) S1) (hb : JE C E S1 b (.d (.int j)) S2) : JT C E S (.Compare a [.Lt] [b] pos) (decide (i < j)) S2 := jt_cmp (fun _ => op_lt) sr_b0 ha hb (nomark _)
theorem jt_le (ha : JE C E S a (.d (.int i)) S1) (hb : JE C E S1 b (.d (.int j)) S2) : JT C E S (.Compare a [.LtE] [b] pos) (decide (i ≤ j)) S2 := jt_cmp (fun _ => op_le) sr_b0 ha hb (nomark _)
theorem jt_gt (ha : JE C E S a (.d (.int i)) S1) (hb : JE C E S1 b (.d (.int j)) S2) : JT C E S (.Compare a [.Gt] [b] pos) (decide (j < i)) S2 := jt_cmp (fun _ => op_gt) sr_b0 ha hb (nomark _)
theorem jt_ge (ha : JE C E S a (.d (.int i)) S1) (hb : JE C E S1 b (.d (.int j)) S2) : JT C E S (.Compare a [.GtE] [b] pos) (decide (j ≤ i)) S2 := jt_cmp (fun _ => op_ge) sr_b0 ha hb (nomark _)
theorem jt_eqi (ha : JE C E S a (.d (.int i)) S1) (hb : JE C E S1 b (.d (.int j)) S2) : JT C E S (.Compare a [.Eq] [b] pos) (decide (i = j)) S2 := jt_cmp (fun _ => op_eq) sr_eq_ii ha hb (nomark _)
theorem jt_nei (ha : JE C E S a (.d (.int i)) S1) (hb : JE C E S1 b (.d (.int j)) S2) : JT C E S (.Compare a [.NotEq] [b] pos) (!decide (i = j)) S2 := jt_cmp (fun _ => op_ne) sr_ne_ii ha hb (nomark _)
theorem jt_eqs (ha : JE C E S a (.d (.str s)) S1) (hb : JE C E S1 b (.d (.str t)) S2) : JT C E S (.Compare a [.Eq] [b] pos) (decide (s = t)) S2 := jt_cmp (fun _ => op_eq) sr_eq_ss ha hb (nomark _)
theorem jt_nes (ha : JE C E S a (.d (.str s)) S1) (hb : JE C E S1 b (.d (.str t)) S2) : JT C E S (.Compare a [.NotEq] [b] pos) (!decide (s = t)) S2 := jt_cmp (fun _ => op_ne) sr_ne_ss ha hb (nomark _)
theorem jt_eqb {x y : Bool} (ha : JE C E S a (.d (.bool x)) S1) (hb : JE C E S1 b (.d (.bool y)) S2) : JT C E S (.Compare a [.Eq] [b] pos) (decide (x = y)) S2 := jt_cmp (fun _ => op_eq) sr_eq_bb ha hb (nomark _)
theorem jt_neb {x y : Bool} (ha : JE C E S a (.d (.bool x)) S1) (hb : JE C E S1 b (.d (.bool y)) S2) : JT C E S (.Compare a [.NotEq] [b] pos) (!decide (x = y)) S2 := jt_cmp (fun _ => op_ne) sr_ne_bb ha hb (nomark _)
theorem jt_eqD (ha : JE C E S a av S1) (hb : JE C E S1 b bv S2) (h1 : rdA S2 av = some d) (h2 : rdA S2 bv = some d') (s1 : SeqAt.shaped d = true) (s2 : SeqAt.shaped d' = true) (hh : C.hot = false := by rfl) : JT C E S (.Compare a [.Eq] [b] pos) (PyData.eqv d d') S2 := jt_cmp (fun i => op_eqD (X := C.cx i) (C.hr hh i).units) (sr_eqD h1 h2 s1 s2) ha hb (nomark _)
theorem jt_neD (ha : JE C E S a av S1) (hb : JE C E S1 b bv S2) (h1 : rdA S2 av = some d) (h2 : rdA S2 bv = some d') (s1 : SeqAt.shaped d = true) (s2 : SeqAt.shaped d' = true) (hh : C.hot = false := by rfl) : JT C E S (.Compare a [.NotEq] [b] pos) (!PyData.eqv d d') S2 := jt_cmp (fun i => op_neD (X := C.cx i) (C.hr hh i).units) (sr_neD h1 h2 s1 s2) ha hb (nomark _)
theorem jt_isN {k : Nat} {pos' : Pos} (ha : JE C E S a av S1) : JT C E S (.Compare a [.Is] [.Constant .none k pos'] pos) (isNoneA av) S1 := jt_cmp (fun _ => op_isN) sr_isN ha je_non (nomark _)
theorem jt_notN {k : Nat} {pos' : Pos} (ha : JE C E S a av S1) : JT C E S (.Compare a [.IsNot] [.Constant .none k pos'] pos) (!isNoneA av) S1 := jt_cmp (fun _ => op_notN) sr_notN ha je_non (nomark _)
theorem jt_lts (ha : JE C E S a (.d (.str s)) S1) (hb : JE C E S1 b (.d (.str t)) S2) : JT C E S (.Compare a [.Lt] [b] pos) (decide (s.cps.toList < t.cps.toList)) S2 := jt_cmp (fun _ => op_lt_str) sr_lts ha hb (nomark _)
theorem jt_gts (ha : JE C E S a (.d (.str s)) S1) (hb : JE C E S1 b (.d (.str t)) S2) : JT C E S (.Compare a [.Gt] [b] pos) (decide (t.cps.toList < s.cps.toList)) S2 := jt_cmp (fun _ => op_gt_str) sr_gts ha hb (nomark _)
theorem jt_insign {x : Nat} (ha : JE C E S a (.d (.str ⟨#[x]⟩)) S1) (hb : JE C E S1 b (.d (.str t)) S2) (hm : behindInMarks .In b = false := by rfl) : JT C E S (.Compare a [.In] [b] pos) (decide (x ∈ t.cps.toList)) S2 := jt_cmp (fun _ => op_in_sign) sr_insign ha hb hm
theorem jt_notinsign {x : Nat} (ha : JE C E S a (.d (.str ⟨#[x]⟩)) S1) (hb : JE C E S1 b (.d (.str t)) S2) (hm : behindInMarks .NotIn b = false := by rfl) : JT C E S (.Compare a [.NotIn] [b] pos) (!decide (x ∈ t.cps.toList)) S2 := jt_cmp (fun _ => op_notIn_sign) sr_notinsign ha hb hm
/-- x[i] of a list, a tuple; of a text -/
theorem je_at (ha : JE C E S a av S1) (hb : JE C E S1 b (.d (.int i)) S2) (hr : rdA S2 av = some d) (hi : itemsD d = some ds) (h : atI ds i = some d') (hp : PlainIx b := by exact fun _ _ => rfl) : JE C E S (.Subscript a b pos) (.d d') S2 := je_ix ha hb (sr_ix hr hi h) hp
theorem je_ats {x : Nat} (ha : JE C E S a (.d (.str s)) S1) (hb : JE C E S1 b (.d (.int i)) S2) (hz : s.length ≤ sizeLine) (h : atI s.cps.toList i = some x) (hp : PlainIx b := by exact fun _ _ => rfl) : JE C E S (.Subscript a b pos) (.d (.str ⟨#[x]⟩)) S2 := je_ix ha hb (sr_ixs hz h) hp
theorem je_cut {lo hi : Option Expr} {x y : Option Int} {p2 : Pos} (ha : JE C E S a av S1) (hl : JO C E S1 lo x S2) (hh : JO C E S2 hi y S3) (hr : rdA S3 av = some (.list ds)) : JE C E S (.Subscript a (.Slice lo hi none p2) pos) (.d (.list (cutD ds x y))) S3 := je_slice (fun n => L2.sl_list (X := C.cx n)) ha hl hh (srs_list hr)
theorem je_cutt {lo hi : Option Expr} {x y : Option Int} {p2 : Pos} (ha : JE C E S a av S1) (hl : JO C E S1 lo x S2) (hh : JO C E S2 hi y S3) (hr : rdA S3 av = some (.tuple ds)) (hw : ¬ (HT.sIx ds.length 0 x = 0 ∧ HT.sIx ds.length ds.length y = ds.length)) : JE C E S (.Subscript a (.Slice lo hi none p2) pos) (.d (.tuple (cutD ds x y))) S3 := je_slice (fun n => L2.sl_tup (X := C.cx n)) ha hl hh (srs_tup hr hw)
theorem je_cuts {lo hi : Option Expr} {x y : Option Int} {p2 : Pos} (ha : JE C E S a (.d (.str s)) S1) (hl : JO C E S1 lo x S2) (hh : JO C E S2 hi y S3) (hz : s.length ≤ sizeLine) : JE C E S (.Subscript a (.Slice lo hi none p2) pos) (.d (.str (cutS s x y))) S3 := je_slice (fun _ => sl_str) ha hl hh (srs_str hz)
theorem je_len (hm : C.b.mg "len" = none) (ha : JE C E S a av S1) (hr : rdA S1 av = some d) (hi : itemsD d = some ds) (hg : C.sc.names.lookup ("len" : Str) = some .globalImplicit := by rfl) (hs : ∀ i : C.ι, starEach [a] (C.V i).env = (false, eval a (C.V i).env) :: starEach [] (C.V i).env := by intro _; rfl) (hpl : ∀ i : C.ι, (backTo pos (starEach [] (C.V i).env)).any (·.1) = false := by intro _; rfl) : JE C E S (.Call (.Name "len" p) [a] [] pos) (.d (.int ds.length)) S1 :=
  je_callB (fun i => call_len_seq (X := C.cx i)) (sl_len hr hi) hm PySem.boot_len (ja_cons ha ja_nil hs) hg (by decide) (by decide) hs hpl
theorem je_lens (hm : C.b.mg "len" = none) (ha : JE C E S a (.d (.str s)) S1) (hz : s.length ≤ sizeLine) (hg : C.sc.names.lookup ("len" : Str) = some .globalImplicit := by rfl) (hs : ∀ i : C.ι, starEach [a] (C.V i).env = (false, eval a (C.V i).env) :: starEach [] (C.V i).env := by intro _; rfl) (hpl : ∀ i : C.ι, (backTo pos (starEach [] (C.V i).env)).any (·.1) = false := by intro _; rfl) : JE C E S (.Call (.Name "len" p) [a] [] pos) (.d (.int s.length)) S1 :=
  je_callB (fun i => call_len_str) (sl_lens hz) hm PySem.boot_len (ja_cons ha ja_nil hs) hg (by decide) (by decide) hs hpl
theorem je_int1 (hm : C.b.mg "int" = none) (ha : JE C E S a (.d (.int i)) S1) (hg : C.sc.names.lookup ("int" : Str) = some .globalImplicit := by rfl) (hs : ∀ i : C.ι, starEach [a] (C.V i).env = (false, eval a (C.V i).env) :: starEach [] (C.V i).env := by intro _; rfl) (hpl : ∀ i : C.ι, (backTo pos (starEach [] (C.V i).env)).any (·.1) = false := by intro _; rfl) : JE C E S (.Call (.Name "int" p) [a] [] pos) (.d (.int i)) S1 :=
  je_callTy (fun i => call_int1) sl_int hm (by decide +kernel) (ja_cons ha ja_nil hs) hg (by decide) (by decide) hs hpl
theorem je_intb {x : Bool} (hm : C.b.mg "int" = none) (ha : JE C E S a (.d (.bool x)) S1) (hg : C.sc.names.lookup ("int" : Str) = some .globalImplicit := by rfl) (hs : ∀ i : C.ι, starEach [a] (C.V i).env = (false, eval a (C.V i).env) :: starEach [] (C.V i).env := by intro _; rfl) (hpl : ∀ i : C.ι, (backTo pos (starEach [] (C.V i).env)).any (·.1) = false := by intro _; rfl) : JE C E S (.Call (.Name "int" p) [a] [] pos) (.d (.int (if x then 1 else 0))) S1 :=
  je_callTy (fun i => call_int1) sl_intb hm (by decide +kernel) (ja_cons ha ja_nil hs) hg (by decide) (by decide) hs hpl
theorem je_strint (hm : C.b.mg "str" = none) (ha : JE C E S a (.d (.int i)) S1) (h : i.natAbs.log2 < 1920) (hg : C.sc.names.lookup ("str" : Str) = some .globalImplicit := by rfl) (hs : ∀ i : C.ι, starEach [a] (C.V i).env = (false, eval a (C.V i).env) :: starEach [] (C.V i).env := by intro _; rfl) (hpl : ∀ i : C.ι, (backTo pos (starEach [] (C.V i).env)).any (·.1) = false := by intro _; rfl) : JE C E S (.Call (.Name "str" p) [a] [] pos) (.d (.str (toString i))) S1 :=
  je_callTy (fun i => call_str_int) (sl_strint h) hm (by decide +kernel) (ja_cons ha ja_nil hs) hg (by decide) (by decide) hs hpl
theorem je_ord {x : Nat} (hm : C.b.mg "ord" = none) (ha : JE C E S a (.d (.str ⟨#[x]⟩)) S1) (hg : C.sc.names.lookup ("ord" : Str) = some .globalImplicit := by rfl) (hs : ∀ i : C.ι, starEach [a] (C.V i).env = (false, eval a (C.V i).env) :: starEach [] (C.V i).env := by intro _; rfl) (hpl : ∀ i : C.ι, (backTo pos (starEach [] (C.V i).env)).any (·.1) = false := by intro _; rfl) : JE C E S (.Call (.Name "ord" p) [a] [] pos) (.d (.int (x : Nat))) S1 :=
  je_callB (fun i => call_ord) sl_ord hm (by decide +kernel) (ja_cons ha ja_nil hs) hg (by decide) (by decide) hs hpl
theorem je_tuple (hm : C.b.mg "tuple" = none) (ha : JE C E S a av S1) (hr : rdA S1 av = some d) (hi : itemsD d = some ds) (hg : C.sc.names.lookup ("tuple" : Str) = some .globalImplicit := by rfl) (hs : ∀ i : C.ι, starEach [a] (C.V i).env = (false, eval a (C.V i).env) :: starEach [] (C.V i).env := by intro _; rfl) (hpl : ∀ i : C.ι, (backTo pos (starEach [] (C.V i).env)).any (·.1) = false := by intro _; rfl) : JE C E S (.Call (.Name "tuple" p) [a] [] pos) (.d (.tuple ds)) S1 :=
  je_callTy (fun i => call_tuple_of (X := C.cx i)) (sl_tuple hr hi) hm (by decide +kernel) (ja_cons ha ja_nil hs) hg (by decide) (by decide) hs hpl
theorem je_listd (hm : C.b.mg "list" = none) (ha : JE C E S a av S1) (hr : rdA S1 av = some d) (hi : itemsD d = some ds) (hg : C.sc.names.lookup ("list" : Str) = some .globalImplicit := by rfl) (hs : ∀ i : C.ι, starEach [a] (C.V i).env = (false, eval a (C.V i).env) :: starEach [] (C.V i).env := by intro _; rfl) (hpl : ∀ i : C.ι, (backTo pos (starEach [] (C.V i).env)).any (·.1) = false := by intro _; rfl) : JE C E S (.Call (.Name "list" p) [a] [] pos) (.d (.list ds)) S1 :=
  je_callTy (fun i => call_list_of (X := C.cx i)) (sl_listd hr hi) hm (by decide +kernel) (ja_cons ha ja_nil hs) hg (by decide) (by decide) hs hpl
theorem je_isi {x : Str} {T : String} {z : Bool} {q1 : Pos} (hm : C.b.mg "isinstance" = none) (hT : C.b.mg x = none) (hv : bootBuiltins x = some (.type T)) (ha : JE C E S a av S1) (hr : rdA S1 av = some d) (h : kitB (tyD d) T = some z) (hg : C.sc.names.lookup ("isinstance" : Str) = some .globalImplicit := by rfl) (hg2 : C.sc.names.lookup x = some .globalImplicit := by rfl) (hn : x ≠ "__name__" := by decide) (hd : (x == ("__debug__" : Str)) = false := by decide)
    (hs : ∀ i : C.ι, starEach [a, .Name x q1] (C.V i).env = (false, eval a (C.V i).env) :: starEach [.Name x q1] (C.V i).env := by intro _; rfl) (hs2 : ∀ i : C.ι, starEach [.Name x q1] (C.V i).env = (false, eval (.Name x q1) (C.V i).env) :: starEach [] (C.V i).env := by intro _; rfl) (hpl : ∀ i : C.ι, (backTo pos (starEach [.Name x q1] (C.V i).env)).any (·.1) = false := by intro _; rfl) : JE C E S (.Call (.Name "isinstance" p) [a, .Name x q1] [] pos) (.d (.bool z)) S1 :=
  je_callB (fun i => call_isi (X := C.cx i)) (sl_isi hr h) hm (by decide +kernel) (ja_cons ha (ja_cons (je_bltn (v := .ty T) hT hv rfl hg2 hn hd) ja_nil hs2) hs) hg (by decide) (by decide) hs hpl
theorem je_join {ys : List Str} (ho : JE C E S o (.d (.str s)) S1) (ha : JE C E S1 a av S2) (hr : rdA S2 av = some d) (hi : itemsD d = some (ys.map PyData.str)) (hl : (ys.map (·.length)).sum + ys.length * s.length ≤ 16777216)
    (hbase : ∀ i : C.ι, attributeBase o ("join" : Str) (C.V i).env (eval o (C.V i).env) = eval o (C.V i).env := by intro _; rfl)
    (hfew : ∀ i : C.ι, ((backTo pos (starEach [a] (C.V i).env)).all (fun x => !x.1) && (backToKw pos (keywordEach [] (C.V i).env)).all (fun x => x.1.isSome)
      && decide ([a].length + ([] : List Keyword).length + (if ([] : List Keyword).isEmpty then 0 else 1) < 30)) = true := by intro _; rfl)
    (hline : (apos.endLine == pos.line) = true := by rfl) (hs : ∀ i : C.ι, starEach [a] (C.V i).env = (false, eval a (C.V i).env) :: starEach [] (C.V i).env := by intro _; rfl) (hpl : ∀ i : C.ι, (backTo pos (starEach [] (C.V i).env)).any (·.1) = false := by intro _; rfl) :
    JE C E S (.Call (.Attribute o "join" apos) [a] [] pos) (.d (.str (Txt.join s ys))) S2 :=
  je_sm PySem.F.slot_str_join PySem.F.type_str_join (fun i => mt_join (X := C.cx i)) PySem.F.plainAttrs_str ho (ja_cons ha ja_nil hs) (srm_join hr hi hl) hbase hfew hline hs hpl
end
/-! ### a def of data by its name -/
structure Cal (b : Bs) (x : Str) (j : Nat) (R : List PyData → PyData → Prop) : Prop where
  ex : ∃ (f : Addr) (fd : FuncData) (ps : List Str), FnOk b.P b.w b.K b.mg b.base CX0 j f fd ps (spP b.K R) ∧ b.mg x = some (.ref f) ∧ PySem.W.keepIn b.K (.ref f) = true ∧ Binds b.K fd ps []
section
variable {C : Fam} {E E' : AE} {S S1 S2 S3 S4 : Sto} {a b c e tg iter o : Expr} {es : List Expr} {pos q0 : Pos} {d d' : PyData} {ds ds' : List PyData}
theorem je_cal {x : Str} {j : Nat} {R : List PyData → PyData → Prop} (c : Cal C.b x j R) (hj : j ≤ C.k) (ha : JA C E S (e :: es) (ds.map AV.d) S1) (hR : R ds d)
    (hg : C.sc.names.lookup x = some .globalImplicit := by rfl) (hdb : (x == ("__debug__" : Str)) = false := by decide) (he : ∀ i : C.ι, starEach (e :: es) (C.V i).env = (false, eval e (C.V i).env) :: starEach es (C.V i).env := by intro _; rfl)
    (hpl : ∀ i : C.ι, (backTo pos (starEach es (C.V i).env)).any (·.1) = false := by intro _; rfl) (hh : C.hot = false := by rfl) : JE C E S (.Call (.Name x q0) (e :: es) [] pos) (.d d) S1 := by
  obtain ⟨f, fd, ps, G, hm, kp, hb⟩ := c.ex
  exact je_call G hj hm kp hb ha hR hg hdb he hpl hh
/-- arguments that are data -/
def JD (C : Fam) (E : AE) (S : Sto) (es : List Expr) (ds : List PyData) (S' : Sto) : Prop := JA C E S es (ds.map AV.d) S'
theorem jd_nil : JD C E S [] [] S := ja_nil
theorem jd_cons (h : JE C E S e (.d d) S1) (h2 : JD C E S1 es ds S2) (hs : ∀ i : C.ι, starEach (e :: es) (C.V i).env = (false, eval e (C.V i).env) :: starEach es (C.V i).env := by intro _; rfl) : JD C E S (e :: es) (d :: ds) S2 := ja_cons h h2 hs
theorem je_tp {j : Nat} (ha : JD C E S es ds S1) (hl : ds.length ≤ sizeLine := by exact Nat.le_of_ble_eq_true rfl) : JE C E S (.Tuple es j pos) (.d (.tuple ds)) S1 := je_tup ha hl
theorem je_ls (ha : JD C E S es ds S1) (hl : ds.length ≤ sizeLine := by exact Nat.le_of_ble_eq_true rfl) : JE C E S (.List es pos) (.d (.list ds)) S1 := je_lstd ha hl
theorem je_lo (ha : JD C E S es ds S1) (hl : ds.length ≤ sizeLine := by exact Nat.le_of_ble_eq_true rfl) : JE C E S (.List es pos) (.o S1.length) (S1 ++ [.ld ds]) := je_lst ha hl
theorem je_cl {x : Str} {j : Nat} {R : List PyData → PyData → Prop} (c : Cal C.b x j R) (ha : JD C E S (e :: es) ds S1) (hR : R ds d) (hj : j ≤ C.k := by exact Nat.le_of_ble_eq_true rfl)
    (hg : C.sc.names.lookup x = some .globalImplicit := by rfl) (hdb : (x == ("__debug__" : Str)) = false := by decide) (he : ∀ i : C.ι, starEach (e :: es) (C.V i).env = (false, eval e (C.V i).env) :: starEach es (C.V i).env := by intro _; rfl)
    (hpl : ∀ i : C.ι, (backTo pos (starEach es (C.V i).env)).any (·.1) = false := by intro _; rfl) (hh : C.hot = false := by rfl) : JE C E S (.Call (.Name x q0) (e :: es) [] pos) (.d d) S1 := je_cal c hj ha hR hg hdb he hpl hh
/-- a script is data -/
def scrD (ns : List Int) : PyData := .list (ns.map PyData.int)
theorem dpa_of_ints {K : PySem.W.Frag} {F : Hp} : ∀ ns : List Int, DpAll K F (ns.map V.int) (ns.map PyData.int)
  | [] => .nil
  | n :: r => .cons (.int n) (dpa_of_ints r)
/-- a text's sign by its place -/
theorem at_str {z : Str} {k : Int} (h0 : 0 ≤ k) (h : k < z.length) : atI z.cps.toList k = some (z.cps.toList.getD k.toNat 0) := by
  obtain ⟨m, rfl⟩ := Int.eq_ofNat_of_zero_le h0
  have hm : m < z.cps.toList.length := by simp [Str.length] at h ⊢; omega
  refine atI_nat ?_
  rw [Int.toNat_natCast, List.getD_eq_getElem?_getD, List.getElem?_eq_getElem hm]
  rfl
theorem at_ints {ns : List Int} {k : Nat} (h : k < ns.length) : atI (ns.map PyData.int) (k : Int) = some (.int (ns.getD k 0)) := by
  refine atI_nat ?_
  rw [List.getElem?_map, List.getElem?_eq_getElem h, List.getD_eq_getElem?_getD, List.getElem?_eq_getElem h]
  rfl
theorem at_intsI {ns : List Int} {k : Int} (h0 : 0 ≤ k) (h : k < ns.length) : atI (ns.map PyData.int) k = some (.int (ns.getD k.toNat 0)) := by
  obtain ⟨m, rfl⟩ := Int.eq_ofNat_of_zero_le h0
  exact at_ints (by omega)
theorem at_strsI {ns : List Str} {k : Int} (h0 : 0 ≤ k) (h : k < ns.length) : atI (ns.map PyData.str) k = some (.str (ns.getD k.toNat Str.empty)) := by
  obtain ⟨m, rfl⟩ := Int.eq_ofNat_of_zero_le h0
  have hm : m < ns.length := by omega
  refine atI_nat ?_
  rw [List.getElem?_map, List.getElem?_eq_getElem hm, List.getD_eq_getElem?_getD, Int.toNat_natCast, List.getElem?_eq_getElem hm]
  rfl
theorem at_any {ds : List PyData} {k : Int} (h0 : 0 ≤ k) (h : k < ds.length) : atI ds k = some (ds.getD k.toNat .none) := by
  obtain ⟨m, rfl⟩ := Int.eq_ofNat_of_zero_le h0
  have hm : m < ds.length := by omega
  refine atI_nat ?_
  rw [List.getD_eq_getElem?_getD, Int.toNat_natCast, List.getElem?_eq_getElem hm]
  rfl
theorem small_line {n m : Nat} (h : n ≤ m) (hm : m ≤ 16777216 := by decide) : n ≤ sizeLine := by rw [sizeLine_eq]; omega
theorem small_line' {n m : Nat} (h : n ≤ m) (hm : m < 16777216 := by decide) : n < sizeLine := by rw [sizeLine_eq]; omega
end
end AL

namespace AL
open PySem PySem.Spec PyProof.Rows L2 TL
theorem range_fm {α β : Type} (f : α → Option β) (xs : List α) : (List.range xs.length).filterMap (fun i => xs[i]?.bind f) = xs.filterMap f := by
  induction xs with
  | nil => rfl
  | cons x r ih =>
    rw [List.length_cons, List.range_succ_eq_map, List.filterMap_cons, List.filterMap_cons, List.filterMap_map]
    have : (fun i => (x :: r)[i]?.bind f) ∘ Nat.succ = fun i => r[i]?.bind f := by
      funext i
      simp
    rw [this, ih]
    rfl
section
variable {C : Fam} {E E' : AE} {S S1 S2 S3 S4 : Sto} {a b c e tg iter elt o : Expr} {es : List Expr} {av bv cv : AV} {avs : List AV} {pos p apos : Pos} {d d' : PyData} {ds ds' : List PyData} {rest body els : List Stmt} {q : Po} {scope : Scope} {α : Type}
/-- a turn of a comprehension without a test -/
def LcT (C : Fam) (E : AE) (S1 : Sto) (tg elt : Expr) (scope : Scope) (own : List (Str × Nat)) (d y : PyData) : Prop :=
  ∃ js E', (∀ j ∈ js, j ∈ own.map (·.2)) ∧ JG (C.blk scope) (wipeE E (own.map (·.2))) tg (.d d) js E' ∧ ∀ T, JE (C.blk scope) E' (S1 ++ [T]) elt (.d y) (S1 ++ [T])
/-- a turn with a test: z its answer -/
def LcI (C : Fam) (E : AE) (S1 : Sto) (tg elt cnd : Expr) (scope : Scope) (own : List (Str × Nat)) (d : PyData) (z : Bool) (y : PyData) : Prop :=
  ∃ js E', (∀ j ∈ js, j ∈ own.map (·.2)) ∧ JG (C.blk scope) (wipeE E (own.map (·.2))) tg (.d d) js E' ∧ (∀ T, JT (C.blk scope) E' (S1 ++ [T]) cnd z (S1 ++ [T])) ∧ (z = true → ∀ T, JE (C.blk scope) E' (S1 ++ [T]) elt (.d y) (S1 ++ [T]))
theorem je_lcm (own : List (Str × Nat)) (xs : List α) (enc f : α → PyData) (hi : JI C E S tg iter (xs.map enc) S1) (step : ∀ x ∈ xs, LcT C E S1 tg elt scope own (enc x) (f x)) (hl : xs.length ≤ sizeLine)
    (ok : blkC C.N C.sc scope own = true := by kernel_rfl) (hs : ∀ (i : C.ι) x, foldedSetIterable iter (C.V i).env x = pure x := by intro _ _; rfl) (hh : C.hot = false := by rfl) : JE C E S (.ListComp elt [⟨tg, iter, [], 0⟩] scope pos) (.d (.list (xs.map f))) S1 := by
  have e := range_fm (fun x => some (f x)) xs
  have h := je_lc (C := C) (E := E) (S := S) (S1 := S1) (tg := tg) (iter := iter) (elt := elt) (ifs := []) (scope := scope) (pos := pos) own hi (fun i => xs[i]?.bind fun x => some (f x)) (fun i d hd => ?_) (by rw [List.length_map]; exact hl) ok hs hh
  · rw [List.length_map, e, List.filterMap_eq_map'] at h
    exact h
  · rw [List.getElem?_map] at hd
    cases hx : xs[i]? with
    | none => rw [hx] at hd; cases hd
    | some x =>
      rw [hx] at hd
      cases hd
      obtain ⟨js, E', h1, h2, h3⟩ := step x (List.mem_of_getElem? hx)
      exact ⟨js, E', h1, h2, true, fun T => jts_nil, fun z => (by cases z), fun _ => ⟨f x, by simp, h3⟩⟩
theorem jss_lcm (j : Nat) {y : Str} {py spos : Pos} (own : List (Str × Nat)) (xs : List α) (enc f : α → PyData) (hi : JI C E S tg iter (xs.map enc) S1) (step : ∀ x ∈ xs, LcT C E S1 tg elt scope own (enc x) (f x)) (hl : xs.length ≤ sizeLine) (h : JSs C (E.set j (some (.d (.list (xs.map f))))) S1 rest q)
    (hy : C.N[j]? = some y := by rfl) (hyl : C.sc.names.lookup y = some .local := by rfl)
    (hsw : ∀ i : C.ι, swapsWith (.ListComp elt [⟨tg, iter, [], 0⟩] scope pos) (some (.Name y py)) spos.line (C.V i).env = pure true := by exact fun _ => sw_true rfl rfl rfl (by decide +kernel))
    (ok : blkC C.N C.sc scope own = true := by kernel_rfl) (hs : ∀ (i : C.ι) x, foldedSetIterable iter (C.V i).env x = pure x := by intro _ _; rfl) (hh : C.hot = false := by rfl) :
    JSs C E S (.Assign [.Name y py] (.ListComp elt [⟨tg, iter, [], 0⟩] scope pos) spos :: rest) q := by
  have e := range_fm (fun x => some (f x)) xs
  refine jss_lc (ifs := []) (p := q) j own hi (fun i => xs[i]?.bind fun x => some (f x)) (fun i d hd => ?_) (by rw [List.length_map]; exact hl) ?_ hy hyl hsw ok hs hh
  · rw [List.getElem?_map] at hd
    cases hx : xs[i]? with
    | none => rw [hx] at hd; cases hd
    | some x =>
      rw [hx] at hd
      cases hd
      obtain ⟨js, E', h1, h2, h3⟩ := step x (List.mem_of_getElem? hx)
      exact ⟨js, E', h1, h2, true, fun T => jts_nil, fun z => (by cases z), fun _ => ⟨f x, by simp, h3⟩⟩
  · rw [List.length_map, e, List.filterMap_eq_map']
    exact h
theorem je_lcf (own : List (Str × Nat)) (xs : List α) (enc f : α → PyData) (p : α → Bool) (hi : JI C E S tg iter (xs.map enc) S1) (step : ∀ x ∈ xs, LcI C E S1 tg elt c scope own (enc x) (p x) (f x)) (hl : xs.length ≤ sizeLine)
    (ok : blkC C.N C.sc scope own = true := by kernel_rfl) (hs : ∀ (i : C.ι) x, foldedSetIterable iter (C.V i).env x = pure x := by intro _ _; rfl) (hh : C.hot = false := by rfl) : JE C E S (.ListComp elt [⟨tg, iter, [c], 0⟩] scope pos) (.d (.list ((xs.filter p).map f))) S1 := by
  have e := range_fm (fun x => if p x then some (f x) else none) xs
  have e2 : ∀ l : List α, l.filterMap (fun x => if p x then some (f x) else none) = (l.filter p).map f := by
    intro l
    induction l with
    | nil => rfl
    | cons x r ih => by_cases h : p x <;> simp [h, ih]
  have h := je_lc (C := C) (E := E) (S := S) (S1 := S1) (tg := tg) (iter := iter) (elt := elt) (ifs := [c]) (scope := scope) (pos := pos) own hi (fun i => xs[i]?.bind fun x => if p x then some (f x) else none) (fun i d hd => ?_) (by rw [List.length_map]; exact hl) ok hs hh
  · rw [List.length_map, e, e2] at h
    exact h
  · rw [List.getElem?_map] at hd
    cases hx : xs[i]? with
    | none => rw [hx] at hd; cases hd
    | some x =>
      rw [hx] at hd
      cases hd
      obtain ⟨js, E', h1, h2, h3, h4⟩ := step x (List.mem_of_getElem? hx)
      exact ⟨js, E', h1, h2, p x, fun T => jts_one (h3 T), fun z => (by simp [z]), fun z => ⟨f x, by simp [z], h4 z⟩⟩
theorem jss_lcf (j : Nat) {y : Str} {py spos : Pos} (own : List (Str × Nat)) (xs : List α) (enc f : α → PyData) (p : α → Bool) (hi : JI C E S tg iter (xs.map enc) S1) (step : ∀ x ∈ xs, LcI C E S1 tg elt c scope own (enc x) (p x) (f x)) (hl : xs.length ≤ sizeLine) (h : JSs C (E.set j (some (.d (.list ((xs.filter p).map f))))) S1 rest q)
    (hy : C.N[j]? = some y := by rfl) (hyl : C.sc.names.lookup y = some .local := by rfl)
    (hsw : ∀ i : C.ι, swapsWith (.ListComp elt [⟨tg, iter, [c], 0⟩] scope pos) (some (.Name y py)) spos.line (C.V i).env = pure true := by exact fun _ => sw_true rfl rfl rfl (by decide +kernel))
    (ok : blkC C.N C.sc scope own = true := by kernel_rfl) (hs : ∀ (i : C.ι) x, foldedSetIterable iter (C.V i).env x = pure x := by intro _ _; rfl) (hh : C.hot = false := by rfl) :
    JSs C E S (.Assign [.Name y py] (.ListComp elt [⟨tg, iter, [c], 0⟩] scope pos) spos :: rest) q := by
  have e := range_fm (fun x => if p x then some (f x) else none) xs
  have e2 : ∀ l : List α, l.filterMap (fun x => if p x then some (f x) else none) = (l.filter p).map f := by
    intro l
    induction l with
    | nil => rfl
    | cons x r ih => by_cases h : p x <;> simp [h, ih]
  refine jss_lc (ifs := [c]) (p := q) j own hi (fun i => xs[i]?.bind fun x => if p x then some (f x) else none) (fun i d hd => ?_) (by rw [List.length_map]; exact hl) ?_ hy hyl hsw ok hs hh
  · rw [List.getElem?_map] at hd
    cases hx : xs[i]? with
    | none => rw [hx] at hd; cases hd
    | some x =>
      rw [hx] at hd
      cases hd
      obtain ⟨js, E', h1, h2, h3, h4⟩ := step x (List.mem_of_getElem? hx)
      exact ⟨js, E', h1, h2, p x, fun T => jts_one (h3 T), fun z => (by simp [z]), fun z => ⟨f x, by simp [z], h4 z⟩⟩
  · rw [List.length_map, e, e2]
    exact h
end
/-! ### texts of signs -/
/-- a text of one sign -/
abbrev sg (c : Nat) : Str := ⟨#[c]⟩
/-- a text by its signs -/
abbrev stx (l : List Nat) : Str := ⟨l.toArray⟩
theorem joinL_nil : ∀ l : List (List Nat), joinL [] l = l.flatten
  | [] => rfl
  | [x] => by simp [joinL]
  | x :: y :: r => by
    have := joinL_nil (y :: r)
    rw [joinL, this]
    simp
    all_goals simp
theorem join_empty (parts : List Str) : Txt.join (Str.ofString "") parts = stx (parts.map tl).flatten := by
  apply ext_tl
  rw [join_eq, tl_join]
  show joinL (tl (Str.ofString "")) (parts.map tl) = (parts.map tl).flatten
  rw [show tl (Str.ofString "") = [] from rfl, joinL_nil]
theorem join_signs {α : Type} (l : List α) (f : α → Nat) : Txt.join (Str.ofString "") (l.map fun x => sg (f x)) = stx (l.map f) := by
  rw [join_empty, List.map_map]
  congr 1
  have : (tl ∘ fun x => sg (f x)) = fun x => [f x] := rfl
  rw [this]
  induction l with
  | nil => rfl
  | cons x r ih => simp [ih]
theorem len_stx (l : List Nat) : (stx l).length = l.length := by simp [Str.length]
theorem len_app (x y : Str) : (x ++ y).length = x.length + y.length := by rw [len_tl, len_tl, len_tl, tl_append, List.length_append]
end AL
namespace AL
open PySem PySem.Spec PyProof.Rows L2 TL
/-! ### great numbers -/
def Bg (i : Int) : Prop := ∃ n : Nat, n ≤ 2000000 ∧ i.natAbs < 2 ^ n
theorem Bg.of_bits {i : Int} (h : Builtin.Int.intBits i ≤ 1048576) : Bg i := by
  refine ⟨1048577, by omega, ?_⟩
  unfold Builtin.Int.intBits at h
  split at h
  · rename_i e
    have : i.natAbs = 0 := by simpa using e
    rw [this]
    exact Nat.two_pow_pos _
  · rename_i e
    have h2 := Nat.lt_log2_self (n := i.natAbs)
    exact Nat.lt_of_lt_of_le h2 (Nat.pow_le_pow_right (by decide) (by omega))
theorem Bg.le {i j : Int} (h : Bg j) (hl : i.natAbs ≤ j.natAbs) : Bg i := let ⟨n, a, b⟩ := h; ⟨n, a, Nat.lt_of_le_of_lt hl b⟩
theorem natAbs_div_le (i : Int) (k : Int) (hk : 1 ≤ k) : (i / k).natAbs ≤ i.natAbs := by
  have hk0 : 0 < k := by omega
  rcases Int.le_total 0 i with h | h
  · have h1 := Int.ediv_nonneg h (Int.le_of_lt hk0)
    have h2 : i / k ≤ i := Int.ediv_le_self _ h
    omega
  · have h1 : i / k ≤ 0 := by
      have := Int.ediv_le_ediv hk0 h
      simpa using this
    have h2 : i ≤ i / k := by
      rw [Int.le_ediv_iff_mul_le hk0]
      have h3 : i * k ≤ i * 1 := Int.mul_le_mul_of_nonpos_left h hk
      omega
    omega
theorem Bg.div {i : Int} (h : Bg i) (k : Int) (hk : 1 ≤ k) : Bg (i / k) := h.le (natAbs_div_le i k hk)
theorem Bg.small {i : Int} (h : i.natAbs < 2 ^ 1000) : Bg i := ⟨1000, by omega, h⟩
section
variable {C : Fam} {E E' : AE} {S S1 S2 S3 S4 : Sto} {a b c e o : Expr} {es : List Expr} {av bv cv : AV} {pos p apos : Pos} {d d' : PyData} {ds ds' : List PyData} {i j : Int} {s t : Str}
theorem je_mulB (ha : JE C E S a (.d (.int i)) S1) (hb : JE C E S1 b (.d (.int j)) S2) (h1 : Bg i) (h2 : Bg j) : JE C E S (.BinOp a .Mult b pos) (.d (.int (i * j))) S2 :=
  je_bin (fun _ => op_mulX) (sr_i (by obtain ⟨n, hn, h1⟩ := h1; obtain ⟨m, hm, h2⟩ := h2; exact mulx_ok h1 h2 (by omega))) ha hb
theorem je_fdivW (ha : JE C E S a (.d (.int i)) S1) (hb : JE C E S1 b (.d (.int j)) S2) (h0 : 0 < j) (h : j.natAbs < 2 ^ 1000) : JE C E S (.BinOp a .FloorDiv b pos) (.d (.int (i / j))) S2 :=
  je_bin (fun _ => op_fdivW) (sr_i (wide_div h0 h (by decide) (by decide))) ha hb
theorem je_endswith (ho : JE C E S o (.d (.str s)) S1) (ha : JE C E S1 a (.d (.str t)) S2)
    (hbase : ∀ i : C.ι, attributeBase o ("endswith" : Str) (C.V i).env (eval o (C.V i).env) = eval o (C.V i).env := by intro _; rfl)
    (hfew : ∀ i : C.ι, ((backTo pos (starEach [a] (C.V i).env)).all (fun x => !x.1) && (backToKw pos (keywordEach [] (C.V i).env)).all (fun x => x.1.isSome)
      && decide ([a].length + ([] : List Keyword).length + (if ([] : List Keyword).isEmpty then 0 else 1) < 30)) = true := by intro _; rfl)
    (hline : (apos.endLine == pos.line) = true := by rfl) (hs : ∀ i : C.ι, starEach [a] (C.V i).env = (false, eval a (C.V i).env) :: starEach [] (C.V i).env := by intro _; rfl) (hpl : ∀ i : C.ι, (backTo pos (starEach [] (C.V i).env)).any (·.1) = false := by intro _; rfl) :
    JE C E S (.Call (.Attribute o "endswith" apos) [a] [] pos) (.d (.bool (Txt.endswith s t))) S2 :=
  je_sm PySem.F.slot_str_endswith PySem.F.type_str_endswith (fun i => mt_endswith (X := C.cx i)) PySem.F.plainAttrs_str ho (ja_cons ha ja_nil hs) (fun B φ F H x xs Q k r1 r2 q => by
    cases r1
    cases r2 with
    | cons r2 t => cases t; cases r2; exact ⟨_, _, rfl, rfl, fin0 k q (.bl _)⟩) hbase hfew hline hs hpl
end
end AL
namespace AL
open PySem PySem.Spec PyProof.Rows L2 TL
def isIntD : PyData → Bool
  | .int _ => true
  | .bool _ => true
  | _ => false
def isBoolD : PyData → Bool
  | .bool _ => true
  | _ => false
def isStrD : PyData → Bool
  | .str _ => true
  | _ => false
def isTupD : PyData → Bool
  | .tuple _ => true
  | _ => false
def isListD : PyData → Bool
  | .list _ => true
  | _ => false
theorem kit_int (d : PyData) (h : ∀ kvs, d ≠ .dict kvs) : kitB (tyD d) "int" = some (isIntD d) := by
  have k : kitB "NoneType" "int" = some false ∧ kitB "bool" "int" = some true ∧ kitB "int" "int" = some true ∧ kitB "str" "int" = some false ∧ kitB "list" "int" = some false ∧ kitB "tuple" "int" = some false := by decide +kernel
  obtain ⟨k1, k2, k3, k4, k5, k6⟩ := k
  cases d with
  | none => exact k1
  | bool _ => exact k2
  | int _ => exact k3
  | str _ => exact k4
  | list _ => exact k5
  | tuple _ => exact k6
  | dict kvs => exact absurd rfl (h kvs)
theorem kit_bool (d : PyData) (h : ∀ kvs, d ≠ .dict kvs) : kitB (tyD d) "bool" = some (isBoolD d) := by
  have k : kitB "NoneType" "bool" = some false ∧ kitB "bool" "bool" = some true ∧ kitB "int" "bool" = some false ∧ kitB "str" "bool" = some false ∧ kitB "list" "bool" = some false ∧ kitB "tuple" "bool" = some false := by decide +kernel
  obtain ⟨k1, k2, k3, k4, k5, k6⟩ := k
  cases d with
  | none => exact k1
  | bool _ => exact k2
  | int _ => exact k3
  | str _ => exact k4
  | list _ => exact k5
  | tuple _ => exact k6
  | dict kvs => exact absurd rfl (h kvs)
theorem kit_str (d : PyData) (h : ∀ kvs, d ≠ .dict kvs) : kitB (tyD d) "str" = some (isStrD d) := by
  have k : kitB "NoneType" "str" = some false ∧ kitB "bool" "str" = some false ∧ kitB "int" "str" = some false ∧ kitB "str" "str" = some true ∧ kitB "list" "str" = some false ∧ kitB "tuple" "str" = some false := by decide +kernel
  obtain ⟨k1, k2, k3, k4, k5, k6⟩ := k
  cases d with
  | none => exact k1
  | bool _ => exact k2
  | int _ => exact k3
  | str _ => exact k4
  | list _ => exact k5
  | tuple _ => exact k6
  | dict kvs => exact absurd rfl (h kvs)
theorem kit_tuple (d : PyData) (h : ∀ kvs, d ≠ .dict kvs) : kitB (tyD d) "tuple" = some (isTupD d) := by
  have k : kitB "NoneType" "tuple" = some false ∧ kitB "bool" "tuple" = some false ∧ kitB "int" "tuple" = some false ∧ kitB "str" "tuple" = some false ∧ kitB "list" "tuple" = some false ∧ kitB "tuple" "tuple" = some true := by decide +kernel
  obtain ⟨k1, k2, k3, k4, k5, k6⟩ := k
  cases d with
  | none => exact k1
  | bool _ => exact k2
  | int _ => exact k3
  | str _ => exact k4
  | list _ => exact k5
  | tuple _ => exact k6
  | dict kvs => exact absurd rfl (h kvs)
theorem kit_list (d : PyData) (h : ∀ kvs, d ≠ .dict kvs) : kitB (tyD d) "list" = some (isListD d) := by
  have k : kitB "NoneType" "list" = some false ∧ kitB "bool" "list" = some false ∧ kitB "int" "list" = some false ∧ kitB "str" "list" = some false ∧ kitB "list" "list" = some true ∧ kitB "tuple" "list" = some false := by decide +kernel
  obtain ⟨k1, k2, k3, k4, k5, k6⟩ := k
  cases d with
  | none => exact k1
  | bool _ => exact k2
  | int _ => exact k3
  | str _ => exact k4
  | list _ => exact k5
  | tuple _ => exact k6
  | dict kvs => exact absurd rfl (h kvs)
theorem dp_nodict {K : PySem.W.Frag} {H : Hp} {x : V} {d : PyData} (h : Dp K H x d) : ∀ kvs, d ≠ .dict kvs := fun kvs e => by subst e; cases h
section
variable {C : Fam} {E E' : AE} {S S1 S2 S3 S4 : Sto} {a b c e o : Expr} {es : List Expr} {av bv cv : AV} {pos p apos q1 : Pos} {d d' : PyData} {ds ds' : List PyData}
theorem sl_isi' {K : PySem.W.Frag} {T : String} {z : PyData → Bool} (ha : rdA S av = some d) (h : ∀ d, (∀ kvs, d ≠ .dict kvs) → kitB (tyD d) T = some (z d)) : SRL K S (rIsi K) [av, .v (.ty T)] (.d (.bool (z d))) S := fun B φ F H xs Q k r0 q => by
  obtain ⟨x, y, rfl, r1, r2⟩ := rvs2 r0
  cases r2
  have hd := rd_dp k r1 ha
  exact ⟨x, .ty T, .type (tyD d), .type T, z d, rfl, .ty T, dp_ty hd, kit_ty (h d (dp_nodict hd)), fin0 k q (.bl _)⟩
theorem je_isiZ {x : Str} {T : String} {z : PyData → Bool} (hk : ∀ d, (∀ kvs, d ≠ .dict kvs) → kitB (tyD d) T = some (z d)) (hv : bootBuiltins x = some (.type T)) (hm : C.b.mg "isinstance" = none) (hT : C.b.mg x = none) (ha : JE C E S a av S1) (hr : rdA S1 av = some d) (hg : C.sc.names.lookup ("isinstance" : Str) = some .globalImplicit) (hg2 : C.sc.names.lookup x = some .globalImplicit) (hn : x ≠ "__name__") (hd : (x == ("__debug__" : Str)) = false)
    (hs : ∀ i : C.ι, starEach [a, .Name x q1] (C.V i).env = (false, eval a (C.V i).env) :: starEach [.Name x q1] (C.V i).env) (hs2 : ∀ i : C.ι, starEach [.Name x q1] (C.V i).env = (false, eval (.Name x q1) (C.V i).env) :: starEach [] (C.V i).env) (hpl : ∀ i : C.ι, (backTo pos (starEach [.Name x q1] (C.V i).env)).any (·.1) = false) : JE C E S (.Call (.Name "isinstance" p) [a, .Name x q1] [] pos) (.d (.bool (z d))) S1 :=
  je_callB (fun i => call_isi (X := C.cx i)) (sl_isi' hr hk) hm (by decide +kernel) (ja_cons ha (ja_cons (je_bltn (v := .ty T) hT hv rfl hg2 hn hd) ja_nil hs2) hs) hg (by decide) (by decide) hs hpl
theorem je_isint (hm : C.b.mg "isinstance" = none) (hT : C.b.mg "int" = none) (ha : JE C E S a av S1) (hr : rdA S1 av = some d) (hg : C.sc.names.lookup ("isinstance" : Str) = some .globalImplicit := by rfl) (hg2 : C.sc.names.lookup ("int" : Str) = some .globalImplicit := by rfl) (hs : ∀ i : C.ι, starEach [a, .Name "int" q1] (C.V i).env = (false, eval a (C.V i).env) :: starEach [.Name "int" q1] (C.V i).env := by intro _; rfl) (hs2 : ∀ i : C.ι, starEach [.Name "int" q1] (C.V i).env = (false, eval (.Name "int" q1) (C.V i).env) :: starEach [] (C.V i).env := by intro _; rfl) (hpl : ∀ i : C.ι, (backTo pos (starEach [.Name "int" q1] (C.V i).env)).any (·.1) = false := by intro _; rfl) : JE C E S (.Call (.Name "isinstance" p) [a, .Name "int" q1] [] pos) (.d (.bool (isIntD d))) S1 :=
  je_isiZ kit_int (by decide +kernel) hm hT ha hr hg hg2 (by decide) (by decide) hs hs2 hpl
theorem je_isbool (hm : C.b.mg "isinstance" = none) (hT : C.b.mg "bool" = none) (ha : JE C E S a av S1) (hr : rdA S1 av = some d) (hg : C.sc.names.lookup ("isinstance" : Str) = some .globalImplicit := by rfl) (hg2 : C.sc.names.lookup ("bool" : Str) = some .globalImplicit := by rfl) (hs : ∀ i : C.ι, starEach [a, .Name "bool" q1] (C.V i).env = (false, eval a (C.V i).env) :: starEach [.Name "bool" q1] (C.V i).env := by intro _; rfl) (hs2 : ∀ i : C.ι, starEach [.Name "bool" q1] (C.V i).env = (false, eval (.Name "bool" q1) (C.V i).env) :: starEach [] (C.V i).env := by intro _; rfl) (hpl : ∀ i : C.ι, (backTo pos (starEach [.Name "bool" q1] (C.V i).env)).any (·.1) = false := by intro _; rfl) : JE C E S (.Call (.Name "isinstance" p) [a, .Name "bool" q1] [] pos) (.d (.bool (isBoolD d))) S1 :=
  je_isiZ kit_bool (by decide +kernel) hm hT ha hr hg hg2 (by decide) (by decide) hs hs2 hpl
theorem je_isstr (hm : C.b.mg "isinstance" = none) (hT : C.b.mg "str" = none) (ha : JE C E S a av S1) (hr : rdA S1 av = some d) (hg : C.sc.names.lookup ("isinstance" : Str) = some .globalImplicit := by rfl) (hg2 : C.sc.names.lookup ("str" : Str) = some .globalImplicit := by rfl) (hs : ∀ i : C.ι, starEach [a, .Name "str" q1] (C.V i).env = (false, eval a (C.V i).env) :: starEach [.Name "str" q1] (C.V i).env := by intro _; rfl) (hs2 : ∀ i : C.ι, starEach [.Name "str" q1] (C.V i).env = (false, eval (.Name "str" q1) (C.V i).env) :: starEach [] (C.V i).env := by intro _; rfl) (hpl : ∀ i : C.ι, (backTo pos (starEach [.Name "str" q1] (C.V i).env)).any (·.1) = false := by intro _; rfl) : JE C E S (.Call (.Name "isinstance" p) [a, .Name "str" q1] [] pos) (.d (.bool (isStrD d))) S1 :=
  je_isiZ kit_str (by decide +kernel) hm hT ha hr hg hg2 (by decide) (by decide) hs hs2 hpl
theorem je_istup (hm : C.b.mg "isinstance" = none) (hT : C.b.mg "tuple" = none) (ha : JE C E S a av S1) (hr : rdA S1 av = some d) (hg : C.sc.names.lookup ("isinstance" : Str) = some .globalImplicit := by rfl) (hg2 : C.sc.names.lookup ("tuple" : Str) = some .globalImplicit := by rfl) (hs : ∀ i : C.ι, starEach [a, .Name "tuple" q1] (C.V i).env = (false, eval a (C.V i).env) :: starEach [.Name "tuple" q1] (C.V i).env := by intro _; rfl) (hs2 : ∀ i : C.ι, starEach [.Name "tuple" q1] (C.V i).env = (false, eval (.Name "tuple" q1) (C.V i).env) :: starEach [] (C.V i).env := by intro _; rfl) (hpl : ∀ i : C.ι, (backTo pos (starEach [.Name "tuple" q1] (C.V i).env)).any (·.1) = false := by intro _; rfl) : JE C E S (.Call (.Name "isinstance" p) [a, .Name "tuple" q1] [] pos) (.d (.bool (isTupD d))) S1 :=
  je_isiZ kit_tuple (by decide +kernel) hm hT ha hr hg hg2 (by decide) (by decide) hs hs2 hpl
theorem je_islist (hm : C.b.mg "isinstance" = none) (hT : C.b.mg "list" = none) (ha : JE C E S a av S1) (hr : rdA S1 av = some d) (hg : C.sc.names.lookup ("isinstance" : Str) = some .globalImplicit := by rfl) (hg2 : C.sc.names.lookup ("list" : Str) = some .globalImplicit := by rfl) (hs : ∀ i : C.ι, starEach [a, .Name "list" q1] (C.V i).env = (false, eval a (C.V i).env) :: starEach [.Name "list" q1] (C.V i).env := by intro _; rfl) (hs2 : ∀ i : C.ι, starEach [.Name "list" q1] (C.V i).env = (false, eval (.Name "list" q1) (C.V i).env) :: starEach [] (C.V i).env := by intro _; rfl) (hpl : ∀ i : C.ι, (backTo pos (starEach [.Name "list" q1] (C.V i).env)).any (·.1) = false := by intro _; rfl) : JE C E S (.Call (.Name "isinstance" p) [a, .Name "list" q1] [] pos) (.d (.bool (isListD d))) S1 :=
  je_isiZ kit_list (by decide +kernel) hm hT ha hr hg hg2 (by decide) (by decide) hs hs2 hpl
end
end AL

namespace AL
open PySem PySem.Spec PyProof.Rows L2 TL
/-! ### defs of data whose answer is told by a relation -/
/-- with the arguments ds (Pre) it returns some r with Post ds r -/
def spQ (K : PySem.W.Frag) (Pre : List PyData → Prop) (Post : List PyData → PyData → Prop) : Sp := fun vs H Q _ => ∃ (ds : List PyData) (B : List Addr) (F : Hp), Pre ds ∧ Same F H ∧ (∀ b ∈ B, H b ≠ none) ∧ DpAll K F vs ds ∧
  ∀ r, Post ds r → ∀ v F' H', GrS B F H F' H' → Same F' H' → Dp K F' v r → Q v H'
section
variable {P : Program} {w : World} {K : PySem.W.Frag} {mg : Str → Option Value} {base : Heap}
theorem fn_dataQ {x qual : Str} {st : Stmt} {f : Addr} {fd : FuncData} {N ps : List Str} {k : Nat} {Pre : List PyData → Prop} {Post : List PyData → PyData → Prop} (F : Fun K x qual st f fd) (Sc : FnScope N ps (defScope st)) (len : ∀ ds, Pre ds → ds.length = ps.length)
    (body : ∀ (cd : Value) (A : Around) (outer : List Env) (s : Shared) (H : Hp) (hr : Room k (A.deeper (envOfC qual (defScope st) s.heap.objs.size f cd))) (ds : List PyData), Pre ds →
      JSs (defF ⟨P, w, K, mg, base⟩ N k qual (defScope st) f cd A outer s H Sc.nd hr) (startE N (ds.map AV.d)) [] (defBody st) { nx := fun _ _ => Post ds .none, rt := fun av _ => ∃ r, Post ds r ∧ av = .d r }) : FnOk P w K mg base CX0 (k + 1) f fd ps (spQ K Pre Post) := by
  refine F.ok Sc (fun vs H Q E h => ?_) fun cd A outer s H vs Q E hr h => ?_
  · obtain ⟨ds, B, F, hR, _, _, hd, _⟩ := h
    rw [dpa_len hd]
    exact len ds hR
  · obtain ⟨ds, B, F', hR, sub, hB, hd, q⟩ := h
    have kk : Ok K B [] F' H [] := ⟨sub, List.nodup_nil, fun a ha => (by cases ha), hB, rfl, fun l a o h1 _ => (by simp at h1)⟩
    obtain ⟨t, ht, hq⟩ := body cd A outer s H hr ds hR B (L2.start N vs) [] F' H { nx := fun _ H' => Q .non H', rt := Q } (envr_start (rvs_of hd)) kk
      ⟨[], fun _ => rfl, ⟨[], rfl⟩, fun E σ φ F2 H2 S a g hE k2 => q .none a .non F2 H2 g.s k2.sub .non, fun av v φ F2 H2 S a g rv k2 => (by obtain ⟨r, hr, e⟩ := a; subst e; exact q r hr v F2 H2 g.s k2.sub rv), fun _ _ _ _ _ _ a => a.elim, fun _ _ _ _ _ _ a => a.elim, fun _ _ _ _ _ _ _ _ _ a => a.elim⟩
    exact ⟨t, ht (), hq⟩
end
structure CalQ (b : Bs) (x : Str) (j : Nat) (Pre : List PyData → Prop) (Post : List PyData → PyData → Prop) : Prop where
  ex : ∃ (f : Addr) (fd : FuncData) (ps : List Str), FnOk b.P b.w b.K b.mg b.base CX0 j f fd ps (spQ b.K Pre Post) ∧ b.mg x = some (.ref f) ∧ PySem.W.keepIn b.K (.ref f) = true ∧ Binds b.K fd ps []
/-- an expression that gives some data r with Post r -/
def JEQ (C : Fam) (E : AE) (S : Sto) (e : Expr) (Post : PyData → Prop) (S' : Sto) : Prop := ∀ (B : List Addr) (σ : L2.St) (φ : List Addr) (F H : Hp) (Q : VK), EnvR C.b.K φ F σ E → Ok C.b.K B φ F H S →
  (∀ r, Post r → ∀ v φ' F' H', Gr B φ F H φ' F' H' → Ok C.b.K B φ' F' H' S' → RV C.b.K φ' F' v (.d r) → Q v H') → WE C e σ H Q
section
variable {C : Fam} {E E' : AE} {S S1 S2 S3 S4 : Sto} {a b c e tg o : Expr} {es : List Expr} {av bv cv : AV} {pos p apos q0 : Pos} {d d' : PyData} {ds ds' : List PyData} {rest : List Stmt} {q : Po} {Post' : PyData → Prop}
theorem jeq_cl {x : Str} {j : Nat} {Pre : List PyData → Prop} {Post : List PyData → PyData → Prop} (c : CalQ C.b x j Pre Post) (ha : JD C E S (e :: es) ds S1) (hR : Pre ds) (hj : j ≤ C.k := by exact Nat.le_of_ble_eq_true rfl)
    (hg : C.sc.names.lookup x = some .globalImplicit := by rfl) (hdb : (x == ("__debug__" : Str)) = false := by decide) (he : ∀ i : C.ι, starEach (e :: es) (C.V i).env = (false, eval e (C.V i).env) :: starEach es (C.V i).env := by intro _; rfl)
    (hpl : ∀ i : C.ι, (backTo pos (starEach es (C.V i).env)).any (·.1) = false := by intro _; rfl) (hh : C.hot = false := by rfl) : JEQ C E S (.Call (.Name x q0) (e :: es) [] pos) (Post ds) S1 := by
  obtain ⟨f, fd, ps, G, hm, kp, hb⟩ := c.ex
  intro B σ φ F H Q hE k q
  refine ⟨tCall (spQ C.b.K Pre Post) [] E0 (WA C (e :: es)), fun i => pe_call (X := C.cx i) G ((C.hr hh i).mono hj) (gl_of hg i) hm kp hb .nil pass0 (wa C _ i) hdb (he i) (hpl i), ?_⟩
  refine ha B σ φ F H _ hE k fun vs φ1 F1 H1 g1 k1 r1 => ?_
  refine ⟨ds, B ++ φ1, F1, hR, k1.sub, fun b hb => ?_, by rw [List.append_nil]; exact rvs_data r1, fun r hr v F' H' g2 sub r2 => ?_⟩
  · rcases List.mem_append.mp hb with hb | hb
    · exact k1.bs b hb
    · obtain ⟨l, hl⟩ := List.mem_iff_getElem?.mp hb
      obtain ⟨o, _, r⟩ := k1.obj hl
      obtain ⟨u, e⟩ := r.some
      rw [e]
      exact fun z => by cases z
  · obtain ⟨k2, g3⟩ := k1.called g2 sub
    exact q r hr v φ1 F' H' (g1.trans g3) k2 r2
/-- x = e, e of some data -/
theorem jss_setQ (j : Nat) {x : Str} {pos' : Pos} (he : JEQ C E S e Post' S1) (h : ∀ r, Post' r → JSs C (E.set j (some (.d r))) S1 rest q) (hi : C.N[j]? = some x := by rfl) (hx : Loc C.sc x := by first | exact .inl rfl | exact .inr rfl)
    (hs : ∀ i : C.ι, swapsWith e (some (.Name x pos')) pos.line (C.V i).env = pure false := by intro _; rfl) (hf : (∀ i : C.ι, (C.V i).fn x = true) ∨ C.sc.names.lookup x = some .local := by first | exact .inr rfl | exact .inl (fun _ => rfl)) : JSs C E S (.Assign [.Name x pos'] e pos :: rest) q :=
  jss_cons fun B σ φ F H D hE k d => ⟨tAsg (WE C e) (gName j), fun i => ps_set C.nd hi (loc_of hx i) (we C e i) (hs i) (fn_of' hf i), he B σ φ F H _ hE k fun r hr v φ1 F1 H1 g1 k1 r1 => d.nx _ _ φ1 F1 H1 S1 (h r hr) (d.gs g1) ((hE.gr g1).set r1 j) k1⟩
theorem jss_asgQ (he : JEQ C E S e Post' S1) (h : ∀ r, Post' r → ∃ js E', JG C E tg (.d r) js E' ∧ JSs C E' S1 rest q) (hs : ∀ i : C.ι, swapsWithSole [tg] e pos.line (C.V i).env = pure false := by intro _; rfl) (hw : ∀ i : C.ι, swappedStores [tg] e (C.V i).env = pure none := by intro _; rfl) (h1 : ∀ i : C.ι, (assignEach [tg] (C.V i).env).map (·.2) = [assign tg (C.V i).env] := by intro _; rfl) : JSs C E S (.Assign [tg] e pos :: rest) q :=
  jss_cons fun B σ φ F H D hE k d => ⟨tAsg (WE C e) (WG C tg), fun i => ps_asg (we C e i) (wg C tg i) (hs i) (hw i) (h1 i), he B σ φ F H _ hE k fun r hr v φ1 F1 H1 g1 k1 r1 => by
    obtain ⟨js, E', hg, hb⟩ := h r hr
    exact hg B S1 σ φ1 F1 H1 v _ (hE.gr g1) k1 r1 fun σ' _ hE' => d.nx _ _ φ1 F1 H1 S1 hb (d.gs g1) hE' k1⟩
theorem jss_retQ (he : JEQ C E S e Post' S1) (h : ∀ r, Post' r → q.rt (.d r) S1) : JSs C E S (.Return (some e) pos :: rest) q :=
  jss_cons fun B σ φ F H D hE k d => ⟨tRet (WE C e), fun i => ps_ret (we C e i), he B σ φ F H _ hE k fun r hr v φ1 F1 H1 g1 k1 r1 => d.rt (.d r) v φ1 F1 H1 S1 (h r hr) (d.gs g1) r1 k1⟩
/-! ### lists of the store, made by + and by slices -/
theorem sr_cato {K : PySem.W.Frag} (ha : rdA S av = some (.list ds)) (hb : rdA S bv = some (.list ds')) (hl : ds.length + ds'.length ≤ sizeLine) : SR2 K S (rCatS K) av bv (.o S.length) (S ++ [.ld (ds ++ ds')]) := fun B φ F H x y Q k r1 r2 q => by
  obtain ⟨a, vs, rfl, hs, ra⟩ := rd_list k r1 ha
  obtain ⟨b, ws, rfl, ht, rb⟩ := rd_list k r2 hb
  refine ⟨a, b, vs, ws, rfl, rfl, hs, ht, by rw [dpa_len ra, dpa_len rb]; exact hl, fun p hp => ?_⟩
  obtain ⟨k2, g2⟩ := k.new (o := .lst (vs ++ ws)) (m := .ld (ds ++ ds')) hp fun hF => ⟨hF, _, upd_same, dpa_app ra rb⟩
  exact q _ _ _ _ g2 k2 ⟨p, by rw [← k.len]; simp, rfl⟩
theorem je_cato (ha : JE C E S a av S1) (hb : JE C E S1 b bv S2) (h1 : rdA S2 av = some (.list ds)) (h2 : rdA S2 bv = some (.list ds')) (hl : ds.length + ds'.length ≤ sizeLine) : JE C E S (.BinOp a .Add b pos) (.o S2.length) (S2 ++ [.ld (ds ++ ds')]) := je_bin (fun i => op_catS (X := C.cx i)) (sr_cato h1 h2 hl) ha hb
theorem srs_listo {K : PySem.W.Frag} {lo hi : Option Int} (ha : rdA S av = some (.list ds)) : ∀ (B φ : List Addr) (F H : Hp) (x : V) (Q : VK), Ok K B φ F H S → RV K φ F x av →
    (∀ v φ' F' H', Gr B φ F H φ' F' H' → Ok K B φ' F' H' (S ++ [.ld (cutD ds lo hi)]) → RV K φ' F' v (.o S.length) → Q v H') → rSlL K x lo hi H Q := fun B φ F H x Q k r q => by
  obtain ⟨a, vs, rfl, hs, ra⟩ := rd_list k r ha
  refine ⟨a, vs, rfl, hs, fun p hp => ?_⟩
  obtain ⟨k2, g2⟩ := k.new (o := .lst (cutV vs lo hi)) (m := .ld (cutD ds lo hi)) hp fun hF => ⟨hF, _, upd_same, dpa_cut ra lo hi⟩
  exact q _ _ _ _ g2 k2 ⟨p, by rw [← k.len]; simp, rfl⟩
theorem je_max (hm : C.b.mg "max" = none) {ns : List Int} {m : Int} (ha : JE C E S a av S1) (hr : rdA S1 av = some (.list (ns.map PyData.int))) (hn : 0 < ns.length) (hx : ∀ z, z ∈ ns → (∀ y ∈ ns, y ≤ z) → z = m) (hg : C.sc.names.lookup ("max" : Str) = some .globalImplicit := by rfl) (hs : ∀ i : C.ι, starEach [a] (C.V i).env = (false, eval a (C.V i).env) :: starEach [] (C.V i).env := by intro _; rfl) (hpl : ∀ i : C.ι, (backTo pos (starEach [] (C.V i).env)).any (·.1) = false := by intro _; rfl) (hh : C.hot = false := by rfl) : JE C E S (.Call (.Name "max" p) [a] [] pos) (.d (.int m)) S1 :=
  je_callB (fun i => cr_max (X := C.cx i) (C.calm hh i)) (sl_max hr hn hx) hm (by decide +kernel) (ja_cons ha ja_nil hs) hg (by decide) (by decide) hs hpl
theorem je_min2 (hm : C.b.mg "min" = none) {i j : Int} (ha : JE C E S a (.d (.int i)) S1) (hb : JE C E S1 b (.d (.int j)) S2) (hg : C.sc.names.lookup ("min" : Str) = some .globalImplicit := by rfl) (hs : ∀ i : C.ι, starEach [a, b] (C.V i).env = (false, eval a (C.V i).env) :: starEach [b] (C.V i).env := by intro _; rfl) (hs2 : ∀ i : C.ι, starEach [b] (C.V i).env = (false, eval b (C.V i).env) :: starEach [] (C.V i).env := by intro _; rfl) (hpl : ∀ i : C.ι, (backTo pos (starEach [b] (C.V i).env)).any (·.1) = false := by intro _; rfl) (hh : C.hot = false := by rfl) : JE C E S (.Call (.Name "min" p) [a, b] [] pos) (.d (.int (if j < i then j else i))) S2 :=
  je_callB (fun n => call_min2 (X := C.cx n) (C.calm hh n)) sl_min2 hm (by decide +kernel) (ja_cons ha (ja_cons hb ja_nil hs2) hs) hg (by decide) (by decide) hs hpl
/-! ### places of the store chosen anew -/
inductive RelA (sel : List Nat) : AV → AV → Prop where
  | d (x : PyData) : RelA sel (.d x) (.d x)
  | v (x : V) : RelA sel (.v x) (.v x)
  | o (l m : Nat) (h : sel[m]? = some l) : RelA sel (.o l) (.o m)
inductive RelE (sel : List Nat) : AE → AE → Prop where
  | nil : RelE sel [] []
  | non {r r' : AE} (a : Option AV) (h : RelE sel r r') : RelE sel (a :: r) (none :: r')
  | put {r r' : AE} {a a' : AV} (h1 : RelA sel a a') (h : RelE sel r r') : RelE sel (some a :: r) (some a' :: r')
theorem RelE.get {sel : List Nat} : ∀ {E E' : AE} {i : Nat} {av' : AV}, RelE sel E E' → E'[i]? = some (some av') → ∃ av, E[i]? = some (some av) ∧ RelA sel av av'
  | _, _, _, _, .nil, e => by simp at e
  | _, _, 0, _, .non _ _, e => by simp at e
  | _, _, 0, _, RelE.put h1 _, e => by simp at e; subst e; exact ⟨_, rfl, h1⟩
  | _, _, i + 1, _, .non _ h, e => by simpa using h.get (i := i) (by simpa using e)
  | _, _, i + 1, _, .put _ h, e => by simpa using h.get (i := i) (by simpa using e)
theorem RelE.len {sel : List Nat} : ∀ {E E' : AE}, RelE sel E E' → E'.length = E.length
  | _, _, .nil => rfl
  | _, _, .non _ h => by simp [h.len]
  | _, _, .put _ h => by simp [h.len]
/-- the store is chosen anew: S' by the places sel of S, objects without places in them -/
theorem jss_sel (sel : List Nat) (S' : Sto) (E' : AE) (hnd : sel.Nodup) (hS : sel.map (S[·]?) = S'.map some) (hc : ∀ o ∈ S', clO 0 o = true) (hE : RelE sel E E') (h : JSs C E' S' rest q) (hC : C.an = false := by rfl) : JSs C E S rest q := by
  intro B σ φ F H D hE0 k d
  have hl : sel.length = S'.length := by have := congrArg List.length hS; simpa using this
  have hget : ∀ (m l : Nat), sel[m]? = some l → ∃ o, S[l]? = some o ∧ S'[m]? = some o := fun m l e => by
    have e1 : (sel.map (S[·]?))[m]? = some S[l]? := by rw [List.getElem?_map, e]; rfl
    rw [hS, List.getElem?_map] at e1
    cases e2 : S'[m]? with
    | none => rw [e2] at e1; cases e1
    | some o => rw [e2] at e1; cases hh : S[l]? with
      | none => rw [hh] at e1; cases e1
      | some o' => rw [hh] at e1; cases e1; exact ⟨_, rfl, rfl⟩
  -- the addresses of the chosen places
  have hφ : ∀ (m l : Nat), sel[m]? = some l → ∃ a, φ[l]? = some a := fun m l e => by
    obtain ⟨o, h1, _⟩ := hget m l e
    obtain ⟨a, ea, _⟩ := k.at h1
    exact ⟨a, ea⟩
  let φ' := sel.map fun l => φ.getD l 0
  have hφ' : ∀ (m l : Nat) (a : Addr), sel[m]? = some l → φ[l]? = some a → φ'[m]? = some a := fun m l a e1 e2 => by
    show (sel.map fun l => φ.getD l 0)[m]? = some a
    rw [List.getElem?_map, e1, Option.map_some, List.getD_eq_getElem?_getD, e2]
    rfl
  have hback : ∀ (m : Nat) (a : Addr), φ'[m]? = some a → ∃ l, sel[m]? = some l ∧ φ[l]? = some a := fun m a e => by
    have hm : m < φ'.length := (List.getElem?_eq_some_iff.mp e).1
    have hm' : m < sel.length := by simpa [φ'] using hm
    have e1 : sel[m]? = some sel[m] := by simp [hm']
    obtain ⟨a', ea⟩ := hφ m _ e1
    have := hφ' m _ a' e1 ea
    rw [e] at this
    cases this
    exact ⟨_, e1, ea⟩
  have k' : Ok C.b.K B φ' F H S' := by
    refine ⟨k.sub, ?_, fun a ha => ?_, k.bs, by simp [φ', hl], fun m a o h1 h2 => ?_⟩
    · rw [List.nodup_iff_pairwise_ne, List.pairwise_iff_getElem]
      intro i j hi hj hlt hij
      have h1 : φ'[i]? = some φ'[i] := by simp
      have h2 : φ'[j]? = some φ'[j] := by simp
      obtain ⟨l1, s1, p1⟩ := hback _ _ h1
      obtain ⟨l2, s2, p2⟩ := hback _ _ h2
      rw [hij] at p1
      have := k.inj p1 p2
      subst this
      have := nd_ix hnd s1 s2
      omega
    · obtain ⟨m, hm⟩ := List.mem_iff_getElem?.mp ha
      obtain ⟨l, _, e2⟩ := hback m a hm
      exact k.dis a (List.mem_of_getElem? e2)
    · obtain ⟨l, e1, e2⟩ := hback m a h1
      obtain ⟨o', h3, h4⟩ := hget m l e1
      rw [h2] at h4
      cases h4
      have r := k.own l a o e2 h3
      have := ro_cut (φ := []) (ψ := φ) (hc o (List.mem_of_getElem? h2)) (Same.refl F) (fun _ => rfl) (by simpa using r)
      exact ro_mono ⟨φ', rfl⟩ (Same.refl F) rfl rfl this
  refine h B σ φ' F H D ⟨by rw [hE.len]; exact hE0.len, fun i av' e => ?_⟩ k' (d.goA ⟨.refl, by rw [d.hn hC]; exact ⟨_, rfl⟩⟩)
  obtain ⟨av, e1, ra⟩ := hE.get e
  obtain ⟨v, e2, r⟩ := hE0.get i av e1
  refine ⟨v, e2, ?_⟩
  cases ra with
  | d x => exact r
  | v x => exact r
  | o l m hm =>
    obtain ⟨a, ea, ev⟩ := r
    exact ⟨a, hφ' m l a hm ea, ev⟩
end
theorem at_enc {α : Type} {xs : List α} {enc : α → PyData} {k : Int} {dflt : α} (h0 : 0 ≤ k) (h : k < xs.length) : atI (xs.map enc) k = some (enc (xs.getD k.toNat dflt)) := by
  obtain ⟨m, rfl⟩ := Int.eq_ofNat_of_zero_le h0
  have hm : m < xs.length := by omega
  refine atI_nat ?_
  rw [List.getElem?_map, List.getElem?_eq_getElem hm, List.getD_eq_getElem?_getD, Int.toNat_natCast, List.getElem?_eq_getElem hm]
  rfl
theorem getD_mem {α : Type} {l : List α} {i : Nat} {x : α} (h : i < l.length) : l.getD i x ∈ l := by
  rw [List.getD_eq_getElem?_getD, List.getElem?_eq_getElem h]
  exact List.getElem_mem h
end AL

namespace AL
open PySem PySem.Spec PyProof.Rows L2 TL
/-! ### defs that may raise -/
/-- what comes of a call: data or an exception -/
inductive Res where
  | ok (d : PyData)
  | ex (x : XD)
def spX (b : Bs) (R : List PyData → Res → Prop) : Sp := fun vs H Q E => ∃ (ds : List PyData) (r : Res) (B : List Addr) (F : Hp), R ds r ∧ Same F H ∧ (∀ a ∈ B, H a ≠ none) ∧ DpAll b.K F vs ds ∧
  (∀ d, r = .ok d → ∀ v F' H', GrS B F H F' H' → Same F' H' → Dp b.K F' v d → Q v H') ∧
  (∀ x, r = .ex x → ∀ cls d F' H', GrS B F H F' H' → Same F' H' → RepX b F' H' x cls d → E cls d H')
/-- what callees may let out: any exception, or only such without a context -/
def CXB (m : Bool) (P : Program) (w : World) : CXT := match m with
  | true => L2N.CX P w
  | false => L2.CX P w
theorem takesB_of {m : Bool} {X : Cx} {E : XK} {E₁ : Value → Shared → Prop} (hs : X.stack = X.env :: X.outer) (hf : X.env.frame = some X.env.locals) (hex : X.ex = [])
    (hx : X.xe = fun e s' => wpAny (model X.prog X.w) X.A (leaving X.env e) (fun _ s'' => CXB m X.prog X.w X.outer X.H_0 X.s_0 E e s'') E₁ s') : TakesB m X (fun cls d _ H => E cls d H) := by
  cases m with
  | true => exact L2N.takes_of hs hf hex hx
  | false => exact L2.takes_of hs hf hex hx
abbrev defVX (m : Bool) (b : Bs) (qual : Str) (sc : Scope) (f : Addr) (cd : Value) (A : Around) (outer : List Env) (s : Shared) (H : Hp) (E : XK) : CV :=
  ⟨A.deeper (envOfC qual sc s.heap.objs.size f cd), s, H, envOfC qual sc s.heap.objs.size f cd, outer, envOfC qual sc s.heap.objs.size f cd :: outer, [], fun _ => true, true, [],
    fun e s' => wpAny (model b.P b.w) (A.deeper (envOfC qual sc s.heap.objs.size f cd)) (leaving (envOfC qual sc s.heap.objs.size f cd) e) (fun _ s'' => CXB m b.P b.w outer H s E e s'') (fun e' s'' => CXB m b.P b.w outer H s E e' s'') s'⟩
def defFB (m : Bool) (b : Bs) (N : List Str) (k : Nat) (qual : Str) (sc : Scope) (f : Addr) (cd : Value) (A : Around) (outer : List Env) (s : Shared) (H : Hp) (E : XK) (nd : N.Nodup) (hr : Room k (A.deeper (envOfC qual sc s.heap.objs.size f cd))) (an : Bool := false) : Fam :=
  ⟨b, N, k, Unit, fun _ => defVX m b qual sc f cd A outer s H E, nd, false, fun _ _ => hr, fun _ _ => rfl, sc, fun _ => rfl, fun _ _ => passes_of (X := mkc b N (defVX m b qual sc f cd A outer s H E)) rfl, fun cls d _ H => E cls d H, m, fun _ => takesB_of (X := mkc b N (defVX m b qual sc f cd A outer s H E)) rfl rfl rfl rfl, an⟩
section
variable {P : Program} {w : World} {K : PySem.W.Frag} {mg : Str → Option Value} {base : Heap}
theorem fn_dataB (m : Bool) {x qual : Str} {st : Stmt} {f : Addr} {fd : FuncData} {N ps : List Str} {k : Nat} {R : List PyData → Res → Prop} (F : Fun K x qual st f fd) (Sc : FnScope N ps (defScope st)) (len : ∀ ds r, R ds r → ds.length = ps.length)
    (body : ∀ (cd : Value) (A : Around) (outer : List Env) (s : Shared) (H : Hp) (E : XK) (hr : Room k (A.deeper (envOfC qual (defScope st) s.heap.objs.size f cd))) (ds : List PyData) (r : Res), R ds r →
      JSs (defFB m ⟨P, w, K, mg, base⟩ N k qual (defScope st) f cd A outer s H E Sc.nd hr) (startE N (ds.map AV.d)) [] (defBody st) { nx := fun _ _ => r = .ok .none, rt := fun av _ => ∃ d, r = .ok d ∧ av = .d d, xe := fun x _ _ => r = .ex x }) : FnOk P w K mg base (CXB m P w) (k + 1) f fd ps (spX ⟨P, w, K, mg, base⟩ R) := by
  have len' : ∀ vs H Q E, spX ⟨P, w, K, mg, base⟩ R vs H Q E → vs.length = ps.length := fun vs H Q E h => by
    obtain ⟨ds, r, B, F, hR, _, _, hd, _⟩ := h
    rw [dpa_len hd]
    exact len ds r hR
  obtain ⟨oc, od, kV, doc, pm, an, cdv, ct, osl, rfl, lk, hcd⟩ := F.ex
  refine fn_of lk hcd Sc len' fun A outer s H vs Q E hr h => ?_
  obtain ⟨ds, r, B, F', hR, sub, hB, hd, q, qx⟩ := h
  have kk : Ok K B [] F' H [] := ⟨sub, List.nodup_nil, fun a ha => (by cases ha), hB, rfl, fun l a o h1 _ => (by simp at h1)⟩
  obtain ⟨t, ht, hq⟩ := body cdv A outer s H E hr ds r hR B (L2.start N vs) [] F' H { nx := fun _ H' => Q .non H', rt := Q } (envr_start (rvs_of hd)) kk
    ⟨[], fun _ => rfl, ⟨[], rfl⟩, fun E σ φ F2 H2 S a g hE k2 => q .none a .non F2 H2 g.s k2.sub .non, fun av v φ F2 H2 S a g rv k2 => (by obtain ⟨d, hr, e⟩ := a; subst e; exact q d hr v F2 H2 g.s k2.sub rv), fun _ _ _ _ _ _ a => a.elim, fun _ _ _ _ _ _ a => a.elim,
      fun x E' σ φ F2 H2 S cls d a g hE k2 rx => qx x a cls d F2 H2 g.s k2.sub rx⟩
  exact ⟨t, ht (), hq⟩
theorem fn_dataX {x qual : Str} {st : Stmt} {f : Addr} {fd : FuncData} {N ps : List Str} {k : Nat} {R : List PyData → Res → Prop} (F : Fun K x qual st f fd) (Sc : FnScope N ps (defScope st)) (len : ∀ ds r, R ds r → ds.length = ps.length)
    (body : ∀ (cd : Value) (A : Around) (outer : List Env) (s : Shared) (H : Hp) (E : XK) (hr : Room k (A.deeper (envOfC qual (defScope st) s.heap.objs.size f cd))) (ds : List PyData) (r : Res), R ds r →
      JSs (defFB false ⟨P, w, K, mg, base⟩ N k qual (defScope st) f cd A outer s H E Sc.nd hr) (startE N (ds.map AV.d)) [] (defBody st) { nx := fun _ _ => r = .ok .none, rt := fun av _ => ∃ d, r = .ok d ∧ av = .d d, xe := fun x _ _ => r = .ex x }) : FnOk P w K mg base (CXB false P w) (k + 1) f fd ps (spX ⟨P, w, K, mg, base⟩ R) := fn_dataB false F Sc len body
/-- only exceptions without a context come out -/
theorem fn_dataN {x qual : Str} {st : Stmt} {f : Addr} {fd : FuncData} {N ps : List Str} {k : Nat} {R : List PyData → Res → Prop} (F : Fun K x qual st f fd) (Sc : FnScope N ps (defScope st)) (len : ∀ ds r, R ds r → ds.length = ps.length)
    (body : ∀ (cd : Value) (A : Around) (outer : List Env) (s : Shared) (H : Hp) (E : XK) (hr : Room k (A.deeper (envOfC qual (defScope st) s.heap.objs.size f cd))) (ds : List PyData) (r : Res), R ds r →
      JSs (defFB true ⟨P, w, K, mg, base⟩ N k qual (defScope st) f cd A outer s H E Sc.nd hr) (startE N (ds.map AV.d)) [] (defBody st) { nx := fun _ _ => r = .ok .none, rt := fun av _ => ∃ d, r = .ok d ∧ av = .d d, xe := fun x _ _ => r = .ex x }) : FnOk P w K mg base (CXB true P w) (k + 1) f fd ps (spX ⟨P, w, K, mg, base⟩ R) := fn_dataB true F Sc len body
end
structure CalB (m : Bool) (b : Bs) (x : Str) (j : Nat) (R : List PyData → Res → Prop) : Prop where
  ex : ∃ (f : Addr) (fd : FuncData) (ps : List Str), FnOk b.P b.w b.K b.mg b.base (CXB m b.P b.w) j f fd ps (spX b R) ∧ b.mg x = some (.ref f) ∧ PySem.W.keepIn b.K (.ref f) = true ∧ Binds b.K fd ps []
abbrev CalX := CalB false
abbrev CalN := CalB true
theorem passB {m : Bool} {C : Fam} (h : m = true ∨ C.nn = false) (i : C.ι) (σ : L2.St) : PassesAt (CXB m (C.cx i).prog (C.cx i).w) (C.cx i) σ (L2.WE C.W σ) := by
  cases m with
  | true => exact L2N.passAt (C.tk i).n σ
  | false =>
    rcases h with h | h
    · cases h
    · exact L2.passAt ((C.tk i).c h) σ
/-- an expression that raises x -/
def JX (C : Fam) (E : AE) (S : Sto) (e : Expr) (x : XD) (S' : Sto) : Prop := ∀ (B : List Addr) (σ : L2.St) (φ : List Addr) (F H : Hp) (Q : VK), EnvR C.b.K φ F σ E → Ok C.b.K B φ F H S →
  (∀ φ' F' H' cls d, Gr B φ F H φ' F' H' → Ok C.b.K B φ' F' H' S' → RepX C.b F' H' x cls d → C.W cls d σ H') → WE C e σ H Q
section
variable {C : Fam} {E E' : AE} {S S1 S2 S3 S4 : Sto} {a b c e tg o : Expr} {es : List Expr} {av bv cv : AV} {pos p apos q0 : Pos} {d d' : PyData} {ds ds' : List PyData} {rest : List Stmt} {q : Po} {x : XD}
theorem calx_te {m : Bool} {n : Str} {j : Nat} {R : List PyData → Res → Prop} (c : CalB m C.b n j R) (hm' : m = true ∨ C.nn = false) {r : Res} (hR : R ds r) (hj : j ≤ C.k) (ha : JD C E S (e :: es) ds S1)
    (hg : C.sc.names.lookup n = some .globalImplicit) (hdb : (n == ("__debug__" : Str)) = false) (he : ∀ i : C.ι, starEach (e :: es) (C.V i).env = (false, eval e (C.V i).env) :: starEach es (C.V i).env)
    (hpl : ∀ i : C.ι, (backTo pos (starEach es (C.V i).env)).any (·.1) = false) (hh : C.hot = false) :
    ∀ (B : List Addr) (σ : L2.St) (φ : List Addr) (F H : Hp) (Q : VK), EnvR C.b.K φ F σ E → Ok C.b.K B φ F H S →
      (∀ d, r = .ok d → ∀ v φ' F' H', Gr B φ F H φ' F' H' → Ok C.b.K B φ' F' H' S1 → RV C.b.K φ' F' v (.d d) → Q v H') →
      (∀ x, r = .ex x → ∀ φ' F' H' cls d, Gr B φ F H φ' F' H' → Ok C.b.K B φ' F' H' S1 → RepX C.b F' H' x cls d → C.W cls d σ H') → WE C (.Call (.Name n q0) (e :: es) [] pos) σ H Q := by
  obtain ⟨f, fd, ps, G, hm, kp, hb⟩ := c.ex
  intro B σ φ F H Q hE k qo qx
  refine ⟨tCallS (spX C.b R) (L2.WE C.W) (WA C (e :: es)), fun i => pe_callS (X := C.cx i) G ((C.hr hh i).mono hj) (gl_of hg i) hm kp hb (fun σ => passB hm' i σ) (wa C _ i) hdb (he i) (hpl i), ?_⟩
  refine ha B σ φ F H _ hE k fun vs φ1 F1 H1 g1 k1 r1 => ?_
  refine ⟨ds, r, B ++ φ1, F1, hR, k1.sub, fun b hb => ?_, rvs_data r1, fun d hd v F' H' g2 sub r2 => ?_, fun x hx cls d F' H' g2 sub r2 => ?_⟩
  · rcases List.mem_append.mp hb with hb | hb
    · exact k1.bs b hb
    · obtain ⟨l, hl⟩ := List.mem_iff_getElem?.mp hb
      obtain ⟨o, _, r⟩ := k1.obj hl
      obtain ⟨u, e⟩ := r.some
      rw [e]
      exact fun z => by cases z
  · obtain ⟨k2, g3⟩ := k1.called g2 sub
    exact qo d hd v φ1 F' H' (g1.trans g3) k2 r2
  · obtain ⟨k2, g3⟩ := k1.called g2 sub
    exact qx x hx φ1 F' H' cls d (g1.trans g3) k2 r2
/-- a call that returns -/
theorem je_clx {m : Bool} {n : Str} {j : Nat} {R : List PyData → Res → Prop} (c : CalB m C.b n j R) (ha : JD C E S (e :: es) ds S1) (hR : R ds (.ok d)) (hj : j ≤ C.k := by exact Nat.le_of_ble_eq_true rfl)
    (hg : C.sc.names.lookup n = some .globalImplicit := by rfl) (hdb : (n == ("__debug__" : Str)) = false := by decide) (he : ∀ i : C.ι, starEach (e :: es) (C.V i).env = (false, eval e (C.V i).env) :: starEach es (C.V i).env := by intro _; rfl)
    (hpl : ∀ i : C.ι, (backTo pos (starEach es (C.V i).env)).any (·.1) = false := by intro _; rfl) (hh : C.hot = false := by rfl) (hm' : m = true ∨ C.nn = false := by first | exact .inl rfl | exact .inr rfl) : JE C E S (.Call (.Name n q0) (e :: es) [] pos) (.d d) S1 := fun B σ φ F H Q hE k q =>
  calx_te c hm' hR hj ha hg hdb he hpl hh B σ φ F H Q hE k (fun d' hd v φ' F' H' g k' r => by cases hd; exact q v φ' F' H' g k' r) (fun x hx => by cases hx)
/-- a call that raises -/
theorem jx_cl {m : Bool} {n : Str} {j : Nat} {R : List PyData → Res → Prop} (c : CalB m C.b n j R) (ha : JD C E S (e :: es) ds S1) (hR : R ds (.ex x)) (hj : j ≤ C.k := by exact Nat.le_of_ble_eq_true rfl)
    (hg : C.sc.names.lookup n = some .globalImplicit := by rfl) (hdb : (n == ("__debug__" : Str)) = false := by decide) (he : ∀ i : C.ι, starEach (e :: es) (C.V i).env = (false, eval e (C.V i).env) :: starEach es (C.V i).env := by intro _; rfl)
    (hpl : ∀ i : C.ι, (backTo pos (starEach es (C.V i).env)).any (·.1) = false := by intro _; rfl) (hh : C.hot = false := by rfl) (hm' : m = true ∨ C.nn = false := by first | exact .inl rfl | exact .inr rfl) : JX C E S (.Call (.Name n q0) (e :: es) [] pos) x S1 := fun B σ φ F H Q hE k q =>
  calx_te c hm' hR hj ha hg hdb he hpl hh B σ φ F H Q hE k (fun d' hd => by cases hd) (fun x' hx φ' F' H' cls d g k' r => by cases hx; exact q φ' F' H' cls d g k' r)
/-! ### what raises within -/
def JAX (C : Fam) (E : AE) (S : Sto) (es : List Expr) (x : XD) (S' : Sto) : Prop := ∀ (B : List Addr) (σ : L2.St) (φ : List Addr) (F H : Hp) (Q : List V → Hp → Prop), EnvR C.b.K φ F σ E → Ok C.b.K B φ F H S →
  (∀ φ' F' H' cls d, Gr B φ F H φ' F' H' → Ok C.b.K B φ' F' H' S' → RepX C.b F' H' x cls d → C.W cls d σ H') → WA C es σ H Q
theorem jax_here (h : JX C E S e x S1) (hs : ∀ i : C.ι, starEach (e :: es) (C.V i).env = (false, eval e (C.V i).env) :: starEach es (C.V i).env := by intro _; rfl) (ht : ∀ i, ∃ t, PA (C.cx i) es t := by exact fun _ => ⟨_, wa _ _ _⟩) : JAX C E S (e :: es) x S1 := fun B σ φ F H Q hE k q =>
  ⟨tCons (WE C e) (WA C es), fun i => pa_cons (we C e i) (wa C es i) (hs i), h B σ φ F H _ hE k q⟩
theorem jax_next (h : JE C E S e av S1) (h2 : JAX C E S1 es x S2) (hs : ∀ i : C.ι, starEach (e :: es) (C.V i).env = (false, eval e (C.V i).env) :: starEach es (C.V i).env := by intro _; rfl) : JAX C E S (e :: es) x S2 := fun B σ φ F H Q hE k q =>
  ⟨tCons (WE C e) (WA C es), fun i => pa_cons (we C e i) (wa C es i) (hs i), h B σ φ F H _ hE k fun v φ1 F1 H1 g1 k1 r1 => h2 B σ φ1 F1 H1 _ (hE.gr g1) k1 fun φ' F' H' cls d g k' r => q φ' F' H' cls d (g1.trans g) k' r⟩
theorem jx_tup {j : Nat} (h : JAX C E S es x S1) : JX C E S (.Tuple es j pos) x S1 := fun B σ φ F H Q hE k q => ⟨tTup (WA C es), fun i => pe_tup (wa C es i), h B σ φ F H _ hE k q⟩
theorem jx_un {op : UnaryOp} {r : V → Hp → VK → Prop} (ho : ∀ i, UnR (C.cx i) (unaryOp op) r) (h : JX C E S a x S1) : JX C E S (.UnaryOp op a pos) x S1 := fun B σ φ F H Q hE k q => ⟨tUn r (WE C a), fun i => pe_un (ho i) (we C a i), h B σ φ F H _ hE k q⟩
theorem jx_cmpl {op : CmpOp} {r : R2} (ho : ∀ i, OpR (C.cx i) (compareOp op) r) (h : JX C E S a x S1) (hm : behindInMarks op b = false) : JX C E S (.Compare a [op] [b] pos) x S1 := fun B σ φ F H Q hE k q => ⟨tOp r (WE C a) (WE C b), fun i => pe_cmpR (ho i) (we C a i) (we C b i) hm, h B σ φ F H _ hE k q⟩
/-- a test that raises -/
def JTX (C : Fam) (E : AE) (S : Sto) (e : Expr) (x : XD) (S' : Sto) : Prop := ∀ (B : List Addr) (σ : L2.St) (φ : List Addr) (F H : Hp) (Q : Bool → Hp → Prop), EnvR C.b.K φ F σ E → Ok C.b.K B φ F H S →
  (∀ φ' F' H' cls d, Gr B φ F H φ' F' H' → Ok C.b.K B φ' F' H' S' → RepX C.b F' H' x cls d → C.W cls d σ H') → WT C e σ H Q
theorem jtx_cmpl {op : CmpOp} {r : R2} (ho : ∀ i, OpR (C.cx i) (compareOp op) r) (h : JX C E S a x S1) (hm : behindInMarks op b = false) : JTX C E S (.Compare a [op] [b] pos) x S1 := fun B σ φ F H Q hE k q => ⟨tTest (tOp r (WE C a) (WE C b)), fun i => pt_cmpR (ho i) (we C a i) (we C b i) hm, h B σ φ F H _ hE k q⟩
/-! ### statements that raise -/
theorem dr_x {B : List Addr} {φ φ1 : List Addr} {F H F1 H1 : Hp} {σ : L2.St} {D : Ends} {cls : Value} {dd : Option Addr} (d : DR C B φ F H D q) (hE : EnvR C.b.K φ F σ E) (g : Gr B φ F H φ1 F1 H1) (k : Ok C.b.K B φ1 F1 H1 S1) (r : RepX C.b F1 H1 x cls dd) (h : q.xe x E S1) : C.W cls dd σ H1 :=
  d.xe x E σ φ1 F1 H1 S1 cls dd h (d.gs g) (hE.gr g) k r
theorem jss_setX (j : Nat) {y : Str} {pos' : Pos} (he : JX C E S e x S1) (h : q.xe x E S1) (hi : C.N[j]? = some y := by rfl) (hx : Loc C.sc y := by first | exact .inl rfl | exact .inr rfl)
    (hs : ∀ i : C.ι, swapsWith e (some (.Name y pos')) pos.line (C.V i).env = pure false := by intro _; rfl) (hf : (∀ i : C.ι, (C.V i).fn y = true) ∨ C.sc.names.lookup y = some .local := by first | exact .inr rfl | exact .inl (fun _ => rfl)) : JSs C E S (.Assign [.Name y pos'] e pos :: rest) q :=
  jss_cons fun B σ φ F H D hE k d => ⟨tAsg (WE C e) (gName j), fun i => ps_set C.nd hi (loc_of hx i) (we C e i) (hs i) (fn_of' hf i), he B σ φ F H _ hE k fun φ' F' H' cls dd g k' r => dr_x (q := q.then C rest) d hE g k' r h⟩
theorem jss_asgX (he : JX C E S e x S1) (h : q.xe x E S1) (hs : ∀ i : C.ι, swapsWithSole [tg] e pos.line (C.V i).env = pure false := by intro _; rfl) (hw : ∀ i : C.ι, swappedStores [tg] e (C.V i).env = pure none := by intro _; rfl) (h1 : ∀ i : C.ι, (assignEach [tg] (C.V i).env).map (·.2) = [assign tg (C.V i).env] := by intro _; rfl) : JSs C E S (.Assign [tg] e pos :: rest) q :=
  jss_cons fun B σ φ F H D hE k d => ⟨tAsg (WE C e) (WG C tg), fun i => ps_asg (we C e i) (wg C tg i) (hs i) (hw i) (h1 i), he B σ φ F H _ hE k fun φ' F' H' cls dd g k' r => dr_x (q := q.then C rest) d hE g k' r h⟩
theorem jss_retX (he : JX C E S e x S1) (h : q.xe x E S1) : JSs C E S (.Return (some e) pos :: rest) q :=
  jss_cons fun B σ φ F H D hE k d => ⟨tRet (WE C e), fun i => ps_ret (we C e i), he B σ φ F H _ hE k fun φ' F' H' cls dd g k' r => dr_x (q := q.then C rest) d hE g k' r h⟩
theorem jss_exprX (he : JX C E S e x S1) (h : q.xe x E S1) (hs : ∀ i : C.ι, swapsWith e none pos.line (C.V i).env = pure false := by intro _; rfl) : JSs C E S (.Expr e pos :: rest) q :=
  jss_cons fun B σ φ F H D hE k d => ⟨tDrop (WE C e), fun i => ps_expr (we C e i) (hs i), he B σ φ F H _ hE k fun φ' F' H' cls dd g k' r => dr_x (q := q.then C rest) d hE g k' r h⟩
theorem jss_ifX {body els : List Stmt} (hc : JTX C E S c x S1) (h : q.xe x E S1) : JSs C E S (.If c body els pos :: rest) q :=
  jss_cons fun B σ φ F H D hE k d => ⟨tIfS (WT C c) (WSs C body) (WSs C els), fun i => ps_if (wt C c i) (wss C body i) (wss C els i), hc B σ φ F H _ hE k fun φ' F' H' cls dd g k' r => dr_x (q := q.then C rest) d hE g k' r h⟩
/-- an own class of exceptions without __init__, over ValueError -/
structure XC (b : Bs) (n : Str) (A : Addr) : Prop where
  g : b.mg n = some (.ref A)
  x : PySem.W.excIn b.K A [.type "ValueError", .type "Exception", .type "BaseException", .type "object"] "ValueError.__new__" = true
  k : PySem.W.keepIn b.K (.ref A) = true
  s : PySem.W.subIn b.K (.ref A) (.type "BaseException") = some true
  t : PySem.W.typeIn b.K (.ref A) = some (.type "type")
/-- raise X('..') -/
theorem jss_raise {n m : Str} {A : Addr} {j : Nat} {p1 p2 : Pos} (hX : XC C.b n A) (h : q.xe ⟨n, none⟩ E S) (hg : C.sc.names.lookup n = some .globalImplicit := by rfl) (hdb : (n == ("__debug__" : Str)) = false := by decide) (hh : C.hot = false := by rfl) :
    JSs C E S (.Raise (some (.Call (.Name n p1) [.Constant (.str m) j p2] [] p)) none pos :: rest) q :=
  jss_cons fun B σ φ F H D hE k d => ⟨_, fun i => L2N.ps_raise (C.calm hh i) (C.tk i).n (L2N.pmk_own (X := C.cx i) PySem.F.excBase_ValueError hX.x hX.g hX.k (raises_own hX.s hX.t) (gl_of hg i) hdb),
    dr_x (q := q.then C rest) d hE .refl k ⟨A, hX.g, rfl, rfl⟩ h⟩
end
/-! ### try .. except X as n: suite -/
/-- the contexts of a try's body -/
structure TrI (C : Fam) (W : WX) where
  i : C.ι
  pn : List (Addr × Obj)
  xe : Value → Shared → Prop
  tk : Takes ((C.cx i).tr pn xe) W
  po : PassesOwn (model C.b.P C.b.w) (C.V i).A (C.V i).env xe
def Fam.tr (C : Fam) (W : WX) : Fam where
  b := C.b
  N := C.N
  k := C.k
  ι := TrI C W
  V := fun j => { C.V j.i with pn := j.pn, xe := j.xe }
  nd := C.nd
  hot := C.hot
  hr := fun h j => C.hr h j.i
  calm := fun h j => C.calm h j.i
  sc := C.sc
  hsc := fun j => C.hsc j.i
  po := fun _ j => j.po
  W := W
  nn := false
  tk := fun j => j.tk
  an := C.an
structure SuI (C : Fam) (cls : Value) (d : Option Addr) where
  i : C.ι
  oe : Obj
  pn : List (Addr × Obj)
  hz : Zc cls d oe
  hf : ∃ vs, oe.data = .fields vs
/-- the contexts of an except suite: the exception at a -/
def Fam.suite (C : Fam) (a : Addr) (cls : Value) (d : Option Addr) : Fam where
  b := C.b
  N := C.N
  k := C.k
  ι := SuI C cls d
  V := fun j => { C.V j.i with A := (C.V j.i).A.mark (some (.ref a)), calm := false, pn := (a, j.oe) :: j.pn, xe := fun _ _ => False }
  nd := C.nd
  hot := true
  hr := fun h => by cases h
  calm := fun h => by cases h
  sc := C.sc
  hsc := fun j => C.hsc j.i
  po := fun _ j => PassesOwn.never
  W := fun _ _ _ _ => False
  nn := false
  tk := fun j => takes0
  an := C.an
section
variable {C : Fam} {E E' : AE} {S S1 S2 S3 S4 : Sto} {a b c e tg o : Expr} {es : List Expr} {av bv cv : AV} {pos p apos q0 np pos' : Pos} {d d' : PyData} {ds ds' : List PyData} {rest body suite : List Stmt} {b₀ : Stmt} {q : Po} {x : XD}
/-- does the clause of the class n take the exception x -/
def Exm (b : Bs) (n : Str) (x : XD) (z : Bool) : Prop := ∀ A c, b.mg x.name = some (.ref A) → b.mg n = some c → PySem.W.exmOne b.K (.ref A) c = some z
theorem jss_try_as (j : Nat) {n nm : Str} {cc : Value} (hc : C.b.mg n = some cc)
    (hb : ∀ W, JSs (C.tr W) E S body { q.then C rest with xe := fun x E' S' => ∃ z, Exm C.b n x z ∧ (z = true → ∀ (ad : Addr) (cls : Value) (d : Option Addr), (∃ A, C.b.mg x.name = some (.ref A) ∧ cls = .ref A ∧ (x.fs = none → d = none)) →
        JSs (C.suite ad cls d) (E'.set j (some (.v (.ref ad)))) S' (b₀ :: suite) { nx := fun E S => JSs C (E.set j none) S rest q, rt := q.rt, bk := fun E S => q.bk (E.set j none) S, ct := fun E S => q.ct (E.set j none) S }) ∧ (z = false → q.xe x E' S') })
    (hi : C.N[j]? = some nm := by rfl) (hln : C.sc.names.lookup nm = some .local := by rfl) (hg : C.sc.names.lookup n = some .globalImplicit := by rfl) (hdb : (n == ("__debug__" : Str)) = false := by decide)
    (hst : ∀ i : C.ι, (C.V i).stack = (C.V i).env :: (C.V i).outer := by intro _; rfl) (hfr : ∀ i : C.ι, (C.V i).env.frame = some (C.V i).env.locals := by intro _; rfl) (hh : C.hot = false := by rfl) (hnn : C.nn = false := by rfl) :
    JSs C E S (.Try body [.ExceptHandler (some (.Name n np)) (some nm) (b₀ :: suite) pos'] [] [] pos :: rest) q := by
  refine jss_cons fun B σ φ F H D hE k d => ⟨fun D σ H => WSs (C.tr (wAs C.b.K cc j (fun ad cls d => WSs (C.suite ad cls d) (b₀ :: suite)) C.W D)) body D σ H, fun i => ps_try_as (X := C.cx i) (i := j) (c := cc) (tb := fun W => WSs (C.tr W) body) (ts := fun ad cls d => WSs (C.suite ad cls d) (b₀ :: suite)) (Wout := C.W) (hst i) (hfr i) C.nd hi (by show (C.V i).env.kindOf nm = _; unfold Env.kindOf; rw [C.hsc i]; exact hln) ⟨gl_of hg i, hdb, .inl hc⟩ ((C.tk i).c hnn)
    (fun W pn xe tk po => wss (C.tr W) body ⟨i, pn, xe, tk, po⟩) (fun ad oe cls d pn hz hf => wss (C.suite ad cls d) (b₀ :: suite) ⟨i, oe, pn, hz, hf⟩), ?_⟩
  refine hb _ B σ φ F H D hE k ⟨d.an, d.hn, d.st, d.nx, d.rt, d.bk, d.ct, fun x E' σ' φ' F' H' S' cls dd hx g hE' k' rx => ?_⟩
  obtain ⟨z, hz, h1, h0⟩ := hx
  obtain ⟨A, hA, hcl, hfs⟩ := id rx
  subst hcl
  refine ⟨z, hz A cc hA hc, fun e ad hn => ?_, fun e => d.xe x E' σ' φ' F' H' S' _ dd (h0 e) g hE' k' rx⟩
  have hs := h1 e ad (.ref A) dd ⟨A, hA, rfl, fun e => by rw [e] at hfs; exact hfs⟩
  have hE2 : EnvR C.b.K φ' F' (σ'.set j (some (.ref ad))) (E'.set j (some (.v (.ref ad)))) := hE'.set (av := .v (.ref ad)) rfl j
  have wipe : ∀ {E2 : AE} {σ2 : L2.St} {φ2 : List Addr} {F2 : Hp}, EnvR C.b.K φ2 F2 σ2 E2 → EnvR C.b.K φ2 F2 (σ2.set j none) (E2.set j none) := fun {E2 σ2 φ2 F2} h => by
    have := h.wipe [j]
    unfold L2.wipe wipeE at this
    exact this
  refine hs B _ φ' F' H' _ hE2 k' ⟨d.an, d.hn, g.pre, fun E2 σ2 φ2 F2 H2 S2 a g2 h2 k2 => ?_, fun av v φ2 F2 H2 S2 a g2 h2 k2 => ?_, fun E2 σ2 φ2 F2 H2 S2 a g2 h2 k2 => ?_, fun E2 σ2 φ2 F2 H2 S2 a g2 h2 k2 => ?_, fun _ _ _ _ _ _ _ _ _ a => a.elim⟩
  · exact d.nx _ _ φ2 F2 H2 S2 a (g2.after g.s) (wipe h2) k2
  · exact d.rt av v φ2 F2 H2 S2 a (g2.after g.s) h2 k2
  · exact d.bk _ _ φ2 F2 H2 S2 a (g2.after g.s) (wipe h2) k2
  · exact d.ct _ _ φ2 F2 H2 S2 a (g2.after g.s) (wipe h2) k2
theorem jss_try_only {n : Str} {cc : Value} (hc : C.b.mg n = some cc)
    (hb : ∀ W, JSs (C.tr W) E S body { q.then C rest with xe := fun x E' S' => ∃ z, Exm C.b n x z ∧ (z = true → ∀ (ad : Addr) (cls : Value) (d : Option Addr), JSs (C.suite ad cls d) E' S' (b₀ :: suite) { nx := fun E S => JSs C E S rest q, rt := q.rt, bk := q.bk, ct := q.ct }) ∧ (z = false → q.xe x E' S') })
    (hg : C.sc.names.lookup n = some .globalImplicit := by rfl) (hdb : (n == ("__debug__" : Str)) = false := by decide)
    (hst : ∀ i : C.ι, (C.V i).stack = (C.V i).env :: (C.V i).outer := by intro _; rfl) (hfr : ∀ i : C.ι, (C.V i).env.frame = some (C.V i).env.locals := by intro _; rfl) (hh : C.hot = false := by rfl) (hnn : C.nn = false := by rfl) :
    JSs C E S (.Try body [.ExceptHandler (some (.Name n np)) none (b₀ :: suite) pos'] [] [] pos :: rest) q := by
  refine jss_cons fun B σ φ F H D hE k d => ⟨fun D σ H => WSs (C.tr (wOnly C.b.K cc (fun ad cls d => WSs (C.suite ad cls d) (b₀ :: suite)) C.W D)) body D σ H, fun i => ps_try_only (X := C.cx i) (c := cc) (tb := fun W => WSs (C.tr W) body) (ts := fun ad cls d => WSs (C.suite ad cls d) (b₀ :: suite)) (Wout := C.W) (hst i) (hfr i) ⟨gl_of hg i, hdb, .inl hc⟩ ((C.tk i).c hnn)
    (fun W pn xe tk po => wss (C.tr W) body ⟨i, pn, xe, tk, po⟩) (fun ad oe cls d pn hz hf => wss (C.suite ad cls d) (b₀ :: suite) ⟨i, oe, pn, hz, hf⟩), ?_⟩
  refine hb _ B σ φ F H D hE k ⟨d.an, d.hn, d.st, d.nx, d.rt, d.bk, d.ct, fun x E' σ' φ' F' H' S' cls dd hx g hE' k' rx => ?_⟩
  obtain ⟨z, hz, h1, h0⟩ := hx
  obtain ⟨A, hA, hcl, hfs⟩ := id rx
  subst hcl
  refine ⟨z, hz A cc hA hc, fun e ad hn => ?_, fun e => d.xe x E' σ' φ' F' H' S' _ dd (h0 e) g hE' k' rx⟩
  refine h1 e ad (.ref A) dd B _ φ' F' H' _ hE' k' ⟨d.an, d.hn, g.pre, fun E2 σ2 φ2 F2 H2 S2 a g2 h2 k2 => ?_, fun av v φ2 F2 H2 S2 a g2 h2 k2 => ?_, fun E2 σ2 φ2 F2 H2 S2 a g2 h2 k2 => ?_, fun E2 σ2 φ2 F2 H2 S2 a g2 h2 k2 => ?_, fun _ _ _ _ _ _ _ _ _ a => a.elim⟩
  · exact d.nx _ _ φ2 F2 H2 S2 a (g2.after g.s) h2 k2
  · exact d.rt av v φ2 F2 H2 S2 a (g2.after g.s) h2 k2
  · exact d.bk _ _ φ2 F2 H2 S2 a (g2.after g.s) h2 k2
  · exact d.ct _ _ φ2 F2 H2 S2 a (g2.after g.s) h2 k2
end
end AL

namespace AL
open PySem PySem.Spec PyProof.Rows L2 TL
/-! ### where a token is out: str.replace wants it -/
theorem tkn {α : Type} {t : Sem α} {Q Q' : α → Shared → Prop} {M : Model} {A : Around} {E : Value → Shared → Prop} {s : Shared} (h : wpAny M A t Q E s) (hQ : ∀ a s', s.toks ≤ s'.toks → Q a s' → Q' a s') : wpAny M A t Q' E s :=
  wpAny_mono (PySem.wpAny_toks h) (fun a s' q => hQ a s' q.1 q.2) fun _ _ z => z.2
def PTT (X : Cx) (e : Expr) (t : TT) : Prop :=
  ∀ (pins : List (Addr × Obj)) (s : Shared) (σ : L2.St) (H : Hp) (Q : Bool → Hp → Prop), 1 ≤ s.toks → Inv X pins σ H s → t σ H Q → wpAny (model X.prog X.w) X.A (isTrue e X.env (eval e X.env)) (TP X pins σ Q) X.xe s
def PWT (X : Cx) (e : Expr) (t : TT) : Prop :=
  ∀ (whole : Sem Value) (pins : List (Addr × Obj)) (s : Shared) (σ : L2.St) (H : Hp) (Q : Bool → Hp → Prop), 1 ≤ s.toks → Inv X pins σ H s → t σ H Q → wpAny (model X.prog X.w) X.A (isTrue e X.env whole) (TP X pins σ Q) X.xe s
section
variable {X : Cx} {a b c e : Expr} {rest : List Expr} {tA tB' : TT} {ta tb te : TE} {t u : TS} {pos : Pos} {st : Stmt} {sts body els : List Stmt}
theorem PTT.of (h : PT X e tA) : PTT X e tA := fun pins s σ H Q _ I q => h.run pins s σ H Q I q
theorem PWT.pt (h : PWT X e tA) : PTT X e tA := fun pins s σ H Q h0 I q => h _ pins s σ H Q h0 I q
theorem pwt_and1 (ha : PTT X a tA) : PWT X (.BoolOp .And [a] pos) tA := by
  intro wh pins s σ H Q h0 I h
  refine isTrue_and (thn (ha pins s σ H Q h0 I h) fun c s1 e => ?_)
  cases c with
  | true => exact isTrue_and_nil e
  | false => exact e
theorem pwt_or1 (ha : PTT X a tA) : PWT X (.BoolOp .Or [a] pos) tA := by
  intro wh pins s σ H Q h0 I h
  refine isTrue_or (thn (ha pins s σ H Q h0 I h) fun c s1 e => ?_)
  cases c with
  | false => exact isTrue_or_nil e
  | true => exact e
theorem pwt_and (ha : PTT X a tA) (hb : PWT X (.BoolOp .And (b :: rest) pos) tB') : PWT X (.BoolOp .And (a :: b :: rest) pos) (tAnd tA tB') := by
  intro wh pins s σ H Q h0 I h
  refine isTrue_and (tkn (ha pins s σ H _ h0 I h) fun c s1 hk ⟨H1, I1, q1⟩ => ?_)
  cases c with
  | true => exact hb wh pins s1 σ H1 Q (Nat.le_trans h0 hk) I1 q1
  | false => exact ⟨H1, I1, q1⟩
theorem pwt_or (ha : PTT X a tA) (hb : PWT X (.BoolOp .Or (b :: rest) pos) tB') : PWT X (.BoolOp .Or (a :: b :: rest) pos) (tOr tA tB') := by
  intro wh pins s σ H Q h0 I h
  refine isTrue_or (tkn (ha pins s σ H _ h0 I h) fun c s1 hk ⟨H1, I1, q1⟩ => ?_)
  cases c with
  | true => exact ⟨H1, I1, q1⟩
  | false => exact hb wh pins s1 σ H1 Q (Nat.le_trans h0 hk) I1 q1
theorem ptt_cmpR {op : CmpOp} {r : R2} (ho : OpR X (compareOp op) r) (ha : PET X a ta) (hb : PET X b tb) (hm : behindInMarks op b = false) : PTT X (.Compare a [op] [b] pos) (tTest (tOp r ta tb)) := by
  intro pins s σ H Q h0 I h
  refine wpAny_isTrue_Compare1 (tkn (ha pins s σ H _ h0 I h) fun v s1 hk ⟨x, H1, I1, r1, q1⟩ => thn (hb pins s1 σ H1 _ (Nat.le_trans h0 hk) I1 q1) fun u s2 ⟨y, H2, I2, r2, q2⟩ =>
    thn (ho pins s2 σ H2 x y v u _ I2 r1 r2 q2) fun c s3 ⟨z, H3, I3, r3, k, e, q3⟩ => ?_) hm
  subst e
  cases r3
  exact wpAny_truthy_bool ⟨H3, I3, q3⟩
theorem PSsT.nox (h : PSsT X.nox sts t) : PSsT X sts t := fun pins s σ H D h0 I hw =>
  wpAny_mono (h pins s σ H D h0 (I.wish _) hw) (fun _ _ q => q.unwish) fun _ _ z => False.elim z
theorem psst_one' (h1 : PSs X [st] t) (h2 : PSsT X sts u) : PSsT X (st :: sts) (tSeq t u) := by
  intro pins s σ H D h0 I h
  have k1 := PySem.wpAny_toks (h1.run pins s σ H { D with nx := u D } I h)
  intro Γ p hΓ
  have k2 := k1 Γ p hΓ
  rw [execs_cons, Sem.wp_bind'] at k2 ⊢
  refine Sem.wp_mono _ _ _ (fun f p' s' h' => ?_) (fun _ _ _ h' => h'.2) _ _ k2
  cases f with
  | next =>
    obtain ⟨hk, q⟩ := h'
    obtain ⟨σ', H', I', q⟩ := q
    exact h2 pins s' σ' H' D (Nat.le_trans h0 hk) I' q Γ p' hΓ
  | ret v => exact h'.2
  | brk => exact h'.2
  | cont => exact h'.2
theorem pst_ifT {tc : TT} (hc : PTT X c tc) (ha : PSsT X body t) (hb : PSsT X els u) : PST X (.If c body els pos) (tIfS tc t u) := by
  intro pins s σ H D h0 I h
  refine wpAny_If (tkn (hc pins s σ H _ h0 I h) fun d s1 hk ⟨H1, I1, q1⟩ => ?_)
  cases d with
  | true => exact ha pins s1 σ H1 D (Nat.le_trans h0 hk) I1 q1
  | false => exact hb pins s1 σ H1 D (Nat.le_trans h0 hk) I1 q1
theorem pst_forT {tg iter : Expr} {wi : TI} {g : TG} {tb : TS} (hp : PassesOwn (model X.prog X.w) X.A X.env X.xe) (hc : X.calm = true) (hi : PI X tg iter wi) (hg : PG X tg g) (hb : PSsT X body tb)
    (hs : ∀ x, foldedSetIterable iter X.env x = pure x := by intro _; rfl) : PST X (.For tg iter body [] pos) (tFor wi g tb) := by
  intro pins s σ H D h0 I h
  refine wpAny_For (tkn (hi.run pins s σ H _ I h) fun v s1 k1 h1 => tkn h1 fun itv s2 k2 h2 => ?_) hs
  obtain ⟨it, fp, tn, J, H2, e, I2, T, st2, f2, W, ⟨m0, w0⟩, turn⟩ := h2
  subst e
  have stat : ∀ {H' : Hp}, (∀ b ∈ fp, H' b = none) → ∀ b ∈ fp, FpOk X pins H' b := fun hn b hb => ⟨hn b hb, (f2 b hb).2⟩
  refine codeAny_forLoop_any (fun n s' => 1 ≤ s'.toks ∧ ∃ i σ' H', Inv X pins σ' H' s' ∧ tn i s'.heap ∧ (∀ b ∈ fp, H' b = none) ∧ W i n σ' H') ?_ m0 ⟨by omega, 0, σ, H2, I2, st2, fun b hb => (f2 b hb).1, w0⟩
  rintro n s3 ⟨k3, i, σ3, H3, I3, st3, fr3, w3⟩
  rcases turn i n σ3 H3 w3 with ⟨stop, qn⟩ | ⟨go, N, hN, step⟩
  · refine wpAny_passesOwn hp (thn (T.done X rfl rfl rfl hc i pins s3 σ3 H3 X.xe I3 (stat fr3) st3 stop) fun r s4 ⟨hr, I4⟩ => ?_)
    subst hr
    exact wpAny_execs_nil ⟨σ3, H3, I4, qn⟩
  · refine wpAny_passesOwn hp (tkn (T.item X rfl rfl rfl hc i pins s3 σ3 H3 X.xe I3 (stat fr3) st3 go) fun r s4 k4 ⟨u, hr, h4⟩ => ?_)
    subst hr
    refine wpAny_passesOwn hp (tkn h4 fun _ s5 k5 ⟨x, H5, I5, r5, y5, st5, fr5⟩ => ?_)
    have I5' := I5.pinned (stat fr5) (T.obj _ _ st5)
    refine wpAny_passesOwn hp (tkn (hg.run _ s5 σ3 H5 x u _ I5' r5 (step x H5 y5)) fun _ s6 k6 ⟨σ6, H6, I6, q6⟩ => ?_)
    refine wpAny_passesOwn hp (tkn (hb _ s6 σ6 H6 _ (by omega) I6 q6) fun f s7 k7 q7 => ?_)
    have again : ∀ {σ7 : L2.St} {H7 : Hp}, Inv X (pins ++ pinsAt fp s5.heap) σ7 H7 s7 → N σ7 H7 → ∃ m, m < n ∧ 1 ≤ s7.toks ∧ ∃ i σ' H', Inv X pins σ' H' s7 ∧ tn i s7.heap ∧ (∀ b ∈ fp, H' b = none) ∧ W i m σ' H' := fun {σ7 H7} I7 n7 => by
      obtain ⟨m', hm, w7⟩ := hN σ7 H7 n7
      refine ⟨m', hm, by omega, i + 1, σ7, H7, I7.unpinned, T.keep _ _ _ st5 fun b hb o e => (I7.pin (b, o) (List.mem_append_right _ (List.mem_append_right _ (mem_pinsAt hb e)))).1, fun b hb => ?_, w7⟩
      obtain ⟨o, e, d⟩ := T.obj _ _ st5 b hb
      exact (I7.pin (b, o) (List.mem_append_right _ (List.mem_append_right _ (mem_pinsAt hb e)))).2.1
    cases f with
    | next => obtain ⟨σ7, H7, I7, n7⟩ := q7; exact again I7 n7
    | cont => obtain ⟨σ7, H7, I7, n7⟩ := q7; exact again I7 n7
    | brk => obtain ⟨σ7, H7, I7, q7⟩ := q7; exact ⟨σ7, H7, I7.unpinned, q7⟩
    | ret v => obtain ⟨x7, σ7, H7, I7, r7, q7⟩ := q7; exact ⟨x7, σ7, H7, I7.unpinned, r7, q7⟩
end
/-! ### the readings -/
def WET (C : Fam) (e : Expr) : TE := fun σ H Q => ∃ t : TE, (∀ i, PET (C.cx i) e t) ∧ t σ H Q
def WTT (C : Fam) (e : Expr) : TT := fun σ H Q => ∃ t : TT, (∀ i, PTT (C.cx i) e t) ∧ t σ H Q
def WWT (C : Fam) (e : Expr) : TT := fun σ H Q => ∃ t : TT, (∀ i, PWT (C.cx i) e t) ∧ t σ H Q
def WSsT (C : Fam) (st : List Stmt) : TS := fun D σ H => ∃ t : TS, (∀ i, PSsT (C.cx i) st t) ∧ t D σ H
theorem wet (C : Fam) (e : Expr) (i : C.ι) : PET (C.cx i) e (WET C e) := fun pins s σ H Q h0 I ⟨_, h, q⟩ => h i pins s σ H Q h0 I q
theorem wtt (C : Fam) (e : Expr) (i : C.ι) : PTT (C.cx i) e (WTT C e) := fun pins s σ H Q h0 I ⟨_, h, q⟩ => h i pins s σ H Q h0 I q
theorem wwt (C : Fam) (e : Expr) (i : C.ι) : PWT (C.cx i) e (WWT C e) := fun wh pins s σ H Q h0 I ⟨_, h, q⟩ => h i wh pins s σ H Q h0 I q
theorem wsst (C : Fam) (st : List Stmt) (i : C.ι) : PSsT (C.cx i) st (WSsT C st) := fun pins s σ H D h0 I ⟨_, h, q⟩ => h i pins s σ H D h0 I q
def JET (C : Fam) (E : AE) (S : Sto) (e : Expr) (av : AV) (S' : Sto) : Prop := ∀ (B : List Addr) (σ : L2.St) (φ : List Addr) (F H : Hp) (Q : VK), EnvR C.b.K φ F σ E → Ok C.b.K B φ F H S →
  (∀ v φ' F' H', Gr B φ F H φ' F' H' → Ok C.b.K B φ' F' H' S' → RV C.b.K φ' F' v av → Q v H') → WET C e σ H Q
def JTT (C : Fam) (E : AE) (S : Sto) (e : Expr) (c : Bool) (S' : Sto) : Prop := ∀ (B : List Addr) (σ : L2.St) (φ : List Addr) (F H : Hp) (Q : Bool → Hp → Prop), EnvR C.b.K φ F σ E → Ok C.b.K B φ F H S →
  (∀ φ' F' H', Gr B φ F H φ' F' H' → Ok C.b.K B φ' F' H' S' → Q c H') → WTT C e σ H Q
def JWT (C : Fam) (E : AE) (S : Sto) (e : Expr) (c : Bool) (S' : Sto) : Prop := ∀ (B : List Addr) (σ : L2.St) (φ : List Addr) (F H : Hp) (Q : Bool → Hp → Prop), EnvR C.b.K φ F σ E → Ok C.b.K B φ F H S →
  (∀ φ' F' H', Gr B φ F H φ' F' H' → Ok C.b.K B φ' F' H' S' → Q c H') → WWT C e σ H Q
def JSsT (C : Fam) (E : AE) (S : Sto) (ss : List Stmt) (p : Po) : Prop := ∀ (B : List Addr) (σ : L2.St) (φ : List Addr) (F H : Hp) (D : Ends), EnvR C.b.K φ F σ E → Ok C.b.K B φ F H S → DR C B φ F H D p → WSsT C ss D σ H
section
variable {C : Fam} {E : AE} {S S1 S2 : Sto} {a b c e tg iter : Expr} {es : List Expr} {av bv cv : AV} {pos : Pos} {st : Stmt} {rest body els : List Stmt} {p : Po}
theorem jet_of (h : JE C E S e av S1) : JET C E S e av S1 := fun B σ φ F H Q hE k q =>
  let ⟨t, ht, hq⟩ := h B σ φ F H Q hE k q
  ⟨t, fun i => CwR.PET.of (ht i), hq⟩
theorem jtt_of {z : Bool} (h : JT C E S e z S1) : JTT C E S e z S1 := fun B σ φ F H Q hE k q =>
  let ⟨t, ht, hq⟩ := h B σ φ F H Q hE k q
  ⟨t, fun i => PTT.of (ht i), hq⟩
theorem jtt_w {z : Bool} (h : JWT C E S e z S1) : JTT C E S e z S1 := fun B σ φ F H Q hE k q =>
  let ⟨t, ht, hq⟩ := h B σ φ F H Q hE k q
  ⟨t, fun i => (ht i).pt, hq⟩
theorem jwt_and1 {z : Bool} (h : JTT C E S a z S1) : JWT C E S (.BoolOp .And [a] pos) z S1 := fun B σ φ F H Q hE k q => ⟨WTT C a, fun i => pwt_and1 (wtt C a i), h B σ φ F H Q hE k q⟩
theorem jwt_or1 {z : Bool} (h : JTT C E S a z S1) : JWT C E S (.BoolOp .Or [a] pos) z S1 := fun B σ φ F H Q hE k q => ⟨WTT C a, fun i => pwt_or1 (wtt C a i), h B σ φ F H Q hE k q⟩
theorem jwt_and {x y z : Bool} (h : JTT C E S a x S1) (h2 : x = true → JWT C E S1 (.BoolOp .And (b :: es) pos) y S2) (hf : x = false → S1 = S2) (hz : z = (x && y) := by rfl) : JWT C E S (.BoolOp .And (a :: b :: es) pos) z S2 := by
  intro B σ φ F H Q hE k q
  refine ⟨tAnd (WTT C a) (WWT C (.BoolOp .And (b :: es) pos)), fun i => pwt_and (wtt C a i) (wwt C _ i), ?_⟩
  subst hz
  refine h B σ φ F H _ hE k fun φ1 F1 H1 g1 k1 => ?_
  cases x with
  | true => exact h2 rfl B σ φ1 F1 H1 Q (hE.gr g1) k1 fun φ2 F2 H2 g2 k2 => q φ2 F2 H2 (g1.trans g2) k2
  | false => exact q φ1 F1 H1 g1 (hf rfl ▸ k1)
theorem jwt_or {x y z : Bool} (h : JTT C E S a x S1) (h2 : x = false → JWT C E S1 (.BoolOp .Or (b :: es) pos) y S2) (hf : x = true → S1 = S2) (hz : z = (x || y) := by rfl) : JWT C E S (.BoolOp .Or (a :: b :: es) pos) z S2 := by
  intro B σ φ F H Q hE k q
  refine ⟨tOr (WTT C a) (WWT C (.BoolOp .Or (b :: es) pos)), fun i => pwt_or (wtt C a i) (wwt C _ i), ?_⟩
  subst hz
  refine h B σ φ F H _ hE k fun φ1 F1 H1 g1 k1 => ?_
  cases x with
  | false => exact h2 rfl B σ φ1 F1 H1 Q (hE.gr g1) k1 fun φ2 F2 H2 g2 k2 => q φ2 F2 H2 (g1.trans g2) k2
  | true => exact q φ1 F1 H1 g1 (hf rfl ▸ k1)
theorem jet_replace {o : Expr} {y z w : Str} {j k : Nat} {c0 c1 apos : Pos} (ho : JE C E S o (.d (.str w)) S1) (hb : w.length + (w.length + 1) * z.length ≤ 16777216) (hyz : (y == z) = false := by decide)
    (hst : ∀ i : C.ι, starEach [.Constant (.str y) j c0, .Constant (.str z) k c1] (C.V i).env = [(false, eval (.Constant (.str y) j c0) (C.V i).env), (false, eval (.Constant (.str z) k c1) (C.V i).env)] := by intro _; rfl)
    (hbase : ∀ i : C.ι, attributeBase o ("replace" : Str) (C.V i).env (eval o (C.V i).env) = eval o (C.V i).env := by intro _; rfl) (hline : (apos.endLine == pos.line) = true := by rfl) :
    JET C E S (.Call (.Attribute o "replace" apos) [.Constant (.str y) j c0, .Constant (.str z) k c1] [] pos) (.d (.str (Txt.replace w y z))) S1 := by
  intro B σ φ F H Q hE kk q
  refine ⟨CwR.tReplC (WE C o) y z, fun i => CwR.pet_replC (we C o i) hyz (hst i) (hbase i) hline, ?_⟩
  refine ho B σ φ F H _ hE kk fun v φ1 F1 H1 g1 k1 r1 => ?_
  cases r1
  exact ⟨w, rfl, hb, q _ φ1 F1 H1 g1 k1 (.str _)⟩
theorem jtt_cmp {op : CmpOp} {r : R2} {z : Bool} (ho : ∀ i, OpR (C.cx i) (compareOp op) r) (hs : SR2 C.b.K S2 r av bv (.d (.bool z)) S2) (ha : JET C E S a av S1) (hb : JET C E S1 b bv S2) (hm : behindInMarks op b = false) : JTT C E S (.Compare a [op] [b] pos) z S2 := by
  intro B σ φ F H Q hE k q
  refine ⟨tTest (tOp r (WET C a) (WET C b)), fun i => ptt_cmpR (ho i) (wet C a i) (wet C b i) hm, ?_⟩
  refine ha B σ φ F H _ hE k fun x φ1 F1 H1 g1 k1 r1 => ?_
  refine hb B σ φ1 F1 H1 _ (hE.gr g1) k1 fun y φ2 F2 H2 g2 k2 r2 => ?_
  refine hs B φ2 F2 H2 x y _ k2 (r1.gr g2) r2 fun v φ3 F3 H3 g3 k3 r3 => ?_
  cases r3
  exact ⟨_, rfl, q φ3 F3 H3 (g1.trans (g2.trans g3)) k3⟩
theorem jtt_nes {x y : Str} (ha : JET C E S a (.d (.str x)) S1) (hb : JET C E S1 b (.d (.str y)) S2) (hm : behindInMarks .NotEq b = false := by rfl) : JTT C E S (.Compare a [.NotEq] [b] pos) (!decide (x = y)) S2 := jtt_cmp (fun _ => op_ne) sr_ne_ss ha hb hm
/-! blocks -/
theorem jst_of (h : JSs C E S rest p) : JSsT C E S rest p := fun B σ φ F H D hE k d =>
  let ⟨t, ht, hq⟩ := h B σ φ F H D hE k d
  ⟨t, fun i => PSsT.of (ht i), hq⟩
theorem jst_nil (h : p.nx E S) : JSsT C E S [] p := jst_of (jss_nil h)
/-- one statement by the old rules, then on -/
theorem jst_one (h : JSs C E S [st] { p with nx := fun E' S' => JSsT C E' S' rest p }) : JSsT C E S (st :: rest) p := by
  intro B σ φ F H D hE k d
  refine ⟨tSeq (WSs C [st]) (WSsT C rest), fun i => psst_one' (wss C [st] i) (wsst C rest i), ?_⟩
  refine h B σ φ F H _ hE k ⟨d.an, d.hn, d.st, fun E' σ' φ' F' H' S' a g hE' k' => ?_, d.rt, d.bk, d.ct, d.xe⟩
  exact a B σ' φ' F' H' D hE' k' (d.goA g)
theorem jst_if {z : Bool} (hc : JTT C E S c z S1) (h1 : z = true → JSsT C E S1 body { p with nx := fun E' S' => JSsT C E' S' rest p }) (h2 : z = false → JSsT C E S1 els { p with nx := fun E' S' => JSsT C E' S' rest p }) : JSsT C E S (.If c body els pos :: rest) p := by
  intro B σ φ F H D hE k d
  refine ⟨tSeq (tIfS (WTT C c) (WSsT C body) (WSsT C els)) (WSsT C rest), fun i => psst_cons (pst_ifT (wtt C c i) (wsst C body i) (wsst C els i)) (wsst C rest i), ?_⟩
  refine hc B σ φ F H _ hE k fun φ1 F1 H1 g1 k1 => ?_
  let d' := (d.go g1)
  let dd : DR C B φ1 F1 H1 { D with nx := WSsT C rest D } { p with nx := fun E' S' => JSsT C E' S' rest p } := ⟨d'.an, d'.hn, d'.st, fun E' σ' φ' F' H' S' a g hE' k' => a B σ' φ' F' H' D hE' k' (d'.goA g), d'.rt, d'.bk, d'.ct, d'.xe⟩
  cases z with
  | true => exact h1 rfl B σ φ1 F1 H1 _ (hE.gr g1) k1 dd
  | false => exact h2 rfl B σ φ1 F1 H1 _ (hE.gr g1) k1 dd
theorem jst_for {ds : List PyData} (hi : JI C E S tg iter ds S1) (Inv : Nat → AE → Sto → Prop) (h0 : Inv 0 E S1)
    (step : ∀ i d E' S', ds[i]? = some d → Inv i E' S' → ∃ js E'', JG C E' tg (.d d) js E'' ∧ JSsT C E'' S' body { nx := Inv (i + 1), ct := Inv (i + 1), rt := p.rt, bk := fun E S => JSsT C E S rest p, xe := p.xe })
    (fin : ∀ E' S', Inv ds.length E' S' → JSsT C E' S' rest p) (hs : ∀ (i : C.ι) x, foldedSetIterable iter (C.V i).env x = pure x := by intro _ _; rfl) (hh : C.hot = false := by rfl) : JSsT C E S (.For tg iter body [] pos :: rest) p := by
  intro B σ φ F H D0 hE k d0
  refine ⟨tSeq (tFor (WI C tg iter) (WG C tg) (WSsT C body)) (WSsT C rest), fun i => psst_cons (pst_forT (C.po hh i) (C.calm hh i) (wi C tg iter i) (wg C tg i) (wsst C body i) (hs i)) (wsst C rest i), ?_⟩
  let d : DR C B φ F H { D0 with nx := WSsT C rest D0 } { p with nx := fun E' S' => JSsT C E' S' rest p } := ⟨d0.an, d0.hn, d0.st, fun E' σ' φ' F' H' S' a g hE' k' => a B σ' φ' F' H' D0 hE' k' (d0.goA g), d0.rt, d0.bk, d0.ct, d0.xe⟩
  refine hi B σ φ F H _ hE k fun J φ1 F1 H1 g1 k1 it => ?_
  refine ⟨fun i m σ' H' => ∃ E' S' φ' F', m = ds.length - i ∧ i ≤ ds.length ∧ Inv i E' S' ∧ GrA d0.an B F H φ' F' H' ∧ Same F1 F' ∧ EnvR C.b.K φ' F' σ' E' ∧ Ok C.b.K B φ' F' H' S', ⟨_, E, S1, φ1, F1, rfl, Nat.zero_le _, h0, d0.gs g1, Same.refl _, hE.gr g1, k1⟩, ?_⟩
  rintro i m σ' H' ⟨E', S', φ', F', rfl, hle, inv, gs, s1, hE', k'⟩
  obtain ⟨go, stop⟩ := it φ' F' H' S' s1 k'
  by_cases hlt : i < ds.length
  · have hd : ds[i]? = some ds[i] := by simp [hlt]
    obtain ⟨g, y⟩ := go i _ hd
    obtain ⟨js, E'', hg, hb⟩ := step i _ E' S' hd inv
    refine .inr ⟨g, fun σ2 H2 => ∃ E2 S2 φ2 F2, Inv (i + 1) E2 S2 ∧ GrA d0.an B F H φ2 F2 H2 ∧ Same F1 F2 ∧ EnvR C.b.K φ2 F2 σ2 E2 ∧ Ok C.b.K B φ2 F2 H2 S2, fun σ2 H2 z => ?_, fun x H2 hy => ?_⟩
    · obtain ⟨E2, S2, φ2, F2, a1, a2, a3, a4, a5⟩ := z
      exact ⟨ds.length - (i + 1), by omega, E2, S2, φ2, F2, rfl, hlt, a1, a2, a3, a4, a5⟩
    · obtain ⟨F2, g2, k2, rx⟩ := y x H2 hy
      refine hg B S' σ' φ' F2 H2 x _ (hE'.gr g2) k2 rx fun σ3 _ hE3 => ?_
      refine hb B σ3 φ' F2 H2 _ hE3 k2 ⟨d0.an, d0.hn, gs.preg g2, ?_, ?_, ?_, ?_, fun x E4 σ4 φ4 F4 H4 S4 cls dd a g4 hE4 k4 => d.xe x E4 σ4 φ4 F4 H4 S4 cls dd a (g4.after (gs.s.trans g2.s)) hE4 k4⟩
      · exact fun E4 σ4 φ4 F4 H4 S4 a g4 hE4 k4 => ⟨E4, S4, φ4, F4, a, g4.after (gs.s.trans g2.s), s1.trans (g2.ff.trans g4.s.ff), hE4, k4⟩
      · exact fun av v φ4 F4 H4 S4 a g4 r4 k4 => d.rt av v φ4 F4 H4 S4 a (g4.after (gs.s.trans g2.s)) r4 k4
      · exact fun E4 σ4 φ4 F4 H4 S4 a g4 hE4 k4 => d.nx E4 σ4 φ4 F4 H4 S4 a (g4.after (gs.s.trans g2.s)) hE4 k4
      · exact fun E4 σ4 φ4 F4 H4 S4 a g4 hE4 k4 => ⟨E4, S4, φ4, F4, a, g4.after (gs.s.trans g2.s), s1.trans (g2.ff.trans g4.s.ff), hE4, k4⟩
  · have e : i = ds.length := by omega
    subst e
    exact .inl ⟨stop, d.nx E' σ' φ' F' H' S' (fin E' S' inv) gs hE' k'⟩
end
section
variable {P : Program} {w : World} {K : PySem.W.Frag} {mg : Str → Option Value} {base : Heap}
/-- THE RULE for a def of data in which a token is wanted -/
theorem fn_dataT {x qual : Str} {st : Stmt} {f : Addr} {fd : FuncData} {N ps : List Str} {k : Nat} {R : List PyData → PyData → Prop} (F : Fun K x qual st f fd) (Sc : FnScope N ps (defScope st)) (hnc : ∀ y ∈ (defScope st).names, y.2 ≠ .cell) (hps : 1 ≤ ps.length) (len : ∀ ds r, R ds r → ds.length = ps.length)
    (body : ∀ (cd : Value) (A : Around) (outer : List Env) (s : Shared) (H : Hp) (hr : Room k (A.deeper (envOfC qual (defScope st) s.heap.objs.size f cd))) (ds : List PyData) (r : PyData), R ds r →
      JSsT (defF ⟨P, w, K, mg, base⟩ N k qual (defScope st) f cd A outer s H Sc.nd hr) (startE N (ds.map AV.d)) [] (defBody st) { nx := fun _ _ => r = .none, rt := fun av _ => av = .d r }) : FnOk P w K mg base CX0 (k + 1) f fd ps (spP K R) := by
  have len' : ∀ vs H Q E, spP K R vs H Q E → vs.length = ps.length := fun vs H Q E h => by
    obtain ⟨ds, r, B, F, hR, _, _, hd, _⟩ := h
    rw [dpa_len hd]
    exact len ds r hR
  obtain ⟨oc, od, kV, doc, pm, an, cdv, ct, osl, rfl, lk, hcd⟩ := F.ex
  refine fn_ofT lk hcd Sc hnc hps len' fun A outer s H vs Q E hr h => ?_
  obtain ⟨ds, r, B, F', hR, sub, hB, hd, q⟩ := h
  have kk : Ok K B [] F' H [] := ⟨sub, List.nodup_nil, fun a ha => (by cases ha), hB, rfl, fun l a o h1 _ => (by simp at h1)⟩
  obtain ⟨t, ht, hq⟩ := body cdv A outer s H hr ds r hR B (L2.start N vs) [] F' H { nx := fun _ H' => Q .non H', rt := Q } (envr_start (rvs_of hd)) kk
    ⟨[], fun _ => rfl, ⟨[], rfl⟩, fun E σ φ F2 H2 S a g hE k2 => by subst a; exact q .non F2 H2 g.s k2.sub .non, fun av v φ F2 H2 S a g rv k2 => by subst a; exact q v F2 H2 g.s k2.sub rv, fun _ _ _ _ _ _ a => a.elim, fun _ _ _ _ _ _ a => a.elim, fun _ _ _ _ _ _ _ _ _ a => a.elim⟩
  exact ⟨t, PSsT.nox (ht ()), hq⟩
end
theorem bo {x y : Bool} (h : x = y) : AV.d (.bool x) = AV.d (.bool y) := by rw [h]
section
variable {C : Fam} {E : AE} {S S1 S2 : Sto} {a c : Expr} {bv : AV} {d e : PyData} {es : List PyData} {v : V} {vs : List V} {pos : Pos}
theorem je_inL (ha : JE C E S a (.d d) S1) (hb : JE C E S1 c bv S2) (hr : rdA S2 bv = some e) (hi : itemsD e = some es) (h1 : flatD d = some v) (h2 : es.mapM flatD = some vs) (f1 : flatV v = true) (f2 : vs.all flatV = true) (hm : behindInMarks .In c = false := by rfl) :
    JE C E S (.Compare a [.In] [c] pos) (.d (.bool (inV v vs))) S2 := je_cmp (fun i => op_in_seq) (sr_in (neg := false) hr hi h1 h2 f1 f2) ha hb hm
end
section
variable {C : Fam} {E : AE} {S S1 : Sto} {e : Expr} {av : AV} {rest : List Stmt} {p : Po}
theorem jst_set (j : Nat) {x : Str} {pos' pos : Pos} (he : JE C E S e av S1) (h : JSsT C (E.set j (some av)) S1 rest p) (hi : C.N[j]? = some x := by rfl) (hx : Loc C.sc x := by first | exact .inl rfl | exact .inr rfl)
    (hs : ∀ i : C.ι, swapsWith e (some (.Name x pos')) pos.line (C.V i).env = pure false := by intro _; rfl) (hf : (∀ i : C.ι, (C.V i).fn x = true) ∨ C.sc.names.lookup x = some .local := by first | exact .inl (fun _ => rfl) | exact .inr rfl) :
    JSsT C E S (.Assign [.Name x pos'] e pos :: rest) p := jst_one (jss_set j he (jss_nil h) hi hx hs hf)
end
theorem repS_len (x : Str) (n : Nat) : (repS x n).length = n * x.length := by
  rw [len_tl, len_tl]
  show ((List.replicate n (tl x)).flatten).length = _
  rw [List.length_flatten, List.map_replicate]
  induction n with
  | zero => simp
  | succ n ih => rw [List.replicate_succ, List.sum_cons, ih, Nat.succ_mul]; omega
theorem cutS_len (z : Str) (lo hi : Option Int) : (cutS z lo hi).length ≤ z.length := by
  rw [len_tl, len_tl]
  unfold cutS
  show (List.take _ (List.drop _ _)).length ≤ _
  rw [List.length_take, List.length_drop]
  have : z.cps.toList.length = (tl z).length := rfl
  omega
end AL

namespace AL
open PySem PySem.Spec PyProof.Rows L2 TL
theorem kit_ref {K : PySem.W.Frag} {A C : Addr} {z : Bool} (h : PySem.W.subIn K (.ref A) (.ref C) = some z) (hd : PySem.W.hasDictIn K C = true) (ht : PySem.W.typeIn K (.ref C) = some (.type "type")) (hs : PySem.W.subIn K (.ref A) (.ref A) = some true) : PySem.W.kitOne K (.ref A) (.ref C) = some z := by
  unfold PySem.W.kitOne
  by_cases e : A = C
  · subst e
    rw [if_pos (beq_self_eq_true _), ← hs, h]
  · rw [if_neg (by simpa using e)]
    obtain ⟨cd, hc, _⟩ := PySem.W.any_some hd
    unfold PySem.W.kitCls
    dsimp only
    rw [if_pos (by rw [hc, ht]; rfl)]
    exact h
theorem kit_ty {K : PySem.W.Frag} {A : Addr} {T : String} {z : Bool} (h : PySem.W.subIn K (.ref A) (.type T) = some z) (hm : PySem.W.kitMeta T = true) : PySem.W.kitOne K (.ref A) (.type T) = some z := by
  unfold PySem.W.kitOne
  rw [if_neg (by simp)]
  unfold PySem.W.kitCls
  dsimp only
  rw [if_pos hm]
  exact h
section
variable {C : Fam} {E : AE} {S S1 S2 : Sto} {a c e o : Expr} {pos p apos : Pos} {s t : Str}
/-- a class by its name -/
theorem je_cls {n : Str} {A : Addr} (hm : C.b.mg n = some (.ref A)) (hg : C.sc.names.lookup n = some .globalImplicit := by rfl) (hd : (n == ("__debug__" : Str)) = false := by decide) : JE C E S (.Name n pos) (.v (.ref A)) S :=
  je_glob (v := .ref A) hm rfl (fun _ _ => rfl) hg hd
/-- isinstance(e, c) in the suite that holds the exception e -/
theorem je_isE {ad A : Addr} {cv : V} {cw : Value} {z : Bool} (HC : ExcC C.b.K A) (hm : C.b.mg "isinstance" = none) (hcv : ∀ u, RelV cv u → u = cw) (hk : PySem.W.kitOne C.b.K (.ref A) cw = some z)
    (he : JE (C.suite ad (.ref A) none) E S a (.v (.ref ad)) S) (hc : JE (C.suite ad (.ref A) none) E S c (.v cv) S)
    (hg : C.sc.names.lookup ("isinstance" : Str) = some .globalImplicit := by rfl) (hs : ∀ i : (C.suite ad (.ref A) none).ι, starEach [a, c] ((C.suite ad (.ref A) none).V i).env = (false, eval a ((C.suite ad (.ref A) none).V i).env) :: starEach [c] ((C.suite ad (.ref A) none).V i).env := by intro _; rfl)
    (hs2 : ∀ i : (C.suite ad (.ref A) none).ι, starEach [c] ((C.suite ad (.ref A) none).V i).env = (false, eval c ((C.suite ad (.ref A) none).V i).env) :: starEach [] ((C.suite ad (.ref A) none).V i).env := by intro _; rfl)
    (hpl : ∀ i : (C.suite ad (.ref A) none).ι, (backTo pos (starEach [c] ((C.suite ad (.ref A) none).V i).env)).any (·.1) = false := by intro _; rfl) :
    JE (C.suite ad (.ref A) none) E S (.Call (.Name "isinstance" p) [a, c] [] pos) (.d (.bool z)) S :=
  je_callB (id := "isinstance") (r := rIsE C.b.K A ad) (fun i => call_isE (X := C.cx i.i) (a := ad) (pn := i.pn) HC i.hz i.hf) (fun B φ F H xs Q k r0 q => by
    cases r0 with
    | cons r1 r2 =>
      cases r2 with
      | cons r2 r3 =>
        cases r3
        cases r1
        cases r2
        exact ⟨cv, cw, z, rfl, hcv, hk, fin0 k q (.bl _)⟩) hm (by decide +kernel) (ja_cons he (ja_cons hc ja_nil hs2) hs) hg (by decide) (by decide) hs hpl
theorem je_rstrip (ho : JE C E S o (.d (.str s)) S1) (ha : JE C E S1 a (.d (.str t)) S2) (hz : s.length ≤ sizeLine)
    (hbase : ∀ i : C.ι, attributeBase o ("rstrip" : Str) (C.V i).env (eval o (C.V i).env) = eval o (C.V i).env := by intro _; rfl)
    (hfew : ∀ i : C.ι, ((backTo pos (starEach [a] (C.V i).env)).all (fun x => !x.1) && (backToKw pos (keywordEach [] (C.V i).env)).all (fun x => x.1.isSome)
      && decide ([a].length + ([] : List Keyword).length + (if ([] : List Keyword).isEmpty then 0 else 1) < 30)) = true := by intro _; rfl)
    (hline : (apos.endLine == pos.line) = true := by rfl) (hs : ∀ i : C.ι, starEach [a] (C.V i).env = (false, eval a (C.V i).env) :: starEach [] (C.V i).env := by intro _; rfl) (hpl : ∀ i : C.ι, (backTo pos (starEach [] (C.V i).env)).any (·.1) = false := by intro _; rfl) :
    JE C E S (.Call (.Attribute o "rstrip" apos) [a] [] pos) (.d (.str (Txt.rstripChars s t))) S2 :=
  je_sm PySem.F.slot_str_rstrip PySem.F.type_str_rstrip (fun i => mt_rstripChars (X := C.cx i)) PySem.F.plainAttrs_str ho (ja_cons ha ja_nil hs) (fun B φ F H x xs Q k r1 r2 q => by
    cases r1
    cases r2 with
    | cons r2 t => cases t; cases r2; exact ⟨_, _, rfl, rfl, hz, fin0 k q (.str _)⟩) hbase hfew hline hs hpl
theorem je_intS {n : Int} (hm : C.b.mg "int" = none) (ha : JE C E S a (.d (.str s)) S1) (hi : PySem.intText? s = some n) (hl : s.length ≤ 640) (hg : C.sc.names.lookup ("int" : Str) = some .globalImplicit := by rfl) (hs : ∀ i : C.ι, starEach [a] (C.V i).env = (false, eval a (C.V i).env) :: starEach [] (C.V i).env := by intro _; rfl) (hpl : ∀ i : C.ι, (backTo pos (starEach [] (C.V i).env)).any (·.1) = false := by intro _; rfl) : JE C E S (.Call (.Name "int" p) [a] [] pos) (.d (.int n)) S1 :=
  je_callTy (fun i => call_int_str) (fun B φ F H xs Q k r0 q => by
    obtain ⟨x, rfl, r⟩ := rvs1 r0
    cases r
    exact ⟨s, n, rfl, hi, hl, fin0 k q (.int _)⟩) hm (by decide +kernel) (ja_cons ha ja_nil hs) hg (by decide) (by decide) hs hpl
end
theorem ji_cast {C : Fam} {E : AE} {S S1 : Sto} {tg iter : Expr} {ds ds' : List PyData} (h : JI C E S tg iter ds S1) (e : ds = ds') : JI C E S tg iter ds' S1 := e ▸ h
/-! ### slices of lists of data -/
def cutL {α : Type} (xs : List α) (lo hi : Option Int) : List α := (xs.drop (HT.sIx xs.length 0 lo)).take (HT.sIx xs.length xs.length hi - HT.sIx xs.length 0 lo)
theorem cutD_map {α : Type} (xs : List α) (f : α → PyData) (lo hi : Option Int) : cutD (xs.map f) lo hi = (cutL xs lo hi).map f := by
  unfold cutD cutL
  rw [List.length_map, List.map_take, List.map_drop]
theorem cutL_len {α : Type} (xs : List α) (lo hi : Option Int) : (cutL xs lo hi).length ≤ xs.length := by
  unfold cutL
  rw [List.length_take, List.length_drop]
  omega
theorem cutL_mem {α : Type} {xs : List α} {lo hi : Option Int} {x : α} (h : x ∈ cutL xs lo hi) : x ∈ xs := List.mem_of_mem_drop (List.mem_of_mem_take h)
/-- text[:i], text[i:] -/
theorem tl_cutHi (z : Str) (i : Nat) (h : i ≤ z.length) : tl (cutS z none (some (i : Int))) = (tl z).take i := by
  unfold cutS
  rw [HT.sIx_nat]
  show List.take (min i z.length - HT.sIx z.length 0 none) (List.drop (HT.sIx z.length 0 none) (tl z)) = _
  have e : HT.sIx z.length 0 none = 0 := rfl
  rw [e, Nat.min_eq_left h, Nat.sub_zero, List.drop_zero]
theorem tl_cutLo (z : Str) (i : Nat) (h : i ≤ z.length) : tl (cutS z (some (i : Int)) none) = (tl z).drop i := by
  unfold cutS
  rw [HT.sIx_nat]
  show List.take (HT.sIx z.length z.length none - min i z.length) (List.drop (min i z.length) (tl z)) = _
  have e : HT.sIx z.length z.length none = z.length := rfl
  rw [e, Nat.min_eq_left h]
  refine List.take_of_length_le ?_
  rw [List.length_drop, len_tl]
  exact Nat.le_refl _
theorem tl_cut1 (z : Str) : tl (cutS z none (some 1)) = (tl z).take 1 := by
  by_cases h : 1 ≤ z.length
  · exact tl_cutHi z 1 h
  · have h0 : z.length = 0 := by omega
    have h1 : tl z = [] := List.length_eq_zero_iff.mp (by rw [← len_tl]; exact h0)
    have h2 := cutS_len z none (some 1)
    rw [h1]
    exact List.length_eq_zero_iff.mp (by rw [← len_tl]; omega)
theorem tl_tail (z : Str) : tl (cutS z (some 1) none) = (tl z).drop 1 := by
  by_cases h : 1 ≤ z.length
  · exact tl_cutLo z 1 h
  · have h0 : z.length = 0 := by omega
    have h1 : tl z = [] := List.length_eq_zero_iff.mp (by rw [← len_tl]; exact h0)
    have h2 := cutS_len z (some 1) none
    rw [h1]
    exact List.length_eq_zero_iff.mp (by rw [← len_tl]; omega)
end AL

namespace AL
open PySem PySem.Spec PyProof.Rows L2 TL
section
variable {C : Fam} {E : AE} {S : Sto} {c : Expr} {pos : Pos} {rest body : List Stmt} {p : Po}
/-- while c: body, where the test may raise -/
theorem jss_whileX (Inv : Nat → AE → Sto → Prop) (h0 : ∃ m, Inv m E S)
    (step : ∀ m E' S', Inv m E' S' → (∃ x S'', JTX C E' S' c x S'' ∧ p.xe x E' S'') ∨ ∃ z S'', JT C E' S' c z S'' ∧ (z = true → JSs C E' S'' body { nx := fun E S => ∃ m', m' < m ∧ Inv m' E S, ct := fun E S => ∃ m', m' < m ∧ Inv m' E S, rt := p.rt, bk := fun E S => JSs C E S rest p, xe := p.xe }) ∧ (z = false → JSs C E' S'' rest p)) (hh : C.hot = false := by rfl) : JSs C E S (.While c body [] pos :: rest) p := by
  refine jss_cons fun B σ φ F H D hE k d => ⟨tWhile (WT C c) (WSs C body), fun i => ps_while (C.po hh i) (wt C c i) (wss C body i), ?_⟩
  obtain ⟨m0, h0⟩ := h0
  refine ⟨fun m σ' H' => ∃ E' S' φ' F', Inv m E' S' ∧ GrA d.an B F H φ' F' H' ∧ EnvR C.b.K φ' F' σ' E' ∧ Ok C.b.K B φ' F' H' S', ⟨m0, E, S, φ, F, h0, d.rf, hE, k⟩, ?_⟩
  rintro m σ' H' ⟨E', S', φ', F', inv, gs, hE', k'⟩
  rcases step m E' S' inv with ⟨x, S'', ht, hx⟩ | ⟨z, S'', ht, hb, hf⟩
  · exact ht B σ' φ' F' H' _ hE' k' fun φ2 F2 H2 cls dd g2 k2 r2 => d.xe x E' σ' φ2 F2 H2 S'' cls dd hx (gs.gr g2) (hE'.gr g2) k2 r2
  · refine ht B σ' φ' F' H' _ hE' k' fun φ2 F2 H2 g2 k2 => ?_
    cases z with
    | false => exact d.nx E' σ' φ2 F2 H2 S'' (hf rfl) (gs.gr g2) (hE'.gr g2) k2
    | true =>
      refine ⟨fun σ2 H2 => ∃ m', m' < m ∧ ∃ E2 S2 φ2 F2, Inv m' E2 S2 ∧ GrA d.an B F H φ2 F2 H2 ∧ EnvR C.b.K φ2 F2 σ2 E2 ∧ Ok C.b.K B φ2 F2 H2 S2, fun σ2 H2 z => ?_, ?_⟩
      · obtain ⟨m', hm, E2, S2, φ2, F2, a⟩ := z
        exact ⟨m', hm, E2, S2, φ2, F2, a⟩
      · refine hb rfl B σ' φ2 F2 H2 _ (hE'.gr g2) k2 ⟨d.an, d.hn, gs.preg g2, ?_, ?_, ?_, ?_, fun x E4 σ4 φ4 F4 H4 S4 cls dd a g4 hE4 k4 => d.xe x E4 σ4 φ4 F4 H4 S4 cls dd a (g4.after (gs.s.trans g2.s)) hE4 k4⟩
        · rintro E4 σ4 φ4 F4 H4 S4 ⟨m', hm, a⟩ g4 hE4 k4
          exact ⟨m', hm, E4, S4, φ4, F4, a, g4.after (gs.s.trans g2.s), hE4, k4⟩
        · exact fun av v φ4 F4 H4 S4 a g4 r4 k4 => d.rt av v φ4 F4 H4 S4 a (g4.after (gs.s.trans g2.s)) r4 k4
        · exact fun E4 σ4 φ4 F4 H4 S4 a g4 hE4 k4 => d.nx E4 σ4 φ4 F4 H4 S4 a (g4.after (gs.s.trans g2.s)) hE4 k4
        · rintro E4 σ4 φ4 F4 H4 S4 ⟨m', hm, a⟩ g4 hE4 k4
          exact ⟨m', hm, E4, S4, φ4, F4, a, g4.after (gs.s.trans g2.s), hE4, k4⟩
end
/-! ### a suite that raises: raise X('..') from None -/
section
variable {X : Cx} {A : Addr} {bmB : List Value} {B newId initId : String}
theorem pmk5_own {x m : Str} {j : Nat} {p p2 pos : Pos} (F : ExcBaseFacts B newId initId bmB) (q : PySem.W.excIn X.K A bmB newId = true) (gC : X.mg x = some (.ref A)) (kC : PySem.W.keepIn X.K (.ref A) = true) (r : Raises X (.ref A)) (hg : Gl X x)
    (hdb : (x == ("__debug__" : Str)) = false) : L2H.PMk5 X (.Call (.Name x p) [.Constant (.str m) j p2] [] pos) (fun _ H Q => Q (.ref A) none H) := by
  intro pins s σ H Q I h
  refine wpAny_Call_Name_kw (ld_glob I hg gC ?_ hdb)
  have ha : PA X [.Constant (.str m) j p2] (tCons (tC (.str m)) tNil) := pa_cons pe_str pa_nil
  refine PySem.W.callWith_K (h₀ := X.base) I.ok.mod.kin kC (thn (ha.run pos pins s σ H (fun vs H1 => vs = [V.str m] ∧ H = H1) I ⟨rfl, rfl⟩) fun us s1 hh => ?_)
  obtain ⟨vs, H1, I1, r1, ev, eH⟩ := hh
  subst ev
  rw [← eH] at I1
  refine ⟨I1.kIn, ?_⟩
  cases r1 with
  | cons ru rn =>
    rename_i u us'
    cases rn
    show wpAny _ _ (call (.ref A) [u]) _ _ _
    obtain ⟨bm, N, nm, qn, bs, hdct, sn, sub, ab, col, dd, k0, k1, k2, k3, k5, mN, hC, hN, hni, T⟩ := exc_obj I1.kIn q
    refine wpAny_call_exc_subT F T hC hN hni (fun h' e hm => ?_) (by show 1 ≤ sizeLine; rw [sizeLine_eq]; omega)
    exact L2H.mk_of5 I1 hm r h (I1.hok.gone hm.new)
end
structure TrN (C : Fam) (W : WX) where
  i : C.ι
  pn : List (Addr × Obj)
  xe : Value → Shared → Prop
  tk : L2N.Takes ((C.cx i).tr pn xe) W
  po : PassesOwn (model C.b.P C.b.w) (C.V i).A (C.V i).env xe
/-- the contexts of a try's body whose suite may raise: exceptions without a context -/
def Fam.trN (C : Fam) (W : WX) : Fam where
  b := C.b
  N := C.N
  k := C.k
  ι := TrN C W
  V := fun j => { C.V j.i with pn := j.pn, xe := j.xe }
  nd := C.nd
  hot := C.hot
  hr := fun h j => C.hr h j.i
  calm := fun h j => C.calm h j.i
  sc := C.sc
  hsc := fun j => C.hsc j.i
  po := fun _ j => j.po
  W := W
  nn := true
  tk := fun j => j.tk
  an := C.an
structure SuX (C : Fam) (a : Addr) (cls : Value) (d : Option Addr) where
  i : C.ι
  oe : Obj
  pn : List (Addr × Obj)
  hz : Zc cls d oe
  hf : ∃ vs, oe.data = .fields vs
  tk : L2.Takes (L2H.suiteX (C.cx i) a ((a, oe) :: pn)) C.W
  hc : L2H.HotC (L2H.suiteX (C.cx i) a ((a, oe) :: pn))
/-- the contexts of a suite that may raise -/
def Fam.suiteX (C : Fam) (a : Addr) (cls : Value) (d : Option Addr) : Fam where
  b := C.b
  N := C.N
  k := C.k
  ι := SuX C a cls d
  V := fun j => { C.V j.i with A := (C.V j.i).A.mark (some (.ref a)), calm := false, pn := (a, j.oe) :: j.pn }
  nd := C.nd
  hot := true
  hr := fun h => by cases h
  calm := fun h => by cases h
  sc := C.sc
  hsc := fun j => C.hsc j.i
  po := fun h => by cases h
  W := C.W
  nn := false
  tk := fun j => j.tk
  an := C.an
section
variable {C : Fam} {E E' : AE} {S S1 S2 : Sto} {pos np pos' p0 : Pos} {rest body suite : List Stmt} {b₀ : Stmt} {hds : List ExceptHandler} {q : Po} {x : XD}
theorem jss_try_onlyR {n : Str} {cc : Value} (hc : C.b.mg n = some cc)
    (hb : ∀ W, JSs (C.trN W) E S body { q.then C rest with xe := fun x E' S' => ∃ z, Exm C.b n x z ∧ (z = true → ∀ (ad : Addr) (cls : Value) (d : Option Addr), JSs (C.suiteX ad cls d) E' S' (b₀ :: suite) { nx := fun E S => JSs C E S rest q, rt := q.rt, bk := q.bk, ct := q.ct, xe := q.xe }) ∧ (z = false → q.xe x E' S') })
    (hpa : ∀ (i : C.ι) (hd : Option Value), PassesOwnAt (model C.b.P C.b.w) ((C.V i).A.mark hd) (C.V i).A (C.V i).env (C.V i).xe)
    (hg : C.sc.names.lookup n = some .globalImplicit := by rfl) (hdb : (n == ("__debug__" : Str)) = false := by decide)
    (hst : ∀ i : C.ι, (C.V i).stack = (C.V i).env :: (C.V i).outer := by intro _; rfl) (hfr : ∀ i : C.ι, (C.V i).env.frame = some (C.V i).env.locals := by intro _; rfl) (hh : C.hot = false := by rfl) (hnn : C.nn = false := by rfl) :
    JSs C E S (.Try body [.ExceptHandler (some (.Name n np)) none (b₀ :: suite) pos'] [] [] pos :: rest) q := by
  refine jss_cons fun B σ φ F H D hE k d => ⟨fun D σ H => WSs (C.trN (wOnly C.b.K cc (fun ad cls d => WSs (C.suiteX ad cls d) (b₀ :: suite)) C.W D)) body D σ H, fun i => L2H.ps_try_onlyX (X := C.cx i) (c := cc) (tb := fun W => WSs (C.trN W) body) (ts := fun ad cls d => WSs (C.suiteX ad cls d) (b₀ :: suite)) (Wout := C.W) (hst i) (hfr i) ⟨gl_of hg i, hdb, .inl hc⟩ (hpa i) ((C.tk i).c hnn)
    (fun W pn xe tk _ po => wss (C.trN W) body ⟨i, pn, xe, tk, po⟩) (fun ad oe cls d pn hz hf tk hot => wss (C.suiteX ad cls d) (b₀ :: suite) ⟨i, oe, pn, hz.zc, hf, tk, hot⟩), ?_⟩
  refine hb _ B σ φ F H D hE k ⟨d.an, d.hn, d.st, d.nx, d.rt, d.bk, d.ct, fun x E' σ' φ' F' H' S' cls dd hx g hE' k' rx => ?_⟩
  obtain ⟨z, hz, h1, h0⟩ := hx
  obtain ⟨A, hA, hcl, hfs⟩ := id rx
  subst hcl
  refine ⟨z, hz A cc hA hc, fun e ad hn => ?_, fun e => d.xe x E' σ' φ' F' H' S' _ dd (h0 e) g hE' k' rx⟩
  refine h1 e ad (.ref A) dd B _ φ' F' H' _ hE' k' ⟨d.an, d.hn, g.pre, fun E2 σ2 φ2 F2 H2 S2 a g2 h2 k2 => ?_, fun av v φ2 F2 H2 S2 a g2 h2 k2 => ?_, fun E2 σ2 φ2 F2 H2 S2 a g2 h2 k2 => ?_, fun E2 σ2 φ2 F2 H2 S2 a g2 h2 k2 => ?_, fun y E2 σ2 φ2 F2 H2 S2 cls2 dd2 a g2 h2 k2 r2 => ?_⟩
  · exact d.nx _ _ φ2 F2 H2 S2 a (g2.after g.s) h2 k2
  · exact d.rt av v φ2 F2 H2 S2 a (g2.after g.s) h2 k2
  · exact d.bk _ _ φ2 F2 H2 S2 a (g2.after g.s) h2 k2
  · exact d.ct _ _ φ2 F2 H2 S2 a (g2.after g.s) h2 k2
  · exact d.xe y E2 σ2 φ2 F2 H2 S2 cls2 dd2 a (g2.after g.s) h2 k2 r2
/-- raise X('..') from None in such a suite -/
theorem jss_raiseHN {n m : Str} {A ad : Addr} {cls : Value} {dz : Option Addr} {j jc : Nat} {p1 p2 p3 : Pos} (hX : XC C.b n A) (h : q.xe ⟨n, none⟩ E S) (hg : C.sc.names.lookup n = some .globalImplicit := by rfl) (hdb : (n == ("__debug__" : Str)) = false := by decide) :
    JSs (C.suiteX ad cls dz) E S (.Raise (some (.Call (.Name n p1) [.Constant (.str m) j p2] [] p0)) (some (.Constant .none jc p3)) pos :: rest) q :=
  jss_cons fun B σ φ F H D hE k d => ⟨_, fun i => L2H.ps_raiseHN i.hc i.tk (pmk5_own (X := (C.suiteX ad cls dz).cx i) PySem.F.excBase_ValueError hX.x hX.g hX.k (raises_own hX.s hX.t) (gl_of (C := C.suiteX ad cls dz) hg i) hdb),
    dr_x (C := C.suiteX ad cls dz) (q := q.then (C.suiteX ad cls dz) rest) d hE .refl k (x := ⟨n, none⟩) ⟨A, hX.g, rfl, rfl⟩ h⟩
end
/-! ### try .. except X as e: .. except Y: .., where the first clause takes what comes -/
section
variable {X : Cx} {x n : Str} {c : Value} {i : Nat} {body suite : List Stmt} {b₀ : Stmt} {hds : List ExceptHandler} {np pos pos' : Pos} {tb : WX → TS} {ts : Addr → Value → Option Addr → TS}
theorem ps_try_as1 (hs : X.stack = X.env :: X.outer) (hf : X.env.frame = some X.env.locals) (hN : X.N.Nodup) (hi : X.N[i]? = some n) (hln : X.env.kindOf n = some .local) (hc : Names X x c)
    (hb : ∀ (W : WX) (pn : List (Addr × Obj)) (xe : Value → Shared → Prop), L2.Takes (X.tr pn xe) W → PassesOwn (model X.prog X.w) X.A X.env xe → PSs (X.tr pn xe) body (tb W))
    (hsu : ∀ (a : Addr) (oe : Obj) (cls : Value) (d : Option Addr) (pn : List (Addr × Obj)), Zc cls d oe → (∃ vs, oe.data = .fields vs) → PSs (X.suite a ((a, oe) :: pn)) (b₀ :: suite) (ts a cls d)) :
    PS X (.Try body (.ExceptHandler (some (.Name x np)) (some n) (b₀ :: suite) pos' :: hds) [] [] pos) (fun D σ H => tb (wAs X.K c i ts (fun _ _ _ _ => False) D) D σ H) := by
  refine ⟨fun pins s σ H D I0 hq => ?_⟩
  have ok := I0.ok
  have frm : X.A.frames = some (X.env :: X.outer) := by rw [ok.frames, hs]
  refine wpAny_Try_except ?_
  refine wpAny_mono ((hb (wAs X.K c i ts (fun _ _ _ _ => False) D) (X.pn ++ pins) (fun ev sa => wpAny (model X.prog X.w) X.A (noteFrame ev X.env) (fun _ sb => wpAny (model X.prog X.w) X.A (setFlight ev none) (fun _ sc =>
    wpAny (model X.prog X.w) X.A (handleBy ev X.env (.ExceptHandler (some (.Name x np)) (some n) (b₀ :: suite) pos' :: hds)) (SP X pins D) X.xe sc) X.xe sb) X.xe sa) (fun u s' air => ?_) PassesOwn.looking).run [] s σ H D (I0.toTry _) hq) (fun fl s1 hsp => ?_) (fun _ _ he => he)
  · obtain ⟨a, B, sI, pins', σ', H', cls, d, rfl, J0, nb, up, sky0, na, os, ag, bz, hb1, hyes, hno⟩ := air
    cases bz with
    | false => exact (hno rfl).elim
    | true =>
      have J : Inv X pins σ' H' sI := J0.ofTry ok
      have sky : Sky B (X.env :: X.outer) a (Zc cls d) X.env.locals s'.heap := by rw [← hs]; exact sky0
      show wpAny (model X.prog X.w) X.A (noteFrame (.ref a) X.env) _ _ _
      refine Sky.land Zc.steady frm hf sky fun hp fly upp => ?_
      have Jp : Inv X pins σ' H' { s' with heap := hp } := J.landed nb fly.1 (up.trans upp) os ag
      obtain ⟨ob, vs, hob, hzo, hdo⟩ := fly.there
      have nfr : a ∉ frs (X.env :: X.outer) := fun hm => by
        obtain ⟨_, o2, e2, hnf⟩ := fly.2.2.1.mem hm
        rw [hob] at e2; cases e2
        exact hnf _ hdo
      have nL : a ≠ X.env.locals := fun z => nfr (List.mem_filterMap.mpr ⟨X.env, List.mem_cons_self, by rw [hf, z]⟩)
      have nF : a ∉ X.fs := fun hm => by
        obtain ⟨e2, he2, q2⟩ := List.mem_filterMap.mp hm
        exact nfr (List.mem_filterMap.mpr ⟨e2, List.mem_cons_of_mem _ he2, q2⟩)
      have Sp := Jp.suite hob hdo na nL nF
      refine wpAny_handleBy_cons (codeAny_handlers_test ?_) (by intro q; cases q)
      have ltp : PySem.W.Looks (model X.prog X.w) hp (typeOf (.ref a)) cls := fun A Q E sx kx qx => wpAny_typeOf_ref (kx _ _ hob) (by rw [hzo.1]; exact qx)
      have lmt := PySem.W.exm_one (M := model X.prog X.w) (Jp.kIn) ltp hb1
      have asks : ∀ {Q : Value → Shared → Prop} {E : Value → Shared → Prop}, Q c { s' with heap := hp } → wpAny (model X.prog X.w) (X.A.mark (some (.ref a))) (eval (.Name x np) X.env) Q E { s' with heap := hp } := fun {Q E} q => by
        obtain ⟨hg, hdbg, hm | ⟨hm, hv, hnn⟩⟩ := hc
        · exact ld_glob (X := X.suite a ((a, ob) :: (X.pn ++ pins))) Sp hg hm q hdbg
        · exact ld_blt (X := X.suite a ((a, ob) :: (X.pn ++ pins))) Sp hg hm hv q hnn hdbg
      refine asks (lmt.here ?_)
      refine codeAny_handlers_suite_as ?_
      refine HandSPX.lands_againZ fly fun hr flr upr => ?_
      have Jr : Inv X pins σ' H' { s' with heap := hr } := J.landed nb flr.1 ((up.trans upp).trans upr) os ag
      obtain ⟨ob2, vs2, hob2, hz2, hd2⟩ := flr.there
      have Sr := Jr.suite hob2 hd2 na nL nF
      refine store_ok (X := X.suite a ((a, ob2) :: (X.pn ++ pins))) (v := .ref a) Sr hN hi (.inl hln) rfl (fun s5 S5 => ?_) (.inr hln)
      refine wpAny_mono ((hsu a ob2 cls d (X.pn ++ pins) hz2 ⟨_, hd2⟩).run [] s5 _ H' _ S5 (hyes rfl a na)) (fun fl s6 hsp => ?_) (fun _ _ z => False.elim z)
      have wiped : ∀ {σ6 : L2.St} {H6 : Hp} {Q : Shared → Prop}, Inv (X.suite a ((a, ob2) :: (X.pn ++ pins))) [] σ6 H6 s6 → (∀ s7, Inv X pins (σ6.set i none) H6 s7 → Q s7) →
          wpAny (model X.prog X.w) X.A (do bindName X.env n .none; unbindBehindTheSuite X.env n pos') (fun _ s7 => Q s7) X.xe s6 := fun {σ6 H6 Q} S6 q6 => gone_ok (S6.unsuite ok) hN hi hln q6
      cases fl with
      | next =>
        obtain ⟨σ6, H6, S6, q6⟩ := hsp
        exact wiped S6 fun s7 J7 => ⟨_, _, J7, q6⟩
      | brk =>
        obtain ⟨σ6, H6, S6, q6⟩ := hsp
        exact wiped S6 fun s7 J7 => ⟨_, _, J7, q6⟩
      | cont =>
        obtain ⟨σ6, H6, S6, q6⟩ := hsp
        exact wiped S6 fun s7 J7 => ⟨_, _, J7, q6⟩
      | ret u =>
        obtain ⟨v6, σ6, H6, S6, r6, q6⟩ := hsp
        exact wiped S6 fun s7 J7 => ⟨_, _, _, J7, r6, q6⟩
  · cases fl with
    | next =>
      obtain ⟨σ1, H1, J1, q1⟩ := hsp
      exact wpAny_execs_nil ⟨σ1, H1, J1.ofTry ok, q1⟩
    | brk =>
      obtain ⟨σ1, H1, J1, q1⟩ := hsp
      exact ⟨σ1, H1, J1.ofTry ok, q1⟩
    | cont =>
      obtain ⟨σ1, H1, J1, q1⟩ := hsp
      exact ⟨σ1, H1, J1.ofTry ok, q1⟩
    | ret u =>
      obtain ⟨v1, σ1, H1, J1, r1, q1⟩ := hsp
      exact ⟨v1, σ1, H1, J1.ofTry ok, r1, q1⟩
end
section
variable {C : Fam} {E E' : AE} {S S1 S2 : Sto} {pos np pos' p0 : Pos} {rest body suite : List Stmt} {b₀ : Stmt} {hds : List ExceptHandler} {q : Po} {x : XD}
theorem jss_try_as1 (j : Nat) {n nm : Str} {cc : Value} (hc : C.b.mg n = some cc)
    (hb : ∀ W, JSs (C.tr W) E S body { q.then C rest with xe := fun x E' S' => Exm C.b n x true ∧ (∀ (ad : Addr) (cls : Value) (d : Option Addr), (∃ A, C.b.mg x.name = some (.ref A) ∧ cls = .ref A ∧ (x.fs = none → d = none)) →
        JSs (C.suite ad cls d) (E'.set j (some (.v (.ref ad)))) S' (b₀ :: suite) { nx := fun E S => JSs C (E.set j none) S rest q, rt := q.rt, bk := fun E S => q.bk (E.set j none) S, ct := fun E S => q.ct (E.set j none) S }) })
    (hi : C.N[j]? = some nm := by rfl) (hln : C.sc.names.lookup nm = some .local := by rfl) (hg : C.sc.names.lookup n = some .globalImplicit := by rfl) (hdb : (n == ("__debug__" : Str)) = false := by decide)
    (hst : ∀ i : C.ι, (C.V i).stack = (C.V i).env :: (C.V i).outer := by intro _; rfl) (hfr : ∀ i : C.ι, (C.V i).env.frame = some (C.V i).env.locals := by intro _; rfl) :
    JSs C E S (.Try body (.ExceptHandler (some (.Name n np)) (some nm) (b₀ :: suite) pos' :: hds) [] [] pos :: rest) q := by
  refine jss_cons fun B σ φ F H D hE k d => ⟨fun D σ H => WSs (C.tr (wAs C.b.K cc j (fun ad cls d => WSs (C.suite ad cls d) (b₀ :: suite)) (fun _ _ _ _ => False) D)) body D σ H, fun i => ps_try_as1 (X := C.cx i) (i := j) (c := cc) (tb := fun W => WSs (C.tr W) body) (ts := fun ad cls d => WSs (C.suite ad cls d) (b₀ :: suite)) (hst i) (hfr i) C.nd hi (by show (C.V i).env.kindOf nm = _; unfold Env.kindOf; rw [C.hsc i]; exact hln) ⟨gl_of hg i, hdb, .inl hc⟩
    (fun W pn xe tk po => wss (C.tr W) body ⟨i, pn, xe, tk, po⟩) (fun ad oe cls d pn hz hf => wss (C.suite ad cls d) (b₀ :: suite) ⟨i, oe, pn, hz, hf⟩), ?_⟩
  refine hb _ B σ φ F H D hE k ⟨d.an, d.hn, d.st, d.nx, d.rt, d.bk, d.ct, fun x E' σ' φ' F' H' S' cls dd hx g hE' k' rx => ?_⟩
  obtain ⟨hz, h1⟩ := hx
  obtain ⟨A, hA, hcl, hfs⟩ := id rx
  subst hcl
  refine ⟨true, hz A cc hA hc, fun e ad hn => ?_, fun e => by cases e⟩
  have hs := h1 ad (.ref A) dd ⟨A, hA, rfl, fun e => by rw [e] at hfs; exact hfs⟩
  have hE2 : EnvR C.b.K φ' F' (σ'.set j (some (.ref ad))) (E'.set j (some (.v (.ref ad)))) := hE'.set (av := .v (.ref ad)) rfl j
  have wipe : ∀ {E2 : AE} {σ2 : L2.St} {φ2 : List Addr} {F2 : Hp}, EnvR C.b.K φ2 F2 σ2 E2 → EnvR C.b.K φ2 F2 (σ2.set j none) (E2.set j none) := fun {E2 σ2 φ2 F2} h => by
    have := h.wipe [j]
    unfold L2.wipe wipeE at this
    exact this
  refine hs B _ φ' F' H' _ hE2 k' ⟨d.an, d.hn, g.pre, fun E2 σ2 φ2 F2 H2 S2 a g2 h2 k2 => ?_, fun av v φ2 F2 H2 S2 a g2 h2 k2 => ?_, fun E2 σ2 φ2 F2 H2 S2 a g2 h2 k2 => ?_, fun E2 σ2 φ2 F2 H2 S2 a g2 h2 k2 => ?_, fun _ _ _ _ _ _ _ _ _ a => a.elim⟩
  · exact d.nx _ _ φ2 F2 H2 S2 a (g2.after g.s) (wipe h2) k2
  · exact d.rt av v φ2 F2 H2 S2 a (g2.after g.s) h2 k2
  · exact d.bk _ _ φ2 F2 H2 S2 a (g2.after g.s) (wipe h2) k2
  · exact d.ct _ _ φ2 F2 H2 S2 a (g2.after g.s) (wipe h2) k2
end
theorem passesB {m : Bool} {b : Bs} {qual : Str} {sc : Scope} {f : Addr} {cd : Value} {A : Around} {outer : List Env} {s : Shared} {H : Hp} {E : XK} (hd : Option Value) :
    PassesOwnAt (model b.P b.w) ((defVX m b qual sc f cd A outer s H E).A.mark hd) (defVX m b qual sc f cd A outer s H E).A (defVX m b qual sc f cd A outer s H E).env (defVX m b qual sc f cd A outer s H E).xe :=
  L2H.passesAt_of (X := mkc b [] (defVX m b qual sc f cd A outer s H E)) rfl hd
end AL

namespace AL
open PySem PySem.Spec PyProof.Rows L2 TL
/-! ### tables -/
section
variable {κ α β : Type} [DecidableEq κ]
def getK (kvs : List (κ × α)) (k : κ) : Option α := (kvs.find? fun p => decide (p.1 = k)).map (·.2)
def setK (kvs : List (κ × α)) (k : κ) (v : α) : List (κ × α) := if (kvs.any fun p => decide (p.1 = k)) = true then kvs.map (fun p => if p.1 = k then (p.1, v) else p) else kvs ++ [(k, v)]
def delK (kvs : List (κ × α)) (k : κ) : List (κ × α) := kvs.filter fun p => decide (p.1 ≠ k)
theorem getK_nil {k : κ} : getK ([] : List (κ × α)) k = none := rfl
theorem getK_pos {p : κ × α} {r : List (κ × α)} {k : κ} (e : p.1 = k) : getK (p :: r) k = some p.2 := by simp [getK, List.find?_cons, e]
theorem getK_neg {p : κ × α} {r : List (κ × α)} {k : κ} (e : ¬ p.1 = k) : getK (p :: r) k = getK r k := by simp [getK, List.find?_cons, e]
theorem getK_any (k : κ) : ∀ kvs : List (κ × α), (kvs.any fun kv => decide (kv.1 = k)) = (getK kvs k).isSome
  | [] => rfl
  | p :: r => by
    rw [List.any_cons]
    by_cases e : p.1 = k
    · simp only [getK_pos e, decide_eq_true e, Bool.true_or, Option.isSome_some]
    · rw [getK_neg e, decide_eq_false e, Bool.false_or]; exact getK_any k r
theorem getK_map (k j : κ) (y : α) : ∀ kvs : List (κ × α), getK (kvs.map fun kv => if kv.1 = k then (kv.1, y) else kv) j = (getK kvs j).map fun x => if j = k then y else x
  | [] => rfl
  | p :: r => by
    have ih := getK_map k j y r
    rw [List.map_cons]
    by_cases h : p.1 = k
    · rw [if_pos h]
      by_cases e : p.1 = j
      · rw [getK_pos (p := (p.1, y)) e, getK_pos e, Option.map_some, if_pos (e.symm.trans h)]
      · rw [getK_neg (p := (p.1, y)) e, getK_neg e, ih]
    · rw [if_neg h]
      by_cases e : p.1 = j
      · rw [getK_pos (p := p) e, getK_pos e, Option.map_some, if_neg (fun z => h (e.trans z))]
      · rw [getK_neg (p := p) e, getK_neg e, ih]
theorem getK_snoc (k j : κ) (y : α) : ∀ kvs : List (κ × α), getK kvs k = none → getK (kvs ++ [(k, y)]) j = if j = k then some y else getK kvs j
  | [], _ => by
    by_cases e : k = j
    · rw [if_pos e.symm]; exact getK_pos (p := (k, y)) e
    · rw [if_neg (fun z => e z.symm)]; exact getK_neg (p := (k, y)) e
  | p :: r, hn => by
    rw [List.cons_append]
    have hk : ¬ p.1 = k := fun z => by rw [getK_pos z] at hn; cases hn
    rw [getK_neg hk] at hn
    have ih := getK_snoc k j y r hn
    by_cases e : p.1 = j
    · rw [getK_pos e, getK_pos e, if_neg (fun z => hk (e.trans z))]
    · rw [getK_neg e, getK_neg e, ih]
theorem getK_set (kvs : List (κ × α)) (k j : κ) (y : α) : getK (setK kvs k y) j = if j = k then some y else getK kvs j := by
  unfold setK
  by_cases a : (kvs.any fun kv => decide (kv.1 = k)) = true
  · rw [if_pos a, getK_map]
    rw [getK_any] at a
    by_cases e : j = k
    · obtain ⟨x, hx⟩ := Option.isSome_iff_exists.mp a
      rw [if_pos e, e, hx, Option.map_some, if_pos rfl]
    · rw [if_neg e]
      cases getK kvs j with
      | none => rfl
      | some x => rw [Option.map_some, if_neg e]
  · rw [if_neg a]
    refine getK_snoc k j y kvs ?_
    rw [getK_any] at a
    cases q : getK kvs k with
    | none => rfl
    | some x => rw [q] at a; exact (a rfl).elim
theorem setK_new {kvs : List (κ × α)} {k : κ} (v : α) (h : getK kvs k = none) : setK kvs k v = kvs ++ [(k, v)] := by
  unfold setK
  rw [getK_any, h]
  exact if_neg (fun z => Bool.noConfusion z)
theorem setK_len (kvs : List (κ × α)) (k : κ) (v : α) : (setK kvs k v).length ≤ kvs.length + 1 := by
  unfold setK
  split
  · rw [List.length_map]; omega
  · rw [List.length_append, List.length_cons, List.length_nil]; omega
theorem delK_len (kvs : List (κ × α)) (k : κ) : (delK kvs k).length ≤ kvs.length := List.length_filter_le _ _
abbrev RelP (R : V → α → Prop) : List (κ × V) → List (κ × α) → Prop := Paired fun p q => p.1 = q.1 ∧ R p.2 q.2
theorem relP_get {R : V → α → Prop} {es : List (κ × V)} {kvs : List (κ × α)} (h : RelP R es kvs) (k : κ) : (valV es k = none ∧ getK kvs k = none) ∨ ∃ v d, valV es k = some v ∧ getK kvs k = some d ∧ R v d := by
  induction h with
  | nil => exact .inl ⟨rfl, rfl⟩
  | @cons p q ps qs h t ih =>
    by_cases e : p.1 = k
    · exact .inr ⟨p.2, q.2, valV_pos e, getK_pos (h.1.symm.trans e), h.2⟩
    · rw [valV_neg e, getK_neg (fun z => e (h.1.trans z))]
      exact ih
theorem relP_some {R : V → α → Prop} {es : List (κ × V)} {kvs : List (κ × α)} (h : RelP R es kvs) {k : κ} {d : α} (e : getK kvs k = some d) : ∃ v, valV es k = some v ∧ R v d := by
  rcases relP_get h k with ⟨_, h2⟩ | ⟨v, d', h1, h2, r⟩
  · rw [e] at h2; cases h2
  · rw [e] at h2; cases h2; exact ⟨v, h1, r⟩
theorem relP_isSome {R : V → α → Prop} {es : List (κ × V)} {kvs : List (κ × α)} (h : RelP R es kvs) (k : κ) : (valV es k).isSome = (getK kvs k).isSome := by
  rcases relP_get h k with ⟨h1, h2⟩ | ⟨v, d', h1, h2, r⟩ <;> rw [h1, h2] <;> rfl
theorem relP_any {R : V → α → Prop} {es : List (κ × V)} {kvs : List (κ × α)} (h : RelP R es kvs) (k : κ) : (es.any fun p => decide (p.1 = k)) = kvs.any fun p => decide (p.1 = k) := by
  rw [valV_any, getK_any, relP_isSome h]
theorem relP_put {R : V → α → Prop} {es : List (κ × V)} {kvs : List (κ × α)} (h : RelP R es kvs) (k : κ) {v : V} {d : α} (r : R v d) : RelP R (putK es k v) (setK kvs k d) := by
  unfold putK setK
  rw [relP_any h k]
  split
  · induction h with
    | nil => exact .nil
    | @cons p q ps qs h t ih =>
      rename_i hh
      rw [List.map_cons, List.map_cons]
      refine .cons ?_ ?_
      · by_cases e : p.1 = k
        · rw [if_pos e, if_pos (h.1.symm.trans e)]; exact ⟨h.1, r⟩
        · rw [if_neg e, if_neg (fun z => e (h.1.trans z))]; exact h
      · clear ih hh
        induction t with
        | nil => exact .nil
        | @cons p q ps qs h t ih =>
          rw [List.map_cons, List.map_cons]
          refine .cons ?_ ih
          by_cases e : p.1 = k
          · rw [if_pos e, if_pos (h.1.symm.trans e)]; exact ⟨h.1, r⟩
          · rw [if_neg e, if_neg (fun z => e (h.1.trans z))]; exact h
  · exact Paired.snoc h ⟨rfl, r⟩
theorem relP_drop {R : V → α → Prop} {es : List (κ × V)} {kvs : List (κ × α)} (h : RelP R es kvs) (k : κ) : RelP R (dropK es k) (delK kvs k) := by
  unfold dropK delK
  induction h with
  | nil => exact .nil
  | @cons p q ps qs h t ih =>
    rw [List.filter_cons, List.filter_cons]
    by_cases e : p.1 = k
    · rw [if_neg (by simp [e]), if_neg (by simp [h.1.symm.trans e])]; exact ih
    · rw [if_pos (by simp [e]), if_pos (by simp [show ¬ q.1 = k from fun z => e (h.1.trans z)])]; exact .cons h ih
theorem relP_keys {R : V → α → Prop} {es : List (κ × V)} {kvs : List (κ × α)} (h : RelP R es kvs) : es.map (·.1) = kvs.map (·.1) := by
  induction h with
  | nil => rfl
  | cons h t ih => rw [List.map_cons, List.map_cons, ih, h.1]
end
theorem relP_lookup {α : Type} {R : V → α → Prop} {es : List (Str × V)} {fs : List (Str × α)} (h : RelP R es fs) {f : Str} {d : α} (e : fs.lookup f = some d) : ∃ v, es.lookup f = some v ∧ R v d := by
  induction h with
  | nil => cases e
  | @cons p q ps qs h t ih =>
    obtain ⟨p1, p2⟩ := p
    obtain ⟨q1, q2⟩ := q
    obtain ⟨h1, h2⟩ := h
    simp only at h1 h2
    subst h1
    rw [List.lookup_cons] at e ⊢
    cases hb : f == p1 with
    | true => rw [hb] at e; cases e; exact ⟨p2, rfl, h2⟩
    | false => rw [hb] at e; exact ih e
theorem relP_lookN {α : Type} {R : V → α → Prop} {es : List (Str × V)} {fs : List (Str × α)} (h : RelP R es fs) {f : Str} (e : fs.lookup f = none) : es.lookup f = none := by
  induction h with
  | nil => rfl
  | @cons p q ps qs h t ih =>
    obtain ⟨p1, p2⟩ := p
    obtain ⟨q1, q2⟩ := q
    obtain ⟨h1, h2⟩ := h
    simp only at h1 h2
    subst h1
    rw [List.lookup_cons] at e ⊢
    cases hb : f == p1 with
    | true => rw [hb] at e; cases e
    | false => rw [hb] at e; exact ih e
def putA (f : Str) (v : AV) : List (Str × AV) → List (Str × AV)
  | [] => [(f, v)]
  | (g, x) :: r => if g = f then (g, v) :: r else (g, x) :: putA f v r
theorem relP_putF {R : V → AV → Prop} {es : List (Str × V)} {fs : List (Str × AV)} (h : RelP R es fs) (f : Str) {v : V} {d : AV} (r : R v d) : RelP R (putF f v es) (putA f d fs) := by
  induction h with
  | nil => exact .cons ⟨rfl, r⟩ .nil
  | @cons p q ps qs h t ih =>
    obtain ⟨p1, p2⟩ := p
    obtain ⟨q1, q2⟩ := q
    obtain ⟨h1, h2⟩ := h
    simp only at h1 h2
    subst h1
    unfold putF putA
    by_cases e : p1 = f
    · rw [if_pos e, if_pos e]; exact .cons ⟨rfl, r⟩ t
    · rw [if_neg e, if_neg e]; exact .cons ⟨rfl, h2⟩ ih
/-- the key that data is -/
def keyD : PyData → Option Key
  | .int i => some (.inl i)
  | .str x => some (.inr x)
  | _ => none
theorem dp_key {K : PySem.W.Frag} {F : Hp} {v : V} {d : PyData} {k : Key} (h : Dp K F v d) (e : keyD d = some k) : v = kV k := by
  cases h <;> cases e <;> rfl
/-- a dict's entries -/
def entO : Option MO → Option (List (Key × AV))
  | some (.dd kvs) => some (kvs.map fun p => (p.1, .d p.2))
  | some (.dk kvs) => some kvs
  | some (.fd kvs) => some (kvs.map fun p => (p.1, .d p.2))
  | some (.fk kvs) => some kvs
  | _ => none
theorem getK_mapV {κ α β : Type} [DecidableEq κ] (f : α → β) (kvs : List (κ × α)) (k : κ) : getK (kvs.map fun p => (p.1, f p.2)) k = (getK kvs k).map f := by
  induction kvs with
  | nil => rfl
  | cons p r ih =>
    rw [List.map_cons]
    by_cases e : p.1 = k
    · rw [getK_pos (p := (p.1, f p.2)) e, getK_pos e]; rfl
    · rw [getK_neg (p := (p.1, f p.2)) e, getK_neg e, ih]
section
variable {K : PySem.W.Frag} {B φ : List Addr} {F H : Hp} {S : Sto}
theorem ok_ent (k : Ok K B φ F H S) {l : Nat} {a : Addr} (ha : φ[l]? = some a) {kvs : List (Key × AV)} (h : entO S[l]? = some kvs) : ∃ es, Rd H a (.dK es) ∧ RelP (RV K φ F) es kvs := by
  obtain ⟨o, hS, r⟩ := k.obj ha
  rw [hS] at h
  have up : ∀ {es : List (Key × V)} {ks : List (Key × PyData)}, RKD K F es ks → RelP (RV K φ F) es (ks.map fun p => (p.1, AV.d p.2)) := fun {es ks} ra => by
    induction ra with
    | nil => exact .nil
    | cons h t ih => exact .cons h ih
  cases o with
  | dd ks => cases h; obtain ⟨_, es, hH, ra⟩ := r; exact ⟨es, .inl hH, up ra⟩
  | dk ks => cases h; obtain ⟨_, es, hH, ra⟩ := r; exact ⟨es, .inl hH, ra⟩
  | fd ks => cases h; obtain ⟨o, es, _, hH, ra⟩ := r; exact ⟨es, .inr ⟨o, hH⟩, up ra⟩
  | fk ks => cases h; obtain ⟨o, es, _, hH, ra⟩ := r; exact ⟨es, .inr ⟨o, hH⟩, ra⟩
  | _ => cases h
end
theorem call_lenRd {X : Cx} : CallR X (.builtin "len") (fun xs H Q => ∃ a kvs, xs = [V.ref a] ∧ Rd H a (.dK kvs) ∧ Q (.int kvs.length) H) := by
  intro pins s σ H xs us Q I r h
  obtain ⟨a, kvs, rfl, ha, q⟩ := h
  obtain ⟨u, rfl, ru⟩ := vals1 r
  cases ru
  exact d_len I ha fun t s' I' => ⟨.int kvs.length, H, I', ⟨t, rfl⟩, q⟩
section
variable {C : Fam} {E E' : AE} {S S1 S2 S3 S4 : Sto} {a b c e o i x : Expr} {es : List Expr} {av bv cv : AV} {avs : List AV} {pos p apos cpos tpos pos' : Pos} {d d' kd : PyData} {k : Key} {l : Nat} {kvs : List (Key × PyData)} {kas : List (Key × AV)} {rest : List Stmt} {q : Po}
/-! ### dicts -/
theorem je_dnew : JE C E S (.Dict [] [] pos) (.o S.length) (S ++ [.dd []]) := fun B σ φ F H Q hE k q => ⟨tDNewK, fun _ => pe_dnewK, fun p hp => by
  obtain ⟨k2, g2⟩ := k.new (o := .dK []) (m := .dd []) hp fun hF => ⟨hF, [], upd_same, .nil⟩
  exact q (.ref p) _ _ _ g2 k2 ⟨p, by rw [← k.len]; simp, rfl⟩⟩
theorem je_dnewA : JE C E S (.Dict [] [] pos) (.o S.length) (S ++ [.dk []]) := fun B σ φ F H Q hE k q => ⟨tDNewK, fun _ => pe_dnewK, fun p hp => by
  obtain ⟨k2, g2⟩ := k.new (o := .dK []) (m := .dk []) hp fun hF => ⟨hF, [], upd_same, .nil⟩
  exact q (.ref p) _ _ _ g2 k2 ⟨p, by rw [← k.len]; simp, rfl⟩⟩
theorem je_dgetA (ho : JE C E S o (.o l) S1) (hi : JE C E S1 i (.d kd) S2) (hk : keyD kd = some k) (hl : entO S2[l]? = some kas) (hg : getK kas k = some av) (hs : NoSl i := by exact fun _ _ => rfl) (hh : C.hot = false := by rfl) : JE C E S (.Subscript o i pos) av S2 := by
  intro B σ φ F H Q hE kk q
  refine ⟨tDGet (WE C o) (WE C i), fun n => pe_dget (X := C.cx n) (hu_of (C.hr hh n)) (we C o n) (we C i n) hs, ?_⟩
  refine ho B σ φ F H _ hE kk fun x φ1 F1 H1 g1 k1 r1 => ?_
  refine hi B σ φ1 F1 H1 _ (hE.gr g1) k1 fun y φ2 F2 H2 g2 k2 r2 => ?_
  obtain ⟨a, ea, rfl⟩ := r1.gr g2
  obtain ⟨es, hH, ra⟩ := ok_ent k2 ea hl
  obtain ⟨v, hv, rv⟩ := relP_some ra hg
  have ey := dp_key r2 hk
  subst ey
  exact ⟨a, v, rfl, .inl ⟨es, k, hH, rfl, hv.symm⟩, q v φ2 F2 H2 (g1.trans g2) k2 rv⟩
theorem ent_dd (hl : S[l]? = some (.dd kvs)) : entO S[l]? = some (kvs.map fun p => (p.1, AV.d p.2)) := by rw [hl]; rfl
theorem ent_dk (hl : S[l]? = some (.dk kas)) : entO S[l]? = some kas := by rw [hl]; rfl
theorem je_dget (ho : JE C E S o (.o l) S1) (hi : JE C E S1 i (.d kd) S2) (hk : keyD kd = some k) (hl : S2[l]? = some (.dd kvs)) (hg : getK kvs k = some d) (hs : NoSl i := by exact fun _ _ => rfl) (hh : C.hot = false := by rfl) : JE C E S (.Subscript o i pos) (.d d) S2 :=
  je_dgetA ho hi hk (ent_dd hl) (by rw [getK_mapV, hg]; rfl) hs hh
theorem je_din (hi : JE C E S i (.d kd) S1) (ho : JE C E S1 o (.o l) S2) (hk : keyD kd = some k) (hl : entO S2[l]? = some kas) (hm : behindInMarks .In o = false := by rfl) (hh : C.hot = false := by rfl) : JE C E S (.Compare i [.In] [o] pos) (.d (.bool (getK kas k).isSome)) S2 := by
  intro B σ φ F H Q hE kk q
  refine ⟨tDIn (WE C i) (WE C o), fun n => pe_cmp (pc_din (X := C.cx n) (hu_of (C.hr hh n)) (we C i n) (we C o n)) hm, ?_⟩
  refine hi B σ φ F H _ hE kk fun y φ1 F1 H1 g1 k1 r1 => ?_
  refine ho B σ φ1 F1 H1 _ (hE.gr g1) k1 fun x φ2 F2 H2 g2 k2 r2 => ?_
  obtain ⟨a, ea, rfl⟩ := r2
  obtain ⟨es, hH, ra⟩ := ok_ent k2 ea hl
  have ey := dp_key r1 hk
  subst ey
  refine ⟨a, valV es k, rfl, .inl ⟨es, k, hH, rfl, rfl⟩, q _ φ2 F2 H2 (g1.trans g2) k2 ?_⟩
  rw [relP_isSome ra]
  exact .bl _
theorem je_dnotin (hi : JE C E S i (.d kd) S1) (ho : JE C E S1 o (.o l) S2) (hk : keyD kd = some k) (hl : entO S2[l]? = some kas) (hm : behindInMarks .NotIn o = false := by rfl) (hh : C.hot = false := by rfl) : JE C E S (.Compare i [.NotIn] [o] pos) (.d (.bool (!(getK kas k).isSome))) S2 := by
  intro B σ φ F H Q hE kk q
  refine ⟨tDNotIn (WE C i) (WE C o), fun n => pe_cmp (pc_dnotin (X := C.cx n) (hu_of (C.hr hh n)) (we C i n) (we C o n)) hm, ?_⟩
  refine hi B σ φ F H _ hE kk fun y φ1 F1 H1 g1 k1 r1 => ?_
  refine ho B σ φ1 F1 H1 _ (hE.gr g1) k1 fun x φ2 F2 H2 g2 k2 r2 => ?_
  obtain ⟨a, ea, rfl⟩ := r2
  obtain ⟨es, hH, ra⟩ := ok_ent k2 ea hl
  have ey := dp_key r1 hk
  subst ey
  refine ⟨a, valV es k, rfl, .inl ⟨es, k, hH, rfl, rfl⟩, q _ φ2 F2 H2 (g1.trans g2) k2 ?_⟩
  rw [relP_isSome ra]
  exact .bl _
theorem jt_din (hi : JE C E S i (.d kd) S1) (ho : JE C E S1 o (.o l) S2) (hk : keyD kd = some k) (hl : entO S2[l]? = some kas) (hm : behindInMarks .In o = false := by rfl) (hh : C.hot = false := by rfl) : JT C E S (.Compare i [.In] [o] pos) (getK kas k).isSome S2 := by
  intro B σ φ F H Q hE kk q
  refine ⟨tB (tDIn (WE C i) (WE C o)), fun n => pt_cmp (pc_din (X := C.cx n) (hu_of (C.hr hh n)) (we C i n) (we C o n)) hm, ?_⟩
  refine hi B σ φ F H _ hE kk fun y φ1 F1 H1 g1 k1 r1 => ?_
  refine ho B σ φ1 F1 H1 _ (hE.gr g1) k1 fun x φ2 F2 H2 g2 k2 r2 => ?_
  obtain ⟨a, ea, rfl⟩ := r2
  obtain ⟨es, hH, ra⟩ := ok_ent k2 ea hl
  have ey := dp_key r1 hk
  subst ey
  exact ⟨a, valV es k, rfl, .inl ⟨es, k, hH, rfl, rfl⟩, _, by rw [relP_isSome ra], q φ2 F2 H2 (g1.trans g2) k2⟩
theorem jt_dnotin (hi : JE C E S i (.d kd) S1) (ho : JE C E S1 o (.o l) S2) (hk : keyD kd = some k) (hl : entO S2[l]? = some kas) (hm : behindInMarks .NotIn o = false := by rfl) (hh : C.hot = false := by rfl) : JT C E S (.Compare i [.NotIn] [o] pos) (!(getK kas k).isSome) S2 := by
  intro B σ φ F H Q hE kk q
  refine ⟨tB (tDNotIn (WE C i) (WE C o)), fun n => pt_cmp (pc_dnotin (X := C.cx n) (hu_of (C.hr hh n)) (we C i n) (we C o n)) hm, ?_⟩
  refine hi B σ φ F H _ hE kk fun y φ1 F1 H1 g1 k1 r1 => ?_
  refine ho B σ φ1 F1 H1 _ (hE.gr g1) k1 fun x φ2 F2 H2 g2 k2 r2 => ?_
  obtain ⟨a, ea, rfl⟩ := r2
  obtain ⟨es, hH, ra⟩ := ok_ent k2 ea hl
  have ey := dp_key r1 hk
  subst ey
  exact ⟨a, valV es k, rfl, .inl ⟨es, k, hH, rfl, rfl⟩, _, by rw [relP_isSome ra], q φ2 F2 H2 (g1.trans g2) k2⟩
theorem je_dget2 (ho : JE C E S o (.o l) S1) (hi : JE C E S1 i (.d kd) S2) (hx : JE C E S2 x av S3) (hk : keyD kd = some k) (h1 : entO S1[l]? ≠ none) (hl : entO S3[l]? = some kas) (hm : ∀ n : C.ι, M2 (C.cx n) o "get" apos i x cpos := by intro _; exact ⟨rfl, rfl, rfl, rfl⟩) (hh : C.hot = false := by rfl) :
    JE C E S (.Call (.Attribute o "get" apos) [i, x] [] cpos) ((getK kas k).getD av) S3 := by
  intro B σ φ F H Q hE kk q
  refine ⟨tDGet2 (WE C o) (WE C i) (WE C x), fun n => pe_dget2 (X := C.cx n) (hu_of (C.hr hh n)) (we C o n) (we C i n) (we C x n) (hm n), ?_⟩
  refine ho B σ φ F H _ hE kk fun u φ1 F1 H1 g1 k1 r1 => ?_
  obtain ⟨a, ea, rfl⟩ := id r1
  obtain ⟨ks, hks⟩ := Option.ne_none_iff_exists'.mp h1
  obtain ⟨es0, hH0, _⟩ := ok_ent k1 ea hks
  refine ⟨a, rfl, .inl ⟨es0, hH0⟩, ?_⟩
  refine hi B σ φ1 F1 H1 _ (hE.gr g1) k1 fun y φ2 F2 H2 g2 k2 r2 => ?_
  refine hx B σ φ2 F2 H2 _ (hE.gr (g1.trans g2)) k2 fun z φ3 F3 H3 g3 k3 r3 => ?_
  obtain ⟨a', ea', e'⟩ := r1.gr (g2.trans g3)
  cases e'
  obtain ⟨es, hH, ra⟩ := ok_ent k3 ea' hl
  have ey := dp_key r2 hk
  subst ey
  refine ⟨valV es k, .inl ⟨es, k, hH, rfl, rfl⟩, q _ φ3 F3 H3 (g1.trans (g2.trans g3)) k3 ?_⟩
  rcases relP_get ra k with ⟨h1, h2⟩ | ⟨v, d', h1, h2, r⟩
  · rw [h1, h2]; exact r3
  · rw [h1, h2]; exact r
theorem je_dget1 (ho : JE C E S o (.o l) S1) (hi : JE C E S1 i (.d kd) S2) (hk : keyD kd = some k) (h1 : entO S1[l]? ≠ none) (hl : entO S2[l]? = some kas) (hm : ∀ n : C.ι, M1 (C.cx n) o "get" apos i cpos := by intro _; exact ⟨rfl, rfl, rfl, rfl⟩) (hh : C.hot = false := by rfl) :
    JE C E S (.Call (.Attribute o "get" apos) [i] [] cpos) ((getK kas k).getD (.d .none)) S2 := by
  intro B σ φ F H Q hE kk q
  refine ⟨tDGet1 (WE C o) (WE C i), fun n => pe_dget1 (X := C.cx n) (hu_of (C.hr hh n)) (we C o n) (we C i n) (hm n), ?_⟩
  refine ho B σ φ F H _ hE kk fun u φ1 F1 H1 g1 k1 r1 => ?_
  obtain ⟨a, ea, rfl⟩ := id r1
  obtain ⟨ks, hks⟩ := Option.ne_none_iff_exists'.mp h1
  obtain ⟨es0, hH0, _⟩ := ok_ent k1 ea hks
  refine ⟨a, rfl, .inl ⟨es0, hH0⟩, ?_⟩
  refine hi B σ φ1 F1 H1 _ (hE.gr g1) k1 fun y φ2 F2 H2 g2 k2 r2 => ?_
  obtain ⟨a', ea', e'⟩ := r1.gr g2
  cases e'
  obtain ⟨es, hH, ra⟩ := ok_ent k2 ea' hl
  have ey := dp_key r2 hk
  subst ey
  refine ⟨valV es k, .inl ⟨es, k, hH, rfl, rfl⟩, q _ φ2 F2 H2 (g1.trans g2) k2 ?_⟩
  rcases relP_get ra k with ⟨h1, h2⟩ | ⟨v, d', h1, h2, r⟩
  · rw [h1, h2]; exact Dp.non
  · rw [h1, h2]; exact r
theorem je_dlen (hm : C.b.mg "len" = none) (ha : JE C E S a (.o l) S1) (hl : entO S1[l]? = some kas) (hg : C.sc.names.lookup ("len" : Str) = some .globalImplicit := by rfl) (hs : ∀ i : C.ι, starEach [a] (C.V i).env = (false, eval a (C.V i).env) :: starEach [] (C.V i).env := by intro _; rfl) (hpl : ∀ i : C.ι, (backTo pos (starEach [] (C.V i).env)).any (·.1) = false := by intro _; rfl) : JE C E S (.Call (.Name "len" p) [a] [] pos) (.d (.int kas.length)) S1 :=
  je_callB (fun i => call_lenRd (X := C.cx i)) (fun B φ F H xs Q k r0 q => by
    obtain ⟨x, rfl, a, ea, rfl⟩ := rvs1 r0
    obtain ⟨es, hH, ra⟩ := ok_ent k ea hl
    refine ⟨a, es, rfl, hH, ?_⟩
    rw [Paired.length ra]
    exact fin0 k q (.int _)) hm PySem.boot_len (ja_cons ha ja_nil hs) hg (by decide) (by decide) hs hpl
/-- d[k] = v -/
theorem jss_dput (he : JE C E S e (.d d) S1) (ho : JE C E S1 o (.o l) S2) (hi : JE C E S2 i (.d kd) S3) (hk : keyD kd = some k) (hl : S3[l]? = some (.dd kvs)) (hn : kvs.length < sizeLine) (h : JSs C E (S3.set l (.dd (setK kvs k d))) rest q)
    (hs : ∀ n : C.ι, swapsWith e (some (.Subscript o i pos')) pos.line (C.V n).env = pure false := by intro _; rfl) (hh : C.hot = false := by rfl) : JSs C E S (.Assign [.Subscript o i pos'] e pos :: rest) q :=
  jss_cons fun B σ φ F H D hE kk dd => ⟨sDPut (WE C o) (WE C i) (WE C e), fun n => ps_dput (X := C.cx n) (hu_of (C.hr hh n)) (we C o n) (we C i n) (we C e n) (hs n), by
    refine he B σ φ F H _ hE kk fun v φ1 F1 H1 g1 k1 r1 => ?_
    refine ho B σ φ1 F1 H1 _ (hE.gr g1) k1 fun x φ2 F2 H2 g2 k2 r2 => ?_
    refine hi B σ φ2 F2 H2 _ (hE.gr (g1.trans g2)) k2 fun y φ3 F3 H3 g3 k3 r3 => ?_
    obtain ⟨a, ea, rfl⟩ := r2.gr g3
    obtain ⟨n, es, hH, ra⟩ := k3.own l a _ ea hl
    have ey := dp_key r3 hk
    subst ey
    obtain ⟨k4, g4⟩ := k3.put (o := .dK (putK es k v)) (m := .dd (setK kvs k d)) ea ⟨n, _, upd_same, relP_put ra k (r1.gr (g2.trans g3))⟩ n
    exact ⟨a, _, rfl, .inl ⟨es, k, hH, rfl, by rw [Paired.length ra]; exact hn, rfl⟩, dd.nx _ _ φ3 F3 _ _ h (dd.gs (g1.trans (g2.trans (g3.trans g4)))) (hE.gr (g1.trans (g2.trans (g3.trans g4)))) k4⟩⟩
theorem jss_dputA (he : JE C E S e av S1) (ho : JE C E S1 o (.o l) S2) (hi : JE C E S2 i (.d kd) S3) (hk : keyD kd = some k) (hl : S3[l]? = some (.dk kas)) (hn : kas.length < sizeLine) (h : JSs C E (S3.set l (.dk (setK kas k av))) rest q)
    (hs : ∀ n : C.ι, swapsWith e (some (.Subscript o i pos')) pos.line (C.V n).env = pure false := by intro _; rfl) (hh : C.hot = false := by rfl) : JSs C E S (.Assign [.Subscript o i pos'] e pos :: rest) q :=
  jss_cons fun B σ φ F H D hE kk dd => ⟨sDPut (WE C o) (WE C i) (WE C e), fun n => ps_dput (X := C.cx n) (hu_of (C.hr hh n)) (we C o n) (we C i n) (we C e n) (hs n), by
    refine he B σ φ F H _ hE kk fun v φ1 F1 H1 g1 k1 r1 => ?_
    refine ho B σ φ1 F1 H1 _ (hE.gr g1) k1 fun x φ2 F2 H2 g2 k2 r2 => ?_
    refine hi B σ φ2 F2 H2 _ (hE.gr (g1.trans g2)) k2 fun y φ3 F3 H3 g3 k3 r3 => ?_
    obtain ⟨a, ea, rfl⟩ := r2.gr g3
    obtain ⟨n, es, hH, ra⟩ := k3.own l a _ ea hl
    have ey := dp_key r3 hk
    subst ey
    obtain ⟨k4, g4⟩ := k3.put (o := .dK (putK es k v)) (m := .dk (setK kas k av)) ea ⟨n, _, upd_same, relP_put ra k (r1.gr (g2.trans g3))⟩ n
    exact ⟨a, _, rfl, .inl ⟨es, k, hH, rfl, by rw [Paired.length ra]; exact hn, rfl⟩, dd.nx _ _ φ3 F3 _ _ h (dd.gs (g1.trans (g2.trans (g3.trans g4)))) (hE.gr (g1.trans (g2.trans (g3.trans g4)))) k4⟩⟩
/-- del d[k] -/
theorem jss_ddel (ho : JE C E S o (.o l) S1) (hi : JE C E S1 i (.d kd) S2) (hk : keyD kd = some k) (hl : S2[l]? = some (.dd kvs)) (hg : (getK kvs k).isSome = true) (h : JSs C E (S2.set l (.dd (delK kvs k))) rest q) : JSs C E S (.Delete [.Subscript o i tpos] pos :: rest) q :=
  jss_cons fun B σ φ F H D hE kk dd => ⟨sDDel (WE C o) (WE C i), fun n => ps_ddel (X := C.cx n) (we C o n) (we C i n), by
    refine ho B σ φ F H _ hE kk fun x φ1 F1 H1 g1 k1 r1 => ?_
    refine hi B σ φ1 F1 H1 _ (hE.gr g1) k1 fun y φ2 F2 H2 g2 k2 r2 => ?_
    obtain ⟨a, ea, rfl⟩ := r1.gr g2
    obtain ⟨n, es, hH, ra⟩ := k2.own l a _ ea hl
    have ey := dp_key r2 hk
    subst ey
    obtain ⟨k4, g4⟩ := k2.put (o := .dK (dropK es k)) (m := .dd (delK kvs k)) ea ⟨n, _, upd_same, relP_drop ra k⟩ n
    exact ⟨a, es, k, rfl, hH, rfl, by rw [relP_isSome ra]; exact hg, dd.nx _ _ φ2 F2 _ _ h (dd.gs (g1.trans (g2.trans g4))) (hE.gr (g1.trans (g2.trans g4))) k4⟩⟩
/-! ### fields -/
/-- what the text tells of a class with plain instances -/
structure OC (b : Bs) (n : Str) (A : Addr) (fs : List Str) : Prop where
  g : b.mg n = some (.ref A)
  c : Cls b.K A
  na : ∀ f ∈ fs, NoAttr b.K A f
theorem je_fld {Cl : Addr} {f : Str} {fs : List (Str × AV)} (ho : JE C E S o (.o l) S1) (hl : S1[l]? = some (.ins Cl fs)) (hf : fs.lookup f = some av) (hc : Cls C.b.K Cl) (hn : NoAttr C.b.K Cl f) (hb : ∀ i : C.ι, attributeBase o f (C.V i).env (eval o (C.V i).env) = eval o (C.V i).env := by intro _; rfl) : JE C E S (.Attribute o f pos) av S1 := by
  intro B σ φ F H Q hE kk q
  refine ⟨tFld C.b.K (WE C o) f, fun n => pe_fld (X := C.cx n) (we C o n) (hb n), ?_⟩
  refine ho B σ φ F H _ hE kk fun x φ1 F1 H1 g1 k1 r1 => ?_
  obtain ⟨a, ea, rfl⟩ := r1
  obtain ⟨n, dx, es, hH, ra⟩ := k1.own l a _ ea hl
  obtain ⟨v, hv, rv⟩ := relP_lookup ra hf
  exact ⟨a, Cl, dx, es, v, rfl, hH, hc, hn, hv, q v φ1 F1 H1 g1 k1 rv⟩
theorem jss_fld {Cl : Addr} {f : Str} {fs : List (Str × AV)} (he : JE C E S e av S1) (ho : JE C E S1 o (.o l) S2) (hl : S2[l]? = some (.ins Cl fs)) (hc : Cls C.b.K Cl) (hn : NoAttr C.b.K Cl f) (h : JSs C E (S2.set l (.ins Cl (putA f av fs))) rest q) (hfew : fs.length < 1000 := by exact Nat.le_of_ble_eq_true rfl)
    (hs : ∀ n : C.ι, swapsWith e (some (.Attribute o f pos')) pos.line (C.V n).env = pure false := by intro _; rfl) : JSs C E S (.Assign [.Attribute o f pos'] e pos :: rest) q :=
  jss_cons fun B σ φ F H D hE kk dd => ⟨sFld C.b.K (WE C o) (WE C e) f, fun n => ps_fld (X := C.cx n) (we C o n) (we C e n) (hs n), by
    refine he B σ φ F H _ hE kk fun v φ1 F1 H1 g1 k1 r1 => ?_
    refine ho B σ φ1 F1 H1 _ (hE.gr g1) k1 fun x φ2 F2 H2 g2 k2 r2 => ?_
    obtain ⟨a, ea, rfl⟩ := r2
    obtain ⟨n, dx, es, hH, ra⟩ := k2.own l a _ ea hl
    obtain ⟨k4, g4⟩ := k2.put (o := .ins Cl dx (putF f v es)) (m := .ins Cl (putA f av fs)) ea ⟨n, dx, _, upd_same, relP_putF ra f (r1.gr g2)⟩ n
    exact ⟨a, Cl, dx, es, rfl, hH, hc, hn, by rw [Paired.length ra]; exact hfew, dd.nx _ _ φ2 F2 _ _ h (dd.gs (g1.trans (g2.trans g4))) (hE.gr (g1.trans (g2.trans g4))) k4⟩⟩
/-- o.f += e of ints -/
theorem jss_fldadd {Cl : Addr} {f : Str} {fs : List (Str × AV)} {m n : Int} (ho : JE C E S o (.o l) S1) (hl : S1[l]? = some (.ins Cl fs)) (hf : fs.lookup f = some (.d (.int m))) (he : JE C E S1 e (.d (.int n)) S1) (hc : Cls C.b.K Cl) (hn : NoAttr C.b.K Cl f) (h : JSs C E (S1.set l (.ins Cl (putA f (.d (.int (m + n))) fs))) rest q) (hfew : fs.length < 1000 := by exact Nat.le_of_ble_eq_true rfl) :
    JSs C E S (.AugAssign (.Attribute o f tpos) .Add e pos :: rest) q :=
  jss_cons fun B σ φ F H D hE kk dd => ⟨sFldAug C.b.K (WE C o) (WE C e) rAdd f, fun n => ps_fldaug (X := C.cx n) (we C o n) (we C e n) in_add, by
    refine ho B σ φ F H _ hE kk fun x φ1 F1 H1 g1 k1 r1 => ?_
    obtain ⟨a, ea, rfl⟩ := id r1
    obtain ⟨n0, dx, es, hH, ra⟩ := k1.own l a _ ea hl
    obtain ⟨v, hv, rv⟩ := relP_lookup ra hf
    refine ⟨a, Cl, dx, es, v, rfl, hH, hc, hn, hv, he B σ φ1 F1 H1 _ (hE.gr g1) k1 fun y φ2 F2 H2 g2 k2 r2 => ?_⟩
    cases rv
    cases r2
    obtain ⟨a', ea', e'⟩ := r1.gr g2
    cases e'
    obtain ⟨n2, dx2, es2, hH2, ra2⟩ := k2.own l a _ ea' hl
    obtain ⟨k4, g4⟩ := k2.put (o := .ins Cl dx2 (putF f (.int (m + n)) es2)) (m := .ins Cl (putA f (.d (.int (m + n))) fs)) ea' ⟨n2, dx2, _, upd_same, relP_putF ra2 f (.int _)⟩ n2
    exact ⟨m, n, rfl, rfl, dx2, es2, hH2, by rw [Paired.length ra2]; exact hfew, dd.nx _ _ φ2 F2 _ _ h (dd.gs (g1.trans (g2.trans g4))) (hE.gr (g1.trans (g2.trans g4))) k4⟩⟩
theorem jss_fldsub {Cl : Addr} {f : Str} {fs : List (Str × AV)} {m n : Int} (ho : JE C E S o (.o l) S1) (hl : S1[l]? = some (.ins Cl fs)) (hf : fs.lookup f = some (.d (.int m))) (he : JE C E S1 e (.d (.int n)) S1) (hc : Cls C.b.K Cl) (hn : NoAttr C.b.K Cl f) (h : JSs C E (S1.set l (.ins Cl (putA f (.d (.int (m - n))) fs))) rest q) (hfew : fs.length < 1000 := by exact Nat.le_of_ble_eq_true rfl) :
    JSs C E S (.AugAssign (.Attribute o f tpos) .Sub e pos :: rest) q :=
  jss_cons fun B σ φ F H D hE kk dd => ⟨sFldAug C.b.K (WE C o) (WE C e) rSub f, fun n => ps_fldaug (X := C.cx n) (we C o n) (we C e n) in_sub, by
    refine ho B σ φ F H _ hE kk fun x φ1 F1 H1 g1 k1 r1 => ?_
    obtain ⟨a, ea, rfl⟩ := id r1
    obtain ⟨n0, dx, es, hH, ra⟩ := k1.own l a _ ea hl
    obtain ⟨v, hv, rv⟩ := relP_lookup ra hf
    refine ⟨a, Cl, dx, es, v, rfl, hH, hc, hn, hv, he B σ φ1 F1 H1 _ (hE.gr g1) k1 fun y φ2 F2 H2 g2 k2 r2 => ?_⟩
    cases rv
    cases r2
    obtain ⟨a', ea', e'⟩ := r1.gr g2
    cases e'
    obtain ⟨n2, dx2, es2, hH2, ra2⟩ := k2.own l a _ ea' hl
    obtain ⟨k4, g4⟩ := k2.put (o := .ins Cl dx2 (putF f (.int (m - n)) es2)) (m := .ins Cl (putA f (.d (.int (m - n))) fs)) ea' ⟨n2, dx2, _, upd_same, relP_putF ra2 f (.int _)⟩ n2
    exact ⟨m, n, rfl, rfl, dx2, es2, hH2, by rw [Paired.length ra2]; exact hfew, dd.nx _ _ φ2 F2 _ _ h (dd.gs (g1.trans (g2.trans g4))) (hE.gr (g1.trans (g2.trans g4))) k4⟩⟩
/-! ### lists of places -/
theorem je_lstA (ha : JA C E S es avs S1) (hl : avs.length ≤ sizeLine := by exact Nat.le_of_ble_eq_true rfl) : JE C E S (.List es pos) (.o S1.length) (S1 ++ [.lst avs]) := by
  intro B σ φ F H Q hE k q
  refine ⟨tLst (WA C es), fun i => pe_lst (wa C es i), ?_⟩
  refine ha B σ φ F H _ hE k fun vs φ1 F1 H1 g1 k1 r1 => ?_
  refine ⟨by rw [Paired.length r1]; exact hl, fun p hp => ?_⟩
  obtain ⟨k2, g2⟩ := k1.new (o := .lst vs) (m := .lst avs) hp fun hF => ⟨hF, vs, upd_same, Paired.mapP r1 fun _ _ q => rv_mono ⟨[p], rfl⟩ (Same.refl _) q⟩
  refine q _ _ _ _ (g1.trans g2) k2 ⟨p, ?_, rfl⟩
  rw [← k1.len]
  simp
theorem paired_get {α β : Type} {R : α → β → Prop} {xs : List α} {ys : List β} (h : Paired R xs ys) {m : Nat} {y : β} (e : ys[m]? = some y) : ∃ x, xs[m]? = some x ∧ R x y := by
  induction h generalizing m with
  | nil => simp at e
  | cons h t ih =>
    cases m with
    | zero => simp at e; subst e; exact ⟨_, rfl, h⟩
    | succ m => exact ih (by simpa using e)
theorem je_atA {n : Int} (ha : JE C E S a (.o l) S1) (hb : JE C E S1 b (.d (.int n)) S2) (hl : S2[l]? = some (.lst avs)) (h : atI avs n = some av) (hp : PlainIx b := by exact fun _ _ => rfl) : JE C E S (.Subscript a b pos) av S2 :=
  je_ix ha hb (fun B φ F H x y Q k r1 r2 q => by
    cases r2
    obtain ⟨a, ea, rfl⟩ := r1
    obtain ⟨n0, vs, hH, ra⟩ := k.own l a _ ea hl
    have hat : ∃ v, atI vs n = some v ∧ RV C.b.K φ F v av := by
      unfold atI at h ⊢
      rw [Paired.length ra]
      cases hx : ixN avs.length n with
      | none => rw [hx] at h; cases h
      | some m => rw [hx] at h; exact paired_get ra h
    obtain ⟨v, hv, rv⟩ := hat
    exact .inl ⟨a, vs, n, v, rfl, rfl, .inl (.inl hH), hv, fin0 k q rv⟩) hp
end
/-! ### defs over the store -/
def Cls0 (S : Sto) : Prop := ∀ o ∈ S, clO S.length o = true
inductive ResA where
  | ok (av : AV)
  | ex (x : XD)
def spO (b : Bs) (R : List AV → Sto → ResA → Sto → Prop) : Sp := fun vs H Q E => ∃ (avs : List AV) (S : Sto) (r : ResA) (S' : Sto) (B φ : List Addr) (F : Hp), R avs S r S' ∧ Ok b.K B φ F H S ∧ RVs b.K φ F vs avs ∧
  (∀ av, r = .ok av → ∀ v φ' F' H', Gr B φ F H φ' F' H' → Ok b.K B φ' F' H' S' → RV b.K φ' F' v av → Q v H') ∧
  (∀ x, r = .ex x → ∀ φ' F' H' cls d, Gr B φ F H φ' F' H' → Ok b.K B φ' F' H' S' → RepX b F' H' x cls d → E cls d H')
/-- the store behind a def: S' with what is let go -/
def Lets (S2 S' : Sto) : Prop := ∃ T, S2 = S' ++ T ∧ (T = [] ∨ Cls0 S')
theorem Lets.refl {S : Sto} : Lets S S := ⟨[], by simp, .inl rfl⟩
theorem Lets.app {S T : Sto} (h : Cls0 S) : Lets (S ++ T) S := ⟨T, rfl, .inr h⟩
theorem Lets.ok {K : PySem.W.Frag} {B φ : List Addr} {F H : Hp} {S2 S' : Sto} (h : Lets S2 S') (k : Ok K B φ F H S2) : ∃ φ', Ok K B φ' F H S' ∧ (∃ ψ, φ = φ' ++ ψ) ∧ φ'.length = S'.length := by
  obtain ⟨T, rfl, h⟩ := h
  rcases h with rfl | h
  · rw [List.append_nil] at k
    exact ⟨φ, k, ⟨[], by simp⟩, k.len⟩
  · obtain ⟨k2, hn⟩ := k.cut h
    exact ⟨φ.take S'.length, k2, ⟨φ.drop S'.length, (List.take_append_drop _ _).symm⟩, hn⟩
theorem gr_cut {B φ φ' ψ : List Addr} {F H F' H' : Hp} (g : Gr B φ F H (φ' ++ ψ) F' H') (hl : φ.length ≤ φ'.length) : Gr B φ F H φ' F' H' := by
  obtain ⟨χ, e⟩ := g.pre
  refine ⟨⟨φ'.drop φ.length, ?_⟩, g.ff, g.bb⟩
  have h1 : (φ' ++ ψ).take φ.length = φ := by rw [e, List.take_left]
  rw [List.take_append_of_le_length hl] at h1
  have h2 := List.take_append_drop φ.length φ'
  rw [h1] at h2
  exact h2.symm
theorem rv_cl {K : PySem.W.Frag} {φ ψ : List Addr} {F : Hp} {v : V} {av : AV} (hc : clA φ.length av = true) (h : RV K (φ ++ ψ) F v av) : RV K φ F v av := rv_cut hc (Same.refl F) h
theorem ok_closed {K : PySem.W.Frag} {B φ : List Addr} {F H : Hp} {S : Sto} (kk : Ok K B φ F H S) : Cls0 S := fun o ho => by
  obtain ⟨l, hl⟩ := List.mem_iff_getElem?.mp ho
  obtain ⟨a, _, ro⟩ := kk.at hl
  have hv : ∀ (y : V) (bv : AV), RV K φ F y bv → clA S.length bv = true := fun y bv h => by
    cases bv with
    | o m => obtain ⟨a', ea', _⟩ := h; rw [← kk.len]; exact decide_eq_true (List.getElem?_eq_some_iff.mp ea').1
    | _ => rfl
  cases o with
  | lst xs =>
    obtain ⟨_, vs, _, ra⟩ := ro
    refine List.all_eq_true.mpr fun y hy => ?_
    obtain ⟨m, hm⟩ := List.mem_iff_getElem?.mp hy
    obtain ⟨v, _, rv⟩ := paired_get ra hm
    exact hv v y rv
  | dk xs =>
    obtain ⟨_, vs, _, ra⟩ := ro
    refine List.all_eq_true.mpr fun y hy => ?_
    obtain ⟨m, hm⟩ := List.mem_iff_getElem?.mp hy
    obtain ⟨v, _, rv⟩ := paired_get ra hm
    exact hv v.2 y.2 rv.2
  | ins Cl xs =>
    obtain ⟨_, _, vs, _, ra⟩ := ro
    refine List.all_eq_true.mpr fun y hy => ?_
    obtain ⟨m, hm⟩ := List.mem_iff_getElem?.mp hy
    obtain ⟨v, _, rv⟩ := paired_get ra hm
    exact hv v.2 y.2 rv.2
  | fk xs =>
    obtain ⟨_, vs, _, _, ra⟩ := ro
    refine List.all_eq_true.mpr fun y hy => ?_
    obtain ⟨m, hm⟩ := List.mem_iff_getElem?.mp hy
    obtain ⟨v, _, rv⟩ := paired_get ra hm
    exact hv v.2 y.2 rv.2
  | _ => rfl
def CXo : Option Bool → Program → World → CXT
  | none, _, _ => CX0
  | some m, P, w => CXB m P w
theorem passO {m : Option Bool} {C : Fam} (h : m = none ∨ m = some true ∨ C.nn = false) (i : C.ι) (σ : L2.St) : PassesAt (CXo m (C.cx i).prog (C.cx i).w) (C.cx i) σ (L2.WE C.W σ) := by
  cases m with
  | none => exact fun _ _ _ _ _ _ h => h.elim
  | some m =>
    refine passB ?_ i σ
    rcases h with h | h | h
    · cases h
    · cases h; exact .inl rfl
    · exact .inr h
/-- the ends of a def over the store -/
def poO (r : ResA) (S' : Sto) : Po := { nx := fun _ S2 => r = .ok (.d .none) ∧ Lets S2 S', rt := fun bv S2 => r = .ok bv ∧ Lets S2 S' ∧ clA S'.length bv = true, xe := fun x _ S2 => r = .ex x ∧ Lets S2 S' }
section
variable {P : Program} {w : World} {K : PySem.W.Frag} {mg : Str → Option Value} {base : Heap}
theorem obj_ends {b : Bs} {C : Fam} {B φ : List Addr} {F H : Hp} {Q : VK} {E : XK} {r : ResA} {S S' : Sto} (hC : C.b = b) (ha : C.an = true) (hW : C.W = (fun cls d _ H => E cls d H) ∨ ∀ x, r ≠ .ex x) (kk : Ok b.K B φ F H S) (hl : S.length ≤ S'.length)
    (q : ∀ av, r = .ok av → ∀ v φ' F' H', Gr B φ F H φ' F' H' → Ok b.K B φ' F' H' S' → RV b.K φ' F' v av → Q v H')
    (qx : ∀ x, r = .ex x → ∀ φ' F' H' cls d, Gr B φ F H φ' F' H' → Ok b.K B φ' F' H' S' → RepX b F' H' x cls d → E cls d H') :
    ∃ d : DR C B φ F H { nx := fun _ H' => Q .non H', rt := Q } (poO r S'), True := by
  subst hC
  have main : ∀ {φ2 F2 H2 S2}, Lets S2 S' → GrA φ B F H φ2 F2 H2 → Ok C.b.K B φ2 F2 H2 S2 → ∃ φ', Gr B φ F H φ' F2 H2 ∧ Ok C.b.K B φ' F2 H2 S' ∧ (∃ ψ, φ2 = φ' ++ ψ) ∧ φ'.length = S'.length := fun {φ2 F2 H2 S2} hL g k2 => by
    obtain ⟨φ', k3, ⟨ψ, e⟩, hn⟩ := hL.ok k2
    subst e
    exact ⟨φ', gr_cut ⟨g.pre, g.s.ff, g.s.bb⟩ (by rw [hn, kk.len]; exact hl), k3, ⟨ψ, rfl⟩, hn⟩
  refine ⟨⟨φ, (fun h => by rw [ha] at h; cases h), ⟨[], by simp⟩, fun E2 σ φ2 F2 H2 S2 a g hE k2 => ?_, fun bv v φ2 F2 H2 S2 a g rv k2 => ?_, fun _ _ _ _ _ _ a => a.elim, fun _ _ _ _ _ _ a => a.elim, fun x E' σ φ2 F2 H2 S2 cls d a g hE k2 rx => ?_⟩, trivial⟩
  · obtain ⟨e, hL⟩ := a
    obtain ⟨φ', g', k3, _⟩ := main hL g k2
    exact q _ e .non φ' F2 H2 g' k3 .non
  · obtain ⟨e, hL, hc⟩ := a
    obtain ⟨φ', g', k3, ⟨ψ, e2⟩, hn⟩ := main hL g k2
    subst e2
    exact q _ e v φ' F2 H2 g' k3 (rv_cl (by rw [hn]; exact hc) rv)
  · obtain ⟨e, hL⟩ := a
    obtain ⟨φ', g', k3, _⟩ := main hL g k2
    rcases hW with hW | hW
    · rw [hW]
      exact qx x e φ' F2 H2 cls d g' k3 rx
    · exact absurd e (hW x)
/-- THE RULE for a def over the store that raises nothing -/
theorem fn_obj {x qual : Str} {st : Stmt} {f : Addr} {fd : FuncData} {N ps : List Str} {k : Nat} {R : List AV → Sto → ResA → Sto → Prop} (F : Fun K x qual st f fd) (Sc : FnScope N ps (defScope st)) (len : ∀ avs S r S', R avs S r S' → avs.length = ps.length ∧ S.length ≤ S'.length ∧ ∀ x, r ≠ .ex x)
    (body : ∀ (cd : Value) (A : Around) (outer : List Env) (s : Shared) (H : Hp) (hr : Room k (A.deeper (envOfC qual (defScope st) s.heap.objs.size f cd))) (avs : List AV) (S : Sto) (r : ResA) (S' : Sto), R avs S r S' → Cls0 S →
      JSs (defF ⟨P, w, K, mg, base⟩ N k qual (defScope st) f cd A outer s H Sc.nd hr true) (startE N avs) S (defBody st) (poO r S')) : FnOk P w K mg base CX0 (k + 1) f fd ps (spO ⟨P, w, K, mg, base⟩ R) := by
  refine F.ok Sc (fun vs H Q E h => ?_) fun cd A outer s H vs Q E hr h => ?_
  · obtain ⟨avs, S, r, S', B, φ, F, hR, _, hd, _⟩ := h
    rw [Paired.length hd]
    exact (len _ _ _ _ hR).1
  · obtain ⟨avs, S, r, S', B, φ, F', hR, kk, hd, q, qx⟩ := h
    obtain ⟨l1, l2, l3⟩ := len _ _ _ _ hR
    obtain ⟨dr, _⟩ := obj_ends (C := defF ⟨P, w, K, mg, base⟩ N k qual (defScope st) f cd A outer s H Sc.nd hr true) (Q := Q) (E := E) rfl rfl (.inr l3) kk l2 q qx
    obtain ⟨t, ht, hq⟩ := body cd A outer s H hr avs S r S' hR (ok_closed kk) B (L2.start N vs) φ F' H { nx := fun _ H' => Q .non H', rt := Q } (envr_start hd) kk dr
    exact ⟨t, ht (), hq⟩
/-- .. that may raise -/
theorem fn_objX (m : Bool) {x qual : Str} {st : Stmt} {f : Addr} {fd : FuncData} {N ps : List Str} {k : Nat} {R : List AV → Sto → ResA → Sto → Prop} (F : Fun K x qual st f fd) (Sc : FnScope N ps (defScope st)) (len : ∀ avs S r S', R avs S r S' → avs.length = ps.length ∧ S.length ≤ S'.length)
    (body : ∀ (cd : Value) (A : Around) (outer : List Env) (s : Shared) (H : Hp) (E : XK) (hr : Room k (A.deeper (envOfC qual (defScope st) s.heap.objs.size f cd))) (avs : List AV) (S : Sto) (r : ResA) (S' : Sto), R avs S r S' → Cls0 S →
      JSs (defFB m ⟨P, w, K, mg, base⟩ N k qual (defScope st) f cd A outer s H E Sc.nd hr true) (startE N avs) S (defBody st) (poO r S')) : FnOk P w K mg base (CXB m P w) (k + 1) f fd ps (spO ⟨P, w, K, mg, base⟩ R) := by
  have len' : ∀ vs H Q E, spO ⟨P, w, K, mg, base⟩ R vs H Q E → vs.length = ps.length := fun vs H Q E h => by
    obtain ⟨avs, S, r, S', B, φ, F, hR, _, hd, _⟩ := h
    rw [Paired.length hd]
    exact (len _ _ _ _ hR).1
  obtain ⟨oc, od, kV, doc, pm, an, cdv, ct, osl, rfl, lk, hcd⟩ := F.ex
  refine fn_of lk hcd Sc len' fun A outer s H vs Q E hr h => ?_
  obtain ⟨avs, S, r, S', B, φ, F', hR, kk, hd, q, qx⟩ := h
  obtain ⟨dr, _⟩ := obj_ends (C := defFB m ⟨P, w, K, mg, base⟩ N k qual (defScope st) f cdv A outer s H E Sc.nd hr true) (Q := Q) (E := E) rfl rfl (.inl rfl) kk (len _ _ _ _ hR).2 q qx
  obtain ⟨t, ht, hq⟩ := body cdv A outer s H E hr avs S r S' hR (ok_closed kk) B (L2.start N vs) φ F' H { nx := fun _ H' => Q .non H', rt := Q } (envr_start hd) kk dr
  exact ⟨t, ht (), hq⟩
end
structure CalO (m : Option Bool) (b : Bs) (x : Str) (j : Nat) (R : List AV → Sto → ResA → Sto → Prop) : Prop where
  ex : ∃ (f : Addr) (fd : FuncData) (ps : List Str), FnOk b.P b.w b.K b.mg b.base (CXo m b.P b.w) j f fd ps (spO b R) ∧ b.mg x = some (.ref f) ∧ PySem.W.keepIn b.K (.ref f) = true ∧ Binds b.K fd ps []
structure CalM (m : Option Bool) (b : Bs) (cn x : Str) (j : Nat) (R : List AV → Sto → ResA → Sto → Prop) : Prop where
  ex : ∃ (f : Addr) (fd : FuncData) (ps : List Str) (A : Addr), FnOk b.P b.w b.K b.mg b.base (CXo m b.P b.w) j f fd ps (spO b R) ∧ b.mg cn = some (.ref A) ∧ Cls b.K A ∧ Meth b.K A x f ∧ Binds b.K fd ps []
structure CalI (b : Bs) (cn : Str) (j : Nat) (R : List AV → Sto → ResA → Sto → Prop) : Prop where
  ex : ∃ (f : Addr) (fd : FuncData) (ps : List Str) (A : Addr), FnOk b.P b.w b.K b.mg b.base CX0 j f fd ps (spO b R) ∧ b.mg cn = some (.ref A) ∧ Mk b.K A f ∧ Binds b.K fd ps []
section
variable {X : Cx} {CX : CXT} {k : Nat} {f C : Addr} {fd : FuncData} {ps : List Str} {sp : Sp} {E : L2.St → XK} {x m : Str} {p pos apos : Pos} {e o : Expr} {es : List Expr} {ta : TE} {t : TA}
def tMethE (C : Addr) (m : Str) (sp : Sp) (E : L2.St → XK) (ta : TE) (t : TA) : TE := fun σ H Q => ta σ H fun x H1 => ∃ a dx fs, x = .ref a ∧ H1 a = some (.ins C dx fs) ∧ fs.lookup m = none ∧ t σ H1 fun vs H2 => sp (x :: vs) H2 Q (E σ)
theorem pe_methE {pl : Sem Bool} (he : PE X o ta) (c : Cls X.K C) (hm : Meth X.K C m f) (F : FnOk X.prog X.w X.K X.mg X.base CX k f fd ps sp) (hr : Room k X.A) (hb : Binds X.K fd ps []) (hx : ∀ σ, PassesAt CX X σ (E σ)) (ha : PA X (e :: es) t)
    (hst : starEach (e :: es) X.env = (false, eval e X.env) :: starEach es X.env := by rfl) (hpl : (backTo pos (starEach es X.env)).any (·.1) = false := by rfl)
    (ht : eval (.Call (.Attribute o m apos) (e :: es) [] pos) X.env = (do
      let ov ← eval o X.env
      standAt apos.atName
      let (f, first) ← holding [ov] (getMethod ov m pl)
      callWith pos f first (backTo pos (starEach (e :: es) X.env)) (backToKw pos (keywordEach [] X.env))) := by rfl) :
    PE X (.Call (.Attribute o m apos) (e :: es) [] pos) (tMethE C m sp E ta t) := by
  refine ⟨fun pins s σ H Q I h => ?_⟩
  refine PySem.W.methodCall_KW (pl := pl) (thn (he.run pins s σ H _ I h) fun u s1 ⟨x, H1, I1, rx, a, dx, fs, ex, ea, l, q⟩ => ?_) ht
  subst ex
  obtain rfl : u = Value.ref a := rx
  refine getmeth_ok I1 ea c hm l ?_
  refine PySem.W.callWith_K (first := [.ref a]) (h₀ := X.base) I.ok.mod.kin hm.kp (thn (ha.run pos pins s1 σ H1 _ I1 q) fun us s2 ⟨vs, H2, I2, r, q2⟩ => ⟨I2.kIn, ?_⟩) hst hpl
  exact run_fnS (us := .ref a :: us) (vs := .ref a :: vs) F hr hb (hx σ) I2 (.cons rfl r) q2
theorem pe_methE0 {pl : Sem Bool} (he : PE X o ta) (c : Cls X.K C) (hm : Meth X.K C m f) (F : FnOk X.prog X.w X.K X.mg X.base CX k f fd ps sp) (hr : Room k X.A) (hb : Binds X.K fd ps []) (hx : ∀ σ, PassesAt CX X σ (E σ))
    (ht : eval (.Call (.Attribute o m apos) [] [] pos) X.env = (do
      let ov ← eval o X.env
      standAt apos.atName
      let (f, first) ← holding [ov] (getMethod ov m pl)
      callWith pos f first (backTo pos (starEach [] X.env)) (backToKw pos (keywordEach [] X.env))) := by rfl) :
    PE X (.Call (.Attribute o m apos) [] [] pos) (tMethE C m sp E ta tNil) := by
  refine ⟨fun pins s σ H Q I h => ?_⟩
  refine PySem.W.methodCall_KW (pl := pl) (thn (he.run pins s σ H _ I h) fun u s1 ⟨x, H1, I1, rx, a, dx, fs, ex, ea, l, q⟩ => ?_) ht
  subst ex
  obtain rfl : u = Value.ref a := rx
  refine getmeth_ok I1 ea c hm l ?_
  exact PySem.W.callWith_K0 (first := [.ref a]) I1.kIn hm.kp (run_fnS (us := [.ref a]) (vs := [.ref a]) F hr hb (hx σ) I1 (.cons rfl .nil) q)
theorem pe_callS0 (F : FnOk X.prog X.w X.K X.mg X.base CX k f fd ps sp) (hr : Room k X.A) (hg : Gl X x) (hm : X.mg x = some (.ref f)) (hk : PySem.W.keepIn X.K (.ref f) = true) (hb : Binds X.K fd ps []) (hx : ∀ σ, PassesAt CX X σ (E σ))
    (hdb : (x == ("__debug__" : Str)) = false := by decide) : PE X (.Call (.Name x p) [] [] pos) (tCallS sp E tNil) := by
  refine ⟨fun pins s σ H Q I h => ?_⟩
  refine wpAny_Call_Name_kw (ld_glob I hg hm ?_ hdb)
  exact PySem.W.callWith_K0 I.kIn hk (run_fnS (us := []) F hr hb (hx σ) I .nil h)
end
section
variable {C : Fam} {E E' : AE} {S S1 S2 S3 S4 : Sto} {a b c e o : Expr} {es : List Expr} {av bv cv : AV} {avs : List AV} {pos p apos q0 : Pos} {rest : List Stmt} {q : Po} {x : XD} {l : Nat} {fs : List (Str × AV)}
/-- a call of a def over the store -/
theorem calo_te {m : Option Bool} {n : Str} {j : Nat} {R : List AV → Sto → ResA → Sto → Prop} (c : CalO m C.b n j R) (hm' : m = none ∨ m = some true ∨ C.nn = false) {r : ResA} (ha : JA C E S (e :: es) avs S1) (hR : R avs S1 r S2) (hj : j ≤ C.k)
    (hg : C.sc.names.lookup n = some .globalImplicit) (hdb : (n == ("__debug__" : Str)) = false) (he : ∀ i : C.ι, starEach (e :: es) (C.V i).env = (false, eval e (C.V i).env) :: starEach es (C.V i).env)
    (hpl : ∀ i : C.ι, (backTo pos (starEach es (C.V i).env)).any (·.1) = false) (hh : C.hot = false) :
    ∀ (B : List Addr) (σ : L2.St) (φ : List Addr) (F H : Hp) (Q : VK), EnvR C.b.K φ F σ E → Ok C.b.K B φ F H S →
      (∀ av, r = .ok av → ∀ v φ' F' H', Gr B φ F H φ' F' H' → Ok C.b.K B φ' F' H' S2 → RV C.b.K φ' F' v av → Q v H') →
      (∀ x, r = .ex x → ∀ φ' F' H' cls d, Gr B φ F H φ' F' H' → Ok C.b.K B φ' F' H' S2 → RepX C.b F' H' x cls d → C.W cls d σ H') → WE C (.Call (.Name n q0) (e :: es) [] pos) σ H Q := by
  obtain ⟨f, fd, ps, G, hm, kp, hb⟩ := c.ex
  intro B σ φ F H Q hE k qo qx
  refine ⟨tCallS (spO C.b R) (L2.WE C.W) (WA C (e :: es)), fun i => pe_callS (X := C.cx i) G ((C.hr hh i).mono hj) (gl_of hg i) hm kp hb (fun σ => passO hm' i σ) (wa C _ i) hdb (he i) (hpl i), ?_⟩
  refine ha B σ φ F H _ hE k fun vs φ1 F1 H1 g1 k1 r1 => ?_
  exact ⟨avs, S1, r, S2, B, φ1, F1, hR, k1, r1, fun av hav v φ' F' H' g2 k2 r2 => qo av hav v φ' F' H' (g1.trans g2) k2 r2, fun x hx φ' F' H' cls d g2 k2 r2 => qx x hx φ' F' H' cls d (g1.trans g2) k2 r2⟩
theorem je_clo {m : Option Bool} {n : Str} {j : Nat} {R : List AV → Sto → ResA → Sto → Prop} (c : CalO m C.b n j R) (ha : JA C E S (e :: es) avs S1) (hR : R avs S1 (.ok av) S2) (hj : j ≤ C.k := by exact Nat.le_of_ble_eq_true rfl)
    (hg : C.sc.names.lookup n = some .globalImplicit := by rfl) (hdb : (n == ("__debug__" : Str)) = false := by decide) (he : ∀ i : C.ι, starEach (e :: es) (C.V i).env = (false, eval e (C.V i).env) :: starEach es (C.V i).env := by intro _; rfl)
    (hpl : ∀ i : C.ι, (backTo pos (starEach es (C.V i).env)).any (·.1) = false := by intro _; rfl) (hh : C.hot = false := by rfl) (hm' : m = none ∨ m = some true ∨ C.nn = false := by first | exact .inl rfl | exact .inr (.inl rfl) | exact .inr (.inr rfl)) : JE C E S (.Call (.Name n q0) (e :: es) [] pos) av S2 := fun B σ φ F H Q hE k q =>
  calo_te c hm' ha hR hj hg hdb he hpl hh B σ φ F H Q hE k (fun d' hd v φ' F' H' g k' r => by cases hd; exact q v φ' F' H' g k' r) (fun x hx => by cases hx)
theorem jx_clo {m : Option Bool} {n : Str} {j : Nat} {R : List AV → Sto → ResA → Sto → Prop} (c : CalO m C.b n j R) (ha : JA C E S (e :: es) avs S1) (hR : R avs S1 (.ex x) S2) (hj : j ≤ C.k := by exact Nat.le_of_ble_eq_true rfl)
    (hg : C.sc.names.lookup n = some .globalImplicit := by rfl) (hdb : (n == ("__debug__" : Str)) = false := by decide) (he : ∀ i : C.ι, starEach (e :: es) (C.V i).env = (false, eval e (C.V i).env) :: starEach es (C.V i).env := by intro _; rfl)
    (hpl : ∀ i : C.ι, (backTo pos (starEach es (C.V i).env)).any (·.1) = false := by intro _; rfl) (hh : C.hot = false := by rfl) (hm' : m = none ∨ m = some true ∨ C.nn = false := by first | exact .inl rfl | exact .inr (.inl rfl) | exact .inr (.inr rfl)) : JX C E S (.Call (.Name n q0) (e :: es) [] pos) x S2 := fun B σ φ F H Q hE k q =>
  calo_te c hm' ha hR hj hg hdb he hpl hh B σ φ F H Q hE k (fun d' hd => by cases hd) (fun x' hx φ' F' H' cls d g k' r => by cases hx; exact q φ' F' H' cls d g k' r)
/-- a method's call -/
theorem calm_te {m : Option Bool} {cn n : Str} {j : Nat} {R : List AV → Sto → ResA → Sto → Prop} {Cl : Addr} (c : CalM m C.b cn n j R) (hm' : m = none ∨ m = some true ∨ C.nn = false) {r : ResA} (hcn : C.b.mg cn = some (.ref Cl)) (ho : JE C E S o (.o l) S1) (hl : S1[l]? = some (.ins Cl fs)) (hno : fs.lookup n = none) (ha : JA C E S1 (e :: es) avs S2) (hR : R (.o l :: avs) S2 r S3) (hj : j ≤ C.k)
    (he : ∀ i : C.ι, starEach (e :: es) (C.V i).env = (false, eval e (C.V i).env) :: starEach es (C.V i).env)
    (hpl : ∀ i : C.ι, (backTo pos (starEach es (C.V i).env)).any (·.1) = false) (hh : C.hot = false) {pl : C.ι → Sem Bool}
    (ht : ∀ i : C.ι, eval (.Call (.Attribute o n apos) (e :: es) [] pos) (C.V i).env = (do
      let ov ← eval o (C.V i).env
      standAt apos.atName
      let (f, first) ← holding [ov] (getMethod ov n (pl i))
      callWith pos f first (backTo pos (starEach (e :: es) (C.V i).env)) (backToKw pos (keywordEach [] (C.V i).env)))) :
    ∀ (B : List Addr) (σ : L2.St) (φ : List Addr) (F H : Hp) (Q : VK), EnvR C.b.K φ F σ E → Ok C.b.K B φ F H S →
      (∀ av, r = .ok av → ∀ v φ' F' H', Gr B φ F H φ' F' H' → Ok C.b.K B φ' F' H' S3 → RV C.b.K φ' F' v av → Q v H') →
      (∀ x, r = .ex x → ∀ φ' F' H' cls d, Gr B φ F H φ' F' H' → Ok C.b.K B φ' F' H' S3 → RepX C.b F' H' x cls d → C.W cls d σ H') → WE C (.Call (.Attribute o n apos) (e :: es) [] pos) σ H Q := by
  obtain ⟨f, fd, ps, A, G, hA, hcl, hme, hb⟩ := c.ex
  cases hA.symm.trans hcn
  intro B σ φ F H Q hE k qo qx
  refine ⟨tMethE Cl n (spO C.b R) (L2.WE C.W) (WE C o) (WA C (e :: es)), fun i => pe_methE (X := C.cx i) (pl := pl i) (we C o i) hcl hme G ((C.hr hh i).mono hj) hb (fun σ => passO hm' i σ) (wa C _ i) (he i) (hpl i) (ht i), ?_⟩
  refine ho B σ φ F H _ hE k fun y φ0 F0 H0 g0 k0 r0 => ?_
  obtain ⟨ad, ea, rfl⟩ := id r0
  obtain ⟨n0, dx, es0, hH, ra⟩ := k0.own l ad _ ea hl
  refine ⟨ad, dx, es0, rfl, hH, relP_lookN ra hno, ?_⟩
  refine ha B σ φ0 F0 H0 _ (hE.gr g0) k0 fun vs φ1 F1 H1 g1 k1 r1 => ?_
  exact ⟨.o l :: avs, S2, r, S3, B, φ1, F1, hR, k1, .cons (r0.gr g1) r1, fun av hav v φ' F' H' g2 k2 r2 => qo av hav v φ' F' H' (g0.trans (g1.trans g2)) k2 r2, fun x hx φ' F' H' cls d g2 k2 r2 => qx x hx φ' F' H' cls d (g0.trans (g1.trans g2)) k2 r2⟩
theorem je_mt {m : Option Bool} {cn n : Str} {j : Nat} {R : List AV → Sto → ResA → Sto → Prop} {Cl : Addr} (c : CalM m C.b cn n j R) (hcn : C.b.mg cn = some (.ref Cl)) (ho : JE C E S o (.o l) S1) (hl : S1[l]? = some (.ins Cl fs)) (ha : JA C E S1 (e :: es) avs S2) (hR : R (.o l :: avs) S2 (.ok av) S3) (hno : fs.lookup n = none := by rfl) (hj : j ≤ C.k := by exact Nat.le_of_ble_eq_true rfl)
    (he : ∀ i : C.ι, starEach (e :: es) (C.V i).env = (false, eval e (C.V i).env) :: starEach es (C.V i).env := by intro _; rfl)
    (hpl : ∀ i : C.ι, (backTo pos (starEach es (C.V i).env)).any (·.1) = false := by intro _; rfl) (hh : C.hot = false := by rfl) (hm' : m = none ∨ m = some true ∨ C.nn = false := by first | exact .inl rfl | exact .inr (.inl rfl) | exact .inr (.inr rfl)) {pl : C.ι → Sem Bool}
    (ht : ∀ i : C.ι, eval (.Call (.Attribute o n apos) (e :: es) [] pos) (C.V i).env = (do
      let ov ← eval o (C.V i).env
      standAt apos.atName
      let (f, first) ← holding [ov] (getMethod ov n (pl i))
      callWith pos f first (backTo pos (starEach (e :: es) (C.V i).env)) (backToKw pos (keywordEach [] (C.V i).env))) := by intro _; rfl) : JE C E S (.Call (.Attribute o n apos) (e :: es) [] pos) av S3 := fun B σ φ F H Q hE k q =>
  calm_te c hm' hcn ho hl hno ha hR hj he hpl hh ht B σ φ F H Q hE k (fun d' hd v φ' F' H' g k' r => by cases hd; exact q v φ' F' H' g k' r) (fun x hx => by cases hx)
theorem jx_mt {m : Option Bool} {cn n : Str} {j : Nat} {R : List AV → Sto → ResA → Sto → Prop} {Cl : Addr} (c : CalM m C.b cn n j R) (hcn : C.b.mg cn = some (.ref Cl)) (ho : JE C E S o (.o l) S1) (hl : S1[l]? = some (.ins Cl fs)) (ha : JA C E S1 (e :: es) avs S2) (hR : R (.o l :: avs) S2 (.ex x) S3) (hno : fs.lookup n = none := by rfl) (hj : j ≤ C.k := by exact Nat.le_of_ble_eq_true rfl)
    (he : ∀ i : C.ι, starEach (e :: es) (C.V i).env = (false, eval e (C.V i).env) :: starEach es (C.V i).env := by intro _; rfl)
    (hpl : ∀ i : C.ι, (backTo pos (starEach es (C.V i).env)).any (·.1) = false := by intro _; rfl) (hh : C.hot = false := by rfl) (hm' : m = none ∨ m = some true ∨ C.nn = false := by first | exact .inl rfl | exact .inr (.inl rfl) | exact .inr (.inr rfl)) {pl : C.ι → Sem Bool}
    (ht : ∀ i : C.ι, eval (.Call (.Attribute o n apos) (e :: es) [] pos) (C.V i).env = (do
      let ov ← eval o (C.V i).env
      standAt apos.atName
      let (f, first) ← holding [ov] (getMethod ov n (pl i))
      callWith pos f first (backTo pos (starEach (e :: es) (C.V i).env)) (backToKw pos (keywordEach [] (C.V i).env))) := by intro _; rfl) : JX C E S (.Call (.Attribute o n apos) (e :: es) [] pos) x S3 := fun B σ φ F H Q hE k q =>
  calm_te c hm' hcn ho hl hno ha hR hj he hpl hh ht B σ φ F H Q hE k (fun d' hd => by cases hd) (fun x' hx φ' F' H' cls d g k' r => by cases hx; exact q φ' F' H' cls d g k' r)
theorem calm_te0 {m : Option Bool} {cn n : Str} {j : Nat} {R : List AV → Sto → ResA → Sto → Prop} {Cl : Addr} (c : CalM m C.b cn n j R) (hm' : m = none ∨ m = some true ∨ C.nn = false) {r : ResA} (hcn : C.b.mg cn = some (.ref Cl)) (ho : JE C E S o (.o l) S1) (hl : S1[l]? = some (.ins Cl fs)) (hno : fs.lookup n = none) (hR : R [.o l] S1 r S3) (hj : j ≤ C.k) (hh : C.hot = false) {pl : C.ι → Sem Bool}
    (ht : ∀ i : C.ι, eval (.Call (.Attribute o n apos) [] [] pos) (C.V i).env = (do
      let ov ← eval o (C.V i).env
      standAt apos.atName
      let (f, first) ← holding [ov] (getMethod ov n (pl i))
      callWith pos f first (backTo pos (starEach [] (C.V i).env)) (backToKw pos (keywordEach [] (C.V i).env)))) :
    ∀ (B : List Addr) (σ : L2.St) (φ : List Addr) (F H : Hp) (Q : VK), EnvR C.b.K φ F σ E → Ok C.b.K B φ F H S →
      (∀ av, r = .ok av → ∀ v φ' F' H', Gr B φ F H φ' F' H' → Ok C.b.K B φ' F' H' S3 → RV C.b.K φ' F' v av → Q v H') →
      (∀ x, r = .ex x → ∀ φ' F' H' cls d, Gr B φ F H φ' F' H' → Ok C.b.K B φ' F' H' S3 → RepX C.b F' H' x cls d → C.W cls d σ H') → WE C (.Call (.Attribute o n apos) [] [] pos) σ H Q := by
  obtain ⟨f, fd, ps, A, G, hA, hcl, hme, hb⟩ := c.ex
  cases hA.symm.trans hcn
  intro B σ φ F H Q hE k qo qx
  refine ⟨tMethE Cl n (spO C.b R) (L2.WE C.W) (WE C o) tNil, fun i => pe_methE0 (X := C.cx i) (pl := pl i) (we C o i) hcl hme G ((C.hr hh i).mono hj) hb (fun σ => passO hm' i σ) (ht i), ?_⟩
  refine ho B σ φ F H _ hE k fun y φ0 F0 H0 g0 k0 r0 => ?_
  obtain ⟨ad, ea, rfl⟩ := id r0
  obtain ⟨n0, dx, es0, hH, ra⟩ := k0.own l ad _ ea hl
  exact ⟨ad, dx, es0, rfl, hH, relP_lookN ra hno, [.o l], S1, r, S3, B, φ0, F0, hR, k0, .cons r0 .nil, fun av hav v φ' F' H' g2 k2 r2 => qo av hav v φ' F' H' (g0.trans g2) k2 r2, fun x hx φ' F' H' cls d g2 k2 r2 => qx x hx φ' F' H' cls d (g0.trans g2) k2 r2⟩
theorem je_mt0 {m : Option Bool} {cn n : Str} {j : Nat} {R : List AV → Sto → ResA → Sto → Prop} {Cl : Addr} (c : CalM m C.b cn n j R) (hcn : C.b.mg cn = some (.ref Cl)) (ho : JE C E S o (.o l) S1) (hl : S1[l]? = some (.ins Cl fs)) (hR : R [.o l] S1 (.ok av) S3) (hno : fs.lookup n = none := by rfl) (hj : j ≤ C.k := by exact Nat.le_of_ble_eq_true rfl) (hh : C.hot = false := by rfl) (hm' : m = none ∨ m = some true ∨ C.nn = false := by first | exact .inl rfl | exact .inr (.inl rfl) | exact .inr (.inr rfl)) {pl : C.ι → Sem Bool}
    (ht : ∀ i : C.ι, eval (.Call (.Attribute o n apos) [] [] pos) (C.V i).env = (do
      let ov ← eval o (C.V i).env
      standAt apos.atName
      let (f, first) ← holding [ov] (getMethod ov n (pl i))
      callWith pos f first (backTo pos (starEach [] (C.V i).env)) (backToKw pos (keywordEach [] (C.V i).env))) := by intro _; rfl) : JE C E S (.Call (.Attribute o n apos) [] [] pos) av S3 := fun B σ φ F H Q hE k q =>
  calm_te0 c hm' hcn ho hl hno hR hj hh ht B σ φ F H Q hE k (fun d' hd v φ' F' H' g k' r => by cases hd; exact q v φ' F' H' g k' r) (fun x hx => by cases hx)
theorem jx_mt0 {m : Option Bool} {cn n : Str} {j : Nat} {R : List AV → Sto → ResA → Sto → Prop} {Cl : Addr} (c : CalM m C.b cn n j R) (hcn : C.b.mg cn = some (.ref Cl)) (ho : JE C E S o (.o l) S1) (hl : S1[l]? = some (.ins Cl fs)) (hR : R [.o l] S1 (.ex x) S3) (hno : fs.lookup n = none := by rfl) (hj : j ≤ C.k := by exact Nat.le_of_ble_eq_true rfl) (hh : C.hot = false := by rfl) (hm' : m = none ∨ m = some true ∨ C.nn = false := by first | exact .inl rfl | exact .inr (.inl rfl) | exact .inr (.inr rfl)) {pl : C.ι → Sem Bool}
    (ht : ∀ i : C.ι, eval (.Call (.Attribute o n apos) [] [] pos) (C.V i).env = (do
      let ov ← eval o (C.V i).env
      standAt apos.atName
      let (f, first) ← holding [ov] (getMethod ov n (pl i))
      callWith pos f first (backTo pos (starEach [] (C.V i).env)) (backToKw pos (keywordEach [] (C.V i).env))) := by intro _; rfl) : JX C E S (.Call (.Attribute o n apos) [] [] pos) x S3 := fun B σ φ F H Q hE k q =>
  calm_te0 c hm' hcn ho hl hno hR hj hh ht B σ φ F H Q hE k (fun d' hd => by cases hd) (fun x' hx φ' F' H' cls d g k' r => by cases hx; exact q φ' F' H' cls d g k' r)
/-- C(..): a new instance -/
theorem made_ok {K : PySem.W.Frag} {B φ : List Addr} {F H : Hp} {S : Sto} {Cl x dx : Addr} (k : Ok K B φ F H S) (hx : H x = none) (hdx : H dx = none) (ne : dx ≠ x) : ∃ F', Ok K B (φ ++ [x]) F' (upd (upd H dx (.own x)) x (.ins Cl dx [])) (S ++ [.ins Cl []]) ∧ Gr B φ F H (φ ++ [x]) F' (upd (upd H dx (.own x)) x (.ins Cl dx [])) := by
  obtain ⟨k1, g1⟩ := k.data (o := .own x) hdx
  have hx1 : upd H dx (.own x) x = none := by rw [upd_ne (Ne.symm ne)]; exact hx
  obtain ⟨k2, g2⟩ := k1.new (o := .ins Cl dx []) (m := .ins Cl []) hx1 fun hF => ⟨hF, dx, [], upd_same, .nil⟩
  exact ⟨_, k2, g1.trans g2⟩
theorem je_mk {cn : Str} {j : Nat} {R : List AV → Sto → ResA → Sto → Prop} {Cl : Addr} (c : CalI C.b cn j R) (hcn : C.b.mg cn = some (.ref Cl)) (ha : JA C E S (e :: es) avs S1) (hR : R (.o S1.length :: avs) (S1 ++ [.ins Cl []]) (.ok (.d .none)) S2) (hj : j + 1 ≤ C.k := by exact Nat.le_of_ble_eq_true rfl)
    (hg : C.sc.names.lookup cn = some .globalImplicit := by rfl) (hdb : (cn == ("__debug__" : Str)) = false := by decide) (he : ∀ i : C.ι, starEach (e :: es) (C.V i).env = (false, eval e (C.V i).env) :: starEach es (C.V i).env := by intro _; rfl)
    (hpl : ∀ i : C.ι, (backTo pos (starEach es (C.V i).env)).any (·.1) = false := by intro _; rfl) (hh : C.hot = false := by rfl) : JE C E S (.Call (.Name cn q0) (e :: es) [] pos) (.o S1.length) S2 := by
  obtain ⟨f, fd, ps, A, G, hA, hmk, hb⟩ := c.ex
  cases hA.symm.trans hcn
  intro B σ φ F H Q hE k q
  refine ⟨tMake Cl (spO C.b R) [] E0 (WA C (e :: es)), fun i => pe_make (X := C.cx i) hmk G ((C.hr hh i).mono hj) (gl_of hg i) hcn hb .nil pass0 (wa C _ i) hdb (he i) (hpl i), ?_⟩
  refine ha B σ φ F H _ hE k fun vs φ1 F1 H1 g1 k1 r1 => ?_
  intro x dx hx hdx ne
  obtain ⟨F2, k2, g2⟩ := made_ok (Cl := Cl) k1 hx hdx ne
  rw [List.append_nil]
  have hat : (φ1 ++ [x])[S1.length]? = some x := by rw [← k1.len]; simp
  refine ⟨.o S1.length :: avs, _, .ok (.d .none), S2, B, φ1 ++ [x], F2, hR, k2, .cons ⟨x, hat, rfl⟩ (r1.gr g2), fun av hav v φ' F' H' g3 k3 r3 => ?_, fun x hx => by cases hx⟩
  cases hav
  cases r3
  exact ⟨rfl, q (.ref x) φ' F' H' (g1.trans (g2.trans g3)) k3 (rv_mono (φ := φ1 ++ [x]) (F := F2) (av := .o S1.length) g3.pre g3.ff ⟨x, hat, rfl⟩)⟩
theorem je_mk0 {cn : Str} {j : Nat} {R : List AV → Sto → ResA → Sto → Prop} {Cl : Addr} (c : CalI C.b cn j R) (hcn : C.b.mg cn = some (.ref Cl)) (hR : R [.o S.length] (S ++ [.ins Cl []]) (.ok (.d .none)) S2) (hj : j + 1 ≤ C.k := by exact Nat.le_of_ble_eq_true rfl)
    (hg : C.sc.names.lookup cn = some .globalImplicit := by rfl) (hdb : (cn == ("__debug__" : Str)) = false := by decide) (hh : C.hot = false := by rfl) : JE C E S (.Call (.Name cn q0) [] [] pos) (.o S.length) S2 := by
  obtain ⟨f, fd, ps, A, G, hA, hmk, hb⟩ := c.ex
  cases hA.symm.trans hcn
  intro B σ φ F H Q hE k q
  refine ⟨tMake Cl (spO C.b R) [] E0 tNil, fun i => pe_make0 (X := C.cx i) hmk G ((C.hr hh i).mono hj) (gl_of hg i) hcn hb .nil pass0 hdb, ?_⟩
  intro x dx hx hdx ne
  obtain ⟨F2, k2, g2⟩ := made_ok (Cl := Cl) k hx hdx ne
  have hat : (φ ++ [x])[S.length]? = some x := by rw [← k.len]; simp
  refine ⟨[.o S.length], _, .ok (.d .none), S2, B, φ ++ [x], F2, hR, k2, .cons ⟨x, hat, rfl⟩ .nil, fun av hav v φ' F' H' g3 k3 r3 => ?_, fun x hx => by cases hx⟩
  cases hav
  cases r3
  exact ⟨rfl, q (.ref x) φ' F' H' (g2.trans g3) k3 (rv_mono (φ := φ ++ [x]) (F := F2) (av := .o S.length) g3.pre g3.ff ⟨x, hat, rfl⟩)⟩
end
end AL

namespace AL
open PySem PySem.Spec PyProof.Rows L2 TL
section
variable {prog : Program} {w : World} {A : Around} {E : Value → Shared → Prop} {s : Shared} {K : PySem.W.Frag} {C x f : Addr}
theorem special_own {name : Str} {args : List Value} {Q : Option Value → Shared → Prop} (X : K.In s.heap) (hT : PySem.W.Looks (model prog w) s.heap (typeOf (.ref x)) (.ref C)) (hf : PySem.W.findIn K (.ref C) name = some (some (.ref f))) (hfn : PySem.W.isFn K (.ref f) = true)
    (hc : wpAny (model prog w) A (call (.ref f) (.ref x :: args)) (fun v s' => Q (some v) s') E s) : wpAny (model prog w) A (callSpecial? (.ref x) name args) Q E s := by
  have hb : ∀ {Q' : Value × List Value → Shared → Prop}, Q' (.ref f, [.ref x]) s → wpAny (model prog w) A (bindSpecial (.ref f) (.ref x)) Q' E s := fun {Q'} q => by
    unfold bindSpecial
    refine wpAny_bind ((PySem.W.looks_typeIn X (beq_iff_eq.mp hfn)).here ?_)
    rw [if_pos (by decide)]
    exact wpAny_pure q
  unfold callSpecial? specialOf
  refine wpAny_bind (wpAny_bind (hT.here ((PySem.W.looks_findIn X hf).here ?_)))
  refine wpAny_holding (wpAny_bind (hb ?_))
  exact wpAny_bind (wpAny_mono hc (fun v s' h' => wpAny_pure h') fun _ _ h' => h')
end
/-- len(o), o's class with an own __len__ -/
theorem call_lenOwn {X : Cx} {C f : Addr} {fd : FuncData} {ps : List Str} {k : Nat} {sp : Sp} (hm : Meth X.K C "__len__" f) (F : FnOk X.prog X.w X.K X.mg X.base CX0 k f fd ps sp) (hr : Room (k + 1) X.A) (hb : Binds X.K fd ps []) :
    CallR X (.builtin "len") (fun xs H Q => ∃ a dx fs, xs = [V.ref a] ∧ H a = some (.ins C dx fs) ∧ sp [V.ref a] H (fun v H' => ∃ n : Nat, v = .int n ∧ n < 2 ^ 63 ∧ Q (.int n) H') E0) := by
  intro pins s σ H xs us Q I r h
  obtain ⟨a, dx, fs, rfl, ha, hsp⟩ := h
  obtain ⟨u, rfl, ru⟩ := vals1 r
  cases ru
  obtain ⟨mA, O, _, _, _, _⟩ := ins_get I.hok ha
  have hT : PySem.W.Looks (model X.prog X.w) s.heap (typeOf (.ref a)) (.ref C) := NwA.type_at O.obj rfl
  have hl : ([V.ref a] : List V).length = ps.length := F.len _ _ _ _ hsp
  refine Calls.call_function_entry kind_len plain_len entry_len (args_len1 _) ?_
  unfold Builtin.«len»
  refine wpAny_bind (m := oneArg "len" _) (wpAny_pure ?_)
  refine wpAny_bind (m := callSpecial? (.ref a) (Str.ofString "__len__")) (special_own I.kIn hT hm.at_ hm.fn (wpAny_call (codeAny_mono (F.run X.A.in1 X.stack s H ⟨[.ref a], []⟩ [.ref a] [V.ref a] _ E0 hr.in1 I.env0.in1 (by simpa using hb s [.ref a] I.kIn (by simpa using hl)) (.cons rfl .nil) hsp) fun r s' hq => ?_)))
  cases r with
  | error e => exact hq.elim
  | ok fl =>
    cases fl with
    | ret u =>
      obtain ⟨v, H', I', rv, n, ev, hn, q⟩ := I.after hq
      subst ev
      obtain ⟨t, rfl⟩ := (show ∃ t, u = Value.int n t from rv)
      refine wpAny_bind (wpAny_holding (wpAny_pure ?_))
      refine wpAny_bind (wpAny_letGo ?_)
      show wpAny _ _ (if ((n : Nat) : Int) < 0 then _ else _) _ _ _
      rw [if_neg (by omega)]
      show wpAny _ _ (if ((n : Nat) : Int) ≥ 2 ^ 63 then _ else _) _ _ _
      rw [if_neg (by omega)]
      exact wpAny_bind (wpAny_mkInt (wpAny_pure ⟨_, rfl, .int n, H', I'.tok _, ⟨_, rfl⟩, q⟩))
    | next => exact False.elim hq
    | brk => exact False.elim hq
    | cont => exact False.elim hq
section
variable {C : Fam} {E : AE} {S S1 S2 : Sto} {a : Expr} {pos p : Pos} {l : Nat} {fs : List (Str × AV)}
theorem je_lenO {cn : Str} {j : Nat} {R : List AV → Sto → ResA → Sto → Prop} {Cl : Addr} {n : Nat} (c : CalM none C.b cn "__len__" j R) (hcn : C.b.mg cn = some (.ref Cl)) (hm : C.b.mg "len" = none) (ha : JE C E S a (.o l) S1) (hl : S1[l]? = some (.ins Cl fs)) (hR : R [.o l] S1 (.ok (.d (.int n))) S2) (hn : n < 2 ^ 63) (hj : j + 1 ≤ C.k := by exact Nat.le_of_ble_eq_true rfl)
    (hg : C.sc.names.lookup ("len" : Str) = some .globalImplicit := by rfl) (hs : ∀ i : C.ι, starEach [a] (C.V i).env = (false, eval a (C.V i).env) :: starEach [] (C.V i).env := by intro _; rfl) (hpl : ∀ i : C.ι, (backTo pos (starEach [] (C.V i).env)).any (·.1) = false := by intro _; rfl) (hh : C.hot = false := by rfl) : JE C E S (.Call (.Name "len" p) [a] [] pos) (.d (.int n)) S2 := by
  obtain ⟨f, fd, ps, A, G, hA, hcl, hme, hb⟩ := c.ex
  cases hA.symm.trans hcn
  refine je_callB (fun i => call_lenOwn (X := C.cx i) hme G ((C.hr hh i).mono hj) hb) (fun B φ F H xs Q k r0 q => ?_) hm PySem.boot_len (ja_cons ha ja_nil hs) hg (by decide) (by decide) hs hpl
  obtain ⟨x, rfl, r⟩ := rvs1 r0
  obtain ⟨ad, ea, rfl⟩ := id r
  obtain ⟨n0, dx, es0, hH, ra⟩ := k.own l ad _ ea hl
  refine ⟨ad, dx, es0, rfl, hH, [.o l], S1, .ok (.d (.int n)), S2, B, φ, F, hR, k, .cons r .nil, fun av hav v φ' F' H' g k' r' => ?_, fun x hx => by cases hx⟩
  cases hav
  cases r'
  exact ⟨n, rfl, hn, q _ φ' F' H' g k' (.int _)⟩
end
/-! ### what the text tells of methods -/
def MethOf (b : Bs) (cn m : Str) (f : Addr) : Prop := ∃ A, b.mg cn = some (.ref A) ∧ Cls b.K A ∧ Meth b.K A m f
def MkOf (b : Bs) (cn : Str) (f : Addr) : Prop := ∃ A, b.mg cn = some (.ref A) ∧ Mk b.K A f
theorem je_castI {C : Fam} {E : AE} {S S1 : Sto} {e : Expr} {d d' : PyData} (h : JE C E S e (.d d) S1) (he : d = d') : JE C E S e (.d d') S1 := he ▸ h
theorem set_same {S : Sto} {n : Nat} {o : MO} (h : S[n]? = some o) : S.set n o = S := by
  apply List.ext_getElem?
  intro i
  by_cases e : n = i
  · subst e
    rw [List.getElem?_set_self (List.getElem?_eq_some_iff.mp h).1, h]
  · rw [List.getElem?_set_ne e]
theorem cls0_set {S : Sto} (h : Cls0 S) {n : Nat} {o : MO} (ho : clO S.length o = true) : Cls0 (S.set n o) := fun x hx => by
  rw [List.length_set]
  rcases List.mem_or_eq_of_mem_set hx with hx | rfl
  · exact h x hx
  · exact ho
end AL

namespace AL
open PySem PySem.Spec PyProof.Rows L2 TL
/-! ### what is frozen but for dicts -/
def SameD (F F' : Hp) : Prop := ∀ b u, F b = some u → (∀ o es, u ≠ .frz o (.dK es)) → (∀ o es, u ≠ .frz o (.dT es)) → F' b = some u
mutual
theorem dp_weak {K : PySem.W.Frag} {F F' : Hp} (h : SameD F F') : ∀ (d : PyData) (v : V), Dp K F v d → Dp K F' v d
  | .none, _, q => by cases q; exact .non
  | .bool b, _, q => by cases q; exact .bl b
  | .int i, _, q => by cases q; exact .int i
  | .str x, _, q => by cases q; exact .str x
  | .list ds, _, q => by
    cases q with
    | lst hs ha =>
      refine .lst ?_ (dpa_weak h ds _ ha)
      rcases hs with (hs | ⟨o, hs⟩) | hs
      · exact .inl (.inl (h _ _ hs (fun o es z => by cases z) (fun o es z => by cases z)))
      · exact .inl (.inr ⟨o, h _ _ hs (fun o es z => by cases z) (fun o es z => by cases z)⟩)
      · exact .inr hs
  | .tuple ds, _, q => by
    cases q with
    | tup hs ha =>
      refine .tup ?_ (dpa_weak h ds _ ha)
      rcases hs with (hs | ⟨o, hs⟩) | hs
      · exact .inl (.inl (h _ _ hs (fun o es z => by cases z) (fun o es z => by cases z)))
      · exact .inl (.inr ⟨o, h _ _ hs (fun o es z => by cases z) (fun o es z => by cases z)⟩)
      · exact .inr hs
  | .dict _, _, q => by cases q
theorem dpa_weak {K : PySem.W.Frag} {F F' : Hp} (h : SameD F F') : ∀ (ds : List PyData) (vs : List V), DpAll K F vs ds → DpAll K F' vs ds
  | [], _, q => by cases q; exact .nil
  | d :: ds, _, q => by
    cases q with
    | cons h1 h2 => exact .cons (dp_weak h d _ h1) (dpa_weak h ds _ h2)
end
theorem rv_weak {K : PySem.W.Frag} {φ : List Addr} {F F' : Hp} (h : SameD F F') {v : V} {av : AV} (r : RV K φ F v av) : RV K φ F' v av := by
  cases av with
  | d y => exact dp_weak h _ _ r
  | o l => exact r
  | v y => exact r
theorem ro_weak {K : PySem.W.Frag} {φ : List Addr} {F F' H H' : Hp} {a : Addr} {o : MO} (s : SameD F F') (hF : F' a = F a) (hH : H' a = H a) (h : RO K φ F H a o) : RO K φ F' H' a o := by
  cases o with
  | dead => obtain ⟨u, e⟩ := h; exact ⟨u, by rw [hH]; exact e⟩
  | ld xs => obtain ⟨n, vs, e, r⟩ := h; exact ⟨by rw [hF]; exact n, vs, by rw [hH]; exact e, dpa_weak s _ _ r⟩
  | lst xs => obtain ⟨n, vs, e, r⟩ := h; exact ⟨by rw [hF]; exact n, vs, by rw [hH]; exact e, Paired.mapP r fun _ _ q => rv_weak s q⟩
  | dd kvs => obtain ⟨n, vs, e, r⟩ := h; exact ⟨by rw [hF]; exact n, vs, by rw [hH]; exact e, Paired.mapP r fun _ _ q => ⟨q.1, dp_weak s _ _ q.2⟩⟩
  | dk kvs => obtain ⟨n, vs, e, r⟩ := h; exact ⟨by rw [hF]; exact n, vs, by rw [hH]; exact e, Paired.mapP r fun _ _ q => ⟨q.1, rv_weak s q.2⟩⟩
  | ins C fs => obtain ⟨n, dx, vs, e, r⟩ := h; exact ⟨by rw [hF]; exact n, dx, vs, by rw [hH]; exact e, Paired.mapP r fun _ _ q => ⟨q.1, rv_weak s q.2⟩⟩
  | dt kvs => obtain ⟨n, vs, e, r⟩ := h; exact ⟨by rw [hF]; exact n, vs, by rw [hH]; exact e, Paired.mapP r fun _ _ q => ⟨q.1, dp_weak s _ _ q.2⟩⟩
  | fd kvs => obtain ⟨o, vs, n, e, r⟩ := h; exact ⟨o, vs, by rw [hF]; exact n, by rw [hH]; exact e, Paired.mapP r fun _ _ q => ⟨q.1, dp_weak s _ _ q.2⟩⟩
  | fk kvs => obtain ⟨o, vs, n, e, r⟩ := h; exact ⟨o, vs, by rw [hF]; exact n, by rw [hH]; exact e, Paired.mapP r fun _ _ q => ⟨q.1, rv_weak s q.2⟩⟩
  | ft kvs => obtain ⟨o, vs, n, e, r⟩ := h; exact ⟨o, vs, by rw [hF]; exact n, by rw [hH]; exact e, Paired.mapP r fun _ _ q => ⟨q.1, dp_weak s _ _ q.2⟩⟩
def delH (H : Hp) (a : Addr) : Hp := fun b => if b = a then none else H b
theorem delH_ne {H : Hp} {a b : Addr} (h : b ≠ a) : delH H a b = H b := if_neg h
theorem delH_same {H : Hp} {a : Addr} : delH H a a = none := if_pos rfl
theorem dpa_keys {K : PySem.W.Frag} {F : Hp} : ∀ ks : List Key, DpAll K F (ks.map kV) (ks.map fun k => match k with | .inl i => PyData.int i | .inr x => PyData.str x)
  | [] => .nil
  | .inl i :: ks => .cons (.int i) (dpa_keys ks)
  | .inr x :: ks => .cons (.str x) (dpa_keys ks)
/-- a dict's kind, open and locked -/
inductive LkK : MO → MO → Prop where
  | dd (kvs : List (Key × PyData)) : LkK (.dd kvs) (.fd kvs)
  | dk (kvs : List (Key × AV)) : LkK (.dk kvs) (.fk kvs)
  | dt (kvs : List (List Key × PyData)) : LkK (.dt kvs) (.ft kvs)
section
variable {K : PySem.W.Frag} {B φ : List Addr} {F H : Hp} {S : Sto} {l : Nat} {a : Addr} {m m' : MO}
theorem Ok.lock (k : Ok K B φ F H S) (lk : LkK m m') (ha : φ[l]? = some a) (hl : S[l]? = some m) : ∃ u, H a = some u ∧ F a = none ∧ (∃ es, u = .dK es ∨ ∃ es, u = .dT es) ∧ ∀ od, Ok K B φ (upd F a (.frz od u)) (upd H a (.frz od u)) (S.set l m') ∧ Gr B φ F H φ (upd F a (.frz od u)) (upd H a (.frz od u)) := by
  have ro := k.own l a _ ha hl
  obtain ⟨u, hH, hF, hu, ho⟩ : ∃ u, H a = some u ∧ F a = none ∧ (∃ es, u = .dK es ∨ ∃ es, u = .dT es) ∧ ∀ od, RO K φ (upd F a (.frz od u)) (upd H a (.frz od u)) a m' := by
    have sF : F a = none → ∀ o, Same F (upd F a o) := fun n o b u e => by rw [upd_ne (ne_of_none e n)]; exact e
    cases lk with
    | dd kvs => obtain ⟨n, es, e, r⟩ := ro; exact ⟨_, e, n, ⟨es, .inl rfl⟩, fun od => ⟨od, es, upd_same, upd_same, Paired.mapP r fun _ _ q => ⟨q.1, dp_mono (sF n _) _ _ q.2⟩⟩⟩
    | dk kvs => obtain ⟨n, es, e, r⟩ := ro; exact ⟨_, e, n, ⟨es, .inl rfl⟩, fun od => ⟨od, es, upd_same, upd_same, Paired.mapP r fun _ _ q => ⟨q.1, rv_mono ⟨[], by simp⟩ (sF n _) q.2⟩⟩⟩
    | dt kvs => obtain ⟨n, es, e, r⟩ := ro; exact ⟨_, e, n, ⟨[], .inr ⟨es, rfl⟩⟩, fun od => ⟨od, es, upd_same, upd_same, Paired.mapP r fun _ _ q => ⟨q.1, dp_mono (sF n _) _ _ q.2⟩⟩⟩
  have nB := k.dis a (List.mem_of_getElem? ha)
  refine ⟨u, hH, hF, hu, fun od => ?_⟩
  have sF : Same F (upd F a (.frz od u)) := fun b u e => by rw [upd_ne (ne_of_none e hF)]; exact e
  refine ⟨⟨fun b w e => ?_, k.nd, k.dis, fun b hb => ?_, by rw [List.length_set]; exact k.len, fun j b o h1 h2 => ?_⟩, ⟨[], by simp⟩, sF, fun b hb => ?_⟩
  · by_cases hb : b = a
    · subst hb; rw [upd_same] at e ⊢; exact e
    · rw [upd_ne hb] at e ⊢; exact k.sub _ _ e
  · rw [upd_ne (fun (e : b = a) => nB (e ▸ hb))]; exact k.bs b hb
  · by_cases hj : j = l
    · subst hj
      rw [ha] at h1
      cases h1
      rw [List.getElem?_set_self (by rw [← k.len]; exact (List.getElem?_eq_some_iff.mp ha).1)] at h2
      cases h2
      exact ho od
    · rw [List.getElem?_set_ne (fun e => hj e.symm)] at h2
      have hba : b ≠ a := fun e => hj (k.inj h1 (e ▸ ha))
      exact ro_mono ⟨[], by simp⟩ sF (upd_ne hba) (upd_ne hba) (k.own j b o h1 h2)
  · have hba : b ≠ a := fun e => nB (e ▸ hb)
    exact ⟨upd_ne hba, upd_ne hba⟩
theorem Ok.unlock (k : Ok K B φ F H S) (lk : LkK m m') (ha : φ[l]? = some a) (hl : S[l]? = some m') {od : Obj} {u : HO} (hF : F a = some (.frz od u)) : H a = some (.frz od u) ∧ SameD F (delH F a) ∧ Ok K B φ (delH F a) (upd H a u) (S.set l m) := by
  have ro := k.own l a _ ha hl
  have hHa := k.sub _ _ hF
  have nB := k.dis a (List.mem_of_getElem? ha)
  have hu : (∃ es, u = .dK es) ∨ ∃ es, u = .dT es := by
    cases lk with
    | dd kvs => obtain ⟨o, es, f, e, r⟩ := ro; rw [hF] at f; cases f; exact .inl ⟨_, rfl⟩
    | dk kvs => obtain ⟨o, es, f, e, r⟩ := ro; rw [hF] at f; cases f; exact .inl ⟨_, rfl⟩
    | dt kvs => obtain ⟨o, es, f, e, r⟩ := ro; rw [hF] at f; cases f; exact .inr ⟨_, rfl⟩
  have sD : SameD F (delH F a) := fun b w e n1 n2 => by
    by_cases hb : b = a
    · subst hb
      rw [hF] at e
      cases e
      rcases hu with ⟨es, rfl⟩ | ⟨es, rfl⟩
      · exact absurd rfl (n1 _ _)
      · exact absurd rfl (n2 _ _)
    · rw [delH_ne hb]; exact e
  refine ⟨hHa, sD, fun b w e => ?_, k.nd, k.dis, fun b hb => ?_, by rw [List.length_set]; exact k.len, fun j b o h1 h2 => ?_⟩
  · by_cases hb : b = a
    · subst hb; rw [delH_same] at e; cases e
    · rw [delH_ne hb] at e; rw [upd_ne hb]; exact k.sub _ _ e
  · rw [upd_ne (fun (e : b = a) => nB (e ▸ hb))]; exact k.bs b hb
  · by_cases hj : j = l
    · subst hj
      rw [ha] at h1
      cases h1
      rw [List.getElem?_set_self (by rw [← k.len]; exact (List.getElem?_eq_some_iff.mp ha).1)] at h2
      cases h2
      cases lk with
      | dd kvs => obtain ⟨o, es, f, e, r⟩ := ro; rw [hF] at f; cases f; exact ⟨delH_same, es, upd_same, Paired.mapP r fun _ _ q => ⟨q.1, dp_weak sD _ _ q.2⟩⟩
      | dk kvs => obtain ⟨o, es, f, e, r⟩ := ro; rw [hF] at f; cases f; exact ⟨delH_same, es, upd_same, Paired.mapP r fun _ _ q => ⟨q.1, rv_weak sD q.2⟩⟩
      | dt kvs => obtain ⟨o, es, f, e, r⟩ := ro; rw [hF] at f; cases f; exact ⟨delH_same, es, upd_same, Paired.mapP r fun _ _ q => ⟨q.1, dp_weak sD _ _ q.2⟩⟩
    · rw [List.getElem?_set_ne (fun e => hj e.symm)] at h2
      have hba : b ≠ a := fun e => hj (k.inj h1 (e ▸ ha))
      exact ro_weak sD (delH_ne hba) (upd_ne hba) (k.own j b o h1 h2)
theorem EnvR.weakD {F' : Hp} {σ : L2.St} {E : AE} (h : EnvR K φ F σ E) (s : SameD F F') : EnvR K φ F' σ E := ⟨h.len, fun i av e => let ⟨v, e1, r⟩ := h.get i av e; ⟨v, e1, rv_weak s r⟩⟩
theorem gr_unlock {φ' : List Addr} {F' H' : Hp} {u o : HO} (g : GrA φ B (upd F a o) (upd H a o) φ' F' H') (hF : F a = none) (ha : a ∉ B) : GrA φ B F H φ' (delH F' a) (upd H' a u) := by
  refine ⟨⟨fun b w e => ?_, fun b hb => ?_⟩, g.pre⟩
  · have hb : b ≠ a := fun z => by rw [z, hF] at e; cases e
    rw [delH_ne hb]
    exact g.s.ff _ _ (by rw [upd_ne hb]; exact e)
  · have hba : b ≠ a := fun z => ha (z ▸ hb)
    have := g.s.bb b hb
    rw [upd_ne hba, upd_ne hba] at this
    rw [upd_ne hba, delH_ne hba]
    exact this
end
def lockP (l : Nat) (m m' : MO) (q : Po) : Po := { nx := fun E S => S[l]? = some m' ∧ q.nx E (S.set l m), rt := fun av S => S[l]? = some m' ∧ q.rt av (S.set l m), bk := fun E S => S[l]? = some m' ∧ q.bk E (S.set l m), ct := fun E S => S[l]? = some m' ∧ q.ct E (S.set l m), xe := q.xe }
section
variable {C : Fam} {E E' : AE} {S S1 S2 S3 : Sto} {a b c e o i tg iter : Expr} {es : List Expr} {av bv : AV} {avs : List AV} {pos p apos cpos : Pos} {d : PyData} {ds : List PyData} {l : Nat} {kvs : List (Key × PyData)} {kas : List (Key × AV)} {kts : List (List Key × PyData)} {m m' : MO} {st : Stmt} {rest body : List Stmt} {q : Po}
/-- a statement under a lock -/
theorem jss_lock (lk : LkK m m') (hl : S[l]? = some m) (h : JS C E (S.set l m') st (lockP l m m' (q.then C rest))) (hC : C.an = true := by rfl) : JSs C E S (st :: rest) q := by
  refine jss_cons fun B σ φ F H D hE k d => ?_
  obtain ⟨ad, ea, ro⟩ := k.at hl
  obtain ⟨u, hH, hF, hu, hk⟩ := k.lock lk ea hl
  have nB := k.dis ad (List.mem_of_getElem? ea)
  refine ⟨tLock (WS C st), fun i => ps_lock (ws C st i), ad, u, hH, ?_, fun od => ?_⟩
  · obtain ⟨es, rfl | ⟨es', rfl⟩⟩ := hu <;> trivial
  obtain ⟨k1, g1⟩ := hk od
  have main : ∀ {φ' F' H'} {S' : Sto}, S'[l]? = some m' → GrA φ B (upd F ad (.frz od u)) (upd H ad (.frz od u)) φ' F' H' → Ok C.b.K B φ' F' H' S' → H' ad = some (.frz od u) ∧ SameD F' (delH F' ad) ∧ Ok C.b.K B φ' (delH F' ad) (upd H' ad u) (S'.set l m) ∧ GrA d.an B F H φ' (delH F' ad) (upd H' ad u) := fun {φ' F' H' S'} hl' g k' => by
    have ea' : φ'[l]? = some ad := by
      obtain ⟨ψ, e⟩ := g.pre
      rw [e, List.getElem?_append_left (List.getElem?_eq_some_iff.mp ea).1]
      exact ea
    have hF' : F' ad = some (.frz od u) := g.s.ff _ _ upd_same
    obtain ⟨h1, h2, h3⟩ := k'.unlock lk ea' hl' hF'
    have g2 := gr_unlock (u := u) g hF nB
    refine ⟨h1, h2, h3, g2.s, ?_⟩
    obtain ⟨ψ, e⟩ := g2.pre
    obtain ⟨χ, e2⟩ := d.st
    exact ⟨χ ++ ψ, e.trans ((congrArg (· ++ ψ) e2).trans (List.append_assoc _ _ _))⟩
  refine h B σ φ _ _ _ (hE.gr g1) k1 ⟨φ, fun z => (by rw [hC] at z; cases z), ⟨[], by simp⟩, fun E' σ' φ' F' H' S' a g hE' k' => ?_, fun bv v φ' F' H' S' a g r' k' => ?_, fun E' σ' φ' F' H' S' a g hE' k' => ?_, fun E' σ' φ' F' H' S' a g hE' k' => ?_, fun x E' σ' φ' F' H' S' cls dd a g hE' k' rx => ?_⟩
  · obtain ⟨h1, h2, h3, h4⟩ := main a.1 g k'
    exact ⟨h1, d.nx E' σ' φ' _ _ _ a.2 h4 (hE'.weakD h2) h3⟩
  · obtain ⟨h1, h2, h3, h4⟩ := main a.1 g k'
    exact ⟨h1, d.rt bv v φ' _ _ _ a.2 h4 (rv_weak h2 r') h3⟩
  · obtain ⟨h1, h2, h3, h4⟩ := main a.1 g k'
    exact ⟨h1, d.bk E' σ' φ' _ _ _ a.2 h4 (hE'.weakD h2) h3⟩
  · obtain ⟨h1, h2, h3, h4⟩ := main a.1 g k'
    exact ⟨h1, d.ct E' σ' φ' _ _ _ a.2 h4 (hE'.weakD h2) h3⟩
  · refine d.xe x E' σ' φ' F' H' S' cls dd a ⟨⟨g1.ff.trans g.s.ff, fun b hb => ⟨(g.s.bb b hb).1.trans (g1.bb b hb).1, (g.s.bb b hb).2.trans (g1.bb b hb).2⟩⟩, ?_⟩ hE' k' rx
    obtain ⟨ψ, e⟩ := g.pre
    obtain ⟨χ, e2⟩ := d.st
    exact ⟨χ ++ ψ, e.trans ((congrArg (· ++ ψ) e2).trans (List.append_assoc _ _ _))⟩
/-- an expression under a lock -/
theorem je_lock (lk : LkK m m') (hl : S[l]? = some m) (h : JE C E (S.set l m') e av S1) (hl1 : S1[l]? = some m') : JE C E S e av (S1.set l m) := by
  intro B σ φ F H Q hE k q
  obtain ⟨ad, ea, ro⟩ := k.at hl
  obtain ⟨u, hH, hF, hu, hk⟩ := k.lock lk ea hl
  have nB := k.dis ad (List.mem_of_getElem? ea)
  refine ⟨tLockE (WE C e), fun i => pe_lock (we C e i), ad, u, hH, ?_, fun od => ?_⟩
  · obtain ⟨es, rfl | ⟨es', rfl⟩⟩ := hu <;> trivial
  obtain ⟨k1, g1⟩ := hk od
  refine h B σ φ _ _ _ (hE.gr g1) k1 fun v φ' F' H' g k' r' => ?_
  have ea' : φ'[l]? = some ad := by
    obtain ⟨ψ, e⟩ := g.pre
    rw [e, List.getElem?_append_left (List.getElem?_eq_some_iff.mp ea).1]
    exact ea
  have hF' : F' ad = some (.frz od u) := g.ff _ _ upd_same
  obtain ⟨h1, h2, h3⟩ := k'.unlock lk ea' hl1 hF'
  have g2 := gr_unlock (u := u) (φ := φ) (F := F) (H := H) ⟨g.s, g.pre⟩ hF nB
  exact ⟨h1, q v φ' _ _ ⟨g2.pre, g2.s.ff, g2.s.bb⟩ h3 (rv_weak h2 r')⟩
/-! ### what is walked -/
def keyPD : Key → PyData
  | .inl i => .int i
  | .inr x => .str x
theorem dp_keyPD {K : PySem.W.Frag} {F : Hp} (k : Key) : Dp K F (kV k) (keyPD k) := by
  cases k with
  | inl i => exact .int i
  | inr x => exact .str x
theorem keyD_PD (k : Key) : keyD (keyPD k) = some k := by cases k <;> rfl
/-- a locked dict's keys -/
def lkKeys : MO → Option (List PyData)
  | .fd kvs => some (kvs.map fun p => keyPD p.1)
  | .fk kvs => some (kvs.map fun p => keyPD p.1)
  | _ => none
theorem ji_keys (ho : JE C E S iter (.o l) S1) (hl : S1[l]? = some m) (hm : lkKeys m = some ds) : JI C E S tg iter ds S1 := by
  intro B σ φ F H R hE k q
  refine ⟨iKeys (WE C iter), fun i => pi_keys (we C iter i), ho B σ φ F H _ hE k fun v φ1 F1 H1 g1 k1 r1 => ?_⟩
  obtain ⟨ad, ea, rfl⟩ := r1
  have ro := k1.own l ad _ ea hl
  obtain ⟨od, es, hF, hH, hd⟩ : ∃ od es, F1 ad = some (.frz od (.dK es)) ∧ H1 ad = some (.frz od (.dK es)) ∧ ds = (es.map (·.1)).map keyPD := by
    cases m with
    | fd kvs => cases hm; obtain ⟨od, es, f, h, r⟩ := ro; exact ⟨od, es, f, h, by rw [relP_keys r, List.map_map]; rfl⟩
    | fk kvs => cases hm; obtain ⟨od, es, f, h, r⟩ := ro; exact ⟨od, es, f, h, by rw [relP_keys r, List.map_map]; rfl⟩
    | _ => cases hm
  refine ⟨ad, od, rfl, .inl ⟨es, hH, q _ φ1 F1 H1 g1 k1 fun ψ F2 H2 S2 s2 k2 => ?_⟩⟩
  have hH2 := k2.sub _ _ (s2 _ _ hF)
  subst hd
  refine ⟨fun i d hd => ?_, ⟨hH2, by simp⟩⟩
  rw [List.getElem?_map, List.getElem?_map] at hd
  cases he : es[i]? with
  | none => rw [he] at hd; cases hd
  | some p =>
    rw [he] at hd
    cases hd
    refine ⟨⟨hH2, (List.getElem?_eq_some_iff.mp he).1⟩, fun x H' hy => ?_⟩
    obtain ⟨rfl, k0, v0, hk0, rfl⟩ := hy
    rw [he] at hk0
    cases hk0
    exact ⟨F2, .refl, k2, dp_keyPD _⟩
/-- for target in iter: body, as one statement -/
theorem js_for (hi : JI C E S tg iter ds S1) (Inv : Nat → AE → Sto → Prop) (h0 : Inv 0 E S1)
    (step : ∀ i d E' S', ds[i]? = some d → Inv i E' S' → ∃ js E'', JG C E' tg (.d d) js E'' ∧ JSs C E'' S' body { nx := Inv (i + 1), ct := Inv (i + 1), rt := q.rt, bk := q.nx, xe := q.xe })
    (fin : ∀ E' S', Inv ds.length E' S' → q.nx E' S') (hs : ∀ (i : C.ι) x, foldedSetIterable iter (C.V i).env x = pure x := by intro _ _; rfl) (hh : C.hot = false := by rfl) : JS C E S (.For tg iter body [] pos) q := by
  refine fun B σ φ F H D hE k d => ⟨tFor (WI C tg iter) (WG C tg) (WSs C body), fun i => ps_for (C.po hh i) (C.calm hh i) (wi C tg iter i) (wg C tg i) (wss C body i) (hs i), ?_⟩
  refine hi B σ φ F H _ hE k fun J φ1 F1 H1 g1 k1 it => ?_
  refine ⟨fun i m σ' H' => ∃ E' S' φ' F', m = ds.length - i ∧ i ≤ ds.length ∧ Inv i E' S' ∧ GrA d.an B F H φ' F' H' ∧ Same F1 F' ∧ EnvR C.b.K φ' F' σ' E' ∧ Ok C.b.K B φ' F' H' S', ⟨_, E, S1, φ1, F1, rfl, Nat.zero_le _, h0, d.gs g1, Same.refl _, hE.gr g1, k1⟩, ?_⟩
  rintro i m σ' H' ⟨E', S', φ', F', rfl, hle, inv, gs, s1, hE', k'⟩
  obtain ⟨go, stop⟩ := it φ' F' H' S' s1 k'
  by_cases hlt : i < ds.length
  · have hd : ds[i]? = some ds[i] := by simp [hlt]
    obtain ⟨g, y⟩ := go i _ hd
    obtain ⟨js, E'', hg, hb⟩ := step i _ E' S' hd inv
    refine .inr ⟨g, fun σ2 H2 => ∃ E2 S2 φ2 F2, Inv (i + 1) E2 S2 ∧ GrA d.an B F H φ2 F2 H2 ∧ Same F1 F2 ∧ EnvR C.b.K φ2 F2 σ2 E2 ∧ Ok C.b.K B φ2 F2 H2 S2, fun σ2 H2 z => ?_, fun x H2 hy => ?_⟩
    · obtain ⟨E2, S2, φ2, F2, a1, a2, a3, a4, a5⟩ := z
      exact ⟨ds.length - (i + 1), by omega, E2, S2, φ2, F2, rfl, hlt, a1, a2, a3, a4, a5⟩
    · obtain ⟨F2, g2, k2, rx⟩ := y x H2 hy
      refine hg B S' σ' φ' F2 H2 x _ (hE'.gr g2) k2 rx fun σ3 _ hE3 => ?_
      refine hb B σ3 φ' F2 H2 _ hE3 k2 ⟨d.an, d.hn, gs.preg g2, ?_, ?_, ?_, ?_, fun x E4 σ4 φ4 F4 H4 S4 cls dd a g4 hE4 k4 => d.xe x E4 σ4 φ4 F4 H4 S4 cls dd a (g4.after (gs.s.trans g2.s)) hE4 k4⟩
      · exact fun E4 σ4 φ4 F4 H4 S4 a g4 hE4 k4 => ⟨E4, S4, φ4, F4, a, g4.after (gs.s.trans g2.s), s1.trans (g2.ff.trans g4.s.ff), hE4, k4⟩
      · exact fun av v φ4 F4 H4 S4 a g4 r4 k4 => d.rt av v φ4 F4 H4 S4 a (g4.after (gs.s.trans g2.s)) r4 k4
      · exact fun E4 σ4 φ4 F4 H4 S4 a g4 hE4 k4 => d.nx E4 σ4 φ4 F4 H4 S4 a (g4.after (gs.s.trans g2.s)) hE4 k4
      · exact fun E4 σ4 φ4 F4 H4 S4 a g4 hE4 k4 => ⟨E4, S4, φ4, F4, a, g4.after (gs.s.trans g2.s), s1.trans (g2.ff.trans g4.s.ff), hE4, k4⟩
  · have e : i = ds.length := by omega
    subst e
    exact .inl ⟨stop, d.nx E' σ' φ' F' H' S' (fin E' S' inv) gs hE' k'⟩
/-- for k in d: body, d an open dict of the store -/
theorem jss_forD (lk : LkK m m') (hl : S[l]? = some m) (hm : lkKeys m' = some ds) (ho : JE C E (S.set l m') iter (.o l) (S.set l m')) (Inv : Nat → AE → Sto → Prop) (h0 : Inv 0 E (S.set l m'))
    (step : ∀ i d E' S', ds[i]? = some d → Inv i E' S' → ∃ js E'', JG C E' tg (.d d) js E'' ∧ JSs C E'' S' body { nx := Inv (i + 1), ct := Inv (i + 1), rt := fun av S => S[l]? = some m' ∧ q.rt av (S.set l m), bk := fun E S => S[l]? = some m' ∧ JSs C E (S.set l m) rest q, xe := q.xe })
    (fin : ∀ E' S', Inv ds.length E' S' → S'[l]? = some m' ∧ JSs C E' (S'.set l m) rest q) (hs : ∀ (i : C.ι) x, foldedSetIterable iter (C.V i).env x = pure x := by intro _ _; rfl) (hC : C.an = true := by rfl) (hh : C.hot = false := by rfl) : JSs C E S (.For tg iter body [] pos :: rest) q := by
  have hlt : l < S.length := (List.getElem?_eq_some_iff.mp hl).1
  exact jss_lock lk hl (js_for (ji_keys ho (List.getElem?_set_self hlt) hm) Inv h0 step fin hs hh) hC
/-- list(d) -/
theorem je_listD (hm : C.b.mg "list" = none) (ha : JE C E S a (.o l) S1) (hl : S1[l]? = some (.dd kvs) ∨ S1[l]? = some (.dk kas) ∧ kvs = kas.map fun p => (p.1, .none)) (hg : C.sc.names.lookup ("list" : Str) = some .globalImplicit := by rfl) (hs : ∀ i : C.ι, starEach [a] (C.V i).env = (false, eval a (C.V i).env) :: starEach [] (C.V i).env := by intro _; rfl) (hpl : ∀ i : C.ι, (backTo pos (starEach [] (C.V i).env)).any (·.1) = false := by intro _; rfl) (hh : C.hot = false := by rfl) :
    JE C E S (.Call (.Name "list" p) [a] [] pos) (.d (.list (kvs.map fun p => keyPD p.1))) S1 :=
  je_callTy (fun i => call_list_dK (X := C.cx i) (C.calm hh i)) (fun B φ F H xs Q k r0 q => by
    obtain ⟨x, rfl, ad, ea, rfl⟩ := rvs1 r0
    obtain ⟨es, hH, hk⟩ : ∃ es, H ad = some (.dK es) ∧ es.map (·.1) = kvs.map (·.1) := by
      rcases hl with hl | ⟨hl, rfl⟩
      · obtain ⟨n, es, hH, ra⟩ := k.own l ad _ ea hl
        exact ⟨es, hH, relP_keys ra⟩
      · obtain ⟨n, es, hH, ra⟩ := k.own l ad _ ea hl
        exact ⟨es, hH, by rw [relP_keys ra, List.map_map]; rfl⟩
    refine ⟨ad, es, rfl, hH, fun p hp => fin_new k q hp (.lst (.inl (.inl upd_same)) ?_)⟩
    have e1 : (kvs.map fun p => keyPD p.1) = (es.map (·.1)).map keyPD := by rw [hk, List.map_map]; rfl
    have e2 : (es.map fun kv => kV kv.1) = (es.map (·.1)).map kV := by rw [List.map_map]; rfl
    rw [e1, e2]
    exact dpa_keys _) hm (by decide +kernel) (ja_cons ha ja_nil hs) hg (by decide) (by decide) hs hpl
/-! ### sorted, sum -/
theorem je_sortedI (hm : C.b.mg "sorted" = none) {ns ms : List Int} (ha : JE C E S a av S1) (hr : rdA S1 av = some (.list (ns.map PyData.int))) (hx : ∀ ys : List Int, ys.Perm ns → ys.Pairwise (· ≤ ·) → ys = ms) (hg : C.sc.names.lookup ("sorted" : Str) = some .globalImplicit := by rfl) (hs : ∀ i : C.ι, starEach [a] (C.V i).env = (false, eval a (C.V i).env) :: starEach [] (C.V i).env := by intro _; rfl) (hpl : ∀ i : C.ι, (backTo pos (starEach [] (C.V i).env)).any (·.1) = false := by intro _; rfl) :
    JE C E S (.Call (.Name "sorted" p) [a] [] pos) (.d (.list (ms.map PyData.int))) S1 :=
  je_callB (id := "sorted") (r := rSortedI C.b.K) (fun i => cr_sortedI (X := C.cx i)) (fun B φ F H xs Q k r0 q => by
    obtain ⟨x, rfl, r⟩ := rvs1 r0
    obtain ⟨a, vs, rfl, hs, ra⟩ := rd_list k r hr
    have e := dpa_ints ra
    subst e
    refine ⟨a, ns, rfl, hs, fun ys p h1 h2 hp => ?_⟩
    rw [hx ys h1 h2]
    exact fin_new k q hp (.lst (.inl (.inl upd_same)) (dpa_of_ints ms))) hm (by decide +kernel) (ja_cons ha ja_nil hs) hg (by decide) (by decide) hs hpl
theorem dpa_of_strs {K : PySem.W.Frag} {F : Hp} : ∀ ns : List Str, DpAll K F (ns.map V.str) (ns.map PyData.str)
  | [] => .nil
  | n :: r => .cons (.str n) (dpa_of_strs r)
theorem je_sortedS (hm : C.b.mg "sorted" = none) {ns ms : List Str} (ha : JE C E S a av S1) (hr : rdA S1 av = some (.list (ns.map PyData.str))) (h64 : ns.length < 64) (hx : ∀ ys : List Str, ys.Perm ns → sortedS ys = true → ys = ms) (hg : C.sc.names.lookup ("sorted" : Str) = some .globalImplicit := by rfl) (hs : ∀ i : C.ι, starEach [a] (C.V i).env = (false, eval a (C.V i).env) :: starEach [] (C.V i).env := by intro _; rfl) (hpl : ∀ i : C.ι, (backTo pos (starEach [] (C.V i).env)).any (·.1) = false := by intro _; rfl) :
    JE C E S (.Call (.Name "sorted" p) [a] [] pos) (.d (.list (ms.map PyData.str))) S1 :=
  je_callB (id := "sorted") (r := rSortedS C.b.K) (fun i => cr_sortedS (X := C.cx i)) (fun B φ F H xs Q k r0 q => by
    obtain ⟨x, rfl, r⟩ := rvs1 r0
    obtain ⟨a, vs, rfl, hs, ra⟩ := rd_list k r hr
    have e := dpa_strs ra
    subst e
    refine ⟨a, ns, rfl, hs, h64, fun ys p h1 h2 hp => ?_⟩
    rw [hx ys h1 h2]
    exact fin_new k q hp (.lst (.inl (.inl upd_same)) (dpa_of_strs ms))) hm (by decide +kernel) (ja_cons ha ja_nil hs) hg (by decide) (by decide) hs hpl
theorem je_sum (hm : C.b.mg "sum" = none) {ns : List Int} (ha : JE C E S a av S1) (hr : rdA S1 av = some (.list (ns.map PyData.int))) (hg : C.sc.names.lookup ("sum" : Str) = some .globalImplicit := by rfl) (hs : ∀ i : C.ι, starEach [a] (C.V i).env = (false, eval a (C.V i).env) :: starEach [] (C.V i).env := by intro _; rfl) (hpl : ∀ i : C.ι, (backTo pos (starEach [] (C.V i).env)).any (·.1) = false := by intro _; rfl) (hh : C.hot = false := by rfl) :
    JE C E S (.Call (.Name "sum" p) [a] [] pos) (.d (.int ns.sum)) S1 :=
  je_callB (id := "sum") (r := rSum C.b.K) (fun i => cr_sum (X := C.cx i) (C.calm hh i)) (fun B φ F H xs Q k r0 q => by
    obtain ⟨x, rfl, r⟩ := rvs1 r0
    obtain ⟨a, vs, rfl, hs, ra⟩ := rd_list k r hr
    have e := dpa_ints ra
    subst e
    exact ⟨a, ns, rfl, hs, fin0 k q (.int _)⟩) hm (by decide +kernel) (ja_cons ha ja_nil hs) hg (by decide) (by decide) hs hpl
end
/-! ### displays of dicts -/
def mergeA (kvs : List (Key × AV)) : List (Key × AV) := kvs.foldl (fun acc kv => setK acc kv.1 kv.2) []
inductive JPs (C : Fam) (E : AE) : Sto → List (Option Expr) → List Expr → List (Key × AV) → Sto → Prop where
  | nil {S : Sto} : JPs C E S [] [] [] S
  | cons {S S1 S2 S3 : Sto} {k v : Expr} {kd : PyData} {kk : Key} {av : AV} {ks : List (Option Expr)} {vs : List Expr} {kvs : List (Key × AV)} (hk : JE C E S k (.d kd) S1) (hkd : keyD kd = some kk) (hv : JE C E S1 v av S2) (t : JPs C E S2 ks vs kvs S3) : JPs C E S (some k :: ks) (v :: vs) ((kk, av) :: kvs) S3
section
variable {C : Fam} {E E' : AE} {S S1 S2 S3 : Sto} {a b c e o i tg iter : Expr} {es : List Expr} {av bv : AV} {avs : List AV} {pos p apos cpos : Pos} {d : PyData} {ds : List PyData} {l : Nat} {kvs : List (Key × PyData)} {kas : List (Key × AV)} {kts : List (List Key × PyData)} {m m' : MO} {st : Stmt} {rest body : List Stmt} {q : Po}
theorem jps_pairs {ks : List (Option Expr)} {vs : List Expr} {S S2 : Sto} (h : JPs C E S ks vs kas S2) (pos : Pos) : ∃ trs, (∀ i, PPs (C.cx i) pos ks vs trs) ∧ ks.length = vs.length ∧ ks.all (·.isSome) = true ∧ ks.length = kas.length ∧
    ∀ (B : List Addr) (σ : L2.St) (φ : List Addr) (F H : Hp) (Q : List (V × V) → Hp → Prop), EnvR C.b.K φ F σ E → Ok C.b.K B φ F H S →
      (∀ (es : List (Key × V)) φ' F' H', Gr B φ F H φ' F' H' → Ok C.b.K B φ' F' H' S2 → RelP (RV C.b.K φ' F') es kas → Q (es.map fun kv => (kV kv.1, kv.2)) H') → tPairs trs σ H Q := by
  induction h with
  | nil => exact ⟨[], fun i => pps_nil, rfl, rfl, rfl, fun B σ φ F H Q hE k q => q [] φ F H .refl k .nil⟩
  | @cons S S1 S2 S3 k v kd kk av ks vs kvs hk hkd hv t ih =>
    obtain ⟨trs, h1, h2, h3, h5, h4⟩ := ih
    refine ⟨(WE C k, WE C v) :: trs, fun i => pps_cons (we C k i) (we C v i) (h1 i), by rw [List.length_cons, List.length_cons, h2], by simpa using h3, by rw [List.length_cons, List.length_cons, h5], fun B σ φ F H Q hE k0 q => ?_⟩
    refine hk B σ φ F H _ hE k0 fun x φ1 F1 H1 g1 k1 r1 => ?_
    refine hv B σ φ1 F1 H1 _ (hE.gr g1) k1 fun y φ2 F2 H2 g2 k2 r2 => ?_
    refine h4 B σ φ2 F2 H2 _ (hE.gr (g1.trans g2)) k2 fun es φ3 F3 H3 g3 k3 r3 => ?_
    have ex := dp_key r1 hkd
    subst ex
    exact q ((kk, y) :: es) φ3 F3 H3 (g1.trans (g2.trans g3)) k3 (.cons ⟨rfl, r2.gr g3⟩ r3)
theorem relP_merge {R : V → AV → Prop} : ∀ {es : List (Key × V)} {kas : List (Key × AV)} {es0 : List (Key × V)} {kas0 : List (Key × AV)}, RelP R es kas → RelP R es0 kas0 → RelP R (mergeK es0 es) (kas.foldl (fun acc kv => setK acc kv.1 kv.2) kas0)
  | [], [], _, _, .nil, r0 => r0
  | p :: es, q :: kas, es0, kas0, .cons h t, r0 => by
    have := relP_put r0 p.1 h.2
    show RelP R (mergeK (putK es0 p.1 p.2) es) (kas.foldl (fun acc kv => setK acc kv.1 kv.2) (setK kas0 q.1 q.2))
    rw [h.1] at this ⊢
    exact relP_merge t this
theorem je_disp {keys : List (Option Expr)} {vals : List Expr} (h : JPs C E (S ++ [.dk []]) keys vals kas S1) (hl : S1[S.length]? = some (.dk [])) (h0 : keys ≠ [] := by exact fun z => by cases z) (h15 : keys.length ≤ 15 := by exact Nat.le_of_ble_eq_true rfl) : JE C E S (.Dict keys vals pos) (.o S.length) (S1.set S.length (.dk (mergeA kas))) := by
  intro B σ φ F H Q hE k q
  obtain ⟨trs, h1, h2, h3, h5, h4⟩ := jps_pairs h pos
  refine ⟨tDisp trs, fun i => pe_disp (h1 i) h3 h2 h0 h15, fun p hp => ?_⟩
  obtain ⟨k1, g1⟩ := k.new (o := .dK []) (m := .dk []) hp fun hF => ⟨hF, [], upd_same, .nil⟩
  refine h4 B σ _ F _ _ (hE.gr g1) k1 fun es φ' F' H' g k' r => ?_
  have hat : φ'[S.length]? = some p := by
    obtain ⟨ψ, e⟩ := g.pre
    rw [e, List.getElem?_append_left (by simp [k.len]), ← k.len]
    simp
  obtain ⟨n, es0, hH, r0⟩ := k'.own _ p _ hat hl
  cases r0
  obtain ⟨k2, g2⟩ := k'.put (o := .dK (mergeK [] es)) (m := .dk (mergeA kas)) hat ⟨n, _, upd_same, relP_merge r .nil⟩ n
  exact ⟨hH, es, rfl, by rw [Paired.length r, ← h5]; exact h15, q _ φ' F' _ (g1.trans (g.trans g2)) k2 ⟨p, hat, rfl⟩⟩
/-- d.pop(k, x), as a statement -/
theorem jss_dpop2 {x : Expr} {kd : PyData} {k : Key} (ho : JE C E S o (.o l) S) (hi : JE C E S i (.d kd) S) (hx : JE C E S x av S) (hk : keyD kd = some k) (hl : S[l]? = some (.dd kvs)) (h : JSs C E (S.set l (.dd (delK kvs k))) rest q) (hm : ∀ n : C.ι, M2 (C.cx n) o "pop" apos i x cpos := by intro _; exact ⟨rfl, rfl, rfl, rfl⟩)
    (hs : ∀ n : C.ι, swapsWith (.Call (.Attribute o "pop" apos) [i, x] [] cpos) none pos.line (C.V n).env = pure false := by intro _; rfl) : JSs C E S (.Expr (.Call (.Attribute o "pop" apos) [i, x] [] cpos) pos :: rest) q :=
  jss_cons fun B σ φ F H D hE kk dd => ⟨tDrop (tDPop2 (WE C o) (WE C i) (WE C x)), fun n => ps_expr (pe_dpop2 (X := C.cx n) (we C o n) (we C i n) (we C x n) (hm n)) (hs n), by
    refine ho B σ φ F H _ hE kk fun u φ1 F1 H1 g1 k1 r1 => ?_
    obtain ⟨a, ea, rfl⟩ := id r1
    obtain ⟨n0, es0, hH0, _⟩ := k1.own l a _ ea hl
    refine ⟨a, rfl, .inl ⟨es0, .inl hH0⟩, ?_⟩
    refine hi B σ φ1 F1 H1 _ (hE.gr g1) k1 fun y φ2 F2 H2 g2 k2 r2 => ?_
    refine hx B σ φ2 F2 H2 _ (hE.gr (g1.trans g2)) k2 fun z φ3 F3 H3 g3 k3 r3 => ?_
    obtain ⟨a', ea', e'⟩ := r1.gr (g2.trans g3)
    cases e'
    obtain ⟨n, es, hH, ra⟩ := k3.own l a _ ea' hl
    have ey := dp_key r2 hk
    subst ey
    refine ⟨es, k, hH, rfl, fun v hv => ?_, fun hv => ?_⟩
    · obtain ⟨k4, g4⟩ := k3.put (o := .dK (dropK es k)) (m := .dd (delK kvs k)) ea' ⟨n, _, upd_same, relP_drop ra k⟩ n
      exact dd.nx _ _ φ3 F3 _ _ h (dd.gs (g1.trans (g2.trans (g3.trans g4)))) (hE.gr (g1.trans (g2.trans (g3.trans g4)))) k4
    · have e : delK kvs k = kvs := by
        have hn : getK kvs k = none := by
          rcases relP_get ra k with ⟨_, h2⟩ | ⟨v, d, h1, _⟩
          · exact h2
          · rw [hv] at h1; cases h1
        unfold delK
        refine List.filter_eq_self.mpr fun p hp => ?_
        by_cases e : p.1 = k
        · exfalso
          have := getK_any k kvs
          rw [hn] at this
          have h3 : (kvs.any fun kv => decide (kv.1 = k)) = true := List.any_eq_true.mpr ⟨p, hp, decide_eq_true e⟩
          rw [this] at h3
          cases h3
        · simpa using e
      rw [e, set_same hl] at h
      exact dd.nx _ _ φ3 F3 _ _ h (dd.gs (g1.trans (g2.trans g3))) (hE.gr (g1.trans (g2.trans g3))) k3⟩
end
section
variable {P : Program} {w : World} {K : PySem.W.Frag} {mg : Str → Option Value} {base : Heap}
/-- defs of data that lock dicts -/
theorem fn_dataL {x qual : Str} {st : Stmt} {f : Addr} {fd : FuncData} {N ps : List Str} {k : Nat} {R : List PyData → PyData → Prop} (F : Fun K x qual st f fd) (Sc : FnScope N ps (defScope st)) (len : ∀ ds r, R ds r → ds.length = ps.length)
    (body : ∀ (cd : Value) (A : Around) (outer : List Env) (s : Shared) (H : Hp) (hr : Room k (A.deeper (envOfC qual (defScope st) s.heap.objs.size f cd))) (ds : List PyData) (r : PyData), R ds r →
      JSs (defF ⟨P, w, K, mg, base⟩ N k qual (defScope st) f cd A outer s H Sc.nd hr true) (startE N (ds.map AV.d)) [] (defBody st) { nx := fun _ _ => r = .none, rt := fun av _ => av = .d r }) : FnOk P w K mg base CX0 (k + 1) f fd ps (spP K R) := by
  refine F.ok Sc (fun vs H Q E h => ?_) fun cd A outer s H vs Q E hr h => ?_
  · obtain ⟨ds, r, B, F, hR, _, _, hd, _⟩ := h
    rw [dpa_len hd]
    exact len ds r hR
  · obtain ⟨ds, r, B, F', hR, sub, hB, hd, q⟩ := h
    have kk : Ok K B [] F' H [] := ⟨sub, List.nodup_nil, fun a ha => (by cases ha), hB, rfl, fun l a o h1 _ => (by simp at h1)⟩
    obtain ⟨t, ht, hq⟩ := body cd A outer s H hr ds r hR B (L2.start N vs) [] F' H { nx := fun _ H' => Q .non H', rt := Q } (envr_start (rvs_of hd)) kk
      ⟨[], fun _ => rfl, ⟨[], rfl⟩, fun E σ φ F2 H2 S a g hE k2 => by subst a; exact q .non F2 H2 g.s k2.sub .non, fun av v φ F2 H2 S a g rv k2 => by subst a; exact q v F2 H2 g.s k2.sub rv, fun _ _ _ _ _ _ a => a.elim, fun _ _ _ _ _ _ a => a.elim, fun _ _ _ _ _ _ _ _ _ a => a.elim⟩
    exact ⟨t, ht (), hq⟩
end
end AL

namespace AL
open PySem PySem.Spec PyProof.Rows L2 TL
theorem inV_strs (n : Str) : ∀ xs : List Str, inV (.str n) (xs.map V.str) = decide (n ∈ xs)
  | [] => by simp [inV]
  | x :: xs => by
    have ih := inV_strs n xs
    unfold inV at ih ⊢
    rw [List.map_cons, List.any_cons, ih]
    show ((x == n) || _) = _
    by_cases e : x = n
    · subst e; simp
    · have e2 : ¬ n = x := fun z => e z.symm
      simp [e, e2]
theorem inV_ints (n : Int) : ∀ xs : List Int, inV (.int n) (xs.map V.int) = decide (n ∈ xs)
  | [] => by simp [inV]
  | x :: xs => by
    have ih := inV_ints n xs
    unfold inV at ih ⊢
    rw [List.map_cons, List.any_cons, ih]
    show ((x == n) || _) = _
    by_cases e : x = n
    · subst e; simp
    · have e2 : ¬ n = x := fun z => e z.symm
      simp [e, e2]
theorem flat_strs : ∀ xs : List Str, (xs.map PyData.str).mapM flatD = some (xs.map V.str)
  | [] => rfl
  | x :: xs => by rw [List.map_cons, List.mapM_cons, flat_strs xs]; rfl
theorem flat_ints : ∀ xs : List Int, (xs.map PyData.int).mapM flatD = some (xs.map V.int)
  | [] => rfl
  | x :: xs => by rw [List.map_cons, List.mapM_cons, flat_ints xs]; rfl
theorem all_strs : ∀ xs : List Str, (xs.map V.str).all flatV = true
  | [] => rfl
  | x :: xs => by rw [List.map_cons, List.all_cons, all_strs xs]; rfl
theorem all_ints : ∀ xs : List Int, (xs.map V.int).all flatV = true
  | [] => rfl
  | x :: xs => by rw [List.map_cons, List.all_cons, all_ints xs]; rfl
section
variable {C : Fam} {E : AE} {S S1 S2 : Sto} {a c b : Expr} {av bv : AV} {d e : PyData} {es : List PyData} {v u : V} {vs : List V} {pos : Pos}
theorem sr_eqF {K : PySem.W.Frag} (h1 : flatD d = some v) (h2 : flatD e = some u) (hs : scal v u = true) : SR2 K S rEq (.d d) (.d e) (.d (.bool (decide (v = u)))) S := fun B φ F H x y Q k r1 r2 q => by
  rw [dp_flat r1 h1, dp_flat r2 h2]
  exact ⟨hs, fin0 k q (.bl _)⟩
theorem sr_neF {K : PySem.W.Frag} (h1 : flatD d = some v) (h2 : flatD e = some u) (hs : scal v u = true) : SR2 K S rNe (.d d) (.d e) (.d (.bool (!decide (v = u)))) S := fun B φ F H x y Q k r1 r2 q => by
  rw [dp_flat r1 h1, dp_flat r2 h2]
  exact ⟨hs, fin0 k q (.bl _)⟩
theorem je_eqF (ha : JE C E S a (.d d) S1) (hb : JE C E S1 b (.d e) S2) (h1 : flatD d = some v) (h2 : flatD e = some u) (hs : scal v u = true) : JE C E S (.Compare a [.Eq] [b] pos) (.d (.bool (decide (v = u)))) S2 := je_cmp (fun _ => op_eq) (sr_eqF h1 h2 hs) ha hb (nomark _)
theorem jt_eqF (ha : JE C E S a (.d d) S1) (hb : JE C E S1 b (.d e) S2) (h1 : flatD d = some v) (h2 : flatD e = some u) (hs : scal v u = true) : JT C E S (.Compare a [.Eq] [b] pos) (decide (v = u)) S2 := jt_cmp (fun _ => op_eq) (sr_eqF h1 h2 hs) ha hb (nomark _)
theorem je_neF (ha : JE C E S a (.d d) S1) (hb : JE C E S1 b (.d e) S2) (h1 : flatD d = some v) (h2 : flatD e = some u) (hs : scal v u = true) : JE C E S (.Compare a [.NotEq] [b] pos) (.d (.bool (!decide (v = u)))) S2 := je_cmp (fun _ => op_ne) (sr_neF h1 h2 hs) ha hb (nomark _)
theorem jt_neF (ha : JE C E S a (.d d) S1) (hb : JE C E S1 b (.d e) S2) (h1 : flatD d = some v) (h2 : flatD e = some u) (hs : scal v u = true) : JT C E S (.Compare a [.NotEq] [b] pos) (!decide (v = u)) S2 := jt_cmp (fun _ => op_ne) (sr_neF h1 h2 hs) ha hb (nomark _)
theorem je_ins {n : Str} {xs : List Str} (ha : JE C E S a (.d (.str n)) S1) (hb : JE C E S1 c bv S2) (hr : rdA S2 bv = some e) (hi : itemsD e = some (xs.map PyData.str)) (hm : behindInMarks .In c = false := by rfl) : JE C E S (.Compare a [.In] [c] pos) (.d (.bool (decide (n ∈ xs)))) S2 := by
  have h := je_cmp (pos := pos) (fun i => op_in_seq (X := C.cx i)) (sr_in (K := C.b.K) (S := S2) (neg := false) (v := .str n) (d := .str n) hr hi rfl (flat_strs xs) rfl (all_strs xs)) ha hb hm
  rw [if_neg (fun z => Bool.noConfusion z), inV_strs] at h
  exact h
theorem je_notins {n : Str} {xs : List Str} (ha : JE C E S a (.d (.str n)) S1) (hb : JE C E S1 c bv S2) (hr : rdA S2 bv = some e) (hi : itemsD e = some (xs.map PyData.str)) (hm : behindInMarks .NotIn c = false := by rfl) : JE C E S (.Compare a [.NotIn] [c] pos) (.d (.bool (!decide (n ∈ xs)))) S2 := by
  have h := je_cmp (pos := pos) (fun i => op_notIn_seq (X := C.cx i)) (sr_in (K := C.b.K) (S := S2) (neg := true) (v := .str n) (d := .str n) hr hi rfl (flat_strs xs) rfl (all_strs xs)) ha hb hm
  rw [if_pos rfl, inV_strs] at h
  exact h
theorem jt_ins {n : Str} {xs : List Str} (ha : JE C E S a (.d (.str n)) S1) (hb : JE C E S1 c bv S2) (hr : rdA S2 bv = some e) (hi : itemsD e = some (xs.map PyData.str)) (hm : behindInMarks .In c = false := by rfl) : JT C E S (.Compare a [.In] [c] pos) (decide (n ∈ xs)) S2 := by
  have h := jt_cmp (z := decide (n ∈ xs)) (pos := pos) (fun i => op_in_seq (X := C.cx i)) (by
    have h := sr_in (K := C.b.K) (S := S2) (neg := false) (v := .str n) (d := .str n) (bv := bv) hr hi rfl (flat_strs xs) rfl (all_strs xs)
    rw [if_neg (fun z => Bool.noConfusion z), inV_strs] at h
    exact h) ha hb hm
  exact h
theorem jt_notins {n : Str} {xs : List Str} (ha : JE C E S a (.d (.str n)) S1) (hb : JE C E S1 c bv S2) (hr : rdA S2 bv = some e) (hi : itemsD e = some (xs.map PyData.str)) (hm : behindInMarks .NotIn c = false := by rfl) : JT C E S (.Compare a [.NotIn] [c] pos) (!decide (n ∈ xs)) S2 := by
  have h := jt_cmp (z := !decide (n ∈ xs)) (pos := pos) (fun i => op_notIn_seq (X := C.cx i)) (by
    have h := sr_in (K := C.b.K) (S := S2) (neg := true) (v := .str n) (d := .str n) (bv := bv) hr hi rfl (flat_strs xs) rfl (all_strs xs)
    rw [if_pos rfl, inV_strs] at h
    exact h) ha hb hm
  exact h
theorem jt_ini {n : Int} {xs : List Int} (ha : JE C E S a (.d (.int n)) S1) (hb : JE C E S1 c bv S2) (hr : rdA S2 bv = some e) (hi : itemsD e = some (xs.map PyData.int)) (hm : behindInMarks .In c = false := by rfl) : JT C E S (.Compare a [.In] [c] pos) (decide (n ∈ xs)) S2 := by
  have h := jt_cmp (z := decide (n ∈ xs)) (pos := pos) (fun i => op_in_seq (X := C.cx i)) (by
    have h := sr_in (K := C.b.K) (S := S2) (neg := false) (v := .int n) (d := .int n) (bv := bv) hr hi rfl (flat_ints xs) rfl (all_ints xs)
    rw [if_neg (fun z => Bool.noConfusion z), inV_ints] at h
    exact h) ha hb hm
  exact h
theorem jt_notini {n : Int} {xs : List Int} (ha : JE C E S a (.d (.int n)) S1) (hb : JE C E S1 c bv S2) (hr : rdA S2 bv = some e) (hi : itemsD e = some (xs.map PyData.int)) (hm : behindInMarks .NotIn c = false := by rfl) : JT C E S (.Compare a [.NotIn] [c] pos) (!decide (n ∈ xs)) S2 := by
  have h := jt_cmp (z := !decide (n ∈ xs)) (pos := pos) (fun i => op_notIn_seq (X := C.cx i)) (by
    have h := sr_in (K := C.b.K) (S := S2) (neg := true) (v := .int n) (d := .int n) (bv := bv) hr hi rfl (flat_ints xs) rfl (all_ints xs)
    rw [if_pos rfl, inV_ints] at h
    exact h) ha hb hm
  exact h
theorem je_castA {a' : AV} (h : JE C E S a av S1) (he : av = a') : JE C E S a a' S1 := he ▸ h
end
/-! ### tables by texts -/
section
variable {α β : Type}
/-- a table of texts as a dict's -/
abbrev tbl (g : α → β) (F : List (Str × α)) : List (Key × β) := F.map fun p => ((Sum.inr p.1 : Key), g p.2)
theorem tbl_get (g : α → β) (n : Str) : ∀ F : List (Str × α), getK (tbl g F) (.inr n) = (getK F n).map g
  | [] => rfl
  | p :: r => by
    show getK ((Sum.inr p.1, g p.2) :: tbl g r) _ = _
    by_cases e : p.1 = n
    · rw [getK_pos (p := ((Sum.inr p.1 : Key), g p.2)) (congrArg Sum.inr e), getK_pos e]; rfl
    · rw [getK_neg (p := ((Sum.inr p.1 : Key), g p.2)) (fun z => e (Sum.inr.inj z)), getK_neg e, tbl_get g n r]
theorem tbl_any (g : α → β) (n : Str) (F : List (Str × α)) : ((tbl g F).any fun p => decide (p.1 = (Sum.inr n : Key))) = F.any fun p => decide (p.1 = n) := by
  rw [getK_any, getK_any, tbl_get, Option.isSome_map]
theorem tbl_set (g : α → β) (n : Str) (v : α) (F : List (Str × α)) : setK (tbl g F) (.inr n) (g v) = tbl g (setK F n v) := by
  unfold setK
  rw [tbl_any]
  split
  · simp only [tbl, List.map_map]
    refine List.map_congr_left fun p hp => ?_
    by_cases e : p.1 = n
    · simp [e]
    · have : ¬ (Sum.inr p.1 : Key) = Sum.inr n := fun z => e (Sum.inr.inj z)
      simp [e, this]
  · simp [tbl]
theorem getK_mem {κ : Type} [DecidableEq κ] {F : List (κ × α)} {n : κ} {v : α} (h : getK F n = some v) : (n, v) ∈ F := by
  unfold getK at h
  obtain ⟨p, hp, e⟩ := Option.map_eq_some_iff.mp h
  have h1 := List.mem_of_find?_eq_some hp
  have h2 := List.find?_some hp
  have h3 : p.1 = n := by simpa using h2
  rw [← h3, ← e]
  exact h1
theorem getK_none {κ : Type} [DecidableEq κ] {F : List (κ × α)} {n : κ} : getK F n = none ↔ n ∉ F.map (·.1) := by
  have h := getK_any n F
  constructor
  · intro e hm
    obtain ⟨p, hp, e2⟩ := List.mem_map.mp hm
    rw [e] at h
    have : (F.any fun kv => decide (kv.1 = n)) = true := List.any_eq_true.mpr ⟨p, hp, decide_eq_true e2⟩
    rw [h] at this
    cases this
  · intro hm
    cases e : getK F n with
    | none => rfl
    | some v => exact absurd (List.mem_map.mpr ⟨_, getK_mem e, rfl⟩) hm
theorem getK_isSome {κ : Type} [DecidableEq κ] {F : List (κ × α)} {n : κ} : (getK F n).isSome = decide (n ∈ F.map (·.1)) := by
  by_cases h : n ∈ F.map (·.1)
  · rw [decide_eq_true h]
    cases e : getK F n with
    | none => exact absurd h (getK_none.mp e)
    | some v => rfl
  · rw [decide_eq_false h, getK_none.mpr h]; rfl
/-- in the middle -/
theorem getK_mid {κ : Type} [DecidableEq κ] {xs ys : List (κ × α)} {n : κ} {v : α} (h : n ∉ xs.map (·.1)) : getK (xs ++ (n, v) :: ys) n = some v := by
  induction xs with
  | nil => exact getK_pos rfl
  | cons p r ih =>
    rw [List.map_cons, List.mem_cons, not_or] at h
    rw [List.cons_append, getK_neg (fun z => h.1 z.symm), ih h.2]
theorem setK_mid {κ : Type} [DecidableEq κ] {xs ys : List (κ × α)} {n : κ} {v w : α} (h : n ∉ xs.map (·.1)) (h2 : n ∉ ys.map (·.1)) : setK (xs ++ (n, v) :: ys) n w = xs ++ (n, w) :: ys := by
  have no : ∀ zs : List (κ × α), n ∉ zs.map (·.1) → zs.map (fun p => if p.1 = n then (p.1, w) else p) = zs := fun zs hz => by
    have := List.map_congr_left (l := zs) (f := fun p => if p.1 = n then (p.1, w) else p) (g := id) fun p hp => by
      have : ¬ p.1 = n := fun z => hz (List.mem_map.mpr ⟨p, hp, z⟩)
      simp [this]
    rw [this, List.map_id]
  unfold setK
  rw [if_pos (by rw [getK_any, getK_mid h]; rfl), List.map_append, List.map_cons, no xs h, no ys h2, if_pos rfl]
theorem setK_keys {κ : Type} [DecidableEq κ] {F : List (κ × α)} {n : κ} {v w : α} (h : getK F n = some v) : (setK F n w).map (·.1) = F.map (·.1) := by
  unfold setK
  rw [if_pos (by rw [getK_any, h]; rfl), List.map_map]
  refine List.map_congr_left fun p hp => ?_
  by_cases e : p.1 = n <;> simp [e]
theorem split_of {κ : Type} [DecidableEq κ] {F : List (κ × α)} {n : κ} {v : α} (hn : (F.map (·.1)).Nodup) (h : getK F n = some v) : ∃ xs ys, F = xs ++ (n, v) :: ys ∧ n ∉ xs.map (·.1) ∧ n ∉ ys.map (·.1) := by
  obtain ⟨xs, ys, e⟩ := List.append_of_mem (getK_mem h)
  subst e
  rw [List.map_append, List.map_cons, List.nodup_append] at hn
  obtain ⟨_, h2, h3⟩ := hn
  exact ⟨xs, ys, rfl, fun m => h3 n m n (by simp) rfl, (List.nodup_cons.mp h2).1⟩
theorem setK_same {κ : Type} [DecidableEq κ] {F : List (κ × α)} {n : κ} {v : α} (hn : (F.map (·.1)).Nodup) (h : getK F n = some v) : setK F n v = F := by
  obtain ⟨xs, ys, e, h1, h2⟩ := split_of hn h
  subst e
  exact setK_mid h1 h2
end
end AL

namespace AL
open PySem PySem.Spec PyProof.Rows L2 TL
def itemsA : Option MO → Option (List AV)
  | some (.ld ds) => some (ds.map AV.d)
  | some (.lst avs) => some avs
  | _ => none
def ItA (K : PySem.W.Frag) (B : List Addr) (F1 : Hp) (J : It) (avs : List AV) (a : Addr) (l : Nat) : Prop := ∀ (φ : List Addr) (F H : Hp) (S : Sto), Same F1 F → Ok K B φ F H S → φ[l]? = some a → itemsA S[l]? = some avs →
  (∀ i d, avs[i]? = some d → J.go i H ∧ ∀ x H', J.yld i H x H' → ∃ F', Gr B φ F H φ F' H' ∧ Ok K B φ F' H' S ∧ RV K φ F' x d) ∧ J.stop avs.length H
def JIA (C : Fam) (E : AE) (S : Sto) (tg iter : Expr) (avs : List AV) (l : Nat) (S' : Sto) : Prop := ∀ (B : List Addr) (σ : L2.St) (φ : List Addr) (F H : Hp) (R : It → Hp → Prop), EnvR C.b.K φ F σ E → Ok C.b.K B φ F H S →
  (∀ J φ1 F1 H1 a, Gr B φ F H φ1 F1 H1 → Ok C.b.K B φ1 F1 H1 S' → φ1[l]? = some a → itemsA S'[l]? = some avs → ItA C.b.K B F1 J avs a l → R J H1) → WI C tg iter σ H R
theorem rvs_of_dpa {K : PySem.W.Frag} {φ : List Addr} {F : Hp} : ∀ {vs : List V} {ds : List PyData}, DpAll K F vs ds → RVs K φ F vs (ds.map AV.d)
  | [], [], _ => .nil
  | _ :: _, _ :: _, .cons h t => .cons h (rvs_of_dpa t)
theorem items_own {K : PySem.W.Frag} {B φ : List Addr} {F H : Hp} {S : Sto} {l : Nat} {a : Addr} {avs : List AV} (k : Ok K B φ F H S) (ha : φ[l]? = some a) (hi : itemsA S[l]? = some avs) : ∃ vs, H a = some (.lst vs) ∧ RVs K φ F vs avs := by
  cases e : S[l]? with
  | none => rw [e] at hi; cases hi
  | some o =>
    rw [e] at hi
    have ro := k.own l a o ha e
    cases o with
    | ld ds => cases hi; obtain ⟨_, vs, h, r⟩ := ro; exact ⟨vs, h, rvs_of_dpa r⟩
    | lst avs => cases hi; obtain ⟨_, vs, h, r⟩ := ro; exact ⟨vs, h, r⟩
    | _ => cases hi
section
variable {C : Fam} {E E' : AE} {S S1 S2 S3 : Sto} {a b c e tg iter elt o : Expr} {es ifs : List Expr} {av bv cv : AV} {avs : List AV} {pos p apos : Pos} {st : Stmt} {rest body els : List Stmt} {q : Po} {scope : Scope} {l : Nat} {d : PyData}
theorem ji_a (h : JE C E S iter (.o l) S1) (hi : itemsA S1[l]? = some avs) : JIA C E S tg iter avs l S1 := by
  intro B σ φ F H R hE k q
  refine ⟨iList C.b.K (WE C iter), fun i => pi_list (we C iter i), h B σ φ F H _ hE k fun v φ1 F1 H1 g1 k1 r1 => ?_⟩
  obtain ⟨ad, ea, rfl⟩ := r1
  obtain ⟨vs, hH, r⟩ := items_own k1 ea hi
  refine ⟨ad, rfl, ⟨vs, .inl (.inl hH)⟩, q _ φ1 F1 H1 ad g1 k1 ea hi fun ψ F2 H2 S2 s2 k2 ea2 hi2 => ?_⟩
  obtain ⟨ws, hH2, r2⟩ := items_own k2 ea2 hi2
  have hs2 : SqL C.b.K H2 ad ws := .inl (.inl hH2)
  have hl := Paired.length r2
  refine ⟨fun i d hd => ?_, ⟨ws, hs2, by rw [← hl]; exact Nat.le_refl _⟩⟩
  obtain ⟨x, hx, rx⟩ := paired_get r2 hd
  refine ⟨⟨ws, x, hs2, hx⟩, fun y H' hy => ?_⟩
  obtain ⟨rfl, hy⟩ := hy
  have e := (hy ws hs2).symm.trans hx
  cases e
  exact ⟨F2, .refl, k2, rx⟩
theorem lcA_ok {ds : List AV} {own : List (Str × Nat)} (hi : JIA C E S tg iter ds l S1) (g : Nat → Option PyData)
    (step : ∀ i d, ds[i]? = some d → ∃ js E', (∀ j ∈ js, j ∈ own.map (·.2)) ∧ JG (C.blk scope) (wipeE E (own.map (·.2))) tg d js E' ∧ ∃ z, (∀ T, JTs (C.blk scope) E' (S1 ++ [T]) ifs z) ∧
      (z = false → g i = none) ∧ (z = true → ∃ y, g i = some y ∧ ∀ T, JE (C.blk scope) E' (S1 ++ [T]) elt (.d y) (S1 ++ [T])))
    (hl : ds.length ≤ sizeLine) {B : List Addr} {σ : L2.St} {φ : List Addr} {F H : Hp} {Q : VK} (hE : EnvR C.b.K φ F σ E) (k : Ok C.b.K B φ F H S)
    (q : ∀ v φ' F' H', Gr B φ F H φ' F' H' → Ok C.b.K B φ' F' H' S1 → RV C.b.K φ' F' v (.d (.list ((List.range ds.length).filterMap g))) → Q v H') :
    tLc (WI C tg iter) (WG (C.blk scope) tg) (WTs (C.blk scope) ifs) (WE (C.blk scope) elt) (own.map (·.2)) σ H Q := by
  refine hi B σ φ F H _ hE k fun J φ1 F1 H1 ad g1 k1 hal hit it => fun D hD => ?_
  have hDF : F1 D = none := k1.sub.free hD
  obtain ⟨k2, g2⟩ := k1.new (o := .lst []) (m := .ld []) hD fun hF => ⟨hF, [], upd_same, .nil⟩
  -- the state at a turn: the list at D, the store's last
  refine ⟨fun i m H' => ∃ φ' F' acc, m = ds.length - i ∧ i ≤ ds.length ∧ acc = (List.range i).filterMap g ∧ (∃ ψ, φ' = φ1 ++ [D] ++ ψ) ∧ Gr B (φ1 ++ [D]) F1 (upd H1 D (.lst [])) φ' F' H' ∧ Ok C.b.K B φ' F' H' (S1 ++ [.ld acc]),
    ⟨ds.length, φ1 ++ [D], F1, [], by simp, Nat.zero_le _, by simp, ⟨[], by simp⟩, .refl, k2⟩, ?_⟩
  rintro i m H' ⟨φ', F', acc, rfl, hle, hacc, ⟨ψ, hψ⟩, gr, k'⟩
  have hlen : φ'.length = S1.length + 1 := by rw [k'.len, List.length_append, List.length_singleton]
  have hψ0 : ψ = [] := by
    rw [hψ, List.length_append, List.length_append, List.length_singleton, k1.len] at hlen
    exact List.length_eq_zero_iff.mp (by omega)
  subst hψ0
  rw [List.append_nil] at hψ
  subst hψ
  have hDφ : (φ1 ++ [D])[S1.length]? = some D := by rw [← k1.len]; simp
  have hSl : (S1 ++ [MO.ld acc])[S1.length]? = some (.ld acc) := by simp
  obtain ⟨nF, vs, hH, ra⟩ := k'.own _ _ _ hDφ hSl
  have hacl : acc.length ≤ i := by
    rw [hacc]
    refine Nat.le_trans (List.length_filterMap_le _ _) ?_
    simp
  have hlt1 : l < φ1.length := (List.getElem?_eq_some_iff.mp hal).1
  obtain ⟨go, stop⟩ := it _ F' H' _ gr.ff k' (by rw [List.getElem?_append_left hlt1]; exact hal) (by rw [List.getElem?_append_left (by rw [← k1.len]; exact hlt1)]; exact hit)
  by_cases hlt : i < ds.length
  · have hd : ds[i]? = some ds[i] := by simp [hlt]
    obtain ⟨hg, y⟩ := go i _ hd
    obtain ⟨js, E', hjs, jg, z, hz, z0, z1⟩ := step i _ hd
    refine .inr ⟨hg, fun H2 => ∃ F2, Gr B (φ1 ++ [D]) F1 (upd H1 D (.lst [])) (φ1 ++ [D]) F2 H2 ∧ Ok C.b.K B (φ1 ++ [D]) F2 H2 (S1 ++ [.ld ((List.range (i + 1)).filterMap g)]), fun H2 z => ?_, fun x H2 hy => ?_⟩
    · obtain ⟨F2, a1, a2⟩ := z
      exact ⟨ds.length - (i + 1), by omega, φ1 ++ [D], F2, _, rfl, hlt, rfl, ⟨[], by simp⟩, a1, a2⟩
    · obtain ⟨F2, g2', k2', rx⟩ := y x H2 hy
      have hEw : EnvR C.b.K (φ1 ++ [D]) F2 (L2.wipe σ (own.map (·.2))) (wipeE E (own.map (·.2))) := EnvR.wipe (((hE.gr g1).gr g2).gr (gr.trans g2')) _
      refine jg B _ _ _ F2 H2 x _ hEw k2' rx fun σ3 o3 hE3 => ?_
      refine ⟨o3.wipe hjs, ?_⟩
      refine hz (.ld acc) B σ3 _ F2 H2 _ hE3 k2' fun φ3 F3 H3 g3 k3 => ?_
      have hφ3 : φ3 = φ1 ++ [D] := by
        obtain ⟨χ, e⟩ := g3.pre
        have := k3.len
        rw [e, List.length_append, hlen, List.length_append, List.length_singleton] at this
        rw [e, List.length_eq_zero_iff.mp (show χ.length = 0 by omega), List.append_nil]
      subst hφ3
      have er : (List.range (i + 1)).filterMap g = acc ++ (match g i with | some y => [y] | none => []) := by
        rw [List.range_succ, List.filterMap_append, ← hacc]
        cases hgi : g i <;> simp [hgi]
      cases z with
      | false =>
        refine ⟨F3, gr.trans (g2'.trans g3), ?_⟩
        rw [er, z0 rfl, List.append_nil]
        exact k3
      | true =>
        obtain ⟨y0, hy0, je⟩ := z1 rfl
        refine je (.ld acc) B σ3 _ F3 H3 _ (hE3.gr g3) k3 fun v φ4 F4 H4 g4 k4 r4 => ?_
        have hφ4 : φ4 = φ1 ++ [D] := by
          obtain ⟨χ, e⟩ := g4.pre
          have := k4.len
          rw [e, List.length_append, hlen, List.length_append, List.length_singleton] at this
          rw [e, List.length_eq_zero_iff.mp (show χ.length = 0 by omega), List.append_nil]
        subst hφ4
        obtain ⟨nF4, vs4, hH4, ra4⟩ := k4.own _ _ _ hDφ hSl
        refine ⟨vs4, hH4, by rw [dpa_len ra4]; exact Nat.lt_of_le_of_lt hacl (Nat.lt_of_lt_of_le hlt hl), F4, ?_⟩
        obtain ⟨k5, g5⟩ := k4.put (o := .lst (vs4 ++ [v])) (m := .ld (acc ++ [y0])) hDφ ⟨nF4, _, upd_same, dpa_app ra4 (.cons r4 .nil)⟩ nF4
        refine ⟨gr.trans (g2'.trans (g3.trans (g4.trans g5))), ?_⟩
        rw [er, hy0]
        have : (S1 ++ [MO.ld acc]).set S1.length (.ld (acc ++ [y0])) = S1 ++ [.ld (acc ++ [y0])] := by simp
        rw [this] at k5
        exact k5
  · have e : i = ds.length := by omega
    subst e
    refine .inl ⟨stop, ?_⟩
    -- the list is frozen
    have sF : Same F' (upd F' D (.lst vs)) := fun b u e => by rw [upd_ne (ne_of_none e nF)]; exact e
    have hDφ1 : D ∉ φ1 := fun hm => by
      have := k'.nd
      rw [List.nodup_append] at this
      exact this.2.2 D hm D (by simp) rfl
    have k6 : Ok C.b.K B φ1 (upd F' D (.lst vs)) H' S1 := by
      refine ⟨fun b u e => ?_, k1.nd, k1.dis, k'.bs, k1.len, fun l a o h1 h2 => ?_⟩
      · by_cases hb : b = D
        · subst hb; rw [upd_same] at e; cases e; exact hH
        · rw [upd_ne hb] at e; exact k'.sub _ _ e
      · have hl1 : l < φ1.length := (List.getElem?_eq_some_iff.mp h1).1
        have ha : a ≠ D := fun e => hDφ1 (e ▸ List.mem_of_getElem? h1)
        have r0 := k1.own l a o h1 h2
        have r := k'.own l a o (by rw [List.getElem?_append_left hl1]; exact h1) (by rw [List.getElem?_append_left (by rw [← k1.len]; exact hl1)]; exact h2)
        -- the places of o stand in φ1
        have rv : ∀ (x : V) (w : AV), (∃ x0, RV C.b.K φ1 F1 x0 w) → RV C.b.K (φ1 ++ [D]) F' x w → RV C.b.K φ1 (upd F' D (.lst vs)) x w := fun x w ⟨x0, h0⟩ h => by
          cases w with
          | d y => exact dp_mono sF _ _ h
          | o m =>
            obtain ⟨a0, e0, _⟩ := h0
            obtain ⟨a1, e1, r1⟩ := h
            rw [List.getElem?_append_left (List.getElem?_eq_some_iff.mp e0).1] at e1
            exact ⟨a1, e1, r1⟩
          | v y => exact h
        cases o with
        | dead => exact r
        | ld xs => obtain ⟨n, ws, e, r⟩ := r; exact ⟨by rw [upd_ne ha]; exact n, ws, e, dpa_mono sF _ _ r⟩
        | lst xs =>
          obtain ⟨n, ws, e, r⟩ := r
          obtain ⟨_, ws0, _, r0⟩ := r0
          exact ⟨by rw [upd_ne ha]; exact n, ws, e, paired_two (fun x0 x y q0 q1 => rv x y ⟨x0, q0⟩ q1) r0 r⟩
        | dd kvs => obtain ⟨n, ws, e, r⟩ := r; exact ⟨by rw [upd_ne ha]; exact n, ws, e, Paired.mapP r fun _ _ q => ⟨q.1, dp_mono sF _ _ q.2⟩⟩
        | dk kvs =>
          obtain ⟨n, ws, e, r⟩ := r
          obtain ⟨_, ws0, _, r0⟩ := r0
          exact ⟨by rw [upd_ne ha]; exact n, ws, e, paired_two (fun p0 p q' q0 q1 => ⟨q1.1, rv p.2 q'.2 ⟨p0.2, q0.2⟩ q1.2⟩) r0 r⟩
        | ins Cc fs =>
          obtain ⟨n, dx, ws, e, r⟩ := r
          obtain ⟨_, _, ws0, _, r0⟩ := r0
          exact ⟨by rw [upd_ne ha]; exact n, dx, ws, e, paired_two (fun p0 p q' q0 q1 => ⟨q1.1, rv p.2 q'.2 ⟨p0.2, q0.2⟩ q1.2⟩) r0 r⟩
        | dt kvs => obtain ⟨n, ws, e, r⟩ := r; exact ⟨by rw [upd_ne ha]; exact n, ws, e, Paired.mapP r fun _ _ q => ⟨q.1, dp_mono sF _ _ q.2⟩⟩
        | fd kvs => obtain ⟨o, ws, n, e, r⟩ := r; exact ⟨o, ws, by rw [upd_ne ha]; exact n, e, Paired.mapP r fun _ _ q => ⟨q.1, dp_mono sF _ _ q.2⟩⟩
        | fk kvs =>
          obtain ⟨o, ws, n, e, r⟩ := r
          obtain ⟨_, ws0, _, _, r0⟩ := r0
          exact ⟨o, ws, by rw [upd_ne ha]; exact n, e, paired_two (fun p0 p q' q0 q1 => ⟨q1.1, rv p.2 q'.2 ⟨p0.2, q0.2⟩ q1.2⟩) r0 r⟩
        | ft kvs => obtain ⟨o, ws, n, e, r⟩ := r; exact ⟨o, ws, by rw [upd_ne ha]; exact n, e, Paired.mapP r fun _ _ q => ⟨q.1, dp_mono sF _ _ q.2⟩⟩
    have hDB : D ∉ B := (k1.ne hD).2
    refine q (.ref D) φ1 _ H' ⟨g1.pre, g1.ff.trans (gr.ff.trans sF), fun b hb => ?_⟩ k6 ?_
    · have hbD : b ≠ D := fun e => hDB (e ▸ hb)
      have u1 := g1.bb b hb
      have u2 := gr.bb b hb
      rw [upd_ne hbD] at u2
      exact ⟨u2.1.trans u1.1, by rw [upd_ne hbD]; exact u2.2.trans u1.2⟩
    · rw [← hacc]
      exact .lst (.inl (.inl upd_same)) (dpa_mono sF _ _ ra)
theorem je_lcO {ds : List AV} (own : List (Str × Nat)) (hi : JIA C E S tg iter ds l S1) (g : Nat → Option PyData)
    (step : ∀ i d, ds[i]? = some d → ∃ js E', (∀ j ∈ js, j ∈ own.map (·.2)) ∧ JG (C.blk scope) (wipeE E (own.map (·.2))) tg d js E' ∧ ∃ z, (∀ T, JTs (C.blk scope) E' (S1 ++ [T]) ifs z) ∧
      (z = false → g i = none) ∧ (z = true → ∃ y, g i = some y ∧ ∀ T, JE (C.blk scope) E' (S1 ++ [T]) elt (.d y) (S1 ++ [T])))
    (hl : ds.length ≤ sizeLine) (ok : blkC C.N C.sc scope own = true := by kernel_rfl) (hs : ∀ (i : C.ι) x, foldedSetIterable iter (C.V i).env x = pure x := by intro _ _; rfl) (hh : C.hot = false := by rfl) :
    JE C E S (.ListComp elt [⟨tg, iter, ifs, 0⟩] scope pos) (.d (.list ((List.range ds.length).filterMap g))) S1 := fun B σ φ F H Q hE k q =>
  ⟨_, fun i => pe_lc (own := own) (C.calm hh i) C.nd (wi C tg iter i) (blkok_of ok i) (fun s H c cl fp => wg (C.blk scope) tg ⟨i, s, H, c, cl, fp⟩) (fun s H c cl fp => wts (C.blk scope) ifs ⟨i, s, H, c, cl, fp⟩) (fun s H c cl fp => we (C.blk scope) elt ⟨i, s, H, c, cl, fp⟩) (hs i),
    lcA_ok hi g step hl hE k q⟩
/-- a walk over the store's list at l: each turn it has its items still -/
theorem js_forA (hi : JIA C E S tg iter avs l S1) (Inv : Nat → AE → Sto → Prop) (h0 : Inv 0 E S1) (hin : ∀ i E' S', i ≤ avs.length → Inv i E' S' → itemsA S'[l]? = some avs)
    (step : ∀ i d E' S', avs[i]? = some d → Inv i E' S' → ∃ js E'', JG C E' tg d js E'' ∧ JSs C E'' S' body { nx := Inv (i + 1), ct := Inv (i + 1), rt := q.rt, bk := q.nx, xe := q.xe })
    (fin : ∀ E' S', Inv avs.length E' S' → q.nx E' S') (hs : ∀ (i : C.ι) x, foldedSetIterable iter (C.V i).env x = pure x := by intro _ _; rfl) (hC : C.an = true := by rfl) (hh : C.hot = false := by rfl) : JS C E S (.For tg iter body [] pos) q := by
  refine fun B σ φ F H D hE k d => ⟨tFor (WI C tg iter) (WG C tg) (WSs C body), fun i => ps_for (C.po hh i) (C.calm hh i) (wi C tg iter i) (wg C tg i) (wss C body i) (hs i), ?_⟩
  refine hi B σ φ F H _ hE k fun J φ1 F1 H1 ad g1 k1 hal hit it => ?_
  have up : ∀ {φ' F' H'}, GrA φ1 B F H φ' F' H' → GrA d.an B F H φ' F' H' := fun {φ' F' H'} g => by
    obtain ⟨ψ, e⟩ := g.pre
    obtain ⟨χ, e2⟩ := (d.gs g1).pre
    exact ⟨g.s, χ ++ ψ, e.trans ((congrArg (· ++ ψ) e2).trans (List.append_assoc _ _ _))⟩
  refine ⟨fun i m σ' H' => ∃ E' S' φ' F', m = avs.length - i ∧ i ≤ avs.length ∧ Inv i E' S' ∧ GrA φ1 B F H φ' F' H' ∧ Same F1 F' ∧ EnvR C.b.K φ' F' σ' E' ∧ Ok C.b.K B φ' F' H' S', ⟨_, E, S1, φ1, F1, rfl, Nat.zero_le _, h0, ⟨(d.gs g1).s, [], by simp⟩, Same.refl _, hE.gr g1, k1⟩, ?_⟩
  rintro i m σ' H' ⟨E', S', φ', F', rfl, hle, inv, gs, s1, hE', k'⟩
  have hal' : φ'[l]? = some ad := by
    obtain ⟨ψ, e⟩ := gs.pre
    rw [e, List.getElem?_append_left (List.getElem?_eq_some_iff.mp hal).1]
    exact hal
  obtain ⟨go, stop⟩ := it φ' F' H' S' s1 k' hal' (hin i E' S' hle inv)
  by_cases hlt : i < avs.length
  · have hd : avs[i]? = some avs[i] := by simp [hlt]
    obtain ⟨g, y⟩ := go i _ hd
    obtain ⟨js, E'', hg, hb⟩ := step i _ E' S' hd inv
    refine .inr ⟨g, fun σ2 H2 => ∃ E2 S2 φ2 F2, Inv (i + 1) E2 S2 ∧ GrA φ1 B F H φ2 F2 H2 ∧ Same F1 F2 ∧ EnvR C.b.K φ2 F2 σ2 E2 ∧ Ok C.b.K B φ2 F2 H2 S2, fun σ2 H2 z => ?_, fun x H2 hy => ?_⟩
    · obtain ⟨E2, S2, φ2, F2, a1, a2, a3, a4, a5⟩ := z
      exact ⟨avs.length - (i + 1), by omega, E2, S2, φ2, F2, rfl, hlt, a1, a2, a3, a4, a5⟩
    · obtain ⟨F2, g2, k2, rx⟩ := y x H2 hy
      refine hg B S' σ' φ' F2 H2 x _ (hE'.gr g2) k2 rx fun σ3 _ hE3 => ?_
      refine hb B σ3 φ' F2 H2 _ hE3 k2 ⟨φ1, fun z => (by rw [hC] at z; cases z), gs.pre, ?_, ?_, ?_, ?_, fun x E4 σ4 φ4 F4 H4 S4 cls dd a g4 hE4 k4 => d.xe x E4 σ4 φ4 F4 H4 S4 cls dd a (up (g4.after (gs.s.trans g2.s))) hE4 k4⟩
      · exact fun E4 σ4 φ4 F4 H4 S4 a g4 hE4 k4 => ⟨E4, S4, φ4, F4, a, g4.after (gs.s.trans g2.s), s1.trans (g2.ff.trans g4.s.ff), hE4, k4⟩
      · exact fun av v φ4 F4 H4 S4 a g4 r4 k4 => d.rt av v φ4 F4 H4 S4 a (up (g4.after (gs.s.trans g2.s))) r4 k4
      · exact fun E4 σ4 φ4 F4 H4 S4 a g4 hE4 k4 => d.nx E4 σ4 φ4 F4 H4 S4 a (up (g4.after (gs.s.trans g2.s))) hE4 k4
      · exact fun E4 σ4 φ4 F4 H4 S4 a g4 hE4 k4 => ⟨E4, S4, φ4, F4, a, g4.after (gs.s.trans g2.s), s1.trans (g2.ff.trans g4.s.ff), hE4, k4⟩
  · have e : i = avs.length := by omega
    subst e
    exact .inl ⟨stop, d.nx E' σ' φ' F' H' S' (fin E' S' inv) (up gs) hE' k'⟩
theorem jss_forA (hi : JIA C E S tg iter avs l S1) (Inv : Nat → AE → Sto → Prop) (h0 : Inv 0 E S1) (hin : ∀ i E' S', i ≤ avs.length → Inv i E' S' → itemsA S'[l]? = some avs)
    (step : ∀ i d E' S', avs[i]? = some d → Inv i E' S' → ∃ js E'', JG C E' tg d js E'' ∧ JSs C E'' S' body { nx := Inv (i + 1), ct := Inv (i + 1), rt := q.rt, bk := fun E S => JSs C E S rest q, xe := q.xe })
    (fin : ∀ E' S', Inv avs.length E' S' → JSs C E' S' rest q) (hs : ∀ (i : C.ι) x, foldedSetIterable iter (C.V i).env x = pure x := by intro _ _; rfl) (hC : C.an = true := by rfl) (hh : C.hot = false := by rfl) : JSs C E S (.For tg iter body [] pos :: rest) q :=
  jss_cons (js_forA hi Inv h0 hin step fin hs hC hh)
/-- [elt for x in l], l the store's -/
theorem je_lcoM {α : Type} (own : List (Str × Nat)) (xs : List α) (enc : α → AV) (f : α → PyData) (hi : JIA C E S tg iter (xs.map enc) l S1) (step : ∀ x ∈ xs, ∃ js E', (∀ j ∈ js, j ∈ own.map (·.2)) ∧ JG (C.blk scope) (wipeE E (own.map (·.2))) tg (enc x) js E' ∧ ∀ T, JE (C.blk scope) E' (S1 ++ [T]) elt (.d (f x)) (S1 ++ [T])) (hl : xs.length ≤ sizeLine)
    (ok : blkC C.N C.sc scope own = true := by kernel_rfl) (hs : ∀ (i : C.ι) x, foldedSetIterable iter (C.V i).env x = pure x := by intro _ _; rfl) (hh : C.hot = false := by rfl) : JE C E S (.ListComp elt [⟨tg, iter, [], 0⟩] scope pos) (.d (.list (xs.map f))) S1 := by
  have e := range_fm (fun x => some (f x)) xs
  have h := je_lcO (C := C) (E := E) (S := S) (S1 := S1) (tg := tg) (iter := iter) (elt := elt) (ifs := []) (scope := scope) (pos := pos) own hi (fun i => xs[i]?.bind fun x => some (f x)) (fun i d hd => ?_) (by rw [List.length_map]; exact hl) ok hs hh
  · rw [List.length_map, e] at h
    simpa using h
  · rw [List.getElem?_map] at hd
    cases hx : xs[i]? with
    | none => rw [hx] at hd; cases hd
    | some x =>
      rw [hx] at hd
      cases hd
      obtain ⟨js, E', h1, h2, h3⟩ := step x (List.mem_of_getElem? hx)
      exact ⟨js, E', h1, h2, true, fun T => jts_nil, ⟨fun z => (by cases z), fun _ => ⟨f x, rfl, h3⟩⟩⟩
end
/-! bits -/
theorem ent_ne {S : Sto} {l : Nat} {kas : List (Key × AV)} (h : entO S[l]? = some kas) : entO S[l]? ≠ none := by rw [h]; exact fun z => by cases z
theorem je_castS {C : Fam} {E : AE} {S S1 S2 : Sto} {e : Expr} {av : AV} (h : JE C E S e av S1) (q : S1 = S2) : JE C E S e av S2 := q ▸ h
theorem app_at {S : Sto} {T : MO} {l : Nat} {m : MO} (h : S[l]? = some m) : (S ++ [T])[l]? = some m := by
  rw [List.getElem?_append_left (List.getElem?_eq_some_iff.mp h).1]; exact h
theorem sum_ones {α : Type} (l : List α) (f : α → Str) (h : ∀ x, (f x).length = 1) : ((l.map f).map (·.length)).sum = l.length := by
  induction l with
  | nil => rfl
  | cons x r ih => rw [List.map_cons, List.map_cons, List.sum_cons, ih, h, List.length_cons]; omega
theorem shaped_ints (l : List Int) : SeqAt.shaped (.list (l.map PyData.int)) = true := by
  have h1 : ∀ l : List Int, PyData.canLayAll0 (l.map PyData.int) = true ∧ PyData.depthAll (l.map PyData.int) = 0 := by
    intro l
    induction l with
    | nil => exact ⟨rfl, rfl⟩
    | cons a r ih =>
      obtain ⟨i1, i2⟩ := ih
      refine ⟨?_, ?_⟩
      · show (PyData.canLay0 (.int a) && PyData.canLayAll0 (r.map PyData.int)) = true
        rw [i1]; rfl
      · show max 0 (PyData.depthAll (r.map PyData.int)) = 0
        rw [i2]; rfl
  obtain ⟨a, b⟩ := h1 l
  show (PyData.canLayAll0 _ && decide (PyData.depthAll _ + 1 ≤ 64)) = true
  rw [a, b]
  rfl
theorem eqv_ints (l : List Int) : PyData.eqv (.list (l.map PyData.int)) (.list (l.map PyData.int)) = true := SeqAt.eqv_refl _ (SeqAt.canLay_of_shaped (shaped_ints l))
theorem join_two (a b : Str) : Txt.join (Str.ofString "") [a, b] = a ++ b := by
  rw [join_empty]
  refine ext_tl ?_
  simp [tl_append]
end AL

namespace AL
open PySem PySem.Spec PyProof.Rows L2 TL
def wAs2 (K : PySem.W.Frag) (c0 c : Value) (i : Nat) (ts : Addr → Value → Option Addr → TS) (D : Ends) : WX := fun cls d σ H => PySem.W.exmOne K cls c0 = some false ∧ wAs K c i ts (fun _ _ _ _ => False) D cls d σ H
section
variable {X : Cx} {x n : Str} {c : Value} {i : Nat} {body suite : List Stmt} {b₀ : Stmt} {hds : List ExceptHandler} {np pos pos' : Pos} {tb : WX → TS} {ts : Addr → Value → Option Addr → TS}
theorem ps_try_as2 {x0 n0 : Str} {c0 : Value} {np0 pos0 : Pos} {su0 : List Stmt} (hc0 : Names X x0 c0) (hs : X.stack = X.env :: X.outer) (hf : X.env.frame = some X.env.locals) (hN : X.N.Nodup) (hi : X.N[i]? = some n) (hln : X.env.kindOf n = some .local) (hc : Names X x c)
    (hb : ∀ (W : WX) (pn : List (Addr × Obj)) (xe : Value → Shared → Prop), L2.Takes (X.tr pn xe) W → PassesOwn (model X.prog X.w) X.A X.env xe → PSs (X.tr pn xe) body (tb W))
    (hsu : ∀ (a : Addr) (oe : Obj) (cls : Value) (d : Option Addr) (pn : List (Addr × Obj)), Zc cls d oe → (∃ vs, oe.data = .fields vs) → PSs (X.suite a ((a, oe) :: pn)) (b₀ :: suite) (ts a cls d)) :
    PS X (.Try body (.ExceptHandler (some (.Name x0 np0)) (some n0) su0 pos0 :: .ExceptHandler (some (.Name x np)) (some n) (b₀ :: suite) pos' :: hds) [] [] pos) (fun D σ H => tb (wAs2 X.K c0 c i ts D) D σ H) := by
  refine ⟨fun pins s σ H D I0 hq => ?_⟩
  have ok := I0.ok
  have frm : X.A.frames = some (X.env :: X.outer) := by rw [ok.frames, hs]
  refine wpAny_Try_except ?_
  refine wpAny_mono ((hb (wAs2 X.K c0 c i ts D) (X.pn ++ pins) (fun ev sa => wpAny (model X.prog X.w) X.A (noteFrame ev X.env) (fun _ sb => wpAny (model X.prog X.w) X.A (setFlight ev none) (fun _ sc =>
    wpAny (model X.prog X.w) X.A (handleBy ev X.env (.ExceptHandler (some (.Name x0 np0)) (some n0) su0 pos0 :: .ExceptHandler (some (.Name x np)) (some n) (b₀ :: suite) pos' :: hds)) (SP X pins D) X.xe sc) X.xe sb) X.xe sa) (fun u s' air => ?_) PassesOwn.looking).run [] s σ H D (I0.toTry _) hq) (fun fl s1 hsp => ?_) (fun _ _ he => he)
  · obtain ⟨a, B, sI, pins', σ', H', cls, d, rfl, J0, nb, up, sky0, na, os, ag, hb0, bz, hb1, hyes, hno⟩ := air
    cases bz with
    | false => exact (hno rfl).elim
    | true =>
      have J : Inv X pins σ' H' sI := J0.ofTry ok
      have sky : Sky B (X.env :: X.outer) a (Zc cls d) X.env.locals s'.heap := by rw [← hs]; exact sky0
      show wpAny (model X.prog X.w) X.A (noteFrame (.ref a) X.env) _ _ _
      refine Sky.land Zc.steady frm hf sky fun hp fly upp => ?_
      have Jp : Inv X pins σ' H' { s' with heap := hp } := J.landed nb fly.1 (up.trans upp) os ag
      obtain ⟨ob, vs, hob, hzo, hdo⟩ := fly.there
      have nfr : a ∉ frs (X.env :: X.outer) := fun hm => by
        obtain ⟨_, o2, e2, hnf⟩ := fly.2.2.1.mem hm
        rw [hob] at e2; cases e2
        exact hnf _ hdo
      have nL : a ≠ X.env.locals := fun z => nfr (List.mem_filterMap.mpr ⟨X.env, List.mem_cons_self, by rw [hf, z]⟩)
      have nF : a ∉ X.fs := fun hm => by
        obtain ⟨e2, he2, q2⟩ := List.mem_filterMap.mp hm
        exact nfr (List.mem_filterMap.mpr ⟨e2, List.mem_cons_of_mem _ he2, q2⟩)
      have Sp := Jp.suite hob hdo na nL nF
      have ltp : PySem.W.Looks (model X.prog X.w) hp (typeOf (.ref a)) cls := fun A Q E sx kx qx => wpAny_typeOf_ref (kx _ _ hob) (by rw [hzo.1]; exact qx)
      have lmt := PySem.W.exm_one (M := model X.prog X.w) (Jp.kIn) ltp hb1
      have lmt0 := PySem.W.exm_one (M := model X.prog X.w) (Jp.kIn) ltp hb0
      have asks0 : ∀ {Q : Value → Shared → Prop} {E : Value → Shared → Prop}, Q c0 { s' with heap := hp } → wpAny (model X.prog X.w) (X.A.mark (some (.ref a))) (eval (.Name x0 np0) X.env) Q E { s' with heap := hp } := fun {Q E} q => by
        obtain ⟨hg, hdbg, hm | ⟨hm, hv, hnn⟩⟩ := hc0
        · exact ld_glob (X := X.suite a ((a, ob) :: (X.pn ++ pins))) Sp hg hm q hdbg
        · exact ld_blt (X := X.suite a ((a, ob) :: (X.pn ++ pins))) Sp hg hm hv q hnn hdbg
      refine wpAny_handleBy_cons (codeAny_handlers_test ?_) (by intro q; cases q)
      refine asks0 (lmt0.here ?_)
      show wpAny _ X.A (handleBy (.ref a) X.env (.ExceptHandler (some (.Name x np)) (some n) (b₀ :: suite) pos' :: hds)) _ _ _
      refine wpAny_handleBy_cons (codeAny_handlers_test ?_) (by intro q; cases q)
      have asks : ∀ {Q : Value → Shared → Prop} {E : Value → Shared → Prop}, Q c { s' with heap := hp } → wpAny (model X.prog X.w) (X.A.mark (some (.ref a))) (eval (.Name x np) X.env) Q E { s' with heap := hp } := fun {Q E} q => by
        obtain ⟨hg, hdbg, hm | ⟨hm, hv, hnn⟩⟩ := hc
        · exact ld_glob (X := X.suite a ((a, ob) :: (X.pn ++ pins))) Sp hg hm q hdbg
        · exact ld_blt (X := X.suite a ((a, ob) :: (X.pn ++ pins))) Sp hg hm hv q hnn hdbg
      refine asks (lmt.here ?_)
      refine codeAny_handlers_suite_as ?_
      refine HandSPX.lands_againZ fly fun hr flr upr => ?_
      have Jr : Inv X pins σ' H' { s' with heap := hr } := J.landed nb flr.1 ((up.trans upp).trans upr) os ag
      obtain ⟨ob2, vs2, hob2, hz2, hd2⟩ := flr.there
      have Sr := Jr.suite hob2 hd2 na nL nF
      refine store_ok (X := X.suite a ((a, ob2) :: (X.pn ++ pins))) (v := .ref a) Sr hN hi (.inl hln) rfl (fun s5 S5 => ?_) (.inr hln)
      refine wpAny_mono ((hsu a ob2 cls d (X.pn ++ pins) hz2 ⟨_, hd2⟩).run [] s5 _ H' _ S5 (hyes rfl a na)) (fun fl s6 hsp => ?_) (fun _ _ z => False.elim z)
      have wiped : ∀ {σ6 : L2.St} {H6 : Hp} {Q : Shared → Prop}, Inv (X.suite a ((a, ob2) :: (X.pn ++ pins))) [] σ6 H6 s6 → (∀ s7, Inv X pins (σ6.set i none) H6 s7 → Q s7) →
          wpAny (model X.prog X.w) X.A (do bindName X.env n .none; unbindBehindTheSuite X.env n pos') (fun _ s7 => Q s7) X.xe s6 := fun {σ6 H6 Q} S6 q6 => gone_ok (S6.unsuite ok) hN hi hln q6
      cases fl with
      | next =>
        obtain ⟨σ6, H6, S6, q6⟩ := hsp
        exact wiped S6 fun s7 J7 => ⟨_, _, J7, q6⟩
      | brk =>
        obtain ⟨σ6, H6, S6, q6⟩ := hsp
        exact wiped S6 fun s7 J7 => ⟨_, _, J7, q6⟩
      | cont =>
        obtain ⟨σ6, H6, S6, q6⟩ := hsp
        exact wiped S6 fun s7 J7 => ⟨_, _, J7, q6⟩
      | ret u =>
        obtain ⟨v6, σ6, H6, S6, r6, q6⟩ := hsp
        exact wiped S6 fun s7 J7 => ⟨_, _, _, J7, r6, q6⟩
  · cases fl with
    | next =>
      obtain ⟨σ1, H1, J1, q1⟩ := hsp
      exact wpAny_execs_nil ⟨σ1, H1, J1.ofTry ok, q1⟩
    | brk =>
      obtain ⟨σ1, H1, J1, q1⟩ := hsp
      exact ⟨σ1, H1, J1.ofTry ok, q1⟩
    | cont =>
      obtain ⟨σ1, H1, J1, q1⟩ := hsp
      exact ⟨σ1, H1, J1.ofTry ok, q1⟩
    | ret u =>
      obtain ⟨v1, σ1, H1, J1, r1, q1⟩ := hsp
      exact ⟨v1, σ1, H1, J1.ofTry ok, r1, q1⟩
end
section
variable {C : Fam} {E E' : AE} {S S1 S2 : Sto} {pos np pos' p0 : Pos} {rest body suite : List Stmt} {b₀ : Stmt} {hds : List ExceptHandler} {q : Po} {x : XD}
theorem jss_try_as2 (j : Nat) {n nm n0 nm0 : Str} {cc cc0 : Value} {np0 pos0 : Pos} {su0 : List Stmt} (hc0 : C.b.mg n0 = some cc0) (hc : C.b.mg n = some cc)
    (hb : ∀ W, JSs (C.tr W) E S body { q.then C rest with xe := fun x E' S' => Exm C.b n0 x false ∧ Exm C.b n x true ∧ (∀ (ad : Addr) (cls : Value) (d : Option Addr), (∃ A, C.b.mg x.name = some (.ref A) ∧ cls = .ref A ∧ (x.fs = none → d = none)) →
        JSs (C.suite ad cls d) (E'.set j (some (.v (.ref ad)))) S' (b₀ :: suite) { nx := fun E S => JSs C (E.set j none) S rest q, rt := q.rt, bk := fun E S => q.bk (E.set j none) S, ct := fun E S => q.ct (E.set j none) S }) })
    (hi : C.N[j]? = some nm := by rfl) (hln : C.sc.names.lookup nm = some .local := by rfl) (hg : C.sc.names.lookup n = some .globalImplicit := by rfl) (hdb : (n == ("__debug__" : Str)) = false := by decide) (hg0 : C.sc.names.lookup n0 = some .globalImplicit := by rfl) (hdb0 : (n0 == ("__debug__" : Str)) = false := by decide)
    (hst : ∀ i : C.ι, (C.V i).stack = (C.V i).env :: (C.V i).outer := by intro _; rfl) (hfr : ∀ i : C.ι, (C.V i).env.frame = some (C.V i).env.locals := by intro _; rfl) :
    JSs C E S (.Try body (.ExceptHandler (some (.Name n0 np0)) (some nm0) su0 pos0 :: .ExceptHandler (some (.Name n np)) (some nm) (b₀ :: suite) pos' :: hds) [] [] pos :: rest) q := by
  refine jss_cons fun B σ φ F H D hE k d => ⟨fun D σ H => WSs (C.tr (wAs2 C.b.K cc0 cc j (fun ad cls d => WSs (C.suite ad cls d) (b₀ :: suite)) D)) body D σ H, fun i => ps_try_as2 (X := C.cx i) (i := j) (c0 := cc0) ⟨gl_of hg0 i, hdb0, .inl hc0⟩ (c := cc) (tb := fun W => WSs (C.tr W) body) (ts := fun ad cls d => WSs (C.suite ad cls d) (b₀ :: suite)) (hst i) (hfr i) C.nd hi (by show (C.V i).env.kindOf nm = _; unfold Env.kindOf; rw [C.hsc i]; exact hln) ⟨gl_of hg i, hdb, .inl hc⟩
    (fun W pn xe tk po => wss (C.tr W) body ⟨i, pn, xe, tk, po⟩) (fun ad oe cls d pn hz hf => wss (C.suite ad cls d) (b₀ :: suite) ⟨i, oe, pn, hz, hf⟩), ?_⟩
  refine hb _ B σ φ F H D hE k ⟨d.an, d.hn, d.st, d.nx, d.rt, d.bk, d.ct, fun x E' σ' φ' F' H' S' cls dd hx g hE' k' rx => ?_⟩
  obtain ⟨hz0, hz, h1⟩ := hx
  obtain ⟨A, hA, hcl, hfs⟩ := id rx
  subst hcl
  refine ⟨hz0 A cc0 hA hc0, true, hz A cc hA hc, fun e ad hn => ?_, fun e => by cases e⟩
  have hs := h1 ad (.ref A) dd ⟨A, hA, rfl, fun e => by rw [e] at hfs; exact hfs⟩
  have hE2 : EnvR C.b.K φ' F' (σ'.set j (some (.ref ad))) (E'.set j (some (.v (.ref ad)))) := hE'.set (av := .v (.ref ad)) rfl j
  have wipe : ∀ {E2 : AE} {σ2 : L2.St} {φ2 : List Addr} {F2 : Hp}, EnvR C.b.K φ2 F2 σ2 E2 → EnvR C.b.K φ2 F2 (σ2.set j none) (E2.set j none) := fun {E2 σ2 φ2 F2} h => by
    have := h.wipe [j]
    unfold L2.wipe wipeE at this
    exact this
  refine hs B _ φ' F' H' _ hE2 k' ⟨d.an, d.hn, g.pre, fun E2 σ2 φ2 F2 H2 S2 a g2 h2 k2 => ?_, fun av v φ2 F2 H2 S2 a g2 h2 k2 => ?_, fun E2 σ2 φ2 F2 H2 S2 a g2 h2 k2 => ?_, fun E2 σ2 φ2 F2 H2 S2 a g2 h2 k2 => ?_, fun _ _ _ _ _ _ _ _ _ a => a.elim⟩
  · exact d.nx _ _ φ2 F2 H2 S2 a (g2.after g.s) (wipe h2) k2
  · exact d.rt av v φ2 F2 H2 S2 a (g2.after g.s) h2 k2
  · exact d.bk _ _ φ2 F2 H2 S2 a (g2.after g.s) (wipe h2) k2
  · exact d.ct _ _ φ2 F2 H2 S2 a (g2.after g.s) (wipe h2) k2
theorem jt_cast {C : Fam} {E : AE} {S S1 : Sto} {e : Expr} {z z' : Bool} (h : JT C E S e z S1) (he : z = z') : JT C E S e z' S1 := he ▸ h
end
section
variable {C : Fam} {E : AE} {S S1 : Sto} {a b : Expr} {pos : Pos} {Post Post' : PyData → Prop}
/-- f(..)[i], f giving some data -/
theorem jeq_at {i : Int} (ha : JEQ C E S a Post S1) (hb : JE C E S1 b (.d (.int i)) S1) (h : ∀ r, Post r → ∃ ds d', itemsD r = some ds ∧ atI ds i = some d' ∧ Post' d') (hp : PlainIx b := by exact fun _ _ => rfl) : JEQ C E S (.Subscript a b pos) Post' S1 := by
  intro B σ φ F H Q hE k q
  refine ⟨tOp (rIx C.b.K) (WE C a) (WE C b), fun i => pe_ix (X := C.cx i) ix_seq (we C a i) (we C b i) hp, ?_⟩
  refine ha B σ φ F H _ hE k fun r hr x φ1 F1 H1 g1 k1 r1 => ?_
  obtain ⟨ds, d', hi, hat, hp'⟩ := h r hr
  refine hb B σ φ1 F1 H1 _ (hE.gr g1) k1 fun y φ2 F2 H2 g2 k2 r2 => ?_
  exact (sr_ix (av := .d r) (d := r) (S := S1) rfl hi hat) B φ2 F2 H2 x y Q k2 (r1.gr g2) r2 fun v φ3 F3 H3 g3 k3 r3 => q d' hp' v φ3 F3 H3 (g1.trans (g2.trans g3)) k3 r3
end
end AL

namespace AL
open PySem PySem.Spec PyProof.Rows L2 TL
section
variable {X : Cx} {a b e : Expr} {es : List Expr} {ta tb te : TE} {t : TA} {tl th : TO} {lo hi : Option Expr} {pos p2 : Pos} {x1 : Nat}
theorem pet_tup (h : PAT X es t) : PET X (.Tuple es x1 pos) (tTup t) := by
  intro pins s σ H Q h0 I hq
  refine wpAny_Tuple_spliced (thn (h pos pins s σ H _ h0 I hq) fun us s1 ⟨xs, H1, I1, r, z, q⟩ => ⟨by rw [← r.length]; exact z, ?_⟩)
  have hf : H1 s1.heap.objs.size = none := I1.hok.fresh (Nat.le_refl _)
  refine ⟨.ref s1.heap.objs.size, upd H1 s1.heap.objs.size (.tup xs), I1.laid (t' := s1.toks) (fun b u e => Heap.get?_push_of_some _ e) (Nat.le_refl _) ?_, rfl, q _ hf⟩
  exact ⟨z, us, r, ⟨_, Heap.get?_push_size _ rfl, rfl, _, rfl⟩⟩
theorem pet_ix {r : R2} (hr : IxR X r) (ha : PET X a ta) (hb : PET X b tb) (hs : PlainIx b) : PET X (.Subscript a b pos) (tOp r ta tb) := by
  intro pins s σ H Q h0 I h
  exact Subscript_ (tkn (ha pins s σ H _ h0 I h) fun v s1 hk ⟨x, H1, I1, r1, q1⟩ => thn (hb pins s1 σ H1 _ (Nat.le_trans h0 hk) I1 q1) fun u s2 ⟨y, H2, I2, r2, q2⟩ => hr a b pins s2 σ H2 x y v u Q I2 r1 r2 q2 (hs _ _))
theorem pet_slice {r : V → Option Int → Option Int → Hp → VK → Prop} (hr : SlR X r) (he : PET X e te) (hl : PO X lo tl) (hu : PO X hi th) : PET X (.Subscript e (.Slice lo hi none p2) pos) (tSl r te tl th) := by
  intro pins s σ H Q h0 I h
  refine Subscript_ (thn (he pins s σ H _ h0 I h) fun v s1 ⟨x, H1, I1, r1, q1⟩ => ?_)
  refine wpAny_Slice (thn (hl.run pins s1 σ H1 _ I1 q1) fun vl s2 ⟨l, H2, I2, pl, q2⟩ => thn (hu.run pins s2 σ H2 _ I2 q2) fun vu s3 ⟨u, H3, I3, pu, q3⟩ => ?_)
  rw [evalPart_none]
  refine wpAny_pure ?_
  have I4 : Inv X pins σ H3 { s3 with heap := s3.heap.push { cls := .type "slice", data := .fields #[vl, vu, .none] } } := I3.kept (t' := s3.toks) fun b ob q => Heap.get?_push_of_some _ q
  obtain ⟨T, id, hT, ht, hg⟩ := hr pins { s3 with heap := s3.heap.push { cls := .type "slice", data := .fields #[vl, vu, .none] } } σ H3 x v vl vu l u s3.heap.objs.size Q I4 r1 (Heap.IsSliceOf.new ..) pl pu q3
  show wpAny (model X.prog X.w) X.A (subscriptTail e (.Slice lo hi none p2) v (.ref s3.heap.objs.size)) (EP X pins σ Q) X.xe { s3 with heap := s3.heap.push { cls := .type "slice", data := .fields #[vl, vu, .none] } }
  exact tail_any (ops := [.ref s3.heap.objs.size, v]) ht hT hg (by with_unfolding_all rfl)
end
def WAT (C : Fam) (es : List Expr) : TA := fun σ H Q => ∃ t : TA, (∀ i, PAT (C.cx i) es t) ∧ t σ H Q
theorem wat (C : Fam) (es : List Expr) (i : C.ι) : PAT (C.cx i) es (WAT C es) := fun pos pins s σ H Q h0 I ⟨_, h, q⟩ => h i pos pins s σ H Q h0 I q
def JDT (C : Fam) (E : AE) (S : Sto) (es : List Expr) (ds : List PyData) (S' : Sto) : Prop := ∀ (B : List Addr) (σ : L2.St) (φ : List Addr) (F H : Hp) (Q : List V → Hp → Prop), EnvR C.b.K φ F σ E → Ok C.b.K B φ F H S →
  (∀ vs φ' F' H', Gr B φ F H φ' F' H' → Ok C.b.K B φ' F' H' S' → DpAll C.b.K F' vs ds → Q vs H') → WAT C es σ H Q
section
variable {C : Fam} {E : AE} {S S1 S2 S3 : Sto} {a b e o : Expr} {es : List Expr} {av bv : AV} {pos p2 apos cpos : Pos} {d d' : PyData} {ds : List PyData} {lo hi : Option Expr} {rest : List Stmt} {p : Po} {l : Nat} {s : Str}
theorem jdt_nil : JDT C E S [] [] S := fun B σ φ F H Q hE k q => ⟨tNil, fun _ => pat_nil, q [] φ F H .refl k .nil⟩
theorem jdt_cons (h : JET C E S e (.d d) S1) (t : JDT C E S1 es ds S2) (hs : ∀ i : C.ι, starEach (e :: es) (C.V i).env = (false, eval e (C.V i).env) :: starEach es (C.V i).env := by intro _; rfl) : JDT C E S (e :: es) (d :: ds) S2 := by
  intro B σ φ F H Q hE k q
  refine ⟨tCons (WET C e) (WAT C es), fun i => pat_cons (wet C e i) (wat C es i) (hs i), ?_⟩
  refine h B σ φ F H _ hE k fun x φ1 F1 H1 g1 k1 r1 => ?_
  refine t B σ φ1 F1 H1 _ (hE.gr g1) k1 fun vs φ2 F2 H2 g2 k2 r2 => ?_
  exact q (x :: vs) φ2 F2 H2 (g1.trans g2) k2 (.cons (r1.gr g2) r2)
theorem jet_tp {j : Nat} (ha : JDT C E S es ds S1) (hl : ds.length ≤ sizeLine := by exact Nat.le_of_ble_eq_true rfl) : JET C E S (.Tuple es j pos) (.d (.tuple ds)) S1 := by
  intro B σ φ F H Q hE k q
  refine ⟨tTup (WAT C es), fun i => pet_tup (wat C es i), ?_⟩
  refine ha B σ φ F H _ hE k fun vs φ1 F1 H1 g1 k1 r => ?_
  refine ⟨by rw [dpa_len r]; exact hl, fun p hp => ?_⟩
  obtain ⟨k2, g2⟩ := k1.data (o := .tup vs) hp
  exact q (.ref p) φ1 _ _ (g1.trans g2) k2 (.tup (.inl (.inl upd_same)) (dpa_mono g2.ff _ _ r))
theorem jet_ls (ha : JDT C E S es ds S1) (hl : ds.length ≤ sizeLine := by exact Nat.le_of_ble_eq_true rfl) : JET C E S (.List es pos) (.d (.list ds)) S1 := by
  intro B σ φ F H Q hE k q
  refine ⟨tLst (WAT C es), fun i => pet_lst (wat C es i), ?_⟩
  refine ha B σ φ F H _ hE k fun vs φ1 F1 H1 g1 k1 r => ?_
  refine ⟨by rw [dpa_len r]; exact hl, fun p hp => ?_⟩
  obtain ⟨k2, g2⟩ := k1.data (o := .lst vs) hp
  exact q (.ref p) φ1 _ _ (g1.trans g2) k2 (.lst (.inl (.inl upd_same)) (dpa_mono g2.ff _ _ r))
theorem jet_at {i : Int} (ha : JET C E S a av S1) (hb : JET C E S1 b (.d (.int i)) S2) (hr : rdA S2 av = some d) (hi : itemsD d = some ds) (h : atI ds i = some d') (hp : PlainIx b := by exact fun _ _ => rfl) : JET C E S (.Subscript a b pos) (.d d') S2 := by
  intro B σ φ F H Q hE k q
  refine ⟨tOp (rIx C.b.K) (WET C a) (WET C b), fun i => pet_ix (X := C.cx i) ix_seq (wet C a i) (wet C b i) hp, ?_⟩
  refine ha B σ φ F H _ hE k fun x φ1 F1 H1 g1 k1 r1 => ?_
  refine hb B σ φ1 F1 H1 _ (hE.gr g1) k1 fun y φ2 F2 H2 g2 k2 r2 => ?_
  exact (sr_ix hr hi h) B φ2 F2 H2 x y Q k2 (r1.gr g2) r2 fun v φ3 F3 H3 g3 k3 r3 => q v φ3 F3 H3 (g1.trans (g2.trans g3)) k3 r3
theorem jet_cuts {x y : Option Int} (ha : JET C E S a (.d (.str s)) S1) (hl : JO C E S1 lo x S2) (hh : JO C E S2 hi y S3) (hz : s.length ≤ sizeLine) : JET C E S (.Subscript a (.Slice lo hi none p2) pos) (.d (.str (cutS s x y))) S3 := by
  intro B σ φ F H Q hE k q
  refine ⟨tSl rSlS (WET C a) (WO C lo) (WO C hi), fun n => pet_slice (X := C.cx n) sl_str (wet C a n) (wo C lo n) (wo C hi n), ?_⟩
  refine ha B σ φ F H _ hE k fun x φ1 F1 H1 g1 k1 r1 => ?_
  refine hl B σ φ1 F1 H1 _ (hE.gr g1) k1 fun φ2 F2 H2 g2 k2 => ?_
  refine hh B σ φ2 F2 H2 _ ((hE.gr g1).gr g2) k2 fun φ3 F3 H3 g3 k3 => ?_
  exact (srs_str (K := C.b.K) (S := S3) hz) B φ3 F3 H3 x Q k3 ((r1.gr g2).gr g3) fun v φ4 F4 H4 g4 k4 r4 => q v φ4 F4 H4 (g1.trans (g2.trans (g3.trans g4))) k4 r4
theorem jst_ret (he : JET C E S e av S1) (h : p.rt av S1) : JSsT C E S (.Return (some e) pos :: rest) p := by
  intro B σ φ F H D hE k d
  refine ⟨tSeq (tRet (WET C e)) (WSsT C rest), fun i => psst_cons (CwR.pst_ret (wet C e i)) (wsst C rest i), ?_⟩
  exact he B σ φ F H _ hE k fun v φ1 F1 H1 g1 k1 r1 => d.rt av v φ1 F1 H1 S1 h (d.gs g1) r1 k1
/-! list.pop -/
theorem dpa_last {K : PySem.W.Frag} {F : Hp} : ∀ {ds : List PyData} {vs : List V}, DpAll K F vs (ds ++ [d]) → ∃ vs0 v, vs = vs0 ++ [v] ∧ DpAll K F vs0 ds ∧ Dp K F v d
  | [], _, .cons h .nil => ⟨[], _, rfl, .nil, h⟩
  | _ :: _, _, .cons h t => by
    obtain ⟨vs0, v, e, a, b⟩ := dpa_last t
    exact ⟨_ :: vs0, v, by rw [e]; rfl, .cons h a, b⟩
theorem je_pop (ho : JE C E S o (.o l) S1) (hl : S1[l]? = some (.ld (ds ++ [d])))
    (hbase : ∀ i : C.ι, attributeBase o ("pop" : Str) (C.V i).env (eval o (C.V i).env) = eval o (C.V i).env := by intro _; rfl) (hline : (apos.endLine == cpos.line) = true := by rfl) :
    JE C E S (.Call (.Attribute o "pop" apos) [] [] cpos) (.d d) (S1.set l (.ld ds)) := by
  intro B σ φ F H Q hE k q
  refine ⟨tBM0 C.b.K "list" rPop (WE C o), fun i => pe_bm0 (X := C.cx i) PySem.F.plainAttrs_list PySem.F.slot_list_pop PySem.F.type_list_pop mt_pop (we C o i) (hbase i) hline, ?_⟩
  refine ho B σ φ F H _ hE k fun x φ1 F1 H1 g1 k1 r1 => ?_
  obtain ⟨a, ea, rfl⟩ := id r1
  obtain ⟨n, vs, hH, ra⟩ := k1.own l a _ ea hl
  obtain ⟨vs0, v, rfl, r0, rv⟩ := dpa_last ra
  refine ⟨.inl ⟨rfl, _, .inl (.inl hH)⟩, a, vs0 ++ [v], v, rfl, rfl, hH, by simp, ?_⟩
  rw [List.dropLast_concat]
  obtain ⟨k3, g3⟩ := k1.put (o := .lst vs0) (m := .ld ds) ea ⟨n, _, upd_same, r0⟩ n
  exact q v _ _ _ (g1.trans g3) k3 rv
end
/-! a global tuple of texts -/
def TupC (b : Bs) (x : Str) (xs : List Str) : Prop := ∃ a, b.mg x = some (.ref a) ∧ ∃ (o : Obj) (its : Array Value) (n : Nat), b.K.lookup a = some o ∧ o.cls = .type "tuple" ∧ o.data = .seq its n ∧ its.size ≤ sizeLine ∧ Vals (xs.map V.str) its.toList
theorem je_tupc {C : Fam} {E : AE} {S : Sto} {x : Str} {xs : List Str} {pos : Pos} (h : TupC C.b x xs) (hg : C.sc.names.lookup x = some .globalImplicit := by rfl) (hd : (x == ("__debug__" : Str)) = false := by decide) : JE C E S (.Name x pos) (.d (.tuple (xs.map PyData.str))) S := by
  obtain ⟨a, hm, o, its, n, h1, h2, h3, h4, h5⟩ := h
  exact je_glob (v := .ref a) hm rfl (fun φ F => .tup (.inr ⟨o, its, n, h1, h2, h3, h4, h5⟩) (dpa_of_strs xs)) hg hd
/-- a sequence asked -/
theorem jt_lst {C : Fam} {E : AE} {S S1 : Sto} {e : Expr} {av : AV} {d : PyData} {ds : List PyData} (h : JE C E S e av S1) (hr : rdA S1 av = some d) (hi : itemsD d = some ds) (he : ∀ (i : C.ι) whole, isTrue e (C.V i).env whole = (do let v ← whole; standAt e.pos; holding [v] (truthy v)) := by intro _ _; rfl) : JT C E S e (!ds.isEmpty) S1 := by
  intro B σ φ F H Q hE k q
  refine ⟨fun σ H Q => WE C e σ H fun x H' => ∃ k, TruV C.b.K x H' k ∧ Q k H', fun i => pt_truth (X := C.cx i) (we C e i) (he i), ?_⟩
  refine h B σ φ F H _ hE k fun x φ1 F1 H1 g1 k1 r1 => ?_
  obtain ⟨a, vs, rfl, hs, ra⟩ := rd_seq k1 r1 hr hi
  have hl := dpa_len ra
  have e1 : (!ds.isEmpty) = !vs.isEmpty := by cases vs <;> cases ds <;> first | rfl | (simp at hl)
  refine ⟨!ds.isEmpty, ?_, q φ1 F1 H1 g1 k1⟩
  rw [e1]
  rcases hs with hs | hs
  · exact .inl ⟨vs, hs, rfl⟩
  · exact .inr (.inl ⟨vs, hs, rfl⟩)
theorem jeq_of {C : Fam} {E : AE} {S S1 : Sto} {e : Expr} {d : PyData} (h : JE C E S e (.d d) S1) : JEQ C E S e (fun r => r = d) S1 := fun B σ φ F H Q hE k q => h B σ φ F H Q hE k fun v φ' F' H' g k' r => q d rfl v φ' F' H' g k' r
/-- l.append(f(..)), f giving some data -/
theorem jss_appendQ {C : Fam} {E : AE} {S S1 S2 : Sto} {o e : Expr} {apos cpos pos : Pos} {l : Nat} {ds0 ds : List PyData} {rest : List Stmt} {p : Po} {Post : PyData → Prop} (ho : JE C E S o (.o l) S1) (he : JEQ C E S1 e Post S2) (hl0 : S1[l]? = some (.ld ds0)) (hl : S2[l]? = some (.ld ds)) (hn : ds.length < sizeLine) (h : ∀ d, Post d → JSs C E (S2.set l (.ld (ds ++ [d]))) rest p)
    (hbase : ∀ i : C.ι, attributeBase o ("append" : Str) (C.V i).env (eval o (C.V i).env) = eval o (C.V i).env := by intro _; rfl)
    (hfew : ∀ i : C.ι, ((backTo cpos (starEach [e] (C.V i).env)).all (fun x => !x.1) && (backToKw cpos (keywordEach [] (C.V i).env)).all (fun x => x.1.isSome)
      && decide ([e].length + ([] : List Keyword).length + (if ([] : List Keyword).isEmpty then 0 else 1) < 30)) = true := by intro _; rfl)
    (hline : (apos.endLine == cpos.line) = true := by rfl) (hst : ∀ i : C.ι, starEach [e] (C.V i).env = (false, eval e (C.V i).env) :: starEach [] (C.V i).env := by intro _; rfl) (hpl : ∀ i : C.ι, (backTo cpos (starEach [] (C.V i).env)).any (·.1) = false := by intro _; rfl)
    (hs : ∀ i : C.ι, swapsWith (.Call (.Attribute o "append" apos) [e] [] cpos) none pos.line (C.V i).env = pure false := by intro _; rfl) :
    JSs C E S (.Expr (.Call (.Attribute o "append" apos) [e] [] cpos) pos :: rest) p := by
  refine jss_cons fun B σ φ F H D hE k d => ⟨tDrop (tBM C.b.K "list" rAppend (WE C o) (tCons (WE C e) tNil)), fun i => ps_expr (pe_bm (X := C.cx i) PySem.F.plainAttrs_list PySem.F.slot_list_append PySem.F.type_list_append mt_append (we C o i) (pa_cons (we C e i) pa_nil (hst i)) (hbase i) (hfew i) hline (hst i) (hpl i)) (hs i), ?_⟩
  refine ho B σ φ F H _ hE k fun x φ1 F1 H1 g1 k1 r1 => ?_
  obtain ⟨a, ea, rfl⟩ := id r1
  obtain ⟨n, vs, hH, ra⟩ := k1.own l a _ ea hl0
  refine ⟨.inl ⟨rfl, vs, .inl (.inl hH)⟩, he B σ φ1 F1 H1 _ (hE.gr g1) k1 fun dd hdd v φ2 F2 H2 g2 k2 r2 => ?_⟩
  obtain ⟨a2, ea2, e2⟩ := r1.gr g2
  cases e2
  obtain ⟨n2, vs2, hH2, ra2⟩ := k2.own l a _ ea2 hl
  refine ⟨a, vs2, v, rfl, rfl, hH2, by rw [dpa_len ra2]; exact hn, ?_⟩
  obtain ⟨k3, g3⟩ := k2.put (o := .lst (vs2 ++ [v])) (m := .ld (ds ++ [dd])) ea2 ⟨n2, _, upd_same, dpa_app ra2 (.cons r2 .nil)⟩ n2
  exact d.nx E σ _ _ _ _ (h dd hdd) (d.gs (g1.trans (g2.trans g3))) (((hE.gr g1).gr g2).gr g3) k3
/-! for x in f(..), f giving some list -/
def JIQ (C : Fam) (E : AE) (S : Sto) (tg iter : Expr) (Post : List PyData → Prop) (S' : Sto) : Prop := ∀ (B : List Addr) (σ : L2.St) (φ : List Addr) (F H : Hp) (R : It → Hp → Prop), EnvR C.b.K φ F σ E → Ok C.b.K B φ F H S →
  (∀ ds, Post ds → ∀ J φ1 F1 H1, Gr B φ F H φ1 F1 H1 → Ok C.b.K B φ1 F1 H1 S' → ItOk C.b.K B F1 J ds → R J H1) → WI C tg iter σ H R
section
variable {C : Fam} {E E' : AE} {S S1 S2 S3 : Sto} {a b c e tg iter : Expr} {es : List Expr} {av bv cv : AV} {avs : List AV} {pos : Pos} {st : Stmt} {rest body els : List Stmt} {p : Po}
theorem ji_listQ {Post : PyData → Prop} {PostL : List PyData → Prop} (h : JEQ C E S iter Post S1) (hp : ∀ r, Post r → ∃ ds, r = .list ds ∧ PostL ds) : JIQ C E S tg iter PostL S1 := by
  intro B σ φ F H R hE k q
  refine ⟨iList C.b.K (WE C iter), fun i => pi_list (we C iter i), h B σ φ F H _ hE k fun r hr v φ1 F1 H1 g1 k1 r1 => ?_⟩
  obtain ⟨ds, rfl, hds⟩ := hp r hr
  cases r1 with
  | @lst a xs _ hs ha =>
    refine ⟨a, rfl, ⟨xs, k1.seqL hs⟩, q ds hds _ φ1 F1 H1 g1 k1 fun ψ F2 H2 S2 s2 k2 => ?_⟩
    have hs2 : SqL C.b.K H2 a xs := k2.seqL (s2.seq hs)
    refine ⟨fun i d hd => ?_, ⟨xs, hs2, by rw [dpa_len ha]; exact Nat.le_refl _⟩⟩
    obtain ⟨x, hx, rx⟩ := dpa_get' ha hd
    refine ⟨⟨xs, x, hs2, hx⟩, fun y H' hy => ?_⟩
    obtain ⟨rfl, hy⟩ := hy
    have e := (hy xs hs2).symm.trans hx
    cases e
    exact ⟨F2, .refl, k2, dp_mono s2 _ _ rx⟩
theorem jss_forQ {PostL : List PyData → Prop} (hi : JIQ C E S tg iter PostL S1) (Inv : List PyData → Nat → AE → Sto → Prop) (h0 : ∀ ds, PostL ds → Inv ds 0 E S1)
    (step : ∀ ds i d E' S', PostL ds → ds[i]? = some d → Inv ds i E' S' → ∃ js E'', JG C E' tg (.d d) js E'' ∧ JSs C E'' S' body { nx := Inv ds (i + 1), ct := Inv ds (i + 1), rt := p.rt, bk := fun E S => JSs C E S rest p, xe := p.xe })
    (fin : ∀ ds E' S', PostL ds → Inv ds ds.length E' S' → JSs C E' S' rest p) (hs : ∀ (i : C.ι) x, foldedSetIterable iter (C.V i).env x = pure x := by intro _ _; rfl) (hh : C.hot = false := by rfl) : JSs C E S (.For tg iter body [] pos :: rest) p := by
  refine jss_cons fun B σ φ F H D hE k d => ⟨tFor (WI C tg iter) (WG C tg) (WSs C body), fun i => ps_for (C.po hh i) (C.calm hh i) (wi C tg iter i) (wg C tg i) (wss C body i) (hs i), ?_⟩
  refine hi B σ φ F H _ hE k fun ds hds J φ1 F1 H1 g1 k1 it => ?_
  refine ⟨fun i m σ' H' => ∃ E' S' φ' F', m = ds.length - i ∧ i ≤ ds.length ∧ Inv ds i E' S' ∧ GrA d.an B F H φ' F' H' ∧ Same F1 F' ∧ EnvR C.b.K φ' F' σ' E' ∧ Ok C.b.K B φ' F' H' S', ⟨_, E, S1, φ1, F1, rfl, Nat.zero_le _, h0 ds hds, d.gs g1, Same.refl _, hE.gr g1, k1⟩, ?_⟩
  rintro i m σ' H' ⟨E', S', φ', F', rfl, hle, inv, gs, s1, hE', k'⟩
  obtain ⟨go, stop⟩ := it φ' F' H' S' s1 k'
  by_cases hlt : i < ds.length
  · have hd : ds[i]? = some ds[i] := by simp [hlt]
    obtain ⟨g, y⟩ := go i _ hd
    obtain ⟨js, E'', hg, hb⟩ := step ds i _ E' S' hds hd inv
    refine .inr ⟨g, fun σ2 H2 => ∃ E2 S2 φ2 F2, Inv ds (i + 1) E2 S2 ∧ GrA d.an B F H φ2 F2 H2 ∧ Same F1 F2 ∧ EnvR C.b.K φ2 F2 σ2 E2 ∧ Ok C.b.K B φ2 F2 H2 S2, fun σ2 H2 z => ?_, fun x H2 hy => ?_⟩
    · obtain ⟨E2, S2, φ2, F2, a1, a2, a3, a4, a5⟩ := z
      exact ⟨ds.length - (i + 1), by omega, E2, S2, φ2, F2, rfl, hlt, a1, a2, a3, a4, a5⟩
    · obtain ⟨F2, g2, k2, rx⟩ := y x H2 hy
      refine hg B S' σ' φ' F2 H2 x _ (hE'.gr g2) k2 rx fun σ3 _ hE3 => ?_
      refine hb B σ3 φ' F2 H2 _ hE3 k2 ⟨d.an, d.hn, gs.preg g2, ?_, ?_, ?_, ?_, fun x E4 σ4 φ4 F4 H4 S4 cls dd a g4 hE4 k4 => d.xe x E4 σ4 φ4 F4 H4 S4 cls dd a (g4.after (gs.s.trans g2.s)) hE4 k4⟩
      · exact fun E4 σ4 φ4 F4 H4 S4 a g4 hE4 k4 => ⟨E4, S4, φ4, F4, a, g4.after (gs.s.trans g2.s), s1.trans (g2.ff.trans g4.s.ff), hE4, k4⟩
      · exact fun av v φ4 F4 H4 S4 a g4 r4 k4 => d.rt av v φ4 F4 H4 S4 a (g4.after (gs.s.trans g2.s)) r4 k4
      · exact fun E4 σ4 φ4 F4 H4 S4 a g4 hE4 k4 => d.nx E4 σ4 φ4 F4 H4 S4 a (g4.after (gs.s.trans g2.s)) hE4 k4
      · exact fun E4 σ4 φ4 F4 H4 S4 a g4 hE4 k4 => ⟨E4, S4, φ4, F4, a, g4.after (gs.s.trans g2.s), s1.trans (g2.ff.trans g4.s.ff), hE4, k4⟩
  · have e : i = ds.length := by omega
    subst e
    exact .inl ⟨stop, d.nx E' σ' φ' F' H' S' (fin ds E' S' hds inv) gs hE' k'⟩
end
/-- a call with an argument that raises -/
theorem jx_clA {C : Fam} {E : AE} {S S1 : Sto} {e : Expr} {es : List Expr} {x : XD} {pos q0 : Pos} {m : Bool} {n : Str} {j : Nat} {R : List PyData → Res → Prop} (c : CalB m C.b n j R) (ha : JAX C E S (e :: es) x S1) (hj : j ≤ C.k := by exact Nat.le_of_ble_eq_true rfl)
    (hg : C.sc.names.lookup n = some .globalImplicit := by rfl) (hdb : (n == ("__debug__" : Str)) = false := by decide) (he : ∀ i : C.ι, starEach (e :: es) (C.V i).env = (false, eval e (C.V i).env) :: starEach es (C.V i).env := by intro _; rfl)
    (hpl : ∀ i : C.ι, (backTo pos (starEach es (C.V i).env)).any (·.1) = false := by intro _; rfl) (hh : C.hot = false := by rfl) (hm' : m = true ∨ C.nn = false := by first | exact .inl rfl | exact .inr rfl) : JX C E S (.Call (.Name n q0) (e :: es) [] pos) x S1 := by
  obtain ⟨f, fd, ps, G, hm, kp, hb⟩ := c.ex
  intro B σ φ F H Q hE k q
  refine ⟨tCallS (spX C.b R) (L2.WE C.W) (WA C (e :: es)), fun i => pe_callS (X := C.cx i) G ((C.hr hh i).mono hj) (gl_of hg i) hm kp hb (fun σ => passB hm' i σ) (wa C _ i) hdb (he i) (hpl i), ?_⟩
  exact ha B σ φ F H _ hE k q
/-- xs + f(..), f giving some list -/
theorem jeq_cat {C : Fam} {E : AE} {S S1 S2 : Sto} {a b : Expr} {av : AV} {pos : Pos} {ds : List PyData} {Post Post' : PyData → Prop} (ha : JE C E S a av S1) (h1 : rdA S2 av = some (.list ds)) (hb : JEQ C E S1 b Post S2) (h : ∀ r, Post r → ∃ ds', r = .list ds' ∧ ds.length + ds'.length ≤ sizeLine ∧ Post' (.list (ds ++ ds'))) : JEQ C E S (.BinOp a .Add b pos) Post' S2 := by
  intro B σ φ F H Q hE k q
  refine ⟨tOp (rCatS C.b.K) (WE C a) (WE C b), fun i => pe_op (op_catS (X := C.cx i)) (we C a i) (we C b i), ?_⟩
  refine ha B σ φ F H _ hE k fun x φ1 F1 H1 g1 k1 r1 => ?_
  refine hb B σ φ1 F1 H1 _ (hE.gr g1) k1 fun r hr y φ2 F2 H2 g2 k2 r2 => ?_
  obtain ⟨ds', rfl, hl, hp⟩ := h r hr
  exact (sr_cat (S := S2) (av := av) (bv := .d (.list ds')) h1 rfl hl) B φ2 F2 H2 x y Q k2 (r1.gr g2) r2 fun v φ3 F3 H3 g3 k3 r3 => q _ hp v φ3 F3 H3 (g1.trans (g2.trans g3)) k3 r3
end AL

namespace AL
open PySem PySem.Spec PyProof.Rows L2 TL
def rIsBn : R2 := fun x y H Q => ∃ b, y = .bl b ∧ ((∃ a, x = .bl a ∧ Q (.bl (decide (a = b))) H) ∨ (x = .non ∧ Q (.bl false) H))
theorem op_isBn {X : Cx} : OpR X (compareOp .Is) rIsBn := by
  intro pins s σ H x y v u Q I rx ry h
  obtain ⟨b, rfl, h⟩ := h
  rcases h with ⟨a, rfl, q⟩ | ⟨rfl, q⟩
  · cases (show v = Value.bool a from rx)
    cases (show u = Value.bool b from ry)
    by_cases e : a = b
    · subst e
      exact wpAny_is_self rfl ⟨.bl true, H, I, rfl, by simpa using q⟩
    · exact wpAny_is_other rfl (fun z => e (Value.bool.inj z)) ⟨.bl false, H, I, rfl, by simpa [e] using q⟩
  · cases (show v = Value.none from rx)
    cases (show u = Value.bool b from ry)
    exact wpAny_is_plain rfl ⟨.bl false, H, I, rfl, q⟩
def isBv : PyData → Bool → Bool
  | .bool a, b => decide (a = b)
  | _, _ => false
section
variable {C : Fam} {E : AE} {S S1 S2 S3 : Sto} {a b e o : Expr} {es : List Expr} {av bv : AV} {pos p2 apos cpos : Pos} {d d' : PyData} {ds : List PyData}
theorem sr_isBn {K : PySem.W.Frag} {S : Sto} {z : Bool} (hd : d = .none ∨ ∃ x, d = .bool x) : SR2 K S rIsBn (.d d) (.d (.bool z)) (.d (.bool (isBv d z))) S := fun B φ F H x y Q k r1 r2 q => by
  cases r2
  rcases hd with rfl | ⟨c, rfl⟩
  · cases r1
    exact ⟨z, rfl, .inr ⟨rfl, fin0 k q (.bl _)⟩⟩
  · cases r1
    exact ⟨z, rfl, .inl ⟨c, rfl, fin0 k q (.bl _)⟩⟩
theorem jt_isB {z : Bool} (ha : JE C E S a (.d d) S1) (hb : JE C E S1 b (.d (.bool z)) S2) (hd : d = .none ∨ ∃ x, d = .bool x) (hm : behindInMarks .Is b = false := by rfl) : JT C E S (.Compare a [.Is] [b] pos) (isBv d z) S2 := jt_cmp (fun _ => op_isBn) (sr_isBn hd) ha hb hm
theorem je_isB {z : Bool} (ha : JE C E S a (.d d) S1) (hb : JE C E S1 b (.d (.bool z)) S2) (hd : d = .none ∨ ∃ x, d = .bool x) (hm : behindInMarks .Is b = false := by rfl) : JE C E S (.Compare a [.Is] [b] pos) (.d (.bool (isBv d z))) S2 := je_cmp (fun _ => op_isBn) (sr_isBn hd) ha hb hm
/-- [..].index(n) -/
theorem je_index {n : Str} {ns : List Str} {j : Nat} (ho : JE C E S o av S1) (he : JE C E S1 e (.d (.str n)) S2) (hr1 : rdA S1 av = some (.list (ns.map PyData.str))) (hr : rdA S2 av = some (.list (ns.map PyData.str))) (hj : ns[j]? = some n) (hno : ∀ m, m < j → ns[m]? ≠ some n)
    (hbase : ∀ i : C.ι, attributeBase o ("index" : Str) (C.V i).env (eval o (C.V i).env) = eval o (C.V i).env := by intro _; rfl)
    (hfew : ∀ i : C.ι, ((backTo cpos (starEach [e] (C.V i).env)).all (fun x => !x.1) && (backToKw cpos (keywordEach [] (C.V i).env)).all (fun x => x.1.isSome)
      && decide ([e].length + ([] : List Keyword).length + (if ([] : List Keyword).isEmpty then 0 else 1) < 30)) = true := by intro _; rfl)
    (hline : (apos.endLine == cpos.line) = true := by rfl) (hst : ∀ i : C.ι, starEach [e] (C.V i).env = (false, eval e (C.V i).env) :: starEach [] (C.V i).env := by intro _; rfl) (hpl : ∀ i : C.ι, (backTo cpos (starEach [] (C.V i).env)).any (·.1) = false := by intro _; rfl) :
    JE C E S (.Call (.Attribute o "index" apos) [e] [] cpos) (.d (.int (j : Nat))) S2 := by
  intro B σ φ F H Q hE k q
  refine ⟨tBM C.b.K "list" (rIndex C.b.K) (WE C o) (tCons (WE C e) tNil), fun i => pe_bm (X := C.cx i) PySem.F.plainAttrs_list PySem.F.slot_list_index PySem.F.type_list_index mt_index (we C o i) (pa_cons (we C e i) pa_nil (hst i)) (hbase i) (hfew i) hline (hst i) (hpl i), ?_⟩
  refine ho B σ φ F H _ hE k fun x φ1 F1 H1 g1 k1 r1 => ?_
  obtain ⟨a1, vs1, rfl, hs1, ra1⟩ := rd_list k1 r1 hr1
  refine ⟨.inl ⟨rfl, vs1, hs1⟩, he B σ φ1 F1 H1 _ (hE.gr g1) k1 fun v φ2 F2 H2 g2 k2 r2 => ?_⟩
  obtain ⟨a2, vs2, e2, hs2, ra2⟩ := rd_list k2 (r1.gr g2) hr
  cases e2
  cases r2
  have ev := dpa_strs ra2
  subst ev
  have hz : (ns.map V.str)[j]? = some (.str n) := by rw [List.getElem?_map, hj]; rfl
  refine ⟨_, ns.map V.str, .str n, j, .str n, rfl, rfl, hs2, rfl, ?_, hz, ?_, fun m z' hm hz' => ?_, q _ φ2 F2 H2 (g1.trans g2) k2 (.int _)⟩
  · exact List.all_eq_true.mpr fun v hv => by obtain ⟨x, _, rfl⟩ := List.mem_map.mp hv; rfl
  · show (n == n) = true
    simp
  · rw [List.getElem?_map] at hz'
    obtain ⟨x, hx, rfl⟩ : ∃ x, ns[m]? = some x ∧ z' = V.str x := by
      cases e : ns[m]? with
      | none => rw [e] at hz'; cases hz'
      | some x => rw [e] at hz'; cases hz'; exact ⟨x, rfl, rfl⟩
    have hne : x ≠ n := fun h => hno m hm (h ▸ hx)
    show (x == n) = false
    simpa using hne
end
section
variable {C : Fam} {E : AE} {S S1 S2 : Sto} {a b : Expr} {pos : Pos} {s t : Str}
theorem sr_les {K : PySem.W.Frag} {S : Sto} {i j : Str} : SR2 K S (fun x y H Q => ∃ i j, x = .str i ∧ y = .str j ∧ Q (.bl (!decide (j.cps.toList < i.cps.toList))) H) (.d (.str i)) (.d (.str j)) (.d (.bool (!decide (j.cps.toList < i.cps.toList)))) S := fun B φ F H x y Q k r1 r2 q => by
  cases r1; cases r2; exact ⟨i, j, rfl, rfl, fin0 k q (.bl _)⟩
theorem sr_ges {K : PySem.W.Frag} {S : Sto} {i j : Str} : SR2 K S (fun x y H Q => ∃ i j, x = .str i ∧ y = .str j ∧ Q (.bl (!decide (i.cps.toList < j.cps.toList))) H) (.d (.str i)) (.d (.str j)) (.d (.bool (!decide (i.cps.toList < j.cps.toList)))) S := fun B φ F H x y Q k r1 r2 q => by
  cases r1; cases r2; exact ⟨i, j, rfl, rfl, fin0 k q (.bl _)⟩
theorem je_les (ha : JE C E S a (.d (.str s)) S1) (hb : JE C E S1 b (.d (.str t)) S2) : JE C E S (.Compare a [.LtE] [b] pos) (.d (.bool (!decide (t.cps.toList < s.cps.toList)))) S2 := je_cmp (fun _ => op_le_str) sr_les ha hb (nomark _)
theorem je_ges (ha : JE C E S a (.d (.str s)) S1) (hb : JE C E S1 b (.d (.str t)) S2) : JE C E S (.Compare a [.GtE] [b] pos) (.d (.bool (!decide (s.cps.toList < t.cps.toList)))) S2 := je_cmp (fun _ => op_ge_str) sr_ges ha hb (nomark _)
end
end AL

namespace AL
open PySem PySem.Spec PyProof.Rows L2 TL
theorem je_zfill {C : Fam} {E : AE} {S S1 S2 : Sto} {o a : Expr} {s : Str} {n : Int} {apos pos : Pos} (ho : JE C E S o (.d (.str s)) S1) (ha : JE C E S1 a (.d (.int n)) S2) (hz : PadOk n = true)
    (hbase : ∀ i : C.ι, attributeBase o ("zfill" : Str) (C.V i).env (eval o (C.V i).env) = eval o (C.V i).env := by intro _; rfl)
    (hfew : ∀ i : C.ι, ((backTo pos (starEach [a] (C.V i).env)).all (fun x => !x.1) && (backToKw pos (keywordEach [] (C.V i).env)).all (fun x => x.1.isSome)
      && decide ([a].length + ([] : List Keyword).length + (if ([] : List Keyword).isEmpty then 0 else 1) < 30)) = true := by intro _; rfl)
    (hline : (apos.endLine == pos.line) = true := by rfl) (hs : ∀ i : C.ι, starEach [a] (C.V i).env = (false, eval a (C.V i).env) :: starEach [] (C.V i).env := by intro _; rfl) (hpl : ∀ i : C.ι, (backTo pos (starEach [] (C.V i).env)).any (·.1) = false := by intro _; rfl) :
    JE C E S (.Call (.Attribute o "zfill" apos) [a] [] pos) (.d (.str (Txt.zfill s n))) S2 :=
  je_sm PySem.F.slot_str_zfill PySem.F.type_str_zfill (fun i => mt_zfill (X := C.cx i)) PySem.F.plainAttrs_str ho (ja_cons ha ja_nil hs) (fun B φ F H x xs Q k r1 r2 q => by
    cases r1
    cases r2 with
    | cons r2 t => cases t; cases r2; exact ⟨_, _, rfl, rfl, hz, fin0 k q (.str _)⟩) hbase hfew hline hs hpl
theorem int_dg {ds : List Nat} (h : ds.all (fun c => decide (48 ≤ c) && decide (c ≤ 57)) = true) (hne : ds ≠ []) (hl : ds.length ≤ 640) : intText? (stx ds) = some ((NumText.digitsVal ds : Nat) : Int) := SX.int_S h hne (by omega)
open PySem.Builtin PySem.Builtin.Str in
theorem zfill_S {ds : List Nat} (h : ds.all (fun c => decide (48 ≤ c) && decide (c ≤ 57)) = true) (hne : ds ≠ []) (i : Nat) : Txt.zfill (stx ds) i = stx (List.replicate (i - ds.length) 48 ++ ds) := by
  unfold Txt.zfill
  rw [len_stx]
  split
  · rename_i hl
    have : i - ds.length = 0 := by omega
    rw [this]; rfl
  · cases ds with
    | nil => exact absurd rfl hne
    | cons d ds =>
      have hd : 48 ≤ d := by
        simp only [List.all_cons, Bool.and_eq_true, decide_eq_true_eq] at h
        exact h.1.1
      have e : ((i : Int).toNat - (d :: ds).length) = i - (d :: ds).length := rfl
      rw [e]
      have hz : ∀ m, zfilled (stx (d :: ds)) m = padded (stx (d :: ds)) m 0 48 := fun m => by
        unfold zfilled
        split
        · rename_i hh
          have : d = 43 := by simpa [stx] using hh
          omega
        · rename_i hh
          have : d = 45 := by simpa [stx] using hh
          omega
        · rfl
      rw [hz]
      show (⟨_⟩ : Str) = ⟨_⟩
      congr 1
      simp [stx]
end AL

namespace AL
open PySem PySem.Spec PyProof.Rows L2 TL
theorem pst_set {X : Cx} {i : Nat} {x : Str} {e : Expr} {te : TE} {pos pos' : Pos} (hN : X.N.Nodup) (hi : X.N[i]? = some x) (hx : Loc X.env.scope x) (he : PET X e te) (hs : swapsWith e (some (.Name x pos')) pos.line X.env = pure false) (hf : X.fn x = true ∨ X.env.scope.names.lookup x = some .local) :
    PST X (.Assign [.Name x pos'] e pos) (tAsg te (gName i)) := by
  intro pins s σ H D h0 I h
  refine wpAny_Assign_Name (thn (he pins s σ H _ h0 I h) fun v s1 ⟨y, H1, I1, r1, q1⟩ => ?_) hs
  exact store_ok I1 hN hi hx r1 (fun s2 I2 => ⟨_, H1, I2, q1⟩) hf
theorem jst_setT {C : Fam} {E : AE} {S S1 : Sto} {e : Expr} {av : AV} {rest : List Stmt} {p : Po} (j : Nat) {x : Str} {pos' pos : Pos} (he : JET C E S e av S1) (h : JSsT C (E.set j (some av)) S1 rest p) (hi : C.N[j]? = some x := by rfl) (hx : Loc C.sc x := by first | exact .inl rfl | exact .inr rfl)
    (hs : ∀ i : C.ι, swapsWith e (some (.Name x pos')) pos.line (C.V i).env = pure false := by intro _; rfl) (hf : (∀ i : C.ι, (C.V i).fn x = true) ∨ C.sc.names.lookup x = some .local := by first | exact .inl (fun _ => rfl) | exact .inr rfl) :
    JSsT C E S (.Assign [.Name x pos'] e pos :: rest) p := by
  intro B σ φ F H D hE k d
  refine ⟨tSeq (tAsg (WET C e) (gName j)) (WSsT C rest), fun i => psst_cons (pst_set C.nd hi (loc_of hx i) (wet C e i) (hs i) (fn_of' hf i)) (wsst C rest i), ?_⟩
  refine he B σ φ F H _ hE k fun v φ1 F1 H1 g1 k1 r1 => ?_
  exact h B _ φ1 F1 H1 D ((hE.gr g1).set r1 j) k1 (d.go g1)
end AL

namespace AL
open PySem PySem.Spec PyProof.Rows L2 TL
theorem je_max2 {C : Fam} {E : AE} {S S1 S2 : Sto} {a b : Expr} {p pos : Pos} (hm : C.b.mg "max" = none) {i j : Int} (ha : JE C E S a (.d (.int i)) S1) (hb : JE C E S1 b (.d (.int j)) S2) (hg : C.sc.names.lookup ("max" : Str) = some .globalImplicit := by rfl) (hs : ∀ i : C.ι, starEach [a, b] (C.V i).env = (false, eval a (C.V i).env) :: starEach [b] (C.V i).env := by intro _; rfl) (hs2 : ∀ i : C.ι, starEach [b] (C.V i).env = (false, eval b (C.V i).env) :: starEach [] (C.V i).env := by intro _; rfl) (hpl : ∀ i : C.ι, (backTo pos (starEach [b] (C.V i).env)).any (·.1) = false := by intro _; rfl) (hh : C.hot = false := by rfl) : JE C E S (.Call (.Name "max" p) [a, b] [] pos) (.d (.int (if j > i then j else i))) S2 :=
  je_callB (fun n => call_max2 (X := C.cx n) (C.calm hh n)) sl_max2 hm (by decide +kernel) (ja_cons ha (ja_cons hb ja_nil hs2) hs) hg (by decide) (by decide) hs hpl
end AL

namespace AL
open PySem PySem.Spec PyProof.Rows L2 TL
section
variable {K : PySem.W.Frag} {C : Fam} {E : AE} {S S1 S2 : Sto} {a b e : Expr} {av bv : AV} {d : PyData} {ds : List PyData} {pos : Pos}
theorem sr_inD (h1 : rdA S av = some d) (h2 : rdA S bv = some (.list ds)) (s1 : SeqAt.shaped d = true) (s2 : SeqAt.shaped (.list ds) = true) : SR2 K S (rInD K) av bv (.d (.bool (ds.any fun z => PyData.eqv z d))) S := fun B φ F H x y Q k r1 r2 q =>
  ⟨d, ds, rd_dp k r1 h1, rd_dp k r2 h2, s1, s2, fin0 k q (.bl _)⟩
theorem sr_notInD (h1 : rdA S av = some d) (h2 : rdA S bv = some (.list ds)) (s1 : SeqAt.shaped d = true) (s2 : SeqAt.shaped (.list ds) = true) : SR2 K S (rNotInD K) av bv (.d (.bool (!ds.any fun z => PyData.eqv z d))) S := fun B φ F H x y Q k r1 r2 q =>
  ⟨d, ds, rd_dp k r1 h1, rd_dp k r2 h2, s1, s2, fin0 k q (.bl _)⟩
theorem room65 {k : Nat} {A : Around} (r : Room k A) : A.units + 65 < cLine := by have := r.un; omega
theorem je_inD (ha : JE C E S a av S1) (hb : JE C E S1 b bv S2) (h1 : rdA S2 av = some d) (h2 : rdA S2 bv = some (.list ds)) (s1 : SeqAt.shaped d = true) (s2 : SeqAt.shaped (.list ds) = true) (hm : behindInMarks .In b = false := by rfl) (hh : C.hot = false := by rfl) : JE C E S (.Compare a [.In] [b] pos) (.d (.bool (ds.any fun z => PyData.eqv z d))) S2 := je_cmp (fun i => op_inD (X := C.cx i) (room65 (C.hr hh i))) (sr_inD h1 h2 s1 s2) ha hb hm
theorem jt_inD (ha : JE C E S a av S1) (hb : JE C E S1 b bv S2) (h1 : rdA S2 av = some d) (h2 : rdA S2 bv = some (.list ds)) (s1 : SeqAt.shaped d = true) (s2 : SeqAt.shaped (.list ds) = true) (hm : behindInMarks .In b = false := by rfl) (hh : C.hot = false := by rfl) : JT C E S (.Compare a [.In] [b] pos) (ds.any fun z => PyData.eqv z d) S2 := jt_cmp (fun i => op_inD (X := C.cx i) (room65 (C.hr hh i))) (sr_inD h1 h2 s1 s2) ha hb hm
theorem je_notinD (ha : JE C E S a av S1) (hb : JE C E S1 b bv S2) (h1 : rdA S2 av = some d) (h2 : rdA S2 bv = some (.list ds)) (s1 : SeqAt.shaped d = true) (s2 : SeqAt.shaped (.list ds) = true) (hm : behindInMarks .NotIn b = false := by rfl) (hh : C.hot = false := by rfl) : JE C E S (.Compare a [.NotIn] [b] pos) (.d (.bool (!ds.any fun z => PyData.eqv z d))) S2 := je_cmp (fun i => op_notInD (X := C.cx i) (room65 (C.hr hh i))) (sr_notInD h1 h2 s1 s2) ha hb hm
theorem jt_notinD (ha : JE C E S a av S1) (hb : JE C E S1 b bv S2) (h1 : rdA S2 av = some d) (h2 : rdA S2 bv = some (.list ds)) (s1 : SeqAt.shaped d = true) (s2 : SeqAt.shaped (.list ds) = true) (hm : behindInMarks .NotIn b = false := by rfl) (hh : C.hot = false := by rfl) : JT C E S (.Compare a [.NotIn] [b] pos) (!ds.any fun z => PyData.eqv z d) S2 := jt_cmp (fun i => op_notInD (X := C.cx i) (room65 (C.hr hh i))) (sr_notInD h1 h2 s1 s2) ha hb hm
theorem dpa_snoc {F : Hp} {v : V} : ∀ {vs : List V} {ds : List PyData}, DpAll K F vs ds → Dp K F v d → DpAll K F (vs ++ [v]) (ds ++ [d]) := fun h q => dpa_app h (.cons q .nil)
theorem dpa_rev {F : Hp} : ∀ {vs : List V} {ds : List PyData}, DpAll K F vs ds → DpAll K F vs.reverse ds.reverse
  | _, _, .nil => .nil
  | _, _, .cons h t => by rw [List.reverse_cons, List.reverse_cons]; exact dpa_snoc (dpa_rev t) h
theorem je_revL {k : Nat} {p1 p2 p3 : Pos} (ha : JE C E S e av S1) (hr : rdA S1 av = some (.list ds)) : JE C E S (.Subscript e (.Slice none none (some (.UnaryOp .USub (.Constant (.int 1) k p1) p2)) p3) pos) (.d (.list ds.reverse)) S1 := by
  intro B σ φ F H Q hE k0 q
  refine ⟨tRevL C.b.K (WE C e), fun i => pe_revL (X := C.cx i) (we C e i), ha B σ φ F H _ hE k0 fun v φ1 F1 H1 g1 k1 r1 => ?_⟩
  obtain ⟨ad, vs, rfl, hs, rv⟩ := rd_list k1 r1 hr
  refine ⟨ad, vs, rfl, hs, fun p hp => ?_⟩
  obtain ⟨k2, g2⟩ := k1.data (o := .lst vs.reverse) hp
  exact q _ φ1 _ _ (g1.trans g2) k2 (.lst (.inl (.inl upd_same)) (dpa_mono g2.ff _ _ (dpa_rev rv)))
end
end AL

namespace AL
open PySem PySem.Spec PyProof.Rows L2 TL
section
variable {P : Program} {w : World} {K : PySem.W.Frag} {mg : Str → Option Value} {base : Heap}
theorem fn_dataTQ {x qual : Str} {st : Stmt} {f : Addr} {fd : FuncData} {N ps : List Str} {k : Nat} {Pre : List PyData → Prop} {Post : List PyData → PyData → Prop} (F : Fun K x qual st f fd) (Sc : FnScope N ps (defScope st)) (hnc : ∀ y ∈ (defScope st).names, y.2 ≠ .cell) (hps : 1 ≤ ps.length) (len : ∀ ds, Pre ds → ds.length = ps.length)
    (body : ∀ (cd : Value) (A : Around) (outer : List Env) (s : Shared) (H : Hp) (hr : Room k (A.deeper (envOfC qual (defScope st) s.heap.objs.size f cd))) (ds : List PyData), Pre ds →
      JSsT (defF ⟨P, w, K, mg, base⟩ N k qual (defScope st) f cd A outer s H Sc.nd hr) (startE N (ds.map AV.d)) [] (defBody st) { nx := fun _ _ => Post ds .none, rt := fun av _ => ∃ r, Post ds r ∧ av = .d r }) : FnOk P w K mg base CX0 (k + 1) f fd ps (spQ K Pre Post) := by
  have len' : ∀ vs H Q E, spQ K Pre Post vs H Q E → vs.length = ps.length := fun vs H Q E h => by
    obtain ⟨ds, B, F, hR, _, _, hd, _⟩ := h
    rw [dpa_len hd]
    exact len ds hR
  obtain ⟨oc, od, kV, doc, pm, an, cdv, ct, osl, rfl, lk, hcd⟩ := F.ex
  refine fn_ofT lk hcd Sc hnc hps len' fun A outer s H vs Q E hr h => ?_
  obtain ⟨ds, B, F', hR, sub, hB, hd, q⟩ := h
  have kk : Ok K B [] F' H [] := ⟨sub, List.nodup_nil, fun a ha => (by cases ha), hB, rfl, fun l a o h1 _ => (by simp at h1)⟩
  obtain ⟨t, ht, hq⟩ := body cdv A outer s H hr ds hR B (L2.start N vs) [] F' H { nx := fun _ H' => Q .non H', rt := Q } (envr_start (rvs_of hd)) kk
    ⟨[], fun _ => rfl, ⟨[], rfl⟩, fun E σ φ F2 H2 S a g hE k2 => q .none a .non F2 H2 g.s k2.sub .non, fun av v φ F2 H2 S a g rv k2 => (by obtain ⟨r, hr, e⟩ := a; subst e; exact q r hr v F2 H2 g.s k2.sub rv), fun _ _ _ _ _ _ a => a.elim, fun _ _ _ _ _ _ a => a.elim, fun _ _ _ _ _ _ _ _ _ a => a.elim⟩
  exact ⟨t, PSsT.nox (ht ()), hq⟩
end
theorem glued_mem {P : Nat → Prop} {z : Str} (hz : ∀ c ∈ tl z, P c) : ∀ (ps : List Str) (acc : Array Nat), (∀ c ∈ acc.toList, P c) → (∀ p ∈ ps, ∀ c ∈ tl p, P c) → ∀ c ∈ (ps.foldl (fun acc p => acc ++ z.cps ++ p.cps) acc).toList, P c
  | [], acc, ha, _, c, hc => ha c hc
  | p :: r, acc, ha, hp, c, hc => by
    rw [List.foldl_cons] at hc
    refine glued_mem hz r (acc ++ z.cps ++ p.cps) (fun c hc => ?_) (fun q hq => hp q (List.mem_cons_of_mem _ hq)) c hc
    rw [Array.toList_append, Array.toList_append] at hc
    rcases List.mem_append.mp hc with h | h
    · rcases List.mem_append.mp h with h | h
      · exact ha c h
      · exact hz c h
    · exact hp p List.mem_cons_self c h
theorem rep_mem {P : Nat → Prop} {x z : Str} (y : Str) (hx : ∀ c ∈ tl x, P c) (hz : ∀ c ∈ tl z, P c) : ∀ c ∈ tl (Txt.replace x y z), P c := by
  unfold Txt.replace
  split
  · exact hx
  · have hs : ∀ (i j : Nat), ∀ c ∈ tl (Builtin.Str.strSub x i j), P c := fun i j c hc => by
      have hc : c ∈ (x.cps.extract i j).toList := hc
      rw [Array.toList_extract] at hc
      exact hx c (List.mem_of_mem_drop (List.mem_of_mem_take hc))
    have hp : ∀ p ∈ Builtin.Str.partsBetween x (Builtin.Str.occurrences x y 0 x.length (x.length + 1)) y.length, ∀ c ∈ tl p, P c := fun p hp => by
      unfold Builtin.Str.partsBetween at hp
      obtain ⟨⟨i, j⟩, _, rfl⟩ := List.mem_map.mp hp
      exact hs i j
    generalize Builtin.Str.partsBetween x (Builtin.Str.occurrences x y 0 x.length (x.length + 1)) y.length = ps at hp
    unfold Builtin.Str.glued
    refine glued_mem hz (ps.drop 1) _ ?_ fun p h => hp p (List.mem_of_mem_drop h)
    cases ps with
    | nil => intro c hc; cases hc
    | cons a r => exact hp a List.mem_cons_self
theorem cut_mem {P : Nat → Prop} {z : Str} (lo hi : Option Int) (h : ∀ c ∈ tl z, P c) : ∀ c ∈ tl (cutS z lo hi), P c := fun c hc => by
  unfold cutS at hc
  exact h c (List.mem_of_mem_drop (List.mem_of_mem_take hc))
end AL

namespace AL
open PySem PySem.Spec PyProof.Rows L2 TL
section
variable {C : Fam} {E : AE} {S S1 S2 S3 : Sto} {a : Expr} {pos : Pos} {Post Post' : PyData → Prop}
/-- f(..)[lo:hi], f giving some list -/
theorem jeq_cut {lo hi : Option Expr} {x y : Option Int} {p2 : Pos} (ha : JEQ C E S a Post S1) (hl : JO C E S1 lo x S1) (hh : JO C E S1 hi y S1) (h : ∀ r, Post r → ∃ ds, r = .list ds ∧ Post' (.list (cutD ds x y))) : JEQ C E S (.Subscript a (.Slice lo hi none p2) pos) Post' S1 := by
  intro B σ φ F H Q hE k q
  refine ⟨tSl (rSlL C.b.K) (WE C a) (WO C lo) (WO C hi), fun i => pe_slice (L2.sl_list (X := C.cx i)) (we C a i) (wo C lo i) (wo C hi i), ?_⟩
  refine ha B σ φ F H _ hE k fun r hr v φ1 F1 H1 g1 k1 r1 => ?_
  obtain ⟨ds, rfl, hp⟩ := h r hr
  refine hl B σ φ1 F1 H1 _ (hE.gr g1) k1 fun φ2 F2 H2 g2 k2 => ?_
  refine hh B σ φ2 F2 H2 _ (hE.gr (g1.trans g2)) k2 fun φ3 F3 H3 g3 k3 => ?_
  exact (srs_list (K := C.b.K) (S := S1) (av := .d (.list ds)) (lo := x) (hi := y) rfl) B φ3 F3 H3 v Q k3 (r1.gr (g2.trans g3)) fun v φ4 F4 H4 g4 k4 r4 => q _ hp v φ4 F4 H4 (g1.trans (g2.trans (g3.trans g4))) k4 r4
end
end AL

namespace K58
open PySem PySem.Spec PyProof.Rows L2 TL AL
def topS (i : Nat) : Stmt := PySem.Challenge.pw_versiontables_k58_sources.main.body.getD i (.Pass ⟨0, 0, 0, 0⟩)
abbrev s_add_sources : Stmt := topS 1
abbrev n_add_sources : List Str := ["tree", "found"]
abbrev p_add_sources : List Str := ["tree", "found"]
theorem sc_add_sources : FnScope n_add_sources p_add_sources (defScope s_add_sources) := ⟨rfl, rfl, rfl, by decide +kernel, rfl, by decide +kernel, by decide +kernel⟩
abbrev s_sources : Stmt := topS 2
abbrev n_sources : List Str := ["tree", "found"]
abbrev p_sources : List Str := ["tree"]
theorem sc_sources : FnScope n_sources p_sources (defScope s_sources) := ⟨rfl, rfl, rfl, by decide +kernel, rfl, by decide +kernel, by decide +kernel⟩
abbrev s__law_cell : Stmt := topS 4
abbrev n__law_cell : List Str := ["_law_script", "_law_k"]
abbrev p__law_cell : List Str := ["_law_script", "_law_k"]
theorem sc__law_cell : FnScope n__law_cell p__law_cell (defScope s__law_cell) := ⟨rfl, rfl, rfl, by decide +kernel, rfl, by decide +kernel, by decide +kernel⟩
abbrev s__law_thing : Stmt := topS 5
abbrev n__law_thing : List Str := ["_law_script", "_law_k"]
abbrev p__law_thing : List Str := ["_law_script", "_law_k"]
theorem sc__law_thing : FnScope n__law_thing p__law_thing (defScope s__law_thing) := ⟨rfl, rfl, rfl, by decide +kernel, rfl, by decide +kernel, by decide +kernel⟩
abbrev s__law_draws : Stmt := topS 6
abbrev n__law_draws : List Str := ["_law_cell_here", "_law_salt", "_law_count", "_law_base", "_law_rest", "_law_numbers", "_law_k", "_law_mixed"]
abbrev p__law_draws : List Str := ["_law_cell_here", "_law_salt", "_law_count", "_law_base"]
theorem sc__law_draws : FnScope n__law_draws p__law_draws (defScope s__law_draws) := ⟨rfl, rfl, rfl, by decide +kernel, rfl, by decide +kernel, by decide +kernel⟩
abbrev s__law_char : Stmt := topS 7
abbrev n__law_char : List Str := ["_law_number", "_law_chars"]
abbrev p__law_char : List Str := ["_law_number"]
theorem sc__law_char : FnScope n__law_char p__law_char (defScope s__law_char) := ⟨rfl, rfl, rfl, by decide +kernel, rfl, by decide +kernel, by decide +kernel⟩
abbrev s__law_text : Stmt := topS 8
abbrev n__law_text : List Str := ["_law_cell_here", "_law_choice", "_law_rest", "_law_length", "_law_number"]
abbrev p__law_text : List Str := ["_law_cell_here"]
theorem sc__law_text : FnScope n__law_text p__law_text (defScope s__law_text) := ⟨rfl, rfl, rfl, by decide +kernel, rfl, by decide +kernel, by decide +kernel⟩
abbrev s__law_words : Stmt := topS 9
abbrev n__law_words : List Str := ["_law_cell_here", "_law_letters", "_law_numbers", "_law_names", "_law_k", "_law_length", "_law_name", "_law_number"]
abbrev p__law_words : List Str := ["_law_cell_here"]
theorem sc__law_words : FnScope n__law_words p__law_words (defScope s__law_words) := ⟨rfl, rfl, rfl, by decide +kernel, rfl, by decide +kernel, by decide +kernel⟩
abbrev s__law_number_token : Stmt := topS 10
abbrev n__law_number_token : List Str := ["_law_cell_here", "_law_digits"]
abbrev p__law_number_token : List Str := ["_law_cell_here"]
theorem sc__law_number_token : FnScope n__law_number_token p__law_number_token (defScope s__law_number_token) := ⟨rfl, rfl, rfl, by decide +kernel, rfl, by decide +kernel, by decide +kernel⟩
abbrev s__law_token_leaf : Stmt := topS 11
abbrev n__law_token_leaf : List Str := ["_law_cell_here", "_law_names", "_law_longest", "_law_choice", "_law_rest", "_law_token", "_law_text_here", "_law_name"]
abbrev p__law_token_leaf : List Str := ["_law_cell_here", "_law_names", "_law_longest"]
theorem sc__law_token_leaf : FnScope n__law_token_leaf p__law_token_leaf (defScope s__law_token_leaf) := ⟨rfl, rfl, rfl, by decide +kernel, rfl, by decide +kernel, by decide +kernel⟩
abbrev s__law_wrapped : Stmt := topS 12
abbrev n__law_wrapped : List Str := ["_law_entry", "_law_rank", "_law_needless"]
abbrev p__law_wrapped : List Str := ["_law_entry", "_law_rank", "_law_needless"]
theorem sc__law_wrapped : FnScope n__law_wrapped p__law_wrapped (defScope s__law_wrapped) := ⟨rfl, rfl, rfl, by decide +kernel, rfl, by decide +kernel, by decide +kernel⟩
abbrev s__law_unary : Stmt := topS 13
abbrev n__law_unary : List Str := ["_law_entry", "_law_number", "_law_choice", "_law_needless", "_law_inner", "_law_tokens"]
abbrev p__law_unary : List Str := ["_law_entry", "_law_number"]
theorem sc__law_unary : FnScope n__law_unary p__law_unary (defScope s__law_unary) := ⟨rfl, rfl, rfl, by decide +kernel, rfl, by decide +kernel, by decide +kernel⟩
abbrev s__law_binary : Stmt := topS 14
abbrev n__law_binary : List Str := ["_law_left", "_law_right", "_law_number", "_law_words_here", "_law_signs", "_law_ranks", "_law_lefts", "_law_k", "_law_first", "_law_second", "_law_sort", "_law_tokens"]
abbrev p__law_binary : List Str := ["_law_left", "_law_right", "_law_number"]
theorem sc__law_binary : FnScope n__law_binary p__law_binary (defScope s__law_binary) := ⟨rfl, rfl, rfl, by decide +kernel, rfl, by decide +kernel, by decide +kernel⟩
abbrev s__law_expression : Stmt := topS 15
abbrev n__law_expression : List Str := ["_law_cells", "_law_names", "_law_stack", "_law_longest", "_law_cell_here", "_law_numbers", "_law_choice", "_law_right", "_law_entry", "_law_other", "_law_tokens"]
abbrev p__law_expression : List Str := ["_law_cells", "_law_names"]
theorem sc__law_expression : FnScope n__law_expression p__law_expression (defScope s__law_expression) := ⟨rfl, rfl, rfl, by decide +kernel, rfl, by decide +kernel, by decide +kernel⟩
abbrev s__law_listed_names : Stmt := topS 16
abbrev n__law_listed_names : List Str := ["_law_names", "_law_numbers", "_law_count", "_law_chosen", "_law_k", "_law_tokens", "_law_name"]
abbrev p__law_listed_names : List Str := ["_law_names", "_law_numbers", "_law_count"]
theorem sc__law_listed_names : FnScope n__law_listed_names p__law_listed_names (defScope s__law_listed_names) := ⟨rfl, rfl, rfl, by decide +kernel, rfl, by decide +kernel, by decide +kernel⟩
abbrev s__law_keep_stage : Stmt := topS 17
abbrev n__law_keep_stage : List Str := ["_law_numbers", "_law_names", "_law_entry", "_law_name", "_law_items", "_law_tokens", "_law_chosen", "_law_more", "_law_other"]
abbrev p__law_keep_stage : List Str := ["_law_numbers", "_law_names"]
theorem sc__law_keep_stage : FnScope n__law_keep_stage p__law_keep_stage (defScope s__law_keep_stage) := ⟨rfl, rfl, rfl, by decide +kernel, rfl, by decide +kernel, by decide +kernel⟩
abbrev s__law_group_stage : Stmt := topS 18
abbrev n__law_group_stage : List Str := ["_law_numbers", "_law_names", "_law_chosen", "_law_tokens", "_law_totals", "_law_k", "_law_word", "_law_name", "_law_column"]
abbrev p__law_group_stage : List Str := ["_law_numbers", "_law_names"]
theorem sc__law_group_stage : FnScope n__law_group_stage p__law_group_stage (defScope s__law_group_stage) := ⟨rfl, rfl, rfl, by decide +kernel, rfl, by decide +kernel, by decide +kernel⟩
abbrev s__law_order_stage : Stmt := topS 19
abbrev n__law_order_stage : List Str := ["_law_numbers", "_law_names", "_law_keys", "_law_tokens", "_law_k", "_law_name", "_law_down"]
abbrev p__law_order_stage : List Str := ["_law_numbers", "_law_names"]
theorem sc__law_order_stage : FnScope n__law_order_stage p__law_order_stage (defScope s__law_order_stage) := ⟨rfl, rfl, rfl, by decide +kernel, rfl, by decide +kernel, by decide +kernel⟩
abbrev s__law_one_stage : Stmt := topS 20
abbrev n__law_one_stage : List Str := ["_law_query_here", "_law_numbers", "_law_names", "_law_tree", "_law_tokens", "_law_depth", "_law_choice", "_law_entry", "_law_items", "_law_more", "_law_other", "_law_chosen", "_law_totals", "_law_keys", "_law_token"]
abbrev p__law_one_stage : List Str := ["_law_query_here", "_law_numbers", "_law_names"]
theorem sc__law_one_stage : FnScope n__law_one_stage p__law_one_stage (defScope s__law_one_stage) := ⟨rfl, rfl, rfl, by decide +kernel, rfl, by decide +kernel, by decide +kernel⟩
abbrev s__law_two_stage : Stmt := topS 21
abbrev n__law_two_stage : List Str := ["_law_query_here", "_law_other", "_law_numbers", "_law_names", "_law_tree", "_law_tokens", "_law_depth", "_law_inner", "_law_entry"]
abbrev p__law_two_stage : List Str := ["_law_query_here", "_law_other", "_law_numbers", "_law_names"]
theorem sc__law_two_stage : FnScope n__law_two_stage p__law_two_stage (defScope s__law_two_stage) := ⟨rfl, rfl, rfl, by decide +kernel, rfl, by decide +kernel, by decide +kernel⟩
abbrev s__law_query : Stmt := topS 22
abbrev n__law_query : List Str := ["_law_cells", "_law_names", "_law_stack", "_law_cell_here", "_law_numbers", "_law_choice", "_law_other", "_law_name", "_law_text_here", "_law_query_here"]
abbrev p__law_query : List Str := ["_law_cells", "_law_names"]
theorem sc__law_query : FnScope n__law_query p__law_query (defScope s__law_query) := ⟨rfl, rfl, rfl, by decide +kernel, rfl, by decide +kernel, by decide +kernel⟩
abbrev s__law_same : Stmt := topS 23
abbrev n__law_same : List Str := ["_law_actual", "_law_expected", "_law_k"]
abbrev p__law_same : List Str := ["_law_actual", "_law_expected"]
theorem sc__law_same : FnScope n__law_same p__law_same (defScope s__law_same) := ⟨rfl, rfl, rfl, by decide +kernel, rfl, by decide +kernel, by decide +kernel⟩
abbrev s__law_same_list : Stmt := topS 24
abbrev n__law_same_list : List Str := ["_law_actual", "_law_expected"]
abbrev p__law_same_list : List Str := ["_law_actual", "_law_expected"]
theorem sc__law_same_list : FnScope n__law_same_list p__law_same_list (defScope s__law_same_list) := ⟨rfl, rfl, rfl, by decide +kernel, rfl, by decide +kernel, by decide +kernel⟩
abbrev s__law_sources : Stmt := topS 25
abbrev n__law_sources : List Str := ["_law_tokens", "_law_found", "_law_k", "_law_inner", "_law_pair"]
abbrev p__law_sources : List Str := ["_law_tokens"]
theorem sc__law_sources : FnScope n__law_sources p__law_sources (defScope s__law_sources) := ⟨rfl, rfl, rfl, by decide +kernel, rfl, by decide +kernel, by decide +kernel⟩
abbrev s_law : Stmt := topS 26
abbrev n_law : List Str := ["_law_script", "_law_names", "_law_count", "_law_tree", "_law_tokens", "_law_depth", "_law_k", "_law_expected", "_law_actual"]
abbrev p_law : List Str := ["_law_script"]
theorem sc_law : FnScope n_law p_law (defScope s_law) := ⟨rfl, rfl, rfl, by decide +kernel, rfl, by decide +kernel, by decide +kernel⟩
structure ZB (b : Bs) : Prop where
  z_bool : b.mg "bool" = none
  z_int : b.mg "int" = none
  z_isinstance : b.mg "isinstance" = none
  z_len : b.mg "len" = none
  z_list : b.mg "list" = none
  z_max : b.mg "max" = none
  z_range : b.mg "range" = none
  z_str : b.mg "str" = none
  z_tuple : b.mg "tuple" = none

def cellM (ns : List Int) (k : Nat) : Int := ns.getD k 0
def R_cell (ds : List PyData) (r : PyData) : Prop := ∃ (ns : List Int) (k : Nat), ds = [scrD ns, .int k] ∧ r = .int (cellM ns k)
theorem cal__law_cell {b : Bs} {f : Addr} {fd : FuncData} (z : ZB b) (F : Fun b.K "_law_cell" "_law_cell" s__law_cell f fd) (hm : b.mg "_law_cell" = some (.ref f)) : Cal b "_law_cell" 1 R_cell := by
  refine ⟨f, fd, p__law_cell, fn_data F sc__law_cell (fun ds r h => ?_) (fun cd A outer s H hr ds r h => ?_), hm, F.kp, F.binds fun _ _ _ _ _ _ us hl => match us, hl with | [_, _], _ => rfl⟩
  · obtain ⟨ns, k, rfl, _⟩ := h; rfl
  · obtain ⟨ns, k, rfl, rfl⟩ := h
    refine jss_if (jt_lt (je_var 1) (je_len z.z_len (je_var 0) rfl rfl)) (fun e => ?_) (fun e => ?_)
    · have e1 : k < ns.length := by simpa using e
      exact jss_ret (je_at (je_var 0) (je_var 1) rfl rfl (at_ints e1)) rfl
    · have e1 : ns.length ≤ k := by simpa using e
      refine jss_nil ?_
      refine jss_ret je_int ?_
      unfold cellM
      rw [List.getD_eq_getElem?_getD, List.getElem?_eq_none e1]
      rfl
def thingM (ns : List Int) (k : Nat) : Int :=
  if k < ns.length then ns.getD k 0 else if ns.length = 0 then (k : Int) else (ns.getD ((k : Int) % (ns.length : Int)).toNat 0 * 48271 + (k : Int) * 69621) % 2147483647
def R_thing (ds : List PyData) (r : PyData) : Prop := ∃ (ns : List Int) (k : Nat), ds = [scrD ns, .int k] ∧ r = .int (thingM ns k)
theorem cal__law_thing {b : Bs} {f : Addr} {fd : FuncData} (z : ZB b) (F : Fun b.K "_law_thing" "_law_thing" s__law_thing f fd) (hm : b.mg "_law_thing" = some (.ref f)) : Cal b "_law_thing" 1 R_thing := by
  refine ⟨f, fd, p__law_thing, fn_data F sc__law_thing (fun ds r h => ?_) (fun cd A outer s H hr ds r h => ?_), hm, F.kp, F.binds fun _ _ _ _ _ _ us hl => match us, hl with | [_, _], _ => rfl⟩
  · obtain ⟨ns, k, rfl, _⟩ := h; rfl
  · obtain ⟨ns, k, rfl, rfl⟩ := h
    refine jss_if (jt_lt (je_var 1) (je_len z.z_len (je_var 0) rfl rfl)) (fun e => ?_) (fun e => ?_)
    · have e1 : k < ns.length := by simpa using e
      refine jss_ret (je_at (je_var 0) (je_var 1) rfl rfl (at_ints e1)) ?_
      rw [thingM, if_pos e1]
    · have e1 : ¬ k < ns.length := by simpa using e
      refine jss_nil ?_
      refine jss_if (jt_eqi (je_len z.z_len (je_var 0) rfl rfl) je_int) (fun e => ?_) (fun e => ?_)
      · have e2 : ns.length = 0 := by simpa using e
        refine jss_ret (je_var 1) ?_
        rw [thingM, if_neg e1, if_pos e2]
      · have e2 : ¬ ns.length = 0 := by simpa using e
        have hp : 0 < ((ns.map PyData.int).length : Int) := by rw [List.length_map]; omega
        have hl : (k : Int) % ((ns.map PyData.int).length : Int) < ns.length := by
          have := Int.emod_lt_of_pos (k : Int) hp
          rw [List.length_map] at this ⊢
          exact this
        refine jss_nil ?_
        refine jss_ret (je_mod (je_int1 z.z_int (je_add (je_mul (je_at (je_var 0) (je_mod (je_int1 z.z_int (je_var 1)) (je_len z.z_len (je_var 0) rfl rfl) hp) rfl rfl (at_intsI (Int.emod_nonneg _ (by omega)) hl)) je_int) (je_mul (je_var 1) je_int))) je_int) ?_
        rw [thingM, if_neg e1, if_neg e2, List.length_map]
def drawsM (cell salt base : Int) : Nat → Int × List Int
  | 0 => (if 10 ^ 18 ≤ cell then cell else 0, [])
  | k + 1 =>
    let st := drawsM cell salt base k
    if 0 < st.1 then (st.1 / base, st.2 ++ [st.1 % base])
    else
      let m := (cell * 48271 + (salt * 97 + (k : Int)) * 69621) % 2147483647
      (st.1, st.2 ++ [((m / 8 * (m % 50021 + 16807) + (k : Int)) % 998244353) / 11])
theorem drawsM_len (cell salt base : Int) : ∀ k, (drawsM cell salt base k).2.length = k
  | 0 => rfl
  | k + 1 => by
    unfold drawsM
    simp only
    split <;> simp [drawsM_len cell salt base k]
def R_draws (ds : List PyData) (r : PyData) : Prop := ∃ (cell salt base : Int) (count : Nat), count ≤ 1000 ∧ 0 < base ∧ base.natAbs < 2 ^ 300 ∧ ds = [.int cell, .int salt, .int count, .int base] ∧ r = .list ((drawsM cell salt base count).2.map PyData.int)
theorem cal__law_draws {b : Bs} {f : Addr} {fd : FuncData} (z : ZB b) (F : Fun b.K "_law_draws" "_law_draws" s__law_draws f fd) (hm : b.mg "_law_draws" = some (.ref f)) : Cal b "_law_draws" 1 R_draws := by
  refine ⟨f, fd, p__law_draws, fn_data F sc__law_draws (fun ds r h => ?_) (fun cd A outer s H hr ds r h => ?_), hm, F.kp, F.binds fun _ _ _ _ _ _ us hl => match us, hl with | [_, _, _, _], _ => rfl⟩
  · obtain ⟨_, _, _, _, _, _, _, rfl, _⟩ := h; rfl
  · obtain ⟨cell, salt, base, count, hc, hb, hb2, rfl, rfl⟩ := h
    refine jss_set 4 je_int ?_
    refine jss_ifM (fun E S => E = [some (.d (.int cell)), some (.d (.int salt)), some (.d (.int count)), some (.d (.int base)), some (.d (.int (drawsM cell salt base 0).1)), none, none, none] ∧ S = [])
      (jt_ge (je_var 0) (je_pow je_int je_int)) (fun e => ?_) (fun e => ?_) ?_
    · have e1 : 10 ^ 18 ≤ cell := of_decide_eq_true e
      refine jss_set 4 (je_var 0) (jss_nil ⟨?_, rfl⟩)
      show _ = [_, _, _, _, some (AV.d (.int (if 10 ^ 18 ≤ cell then cell else 0))), _, _, _]
      rw [if_pos e1]
      rfl
    · have e1 : ¬ 10 ^ 18 ≤ cell := of_decide_eq_false e
      refine jss_nil ⟨?_, rfl⟩
      show _ = [_, _, _, _, some (AV.d (.int (if 10 ^ 18 ≤ cell then cell else 0))), _, _, _]
      rw [if_neg e1]
      rfl
    · rintro E S ⟨rfl, rfl⟩
      refine jss_set 5 (je_lst (ds := []) ja_nil) ?_
      refine jss_for (ji_range1 (ja_cons (je_var 2) ja_nil) z.z_range (by omega) (by omega)) (fun i E S => ∃ m6 m7, E = [some (.d (.int cell)), some (.d (.int salt)), some (.d (.int count)), some (.d (.int base)), some (.d (.int (drawsM cell salt base i).1)), some (.o 0), m6, m7] ∧ S = [.ld ((drawsM cell salt base i).2.map PyData.int)])
        ⟨none, none, rfl, rfl⟩ ?_ ?_
      · rintro i d E S hd ⟨m6, m7, rfl, rfl⟩
        obtain ⟨hi, rfl⟩ := rngD_get hd
        refine ⟨_, _, jg_name 6, ?_⟩
        have hlen : ((drawsM cell salt base i).2.map PyData.int).length < sizeLine := by
          rw [List.length_map, drawsM_len]
          exact small_line' (m := 1000) (by omega)
        refine jss_if (jt_gt (je_var 4) je_int) (fun e => ?_) (fun e => ?_)
        · have e1 : 0 < (drawsM cell salt base i).1 := of_decide_eq_true e
          refine jss_append (je_var 5) (je_mod (je_int1 z.z_int (je_var 4)) (je_var 3) hb) rfl hlen ?_
          refine jss_set 4 (je_bin (fun _ => op_fdivW) (sr_i (wide_div hb hb2 (by decide) (by decide))) (je_var 4) (je_var 3)) ?_
          refine jss_nil (jss_nil ?_)
          have hst : drawsM cell salt base (i + 1) = ((drawsM cell salt base i).1 / base, (drawsM cell salt base i).2 ++ [(drawsM cell salt base i).1 % base]) := by rw [drawsM]; simp only; rw [if_pos e1]
          dsimp only
          rw [hst]
          exact ⟨_, _, rfl, by simp⟩
        · have e1 : ¬ 0 < (drawsM cell salt base i).1 := of_decide_eq_false e
          refine jss_set 7 (je_mod (je_int1 z.z_int (je_add (je_mul (je_var 0) je_int) (je_mul (je_add (je_mul (je_var 1) je_int) (je_var 6)) je_int))) je_int) ?_
          refine jss_set 7 (je_mod (je_int1 z.z_int (je_add (je_mul (je_fdiv (je_var 7) je_int) (je_add (je_mod (je_int1 z.z_int (je_var 7)) je_int) je_int)) (je_var 6))) je_int) ?_
          refine jss_append (je_var 5) (je_fdiv (je_var 7) je_int) rfl hlen ?_
          refine jss_nil (jss_nil ?_)
          have hst : drawsM cell salt base (i + 1) = ((drawsM cell salt base i).1, (drawsM cell salt base i).2 ++ [(((cell * 48271 + (salt * 97 + (i : Int)) * 69621) % 2147483647 / 8 * ((cell * 48271 + (salt * 97 + (i : Int)) * 69621) % 2147483647 % 50021 + 16807) + (i : Int)) % 998244353) / 11]) := by rw [drawsM]; simp only; rw [if_neg e1]
          dsimp only
          rw [hst]
          exact ⟨_, _, rfl, by simp⟩
      · rintro E S ⟨m6, m7, rfl, rfl⟩
        refine jss_retf (je_var 5) rfl ?_
        rw [rngD_len]
        simp
def charsS : Str := (" !\"#$&'()*+,-./0123456789:;<=>?@ABCDEFGHIJKLMNOPQRSTUVWXYZ[\\]^_`" : Str) ++ ("abcdefghijklmnopqrstuvwxyz{|}~" : Str)
theorem charsS_len : charsS.length = 94 := by decide +kernel
def charM (n : Int) : Nat := charsS.cps.toList.getD (n % 94).toNat 0
theorem mod_bd (n k : Int) (h : 0 < k) : 0 ≤ n % k ∧ n % k < k := ⟨Int.emod_nonneg n (by omega), Int.emod_lt_of_pos n h⟩
def R_char (ds : List PyData) (r : PyData) : Prop := ∃ n : Int, ds = [.int n] ∧ r = .str (sg (charM n))
theorem cal__law_char {b : Bs} {f : Addr} {fd : FuncData} (z : ZB b) (F : Fun b.K "_law_char" "_law_char" s__law_char f fd) (hm : b.mg "_law_char" = some (.ref f)) : Cal b "_law_char" 1 R_char := by
  refine ⟨f, fd, p__law_char, fn_data F sc__law_char (fun ds r h => ?_) (fun cd A outer s H hr ds r h => ?_), hm, F.kp, F.binds fun _ _ _ _ _ _ us hl => match us, hl with | [_], _ => rfl⟩
  · obtain ⟨n, rfl, _⟩ := h; rfl
  · obtain ⟨n, rfl, rfl⟩ := h
    refine jss_set 1 je_str ?_
    refine jss_set 1 (je_adds (je_var 1) je_str (small_line (m := 94) (by decide +kernel))) ?_
    have h1 := mod_bd n 94 (by decide)
    exact jss_ret (je_ats (s := charsS) (je_var 1) (je_mod (je_int1 z.z_int (je_var 0)) je_int) (small_line (Nat.le_of_eq charsS_len)) (at_str h1.1 (by rw [charsS_len]; exact h1.2))) rfl
def lenM (cell : Int) : Int := [0, 1, 2, 3, 4, 6, cell / 8 % 61, 60].getD (cell % 8).toNat 0
theorem lenM_bd (cell : Int) : 0 ≤ lenM cell ∧ lenM cell ≤ 60 := by
  have h1 := mod_bd cell 8 (by decide)
  have h2 := mod_bd (cell / 8) 61 (by decide)
  unfold lenM
  generalize cell % 8 = m at h1
  have : m = 0 ∨ m = 1 ∨ m = 2 ∨ m = 3 ∨ m = 4 ∨ m = 5 ∨ m = 6 ∨ m = 7 := by omega
  rcases this with rfl | rfl | rfl | rfl | rfl | rfl | rfl | rfl <;> simp <;> omega
def textM (cell : Int) : Str := stx ((drawsM (cell / 8) (cell % 8) 94 (lenM cell).toNat).2.map charM)
theorem textM_len (cell : Int) : (textM cell).length ≤ 60 := by
  have := lenM_bd cell
  unfold textM
  rw [len_stx, List.length_map, drawsM_len]
  omega
def R_text (ds : List PyData) (r : PyData) : Prop := ∃ n : Int, ds = [.int n] ∧ r = .str (textM n)
theorem sum_ones {α : Type} (l : List α) (f : α → Str) (h : ∀ x, (f x).length = 1) : ((l.map f).map (·.length)).sum = l.length := by
  induction l with
  | nil => rfl
  | cons x r ih => rw [List.map_cons, List.map_cons, List.sum_cons, ih, h, List.length_cons]; omega
theorem cal__law_text {b : Bs} {f : Addr} {fd : FuncData} (z : ZB b) (F : Fun b.K "_law_text" "_law_text" s__law_text f fd) (hm : b.mg "_law_text" = some (.ref f)) (c1 : Cal b "_law_draws" 1 R_draws) (c2 : Cal b "_law_char" 1 R_char) : Cal b "_law_text" 2 R_text := by
  refine ⟨f, fd, p__law_text, fn_data F sc__law_text (fun ds r h => ?_) (fun cd A outer s H hr ds r h => ?_), hm, F.kp, F.binds fun _ _ _ _ _ _ us hl => match us, hl with | [_], _ => rfl⟩
  · obtain ⟨n, rfl, _⟩ := h; rfl
  · obtain ⟨n, rfl, rfl⟩ := h
    have h1 := mod_bd n 8 (by decide)
    have h2 := lenM_bd n
    refine jss_set 1 (je_mod (je_int1 z.z_int (je_var 0)) je_int) ?_
    refine jss_set 2 (je_fdiv (je_var 0) je_int) ?_
    refine jss_set 3 (je_at (d' := .int (lenM n)) (je_ls (jd_cons je_int (jd_cons je_int (jd_cons je_int (jd_cons je_int (jd_cons je_int (jd_cons je_int (jd_cons (je_mod (je_int1 z.z_int (je_var 2)) je_int) (jd_cons je_int jd_nil))))))))) (je_var 1) rfl rfl
      (at_intsI (ns := [0, 1, 2, 3, 4, 6, n / 8 % 61, 60]) h1.1 h1.2)) ?_
    refine jss_ret (je_join (je_str) (je_lcm [("_law_number", 4)] (drawsM (n / 8) (n % 8) 94 (lenM n).toNat).2 PyData.int (fun x => .str (sg (charM x)))
      (ji_list (je_cl c1 (jd_cons (je_var 2) (jd_cons (je_var 1) (jd_cons (je_var 3) (jd_cons je_int jd_nil)))) ⟨n / 8, n % 8, 94, (lenM n).toNat, by omega, by decide, by decide, by rw [Int.toNat_of_nonneg h2.1], rfl⟩))
      (fun x hx => ⟨[4], _, by simp, jg_name 4, fun T => je_cl c2 (jd_cons (je_var 4) jd_nil) ⟨x, rfl, rfl⟩⟩) (small_line (m := 60) (by rw [drawsM_len]; omega))) rfl (ys := (drawsM (n / 8) (n % 8) 94 (lenM n).toNat).2.map fun x => sg (charM x)) (by simp [itemsD]) ?_) ?_
    · rw [sum_ones _ _ (fun _ => rfl), drawsM_len, show (Str.length (Str.ofString "")) = 0 from rfl]
      omega
    · rw [join_signs]
      rfl
/-! ### tokens of numbers -/
def ntB (c : Int) : Int := ([10, 1000, 10 ^ 18, 2] : List Int).getD (c % 4).toNat 0
theorem ntB_ok (c : Int) : 0 < ntB c ∧ ntB c ≤ 10 ^ 18 := by
  unfold ntB
  have : c % 4 = 0 ∨ c % 4 = 1 ∨ c % 4 = 2 ∨ c % 4 = 3 := by omega
  rcases this with h | h | h | h <;> rw [h] <;> decide
def ntI (c : Int) : Nat := (c / 16 % ntB c).toNat
theorem ntI_eq (c : Int) : c / 16 % ntB c = (ntI c : Int) := by
  have h := mod_bd (c / 16) (ntB c) (ntB_ok c).1
  unfold ntI; omega
theorem ntI_lt (c : Int) : ntI c < 10 ^ 18 := by
  have h := mod_bd (c / 16) (ntB c) (ntB_ok c).1
  have h2 := (ntB_ok c).2
  have e := ntI_eq c
  omega
def ntW (c : Int) : Nat := (1 + c / 16 % 18).toNat
theorem ntW_eq (c : Int) : 1 + c / 16 % 18 = (ntW c : Int) := by unfold ntW; omega
theorem ntW_le (c : Int) : ntW c ≤ 18 := by unfold ntW; omega
def ntM (c : Int) : List Nat := if c / 4 % 4 = 1 then List.replicate (ntW c - (numL (ntI c)).length) 48 ++ numL (ntI c) else numL (ntI c)
theorem numL_all (n : Nat) : (numL n).all (fun x => decide (48 ≤ x) && decide (x ≤ 57)) = true := List.all_eq_true.mpr fun x hx => by
  have h := numL_digits n x hx
  rw [Bool.and_eq_true, decide_eq_true_eq, decide_eq_true_eq]; exact h
theorem log2_60n {i : Int} (h : i.natAbs < 2 ^ 64) : i.natAbs.log2 < 1920 := by
  by_cases e : i.natAbs = 0
  · rw [e]; decide
  · exact Nat.lt_of_lt_of_le ((Nat.log2_lt e).mpr h) (by decide)
theorem pad_ok {n : Nat} (h : n ≤ 18) : PadOk (n : Int) = true := by
  have : ∀ m : Nat, m ≤ 18 → PadOk (m : Int) = true := by decide +kernel
  exact this n h
theorem ntM_ok (c : Int) : (ntM c).all (fun x => decide (48 ≤ x) && decide (x ≤ 57)) = true ∧ ntM c ≠ [] ∧ (ntM c).length ≤ 40 := by
  have hd := numL_all (ntI c)
  have hl : (numL (ntI c)).length ≤ 18 := numL_len (by decide) (ntI_lt c)
  have hw := ntW_le c
  have hn := numL_ne (ntI c)
  unfold ntM
  split
  · refine ⟨?_, ?_, ?_⟩
    · rw [List.all_append, hd, Bool.and_true]
      exact List.all_eq_true.mpr fun x hx => by rw [List.eq_of_mem_replicate hx]; rfl
    · intro h; exact hn (List.append_eq_nil_iff.mp h).2
    · rw [List.length_append, List.length_replicate]; omega
  · exact ⟨hd, hn, by omega⟩
def R_ntok (ds : List PyData) (r : PyData) : Prop := ∃ c : Int, ds = [.int c] ∧ r = .tuple [.str "number", .str (stx (ntM c))]
theorem cal__law_number_token {b : Bs} {f : Addr} {fd : FuncData} (z : ZB b) (F : Fun b.K "_law_number_token" "_law_number_token" s__law_number_token f fd) (hm : b.mg "_law_number_token" = some (.ref f)) : Cal b "_law_number_token" 1 R_ntok := by
  refine ⟨f, fd, p__law_number_token, fn_data F sc__law_number_token (fun ds r h => ?_) (fun cd A outer s H hr ds r h => ?_), hm, F.kp, F.binds fun _ _ _ _ _ _ us hl => match us, hl with | [_], _ => rfl⟩
  · obtain ⟨_, rfl, _⟩ := h; rfl
  · obtain ⟨c, rfl, rfl⟩ := h
    have q4 := mod_bd c 4 (by decide)
    have hB := ntB_ok c
    have hI := ntI_lt c
    refine jss_set 1 (je_castI (je_strint z.z_str (je_mod (je_int1 z.z_int (je_fdiv (je_var 0) je_int))
      (je_at (je_ls (jd_cons je_int (jd_cons je_int (jd_cons (je_pow je_int je_int) (jd_cons je_int jd_nil))))) (je_mod (je_int1 z.z_int (je_var 0)) je_int) rfl rfl (at_intsI (ns := [10, 1000, 10 ^ 18, 2]) q4.1 q4.2)) hB.1) (by
        show (c / 16 % ntB c).natAbs.log2 < 1920
        rw [ntI_eq]
        exact log2_60n (by omega))) (d' := .str (stx (numL (ntI c)))) (by
        show PyData.str (Str.ofString (toString (c / 16 % ntB c))) = _
        rw [ntI_eq]; exact congrArg PyData.str (SX.num_S (ntI c)))) ?_
    refine jss_if (jt_eqi (je_mod (je_int1 z.z_int (je_fdiv (je_var 0) je_int)) je_int) je_int) (fun e => ?_) (fun e => jss_nil ?_)
    · have e := of_decide_eq_true e
      have hz := zfill_S (ds := numL (ntI c)) (numL_all _) (numL_ne _) (ntW c)
      refine jss_set 1 (je_castI (je_zfill (n := 1 + c / 16 % 18) (je_var 1) (je_add je_int (je_mod (je_int1 z.z_int (je_fdiv (je_var 0) je_int)) je_int)) (by rw [ntW_eq]; exact pad_ok (ntW_le c))) (d' := .str (stx (ntM c))) (by
        rw [ntW_eq, hz]; unfold ntM; rw [if_pos e])) (jss_nil ?_)
      exact jss_ret (je_tp (jd_cons je_str (jd_cons (je_var 1) jd_nil))) rfl
    · have e := of_decide_eq_false e
      exact jss_ret (je_castI (je_tp (jd_cons je_str (jd_cons (je_var 1) jd_nil))) (by unfold ntM; rw [if_neg e])) rfl
/-! ### expressions with their tokens -/
structure En where
  t : PyData
  ks : List (Str × Str)
  rk : Int
  dp : Int
def tkD (k : Str × Str) : PyData := .tuple [.str k.1, .str k.2]
def En.d (e : En) : PyData := .tuple [e.t, .list (e.ks.map tkD), .int e.rk, .int e.dp]
theorem rep_fit (x y z : Str) (hb : x.length + (x.length + 1) * z.length ≤ 16777216) : (Txt.replace x y z).length ≤ sizeLine := by
  unfold Txt.replace
  split
  · rw [sizeLine_eq]; omega
  · exact PySem.fits_replaced _ hb
def leafE (c : Int) (ns : List Str) (lg : Nat) : En :=
  if c % 4 = 0 then ⟨.tuple [.str "int", .int (NumText.digitsVal (ntM (c / 4)) : Nat)], [("number", stx (ntM (c / 4)))], 7, 0⟩
  else if c % 4 = 1 then ⟨.tuple [.str "text", .str (cutS (Txt.replace (textM (c / 4)) "'" "q") none (some lg))], [("string", cutS (Txt.replace (textM (c / 4)) "'" "q") none (some lg))], 7, 0⟩
  else ⟨.tuple [.str "column", .str (ns.getD (c / 4 % ns.length).toNat Str.empty)], [("word", ns.getD (c / 4 % ns.length).toNat Str.empty)], 7, 0⟩
def R_tleaf (ds : List PyData) (r : PyData) : Prop := ∃ (c : Int) (ns : List Str) (lg : Nat), 0 < ns.length ∧ ds = [.int c, .list (ns.map PyData.str), .int lg] ∧ r = (leafE c ns lg).d
theorem cal__law_token_leaf {b : Bs} {f : Addr} {fd : FuncData} (z : ZB b) (F : Fun b.K "_law_token_leaf" "_law_token_leaf" s__law_token_leaf f fd) (hm : b.mg "_law_token_leaf" = some (.ref f)) (c1 : Cal b "_law_text" 2 R_text) (c2 : Cal b "_law_number_token" 1 R_ntok) : Cal b "_law_token_leaf" 3 R_tleaf := by
  refine ⟨f, fd, p__law_token_leaf, fn_dataT F sc__law_token_leaf (by decide +kernel) (by decide) (fun ds r h => ?_) (fun cd A outer s H hr ds r h => ?_), hm, F.kp, F.binds fun _ _ _ _ _ _ us hl => match us, hl with | [_, _, _], _ => rfl⟩
  · obtain ⟨_, _, _, _, rfl, _⟩ := h; rfl
  · obtain ⟨c, ns, lg, hn, rfl, rfl⟩ := h
    have htl := textM_len (c / 4)
    have hq : Str.length ("q" : Str) = 1 := rfl
    have hl : (0 : Int) < (ns.map PyData.str).length := by rw [List.length_map]; omega
    refine jst_set 3 (je_mod (je_int1 z.z_int (je_var 0)) je_int) (jst_set 4 (je_fdiv (je_var 0) je_int) ?_)
    refine jst_if (jtt_of (jt_eqi (je_var 3) je_int)) (fun e => jst_of ?_) (fun e => jst_nil ?_)
    · have e := of_decide_eq_true e
      have el : leafE c ns lg = ⟨.tuple [.str "int", .int (NumText.digitsVal (ntM (c / 4)) : Nat)], [("number", stx (ntM (c / 4)))], 7, 0⟩ := by unfold leafE; rw [if_pos e]
      obtain ⟨o1, o2, o3⟩ := ntM_ok (c / 4)
      rw [el]
      refine jss_set 5 (je_cl c2 (jd_cons (je_var 4) jd_nil) ⟨_, rfl, rfl⟩) ?_
      exact jss_ret (je_tp (jd_cons (je_tp (jd_cons je_str (jd_cons (je_intS z.z_int (je_at (je_var 5) je_int rfl rfl rfl) (int_dg o1 o2 (by omega)) (by rw [len_stx]; omega)) jd_nil))) (jd_cons (je_ls (jd_cons (je_var 5) jd_nil)) (jd_cons je_int (jd_cons je_int jd_nil))))) rfl
    · have e := of_decide_eq_false e
      refine jst_if (jtt_of (jt_eqi (je_var 3) je_int)) (fun e1 => ?_) (fun e1 => jst_nil ?_)
      · have e1 := of_decide_eq_true e1
        have el : leafE c ns lg = ⟨.tuple [.str "text", .str (cutS (Txt.replace (textM (c / 4)) "'" "q") none (some lg))], [("string", cutS (Txt.replace (textM (c / 4)) "'" "q") none (some lg))], 7, 0⟩ := by unfold leafE; rw [if_neg e, if_pos e1]
        rw [el]
        refine jst_setT 6 (jet_cuts (jet_replace (je_cl c1 (jd_cons (je_var 4) jd_nil) ⟨_, rfl, rfl⟩) (by rw [hq]; omega)) jo_none (jo_some (je_var 2)) (rep_fit _ _ _ (by rw [hq]; omega))) (jst_of ?_)
        exact jss_ret (je_tp (jd_cons (je_tp (jd_cons je_str (jd_cons (je_var 6) jd_nil))) (jd_cons (je_ls (jd_cons (je_tp (jd_cons je_str (jd_cons (je_var 6) jd_nil))) jd_nil)) (jd_cons je_int (jd_cons je_int jd_nil))))) rfl
      · have e1 := of_decide_eq_false e1
        have el : leafE c ns lg = ⟨.tuple [.str "column", .str (ns.getD (c / 4 % ns.length).toNat Str.empty)], [("word", ns.getD (c / 4 % ns.length).toNat Str.empty)], 7, 0⟩ := by unfold leafE; rw [if_neg e, if_neg e1]
        have qn := mod_bd (c / 4) ns.length (by omega)
        rw [el]
        refine jst_of (jss_set 7 (je_at (je_var 1) (je_castI (je_mod (je_int1 z.z_int (je_var 4)) (je_len z.z_len (je_var 1) rfl rfl) hl) (d' := .int (c / 4 % ns.length)) (by rw [List.length_map])) rfl rfl (at_strsI qn.1 qn.2)) ?_)
        exact jss_ret (je_tp (jd_cons (je_tp (jd_cons je_str (jd_cons (je_var 7) jd_nil))) (jd_cons (je_ls (jd_cons (je_tp (jd_cons je_str (jd_cons (je_var 7) jd_nil))) jd_nil)) (jd_cons je_int (jd_cons je_int jd_nil))))) rfl
/-! ### parens -/
def tkO : List (Str × Str) := [(("sign" : Str), ("(" : Str))]
def tkC : List (Str × Str) := [(("sign" : Str), (")" : Str))]
def wrapE (e : En) (rk : Int) (nd : Bool) : En := if decide (e.rk < rk) || (nd && decide (e.dp < 10)) then ⟨e.t, tkO ++ e.ks ++ tkC, 7, e.dp + 1⟩ else e
def R_wrap (ds : List PyData) (r : PyData) : Prop := ∃ (e : En) (rk : Int) (nd : Bool), e.ks.length ≤ 100000 ∧ ds = [e.d, .int rk, .bool nd] ∧ r = (wrapE e rk nd).d
theorem cal__law_wrapped {b : Bs} {f : Addr} {fd : FuncData} (z : ZB b) (F : Fun b.K "_law_wrapped" "_law_wrapped" s__law_wrapped f fd) (hm : b.mg "_law_wrapped" = some (.ref f)) : Cal b "_law_wrapped" 1 R_wrap := by
  refine ⟨f, fd, p__law_wrapped, fn_data F sc__law_wrapped (fun ds r h => ?_) (fun cd A outer s H hr ds r h => ?_), hm, F.kp, F.binds fun _ _ _ _ _ _ us hl => match us, hl with | [_, _, _], _ => rfl⟩
  · obtain ⟨_, _, _, _, rfl, _⟩ := h; rfl
  · obtain ⟨e, rk, nd, hn, rfl, rfl⟩ := h
    refine jss_if (z := decide (e.rk < rk) || (nd && decide (e.dp < 10))) (jt_w (jw_or (x := decide (e.rk < rk)) (y := nd && decide (e.dp < 10)) (jt_lt (je_at (je_var 0) je_int rfl rfl rfl) (je_var 1)) (fun _ => jw_or1 (jt_w (jw_and (x := nd) (y := decide (e.dp < 10)) (jt_val (je_var 2)) (fun _ => jw_and1 (jt_lt (je_at (je_var 0) je_int rfl rfl rfl) je_int)) (fun _ => rfl)))) (fun _ => rfl))) (fun h => ?_) (fun h => jss_nil ?_)
    · have el : (wrapE e rk nd).d = .tuple [e.t, .list (tkO.map tkD ++ e.ks.map tkD ++ tkC.map tkD), .int 7, .int (e.dp + 1)] := by unfold wrapE; rw [if_pos h]; simp [En.d]
      rw [el]
      refine jss_ret (je_tp (jd_cons (je_at (je_var 0) je_int rfl rfl rfl) (jd_cons (je_cat (je_cat (je_ls (jd_cons (je_tp (jd_cons je_str (jd_cons je_str jd_nil))) jd_nil)) (je_at (je_var 0) je_int rfl rfl rfl) rfl rfl ?_) (je_ls (jd_cons (je_tp (jd_cons je_str (jd_cons je_str jd_nil))) jd_nil)) rfl rfl ?_) (jd_cons je_int (jd_cons (je_add (je_at (je_var 0) je_int rfl rfl rfl) je_int) jd_nil))))) rfl
      · rw [sizeLine_eq]; simp; omega
      · rw [sizeLine_eq]; simp; omega
    · have el : wrapE e rk nd = e := by unfold wrapE; rw [if_neg (by rw [h]; decide)]
      rw [el]
      exact jss_ret (je_var 0) rfl
/-! ### one operand -/
def tk1 (a b : Str) : List (Str × Str) := [(a, b)]
theorem wrapE_len (e : En) (rk : Int) (nd : Bool) : (wrapE e rk nd).ks.length ≤ e.ks.length + 2 := by
  unfold wrapE; split
  · simp [tkO, tkC]
  · omega
def unE (e : En) (n : Int) : En :=
  if n % 4 = 0 then ⟨.tuple [.str "neg", (wrapE e 6 (decide (n / 4 % 5 = 0))).t], tk1 "sign" "-" ++ (wrapE e 6 (decide (n / 4 % 5 = 0))).ks, 6, (wrapE e 6 (decide (n / 4 % 5 = 0))).dp + 1⟩
  else if n % 4 = 1 then ⟨.tuple [.str "not", (wrapE e 2 (decide (n / 4 % 5 = 0))).t], tk1 "word" "not" ++ (wrapE e 2 (decide (n / 4 % 5 = 0))).ks, 2, (wrapE e 2 (decide (n / 4 % 5 = 0))).dp + 1⟩
  else if n % 4 = 2 then ⟨.tuple [.str "null", (wrapE e 4 (decide (n / 4 % 5 = 0))).t], (wrapE e 4 (decide (n / 4 % 5 = 0))).ks ++ (tk1 "word" "is" ++ tk1 "word" "null"), 3, (wrapE e 4 (decide (n / 4 % 5 = 0))).dp⟩
  else ⟨.tuple [.str "not", .tuple [.str "null", (wrapE e 4 (decide (n / 4 % 5 = 0))).t]], (wrapE e 4 (decide (n / 4 % 5 = 0))).ks ++ (tk1 "word" "is" ++ tk1 "word" "not" ++ tk1 "word" "null"), 3, (wrapE e 4 (decide (n / 4 % 5 = 0))).dp⟩
def R_un (ds : List PyData) (r : PyData) : Prop := ∃ (e : En) (n : Int), e.ks.length ≤ 90000 ∧ ds = [e.d, .int n] ∧ r = (unE e n).d
theorem cal__law_unary {b : Bs} {f : Addr} {fd : FuncData} (z : ZB b) (F : Fun b.K "_law_unary" "_law_unary" s__law_unary f fd) (hm : b.mg "_law_unary" = some (.ref f)) (c1 : Cal b "_law_wrapped" 1 R_wrap) : Cal b "_law_unary" 2 R_un := by
  refine ⟨f, fd, p__law_unary, fn_data F sc__law_unary (fun ds r h => ?_) (fun cd A outer s H hr ds r h => ?_), hm, F.kp, F.binds fun _ _ _ _ _ _ us hl => match us, hl with | [_, _], _ => rfl⟩
  · obtain ⟨_, _, _, rfl, _⟩ := h; rfl
  · obtain ⟨e, n, hn, rfl, rfl⟩ := h
    have w6 := wrapE_len e 6 (decide (n / 4 % 5 = 0))
    have w2 := wrapE_len e 2 (decide (n / 4 % 5 = 0))
    have w4 := wrapE_len e 4 (decide (n / 4 % 5 = 0))
    refine jss_set 2 (je_mod (je_int1 z.z_int (je_var 1)) je_int) (jss_set 3 (je_eqi (je_mod (je_int1 z.z_int (je_fdiv (je_var 1) je_int)) je_int) je_int) ?_)
    refine jss_if (jt_eqi (je_var 2) je_int) (fun e0 => ?_) (fun e0 => jss_nil ?_)
    · have e0 := of_decide_eq_true e0
      have el : (unE e n).d = .tuple [.tuple [.str "neg", (wrapE e 6 (decide (n / 4 % 5 = 0))).t], .list ((tk1 "sign" "-").map tkD ++ (wrapE e 6 (decide (n / 4 % 5 = 0))).ks.map tkD), .int 6, .int ((wrapE e 6 (decide (n / 4 % 5 = 0))).dp + 1)] := by unfold unE; rw [if_pos e0]; simp [En.d]
      rw [el]
      refine jss_set 4 (je_cl c1 (jd_cons (je_var 0) (jd_cons je_int (jd_cons (je_var 3) jd_nil))) ⟨e, 6, _, by omega, rfl, rfl⟩) ?_
      refine jss_ret (je_tp (jd_cons (je_tp (jd_cons je_str (jd_cons (je_at (je_var 4) je_int rfl rfl rfl) jd_nil))) (jd_cons (je_cat (je_ls (jd_cons (je_tp (jd_cons je_str (jd_cons je_str jd_nil))) jd_nil)) (je_at (je_var 4) je_int rfl rfl rfl) rfl rfl ?_) (jd_cons je_int (jd_cons (je_add (je_at (je_var 4) je_int rfl rfl rfl) je_int) jd_nil))))) rfl
      rw [sizeLine_eq]; simp; omega
    · have e0 := of_decide_eq_false e0
      refine jss_if (jt_eqi (je_var 2) je_int) (fun e1 => ?_) (fun e1 => jss_nil ?_)
      · have e1 := of_decide_eq_true e1
        have el : (unE e n).d = .tuple [.tuple [.str "not", (wrapE e 2 (decide (n / 4 % 5 = 0))).t], .list ((tk1 "word" "not").map tkD ++ (wrapE e 2 (decide (n / 4 % 5 = 0))).ks.map tkD), .int 2, .int ((wrapE e 2 (decide (n / 4 % 5 = 0))).dp + 1)] := by unfold unE; rw [if_neg e0, if_pos e1]; simp [En.d]
        rw [el]
        refine jss_set 4 (je_cl c1 (jd_cons (je_var 0) (jd_cons je_int (jd_cons (je_var 3) jd_nil))) ⟨e, 2, _, by omega, rfl, rfl⟩) ?_
        refine jss_ret (je_tp (jd_cons (je_tp (jd_cons je_str (jd_cons (je_at (je_var 4) je_int rfl rfl rfl) jd_nil))) (jd_cons (je_cat (je_ls (jd_cons (je_tp (jd_cons je_str (jd_cons je_str jd_nil))) jd_nil)) (je_at (je_var 4) je_int rfl rfl rfl) rfl rfl ?_) (jd_cons je_int (jd_cons (je_add (je_at (je_var 4) je_int rfl rfl rfl) je_int) jd_nil))))) rfl
        rw [sizeLine_eq]; simp; omega
      · have e1 := of_decide_eq_false e1
        refine jss_set 4 (je_cl c1 (jd_cons (je_var 0) (jd_cons je_int (jd_cons (je_var 3) jd_nil))) ⟨e, 4, _, by omega, rfl, rfl⟩) ?_
        refine jss_if (jt_eqi (je_var 2) je_int) (fun e2 => ?_) (fun e2 => jss_nil ?_)
        · have e2 := of_decide_eq_true e2
          have el : (unE e n).d = .tuple [.tuple [.str "null", (wrapE e 4 (decide (n / 4 % 5 = 0))).t], .list ((wrapE e 4 (decide (n / 4 % 5 = 0))).ks.map tkD ++ (tk1 "word" "is" ++ tk1 "word" "null").map tkD), .int 3, .int (wrapE e 4 (decide (n / 4 % 5 = 0))).dp] := by unfold unE; rw [if_neg e0, if_neg e1, if_pos e2]; simp [En.d]
          rw [el]
          refine jss_ret (je_tp (jd_cons (je_tp (jd_cons je_str (jd_cons (je_at (je_var 4) je_int rfl rfl rfl) jd_nil))) (jd_cons (je_cat (je_at (je_var 4) je_int rfl rfl rfl) (je_ls (jd_cons (je_tp (jd_cons je_str (jd_cons je_str jd_nil))) (jd_cons (je_tp (jd_cons je_str (jd_cons je_str jd_nil))) jd_nil))) rfl rfl ?_) (jd_cons je_int (jd_cons (je_at (je_var 4) je_int rfl rfl rfl) jd_nil))))) rfl
          rw [sizeLine_eq]; simp; omega
        · have e2 := of_decide_eq_false e2
          have el : (unE e n).d = .tuple [.tuple [.str "not", .tuple [.str "null", (wrapE e 4 (decide (n / 4 % 5 = 0))).t]], .list ((wrapE e 4 (decide (n / 4 % 5 = 0))).ks.map tkD ++ (tk1 "word" "is" ++ tk1 "word" "not" ++ tk1 "word" "null").map tkD), .int 3, .int (wrapE e 4 (decide (n / 4 % 5 = 0))).dp] := by unfold unE; rw [if_neg e0, if_neg e1, if_neg e2]; simp [En.d]
          rw [el]
          refine jss_set 5 (je_cat (je_at (je_var 4) je_int rfl rfl rfl) (je_ls (jd_cons (je_tp (jd_cons je_str (jd_cons je_str jd_nil))) (jd_cons (je_tp (jd_cons je_str (jd_cons je_str jd_nil))) (jd_cons (je_tp (jd_cons je_str (jd_cons je_str jd_nil))) jd_nil)))) rfl rfl ?_) ?_
          · rw [sizeLine_eq]; simp; omega
          · exact jss_ret (je_tp (jd_cons (je_tp (jd_cons je_str (jd_cons (je_tp (jd_cons je_str (jd_cons (je_at (je_var 4) je_int rfl rfl rfl) jd_nil))) jd_nil))) (jd_cons (je_var 5) (jd_cons je_int (jd_cons (je_at (je_var 4) je_int rfl rfl rfl) jd_nil))))) rfl
/-! ### two operands -/
def bW : List Str := ["or", "and", "equal", "unequal", "less", "atmost", "more", "atleast", "add", "sub", "mul"]
def bS : List Str := ["or", "and", "=", "<>", "<", "<=", ">", ">=", "+", "-", "*"]
def bR : List Int := [0, 1, 3, 3, 3, 3, 3, 3, 4, 4, 5]
def bL : List Int := [0, 1, 4, 4, 4, 4, 4, 4, 4, 4, 5]
def bK (n : Int) : Nat := (n % 11).toNat
def bF (l : En) (n : Int) : En := wrapE l (bL.getD (bK n) 0) (decide (n / 11 % 5 = 0))
def bN (r : En) (n : Int) : En := wrapE r (bR.getD (bK n) 0 + 1) (decide (n / 55 % 5 = 0))
def bT (n : Int) : Str := if n % 11 < 2 then "word" else "sign"
def binE (l r : En) (n : Int) : En := ⟨.tuple [.str (bW.getD (bK n) Str.empty), (bF l n).t, (bN r n).t], (bF l n).ks ++ tk1 (bT n) (bS.getD (bK n) Str.empty) ++ (bN r n).ks, bR.getD (bK n) 0, if (bN r n).dp > (bF l n).dp then (bN r n).dp else (bF l n).dp⟩
def R_bin (ds : List PyData) (r : PyData) : Prop := ∃ (x y : En) (n : Int), x.ks.length ≤ 90000 ∧ y.ks.length ≤ 90000 ∧ ds = [x.d, y.d, .int n] ∧ r = (binE x y n).d
theorem cal__law_binary {b : Bs} {f : Addr} {fd : FuncData} (z : ZB b) (F : Fun b.K "_law_binary" "_law_binary" s__law_binary f fd) (hm : b.mg "_law_binary" = some (.ref f)) (c1 : Cal b "_law_wrapped" 1 R_wrap) : Cal b "_law_binary" 2 R_bin := by
  refine ⟨f, fd, p__law_binary, fn_data F sc__law_binary (fun ds r h => ?_) (fun cd A outer s H hr ds r h => ?_), hm, F.kp, F.binds fun _ _ _ _ _ _ us hl => match us, hl with | [_, _, _], _ => rfl⟩
  · obtain ⟨_, _, _, _, _, rfl, _⟩ := h; rfl
  · obtain ⟨x, y, n, hx, hy, rfl, rfl⟩ := h
    have q := mod_bd n 11 (by decide)
    have w1 := wrapE_len x (bL.getD (bK n) 0) (decide (n / 11 % 5 = 0))
    have w2 := wrapE_len y (bR.getD (bK n) 0 + 1) (decide (n / 55 % 5 = 0))
    refine jss_set 3 (je_ls (jd_cons je_str (jd_cons je_str (jd_cons je_str (jd_cons je_str (jd_cons je_str (jd_cons je_str (jd_cons je_str (jd_cons je_str (jd_cons je_str (jd_cons je_str (jd_cons je_str jd_nil)))))))))))) ?_
    refine jss_set 4 (je_ls (jd_cons je_str (jd_cons je_str (jd_cons je_str (jd_cons je_str (jd_cons je_str (jd_cons je_str (jd_cons je_str (jd_cons je_str (jd_cons je_str (jd_cons je_str (jd_cons je_str jd_nil)))))))))))) ?_
    refine jss_set 5 (je_ls (jd_cons je_int (jd_cons je_int (jd_cons je_int (jd_cons je_int (jd_cons je_int (jd_cons je_int (jd_cons je_int (jd_cons je_int (jd_cons je_int (jd_cons je_int (jd_cons je_int jd_nil)))))))))))) ?_
    refine jss_set 6 (je_ls (jd_cons je_int (jd_cons je_int (jd_cons je_int (jd_cons je_int (jd_cons je_int (jd_cons je_int (jd_cons je_int (jd_cons je_int (jd_cons je_int (jd_cons je_int (jd_cons je_int jd_nil)))))))))))) ?_
    refine jss_set 7 (je_mod (je_int1 z.z_int (je_var 2)) je_int) ?_
    refine jss_set 8 (je_cl c1 (jd_cons (je_var 0) (jd_cons (je_at (je_var 6) (je_var 7) rfl rfl (at_intsI (ns := bL) q.1 q.2)) (jd_cons (je_eqi (je_mod (je_int1 z.z_int (je_fdiv (je_var 2) je_int)) je_int) je_int) jd_nil))) ⟨x, bL.getD (bK n) 0, _, by omega, rfl, rfl⟩) ?_
    refine jss_set 9 (je_cl c1 (jd_cons (je_var 1) (jd_cons (je_add (je_at (je_var 5) (je_var 7) rfl rfl (at_intsI (ns := bR) q.1 q.2)) je_int) (jd_cons (je_eqi (je_mod (je_int1 z.z_int (je_fdiv (je_var 2) je_int)) je_int) je_int) jd_nil))) ⟨y, bR.getD (bK n) 0 + 1, _, by omega, rfl, rfl⟩) ?_
    refine jss_set 10 je_str ?_
    refine jss_if (jt_lt (je_var 7) je_int) (fun e => jss_set 10 je_str (jss_nil ?_)) (fun e => jss_nil ?_)
    · have e := of_decide_eq_true e
      have et : bT n = "word" := by unfold bT; rw [if_pos e]
      refine jss_set 11 (je_cat (je_cat (je_at (je_var 8) je_int rfl rfl rfl) (je_ls (jd_cons (je_tp (jd_cons (je_var 10) (jd_cons (je_at (je_var 4) (je_var 7) rfl rfl (at_strsI (ns := bS) q.1 q.2)) jd_nil))) jd_nil)) rfl rfl ?_) (je_at (je_var 9) je_int rfl rfl rfl) rfl rfl ?_) ?_
      · rw [sizeLine_eq]; simp at w1 w2 ⊢; omega
      · rw [sizeLine_eq]; simp at w1 w2 ⊢; omega
      · exact jss_ret (je_tp (jd_cons (je_tp (jd_cons (je_at (je_var 3) (je_var 7) rfl rfl (at_strsI (ns := bW) q.1 q.2)) (jd_cons (je_at (je_var 8) je_int rfl rfl rfl) (jd_cons (je_at (je_var 9) je_int rfl rfl rfl) jd_nil)))) (jd_cons (je_var 11) (jd_cons (je_at (je_var 5) (je_var 7) rfl rfl (at_intsI (ns := bR) q.1 q.2)) (jd_cons (je_max2 z.z_max (je_at (je_var 8) je_int rfl rfl rfl) (je_at (je_var 9) je_int rfl rfl rfl)) jd_nil))))) (by simp [binE, En.d, et, tk1, tkD, bF, bN, bK])
    · have e := of_decide_eq_false e
      have et : bT n = "sign" := by unfold bT; rw [if_neg e]
      refine jss_set 11 (je_cat (je_cat (je_at (je_var 8) je_int rfl rfl rfl) (je_ls (jd_cons (je_tp (jd_cons (je_var 10) (jd_cons (je_at (je_var 4) (je_var 7) rfl rfl (at_strsI (ns := bS) q.1 q.2)) jd_nil))) jd_nil)) rfl rfl ?_) (je_at (je_var 9) je_int rfl rfl rfl) rfl rfl ?_) ?_
      · rw [sizeLine_eq]; simp at w1 w2 ⊢; omega
      · rw [sizeLine_eq]; simp at w1 w2 ⊢; omega
      · exact jss_ret (je_tp (jd_cons (je_tp (jd_cons (je_at (je_var 3) (je_var 7) rfl rfl (at_strsI (ns := bW) q.1 q.2)) (jd_cons (je_at (je_var 8) je_int rfl rfl rfl) (jd_cons (je_at (je_var 9) je_int rfl rfl rfl) jd_nil)))) (jd_cons (je_var 11) (jd_cons (je_at (je_var 5) (je_var 7) rfl rfl (at_intsI (ns := bR) q.1 q.2)) (jd_cons (je_max2 z.z_max (je_at (je_var 8) je_int rfl rfl rfl) (je_at (je_var 9) je_int rfl rfl rfl)) jd_nil))))) (by simp [binE, En.d, et, tk1, tkD, bF, bN, bK])
/-! ### expressions, their tokens plain -/
def kJ : Str × Str := (("word" : Str), ("join" : Str))
def kU : Str × Str := (("word" : Str), ("union" : Str))
theorem charM_lt (x : Int) : charM x < 0x110000 := by
  have : ∀ i : Nat, i < 94 → charsS.cps.toList.getD i 0 < 0x110000 := by decide +kernel
  exact this _ (by omega)
theorem all_of {s : Str} (h : ∀ c ∈ tl s, c < 0x110000) : s.cps.all (· < 0x110000) = true := by
  rw [← Array.all_toList]
  exact List.all_eq_true.mpr fun c hc => decide_eq_true (h c hc)
theorem of_all {s : Str} (h : s.cps.all (· < 0x110000) = true) : ∀ c ∈ tl s, c < 0x110000 := by
  rw [← Array.all_toList] at h
  exact fun c hc => of_decide_eq_true (List.all_eq_true.mp h c hc)
theorem vt_all (c : Int) (lg : Int) : (cutS (Txt.replace (textM c) "'" "q") none (some lg)).cps.all (· < 0x110000) = true := by
  refine all_of (cut_mem _ _ (rep_mem _ (fun x hx => ?_) fun x hx => ?_))
  · unfold textM at hx
    rw [tl_mk] at hx
    obtain ⟨y, _, rfl⟩ := List.mem_map.mp hx
    exact charM_lt y
  · exact of_all (by decide +kernel) x hx
abbrev okTk (k : Str × Str) : Prop := k.1.cps.all (· < 0x110000) = true ∧ k.2.cps.all (· < 0x110000) = true
theorem all_word : ("word" : Str).cps.all (· < 0x110000) = true := by decide +kernel
theorem all_sign : ("sign" : Str).cps.all (· < 0x110000) = true := by decide +kernel
def pl (ks : List (Str × Str)) : Prop := ∀ k ∈ ks, k ≠ kJ ∧ k ≠ kU ∧ okTk k
theorem ntM_all (c : Int) : (stx (ntM c)).cps.all (· < 0x110000) = true := all_of fun x hx => by
  rw [tl_mk] at hx
  have := List.all_eq_true.mp (ntM_ok c).1 x hx
  rw [Bool.and_eq_true, decide_eq_true_eq, decide_eq_true_eq] at this
  omega
theorem pl_nil : pl [] := fun k h => by cases h
theorem pl_app {a b : List (Str × Str)} (h1 : pl a) (h2 : pl b) : pl (a ++ b) := fun k h => by
  rcases List.mem_append.mp h with h | h
  · exact h1 k h
  · exact h2 k h
theorem pl_one {k : Str × Str} (h : k.1 ≠ "word" ∨ (k.2 ≠ "join" ∧ k.2 ≠ "union")) (hc : okTk k := by decide +kernel) : pl [k] := fun x hx => by
  rw [List.mem_singleton] at hx
  subst hx
  rcases h with h | h
  · exact ⟨fun e => h (congrArg Prod.fst e), fun e => h (congrArg Prod.fst e), hc⟩
  · exact ⟨fun e => h.1 (congrArg Prod.snd e), fun e => h.2 (congrArg Prod.snd e), hc⟩
theorem pl_tk {a b : Str} (h : a ≠ "word" ∨ (b ≠ "join" ∧ b ≠ "union")) (hc : okTk (a, b) := by decide +kernel) : pl (tk1 a b) := pl_one h hc
def okNs (ns : List Str) : Prop := 0 < ns.length ∧ ∀ n ∈ ns, n ≠ "join" ∧ n ≠ "union" ∧ n ≠ "at" ∧ n.length ≤ 12 ∧ n.cps.all (· < 0x110000) = true
def okEn (n : Nat) (e : En) : Prop := pl e.ks ∧ e.ks.length ≤ n
theorem okEn.mono {n m : Nat} {e : En} (h : okEn n e) (hm : n ≤ m) : okEn m e := ⟨h.1, Nat.le_trans h.2 hm⟩
theorem leafE_ok (c : Int) {ns : List Str} (lg : Nat) (h : okNs ns) : okEn 1 (leafE c ns lg) := by
  unfold leafE
  split
  · exact ⟨pl_one (.inl (show ("number" : Str) ≠ "word" by decide)) ⟨show ("number" : Str).cps.all _ = true by decide +kernel, ntM_all _⟩, Nat.le_refl 1⟩
  · split
    · exact ⟨pl_one (.inl (show ("string" : Str) ≠ "word" by decide)) ⟨show ("string" : Str).cps.all _ = true by decide +kernel, vt_all _ _⟩, Nat.le_refl 1⟩
    · have hm : ns.getD (c / 4 % ns.length).toNat Str.empty ∈ ns := AL.getD_mem (by have h0 := h.1; have := mod_bd (c / 4) ns.length (by omega); omega)
      have q := h.2 _ hm
      exact ⟨pl_one (.inr ⟨q.1, q.2.1⟩) ⟨all_word, q.2.2.2.2⟩, Nat.le_refl 1⟩
theorem wrapE_ok {n : Nat} {e : En} (rk : Int) (nd : Bool) (h : okEn n e) : okEn (n + 2) (wrapE e rk nd) := by
  refine ⟨?_, Nat.le_trans (wrapE_len e rk nd) (by have := h.2; omega)⟩
  unfold wrapE
  split
  · exact pl_app (pl_app (pl_tk (.inl (by decide))) h.1) (pl_tk (.inl (by decide)))
  · exact h.1
theorem unE_ok {n : Nat} {e : En} (k : Int) (h : okEn n e) : okEn (n + 5) (unE e k) := by
  have hw : ∀ rk nd, okEn (n + 2) (wrapE e rk nd) := fun rk nd => wrapE_ok rk nd h
  have h6 := hw 6 (decide (k / 4 % 5 = 0))
  have h2 := hw 2 (decide (k / 4 % 5 = 0))
  have h4 := hw 4 (decide (k / 4 % 5 = 0))
  have lt : ∀ a b, (tk1 a b).length = 1 := fun _ _ => rfl
  unfold unE
  split
  · exact ⟨pl_app (pl_tk (.inl (by decide))) h6.1, by have := h6.2; simp only [List.length_append, lt]; omega⟩
  · split
    · exact ⟨pl_app (pl_tk (.inr (by decide))) h2.1, by have := h2.2; simp only [List.length_append, lt]; omega⟩
    · split
      · exact ⟨pl_app h4.1 (pl_app (pl_tk (.inr (by decide))) (pl_tk (.inr (by decide)))), by have := h4.2; simp only [List.length_append, lt]; omega⟩
      · exact ⟨pl_app h4.1 (pl_app (pl_app (pl_tk (.inr (by decide))) (pl_tk (.inr (by decide)))) (pl_tk (.inr (by decide)))), by have := h4.2; simp only [List.length_append, lt]; omega⟩
theorem binE_ok {n m : Nat} {l r : En} (k : Int) (h1 : okEn n l) (h2 : okEn m r) : okEn (n + m + 5) (binE l r k) := by
  have a1 : okEn (n + 2) (bF l k) := wrapE_ok _ _ h1
  have a2 : okEn (m + 2) (bN r k) := wrapE_ok _ _ h2
  have hb : bK k < 11 := by unfold bK; omega
  have hs : ∀ i : Nat, i < 11 → (bS.getD i Str.empty ≠ "join" ∧ bS.getD i Str.empty ≠ "union") ∧ (bS.getD i Str.empty).cps.all (· < 0x110000) = true := by decide +kernel
  have ht : (bT k).cps.all (· < 0x110000) = true := by unfold bT; split; exact all_word; exact all_sign
  refine ⟨pl_app (pl_app a1.1 (pl_tk (.inr (hs _ hb).1) ⟨ht, (hs _ hb).2⟩)) a2.1, ?_⟩
  have lt : ∀ a b, (tk1 a b).length = 1 := fun _ _ => rfl
  have := a1.2
  have := a2.2
  show ((bF l k).ks ++ tk1 _ _ ++ (bN r k).ks).length ≤ _
  simp only [List.length_append, lt]
  omega
theorem cutD_tail (x : PyData) (xs : List PyData) : cutD (x :: xs) (some 1) none = xs := by
  unfold AL.cutD
  rw [show (some (1 : Int)) = some ((1 : Nat) : Int) from rfl, HT.sIx_nat, HT.sIx_none]
  have : min 1 (x :: xs).length = 1 := by rw [List.length_cons]; omega
  rw [this]
  simp
theorem last1 {α : Type} [Inhabited α] (es : List α) : ∃ l : α, es.isEmpty = false → ∃ xs, es = xs ++ [l] := by
  rcases List.eq_nil_or_concat es with rfl | ⟨ys, r, h⟩
  · exact ⟨default, fun h => by cases h⟩
  · exact ⟨r, fun _ => ⟨ys, by rw [h, List.concat_eq_append]⟩⟩
theorem last2 {α : Type} [Inhabited α] (es : List α) : ∃ l r : α, 1 < es.length → ∃ xs, es = xs ++ [l, r] := by
  rcases List.eq_nil_or_concat es with rfl | ⟨ys, r, h⟩
  · exact ⟨default, default, fun h => by simp at h⟩
  · rcases List.eq_nil_or_concat ys with rfl | ⟨zs, l, h'⟩
    · exact ⟨r, r, fun e => by rw [h] at e; simp at e⟩
    · exact ⟨l, r, fun _ => ⟨zs, by rw [h, h']; simp [List.concat_eq_append]⟩⟩
theorem at_m1 {α : Type} (xs : List α) (a c : α) : atI (xs ++ [a, c]) (-1) = some c := by
  rw [show xs ++ [a, c] = (xs ++ [a]) ++ [c] by simp]; exact atI_last _ _
theorem at_m2 {α : Type} (xs : List α) (a c : α) : atI (xs ++ [a, c]) (-2) = some a := by
  unfold atI
  have : ixN (xs ++ [a, c]).length (-2) = some xs.length := by
    unfold ixN
    rw [List.length_append]
    simp only [List.length_cons, List.length_nil]
    rw [if_neg (by omega)]
    rw [if_pos (by omega)]
    congr 1
    omega
  rw [this]
  simp
theorem at_0 {α : Type} (x : α) (xs : List α) : atI (x :: xs) 0 = some x := atI_nat (j := 0) rfl
instance : Inhabited En := ⟨⟨.none, [], 0, 0⟩⟩
def Pre_expr (ds : List PyData) : Prop := ∃ (cs : List Int) (ns : List Str), 0 < cs.length ∧ cs.length ≤ 3 ∧ okNs ns ∧ ds = [.list (cs.map PyData.int), .list (ns.map PyData.str)]
def Post_expr (_ : List PyData) (r : PyData) : Prop := ∃ e : En, okEn 1000 e ∧ r = e.d
theorem cal__law_expression {b : Bs} {f : Addr} {fd : FuncData} (z : ZB b) (F : Fun b.K "_law_expression" "_law_expression" s__law_expression f fd) (hm : b.mg "_law_expression" = some (.ref f)) (c1 : Cal b "_law_draws" 1 R_draws) (c2 : Cal b "_law_unary" 2 R_un) (c3 : Cal b "_law_binary" 2 R_bin) (c4 : Cal b "_law_token_leaf" 3 R_tleaf) (c5 : Cal b "_law_wrapped" 1 R_wrap) : CalQ b "_law_expression" 4 Pre_expr Post_expr := by
  refine ⟨f, fd, p__law_expression, fn_dataQ F sc__law_expression (fun ds h => ?_) (fun cd A outer s H hr ds h => ?_), hm, F.kp, F.binds fun _ _ _ _ _ _ us hl => match us, hl with | [_, _], _ => rfl⟩
  · obtain ⟨_, _, _, _, _, rfl⟩ := h; rfl
  · obtain ⟨cs, ns, hc0, hc3, hns, rfl⟩ := h
    refine jss_set 2 (je_lo jd_nil) (jss_set 3 je_int ?_)
    refine jss_for (ji_list (je_var 0)) (fun i E S => ∃ (es : List En) (lg : Nat) (m4 m5 m6 m7 m8 m9 m10 : Option AV), es.length ≤ i ∧ (0 < i → 0 < es.length) ∧ (∀ e ∈ es, okEn (10 * 2 ^ i - 10) e) ∧ E = [some (.d (.list (cs.map PyData.int))), some (.d (.list (ns.map PyData.str))), some (.o 0), some (.d (.int lg)), m4, m5, m6, m7, m8, m9, m10] ∧ S = [.ld (es.map En.d)])
      ⟨[], 60, none, none, none, none, none, none, none, Nat.le_refl _, fun h => by omega, fun e he => (by cases he), rfl, rfl⟩ (fun i d E S hd hI => ?_) (fun E S hI => ?_)
    · obtain ⟨es, lg, m4, m5, m6, m7, m8, m9, m10, hel, hen, heo, rfl, rfl⟩ := hI
      rw [List.getElem?_map] at hd
      have hi : i < cs.length := by
        rcases Nat.lt_or_ge i cs.length with h | h
        · exact h
        · rw [List.getElem?_eq_none h] at hd; cases hd
      obtain ⟨c, rfl⟩ : ∃ c : Int, d = .int c := by
        rw [List.getElem?_eq_getElem hi] at hd; exact ⟨_, (Option.some.inj hd).symm⟩
      have hpw : 10 * 2 ^ (i + 1) = 2 * (10 * 2 ^ i) := by rw [Nat.pow_succ]; omega
      have hp1 : 1 ≤ 2 ^ i := Nat.one_le_two_pow
      have hp4 : 2 ^ i ≤ 4 := by
        have : i = 0 ∨ i = 1 ∨ i = 2 := by omega
        rcases this with rfl | rfl | rfl <;> decide
      refine ⟨[4], _, jg_name 4, jss_set 5 (je_cl c1 (jd_cons (je_var 4) (jd_cons je_int (jd_cons je_int (jd_cons (je_pow je_int je_int) jd_nil)))) ⟨c, 45, 10 ^ 30, 2, by decide, by decide, by decide, rfl, rfl⟩) ?_⟩
      have hdl : (drawsM c 45 (10 ^ 30) 2).2.length = 2 := drawsM_len _ _ _ _
      generalize (drawsM c 45 (10 ^ 30) 2).2 = dr at hdl
      have at0 : ∀ i : Nat, i < 2 → atI (dr.map PyData.int) (i : Int) = some (.int (dr.getD i 0)) := fun i hi => at_ints (by omega)
      have a1 := at0 1 (by decide)
      refine jss_set 6 (je_mod (je_int1 z.z_int (je_at (je_var 5) je_int rfl rfl (at0 0 (by decide)))) je_int) ?_
      generalize dr.getD 0 0 % 8 = ch
      generalize dr.getD 1 0 = n1 at a1
      have hemp : (es.map En.d).isEmpty = es.isEmpty := by cases es <;> rfl
      obtain ⟨l, hl⟩ := last1 es
      obtain ⟨x, y, hxy⟩ := last2 es
      have hle : ((es.map En.d).length : Int) = (es.length : Int) := by rw [List.length_map]
      have hl1 : es.isEmpty = false → atI (es.map En.d) (-1) = some l.d := fun h => by
        obtain ⟨xs, rfl⟩ := hl h
        rw [List.map_append]; exact atI_last _ _
      have hy1 : 1 < es.length → atI (es.map En.d) (-1) = some y.d := fun h => by
        obtain ⟨xs, rfl⟩ := hxy h
        rw [List.map_append]; exact at_m1 _ _ _
      have hx1 : 1 < es.length → atI (es.map En.d) (-2) = some x.d := fun h => by
        obtain ⟨xs, rfl⟩ := hxy h
        rw [List.map_append]; exact at_m2 _ _ _
      refine jss_if (z := !es.isEmpty && (decide (ch ∈ [3, 4]) && decide (l.dp < 10))) (jt_w (jw_and (x := !es.isEmpty) (y := decide (ch ∈ [3, 4]) && decide (l.dp < 10)) (jt_cast (jt_lst (je_var 2) rfl rfl) (congrArg not hemp)) (fun e => jw_and (jt_ini (xs := [3, 4]) (je_var 6) (je_ls (jd_cons je_int (jd_cons je_int jd_nil))) rfl rfl) (fun _ => jw_and1 (jt_lt (je_at (d' := .int l.dp) (je_at (d' := l.d) (je_var 2) (je_neg je_int) rfl rfl (hl1 (by rwa [Bool.not_eq_true'] at e))) je_int rfl rfl rfl) je_int)) (fun _ => rfl)) (fun _ => rfl))) (fun e => ?_) (fun e => ?_)
      · rw [Bool.and_eq_true, Bool.not_eq_true'] at e
        obtain ⟨xs, rfl⟩ := hl e.1
        have ho := heo l (by simp)
        have hxl : xs.length + 1 ≤ i := by rw [List.length_append] at hel; exact hel
        have hs2 : (xs ++ [l]).map En.d = (xs.map En.d) ++ [l.d] := by simp
        refine jss_appendQ (ds := xs.map En.d) (ds0 := (xs ++ [l]).map En.d) (je_var 2) (jeq_of (je_cl c2 (jd_cons (je_pop (ds := xs.map En.d) (d := l.d) (je_var 2) (by rw [hs2]; rfl)) (jd_cons (je_at (je_var 5) je_int rfl rfl a1) jd_nil)) ⟨l, _, by have := ho.2; omega, rfl, rfl⟩)) rfl rfl (small_line' (m := 63) (by rw [List.length_map]; omega)) ?_
        rintro d rfl
        refine jss_nil (jss_nil ⟨xs ++ [unE l n1], lg, _, _, _, _, _, _, _, by rw [List.length_append, List.length_singleton]; omega, fun _ => by simp, fun e he => ?_, rfl, by simp⟩)
        rcases List.mem_append.mp he with h | h
        · exact (heo e (List.mem_append_left _ h)).mono (by omega)
        · rw [List.mem_singleton] at h; subst h; exact (unE_ok n1 ho).mono (by omega)
      refine jss_if (z := decide (1 < (es.length : Int)) && (decide (4 < ch) && decide ((if x.dp > y.dp then x.dp else y.dp) < 11))) (jt_w (jw_and (x := decide (1 < (es.length : Int))) (y := decide (4 < ch) && decide ((if x.dp > y.dp then x.dp else y.dp) < 11)) (jt_gt (je_castI (je_len z.z_len (je_var 2) rfl rfl) (congrArg PyData.int hle)) je_int) (fun e => jw_and (jt_gt (je_var 6) je_int) (fun _ => jw_and1 (jt_lt (je_max2 z.z_max (je_at (d' := .int y.dp) (je_at (d' := y.d) (je_var 2) (je_neg je_int) rfl rfl (hy1 (by have := of_decide_eq_true e; omega))) je_int rfl rfl rfl) (je_at (d' := .int x.dp) (je_at (d' := x.d) (je_var 2) (je_neg je_int) rfl rfl (hx1 (by have := of_decide_eq_true e; omega))) je_int rfl rfl rfl)) je_int)) (fun _ => rfl)) (fun _ => rfl))) (fun e => ?_) (fun e => ?_)
      · rw [Bool.and_eq_true] at e
        obtain ⟨xs, rfl⟩ := hxy (by have := of_decide_eq_true e.1; omega)
        have hox := heo x (by simp)
        have hoy := heo y (by simp)
        have hxl : xs.length + 2 ≤ i := by rw [List.length_append] at hel; exact hel
        have hs1 : (xs ++ [x, y]).map En.d = ((xs ++ [x]).map En.d) ++ [y.d] := by simp
        have hs2 : (xs ++ [x]).map En.d = (xs.map En.d) ++ [x.d] := by simp
        refine jss_set 7 (je_pop (ds := (xs ++ [x]).map En.d) (d := y.d) (je_var 2) (by rw [hs1]; rfl)) ?_
        refine jss_appendQ (ds := xs.map En.d) (ds0 := (xs ++ [x]).map En.d) (je_var 2) (jeq_of (je_cl c3 (jd_cons (je_pop (ds := xs.map En.d) (d := x.d) (je_var 2) (by rw [hs2]; rfl)) (jd_cons (je_var 7) (jd_cons (je_at (je_var 5) je_int rfl rfl a1) jd_nil))) ⟨x, y, _, by have := hox.2; omega, by have := hoy.2; omega, rfl, rfl⟩)) rfl rfl (small_line' (m := 63) (by rw [List.length_map]; omega)) ?_
        rintro d rfl
        refine jss_nil (jss_nil (jss_nil ⟨xs ++ [binE x y n1], lg, _, _, _, _, _, _, _, by rw [List.length_append, List.length_singleton]; omega, fun _ => by simp, fun e he => ?_, rfl, by simp⟩))
        rcases List.mem_append.mp he with h | h
        · exact (heo e (List.mem_append_left _ h)).mono (by omega)
        · rw [List.mem_singleton] at h; subst h; exact (binE_ok n1 hox hoy).mono (by omega)
      · refine jss_append (je_var 2) (je_cl c4 (jd_cons (je_at (je_var 5) je_int rfl rfl a1) (jd_cons (je_var 1) (jd_cons (je_var 3) jd_nil))) ⟨n1, ns, lg, hns.1, rfl, rfl⟩) rfl (small_line' (m := 63) (by rw [List.length_map]; omega)) ?_
        refine jss_set 3 je_int (jss_nil (jss_nil (jss_nil ⟨es ++ [leafE n1 ns lg], 8, _, _, _, _, _, _, _, by rw [List.length_append, List.length_singleton]; omega, fun _ => by simp, fun e he => ?_, rfl, by simp⟩)))
        rcases List.mem_append.mp he with h | h
        · exact (heo e h).mono (by omega)
        · rw [List.mem_singleton] at h; subst h; exact (leafE_ok n1 lg hns).mono (by omega)
    · obtain ⟨es, lg, m4, m5, m6, m7, m8, m9, m10, hel, hen, heo, rfl, rfl⟩ := hI
      rw [List.length_map] at hel hen heo
      have hp8 : 2 ^ cs.length ≤ 8 := by
        have : cs.length = 1 ∨ cs.length = 2 ∨ cs.length = 3 := by omega
        rcases this with h | h | h <;> rw [h] <;> decide
      obtain ⟨e0, er, rfl⟩ : ∃ e0 er, es = e0 :: er := by
        cases es with
        | nil => have := hen hc0; simp at this
        | cons a r => exact ⟨a, r, rfl⟩
      have heo : ∀ e ∈ e0 :: er, okEn 70 e := fun e he => (heo e he).mono (by omega)
      have herl : er.length ≤ 2 := by rw [List.length_cons] at hel; omega
      refine jss_set 8 (je_at (d' := e0.d) (je_var 2) je_int rfl rfl (at_0 _ _)) ?_
      refine jss_for (ji_cast (ds' := er.map En.d) (ji_list (je_cut (je_var 2) (jo_some je_int) jo_none rfl)) (cutD_tail _ _)) (fun j E S => ∃ (e : En) (m7 m9 m10 : Option AV), okEn (100 * (j + 1)) e ∧ E = [some (.d (.list (cs.map PyData.int))), some (.d (.list (ns.map PyData.str))), some (.o 0), some (.d (.int lg)), m4, m5, m6, m7, some (.d e.d), m9, m10] ∧ S = [.ld ((e0 :: er).map En.d)])
        ⟨e0, _, _, _, (heo e0 (by simp)).mono (by omega), rfl, rfl⟩ (fun j d E S hd hI => ?_) (fun E S hI => ?_)
      · obtain ⟨e, m7, m9, m10, he, rfl, rfl⟩ := hI
        rw [List.getElem?_map] at hd
        have hj : j < er.length := by
          rcases Nat.lt_or_ge j er.length with h | h
          · exact h
          · rw [List.getElem?_eq_none h] at hd; cases hd
        obtain ⟨o, ho, rfl⟩ : ∃ o : En, o ∈ er ∧ d = o.d := by
          rw [List.getElem?_eq_getElem hj] at hd; exact ⟨_, List.getElem_mem hj, (Option.some.inj hd).symm⟩
        have hok := heo o (List.mem_cons_of_mem _ ho)
        have hw := wrapE_ok 1 false hok
        have l1 := he.2
        have l2 := hw.2
        refine ⟨[9], _, jg_name 9, jss_set 7 (je_cl c5 (jd_cons (je_var 9) (jd_cons je_int (jd_cons je_bl jd_nil))) ⟨o, 1, false, by have := hok.2; omega, rfl, rfl⟩) ?_⟩
        generalize wrapE o 1 false = w at hw l2
        refine jss_set 10 (je_cat (je_cat (je_at (je_var 8) je_int rfl rfl rfl) (je_ls (jd_cons (je_tp (jd_cons je_str (jd_cons je_str jd_nil))) jd_nil)) rfl rfl ?_) (je_at (je_var 7) je_int rfl rfl rfl) rfl rfl ?_) ?_
        · rw [sizeLine_eq]; simp; omega
        · rw [sizeLine_eq]; simp; omega
        refine jss_set 8 (je_tp (jd_cons (je_tp (jd_cons je_str (jd_cons (je_at (je_var 8) je_int rfl rfl rfl) (jd_cons (je_at (je_var 7) je_int rfl rfl rfl) jd_nil)))) (jd_cons (je_var 10) (jd_cons je_int (jd_cons (je_max2 z.z_max (je_at (je_var 8) je_int rfl rfl rfl) (je_at (je_var 7) je_int rfl rfl rfl)) jd_nil))))) ?_
        refine jss_nil ⟨⟨.tuple [.str "or", e.t, w.t], e.ks ++ tk1 "word" "or" ++ w.ks, 0, if w.dp > e.dp then w.dp else e.dp⟩, some (.d w.d), some (.d o.d), some (.d (.list (e.ks.map tkD ++ [.tuple [.str "word", .str "or"]] ++ w.ks.map tkD))), ⟨pl_app (pl_app he.1 (pl_tk (.inr (by decide)))) hw.1, ?_⟩, ?_, rfl⟩
        · show (e.ks ++ tk1 "word" "or" ++ w.ks).length ≤ _
          rw [List.length_append, List.length_append, show (tk1 "word" "or").length = 1 from rfl]
          omega
        · simp [En.d, tk1, tkD]
      · obtain ⟨e, m7, m9, m10, he, rfl, rfl⟩ := hI
        rw [List.length_map] at he
        exact jss_ret (je_var 8) ⟨_, ⟨e, he.mono (by omega), rfl⟩, rfl⟩
/-! ### eight names, each with its own last letter -/
def ltrs : Str := "abcdefghijklmnopqrstuvwxyz"
theorem ltrs_len : ltrs.length = 26 := by decide +kernel
def ltrC (x : Int) : Nat := (tl ltrs).getD (x % 26).toNat 0
theorem ltrC_ok (x : Int) : 97 ≤ ltrC x ∧ ltrC x ≤ 122 := by
  have : ∀ i : Nat, i < 26 → 97 ≤ (tl ltrs).getD i 0 ∧ (tl ltrs).getD i 0 ≤ 122 := by decide +kernel
  exact this _ (by omega)
def ends : Str := "bcfghjkq"
def endC (k : Nat) : Nat := (tl ends).getD k 0
theorem endC_mem (k : Nat) (h : k < 8) : endC k ∈ ([98, 99, 102, 103, 104, 106, 107, 113] : List Nat) := by
  have : ∀ k : Nat, k < 8 → endC k ∈ ([98, 99, 102, 103, 104, 106, 107, 113] : List Nat) := by decide +kernel
  exact this k h
def wd8 (g : Nat → List Nat) (k : Nat) : Str := stx (g k ++ [endC k])
def okG (m : Nat) (g : Nat → List Nat) : Prop := ∀ k, k < m → (∀ c ∈ g k, 97 ≤ c ∧ c ≤ 122) ∧ (g k).length ≤ 11
def Pre_w8 (ds : List PyData) : Prop := ∃ c : Int, ds = [.int c]
def Post_w8 (_ : List PyData) (r : PyData) : Prop := ∃ g : Nat → List Nat, okG 8 g ∧ r = .list (((List.range 8).map (wd8 g)).map PyData.str)
theorem stx_app (a b : List Nat) : stx a ++ stx b = stx (a ++ b) := ext_tl (by rw [tl_append, tl_mk, tl_mk, tl_mk])
theorem cal__law_words {b : Bs} {f : Addr} {fd : FuncData} (z : ZB b) (F : Fun b.K "_law_words" "_law_words" s__law_words f fd) (hm : b.mg "_law_words" = some (.ref f)) (c1 : Cal b "_law_draws" 1 R_draws) : CalQ b "_law_words" 2 Pre_w8 Post_w8 := by
  refine ⟨f, fd, p__law_words, fn_dataQ F sc__law_words (fun ds h => ?_) (fun cd A outer s H hr ds h => ?_), hm, F.kp, F.binds fun _ _ _ _ _ _ us hl => match us, hl with | [_], _ => rfl⟩
  · obtain ⟨_, rfl⟩ := h; rfl
  · obtain ⟨c, rfl⟩ := h
    have hlt : ∀ x : Int, atI ltrs.cps.toList (x % 26) = some (ltrC x) := fun x => at_str (mod_bd x 26 (by decide)).1 (by rw [ltrs_len]; exact (mod_bd x 26 (by decide)).2)
    refine jss_set 1 (je_str (x := ltrs)) (jss_set 2 (je_cl c1 (jd_cons (je_var 0) (jd_cons je_int (jd_cons je_int (jd_cons je_int jd_nil)))) ⟨c, 3, 1000, 80, by decide, by decide, by decide, rfl, rfl⟩) ?_)
    have hdl : (drawsM c 3 1000 80).2.length = 80 := drawsM_len _ _ _ _
    generalize (drawsM c 3 1000 80).2 = dr at hdl
    refine jss_set 3 (je_lo jd_nil) ?_
    refine jss_for (ji_range1 (ja_cons je_int ja_nil) z.z_range (by decide) (by decide)) (fun i E S => ∃ (g : Nat → List Nat) (m4 m5 m6 m7 : Option AV), okG i g ∧ E = [some (.d (.int c)), some (.d (.str ltrs)), some (.d (.list (dr.map PyData.int))), some (.o 0), m4, m5, m6, m7] ∧ S = [.ld (((List.range i).map (wd8 g)).map PyData.str)])
      ⟨fun _ => [], none, none, none, none, fun k hk => by omega, rfl, rfl⟩ (fun i d E S hd hI => ?_) (fun E S hI => ?_)
    · obtain ⟨g, m4, m5, m6, m7, hg, rfl, rfl⟩ := hI
      obtain ⟨hi, rfl⟩ := rngD_get hd
      have hi : i < 8 := by simpa using hi
      rw [Int.zero_add]
      have at10 : atI (dr.map PyData.int) (10 * (i : Int)) = some (.int (dr.getD (10 * i) 0)) := by
        have := at_ints (ns := dr) (k := 10 * i) (by omega)
        rw [show (10 * (i : Int)) = ((10 * i : Nat) : Int) by omega]; exact this
      generalize dr.getD (10 * i) 0 = n0 at at10
      have q8 := mod_bd n0 8 (by decide)
      obtain ⟨L, hL, eL⟩ : ∃ m : Nat, m ≤ 9 ∧ ([0, 1, 1, 2, 3, 4, 8, 9] : List Int).getD (n0 % 8).toNat 0 = (m : Int) := by
        have : n0 % 8 = 0 ∨ n0 % 8 = 1 ∨ n0 % 8 = 2 ∨ n0 % 8 = 3 ∨ n0 % 8 = 4 ∨ n0 % 8 = 5 ∨ n0 % 8 = 6 ∨ n0 % 8 = 7 := by omega
        rcases this with h | h | h | h | h | h | h | h <;> rw [h]
        · exact ⟨0, by decide, rfl⟩
        · exact ⟨1, by decide, rfl⟩
        · exact ⟨1, by decide, rfl⟩
        · exact ⟨2, by decide, rfl⟩
        · exact ⟨3, by decide, rfl⟩
        · exact ⟨4, by decide, rfl⟩
        · exact ⟨8, by decide, rfl⟩
        · exact ⟨9, by decide, rfl⟩
      refine ⟨[4], _, jg_name 4, ?_⟩
      refine jss_set 5 (je_castI (je_at (je_ls (jd_cons je_int (jd_cons je_int (jd_cons je_int (jd_cons je_int (jd_cons je_int (jd_cons je_int (jd_cons je_int (jd_cons je_int jd_nil))))))))) (je_mod (je_int1 z.z_int (je_at (je_var 2) (je_mul je_int (je_var 4)) rfl rfl at10)) je_int) rfl rfl (at_intsI (ns := [0, 1, 1, 2, 3, 4, 8, 9]) q8.1 q8.2)) (congrArg PyData.int eL)) ?_
      let cut : List Int := cutL dr (some (10 * (i : Int) + 1)) (some (10 * (i : Int) + 1 + (L : Int)))
      have hcut : cut.length ≤ L := by
        show (cutL dr (some (10 * (i : Int) + 1)) (some (10 * (i : Int) + 1 + (L : Int)))).length ≤ L
        unfold AL.cutL
        rw [show (10 * (i : Int) + 1) = ((10 * i + 1 : Nat) : Int) by omega, show (((10 * i + 1 : Nat) : Int) + (L : Int)) = ((10 * i + 1 + L : Nat) : Int) by omega, HT.sIx_nat, HT.sIx_nat, List.length_take]
        omega
      refine jss_set 6 (je_join je_str (je_lcm [("_law_number", 7)] cut PyData.int (fun x => .str (sg (ltrC x)))
        (ji_cast (ji_list (je_cut (je_var 2) (jo_some (je_add (je_mul je_int (je_var 4)) je_int)) (jo_some (je_add (je_add (je_mul je_int (je_var 4)) je_int) (je_var 5))) rfl)) (cutD_map dr PyData.int _ _))
        (fun x hx => ⟨[7], _, by simp, jg_name 7, fun T => je_ats (je_var 1) (je_mod (je_int1 z.z_int (je_var 7)) je_int) (by decide +kernel) (hlt x)⟩) (small_line (m := 12) (by omega))) rfl (ys := cut.map fun x => sg (ltrC x)) (by simp [itemsD]) ?_) ?_
      · rw [AL.sum_ones _ _ (fun _ => rfl), show (Str.length (Str.ofString "")) = 0 from rfl]
        omega
      rw [join_signs]
      have hnew : (∀ c ∈ cut.map ltrC, 97 ≤ c ∧ c ≤ 122) ∧ (cut.map ltrC).length ≤ 11 := ⟨fun c hc => by obtain ⟨x, _, rfl⟩ := List.mem_map.mp hc; exact ltrC_ok x, by rw [List.length_map]; omega⟩
      generalize cut.map ltrC = nw at hnew
      -- the name before
      have hemp : (((List.range i).map (wd8 g)).map PyData.str).isEmpty = decide (i = 0) := by
        cases i with
        | zero => rfl
        | succ n => simp
      obtain ⟨la, hla, hlo⟩ : ∃ la : List Nat, (i ≠ 0 → atI (((List.range i).map (wd8 g)).map PyData.str) (-1) = some (.str (stx la))) ∧ (∀ c ∈ la, 97 ≤ c ∧ c ≤ 122) ∧ la.length ≤ 12 := by
        cases i with
        | zero => exact ⟨[], fun h => absurd rfl h, ⟨fun c hc => absurd hc List.not_mem_nil, Nat.zero_le _⟩⟩
        | succ n =>
          obtain ⟨h1, h2⟩ := hg n (Nat.lt_succ_self n)
          refine ⟨g n ++ [endC n], fun _ => ?_, ⟨fun c hc => ?_, by rw [List.length_append, List.length_singleton]; omega⟩⟩
          · rw [List.range_succ, List.map_append, List.map_append]; exact atI_last _ _
          · rcases List.mem_append.mp hc with h | h
            · exact h1 c h
            · rw [List.mem_singleton] at h
              subst h
              have := endC_mem n (by omega)
              simp only [List.mem_cons, List.not_mem_nil, or_false] at this
              omega
      refine jss_ifM (fun E S => ∃ nw : List Nat, ((∀ c ∈ nw, 97 ≤ c ∧ c ≤ 122) ∧ nw.length ≤ 11) ∧ E = [some (.d (.int c)), some (.d (.str ltrs)), some (.d (.list (dr.map PyData.int))), some (.o 0), some (.d (.int (i : Int))), some (.d (.int (L : Int))), some (.d (.str (stx nw))), m7] ∧ S = [.ld (((List.range i).map (wd8 g)).map PyData.str)]) (z := !decide (i = 0) && (decide (n0 / 8 % 3 = 1) && decide (((stx la).length : Int) < 11)))
        (jt_w (jw_and (x := !decide (i = 0)) (y := decide (n0 / 8 % 3 = 1) && decide (((stx la).length : Int) < 11)) (jt_cast (jt_lst (je_var 3) rfl rfl) (congrArg not hemp)) (fun e => jw_and (jt_eqi (je_mod (je_int1 z.z_int (je_fdiv (je_at (je_var 2) (je_mul je_int (je_var 4)) rfl rfl at10) je_int)) je_int) je_int) (fun _ => jw_and1 (jt_lt (je_lens z.z_len (je_at (je_var 3) (je_neg je_int) rfl rfl (hla (by simpa using e))) (small_line (m := 12) (by rw [len_stx]; exact hlo.2))) je_int)) (fun _ => rfl)) (fun _ => rfl))) (fun e => ?_) (fun e => jss_nil ⟨nw, hnew, rfl, rfl⟩) ?_
      · rw [Bool.and_eq_true, Bool.and_eq_true] at e
        have e1 : i ≠ 0 := by simpa using e.1
        have e2 := of_decide_eq_true e.2.2
        rw [len_stx] at e2
        exact jss_set 6 (je_at (je_var 3) (je_neg je_int) rfl rfl (hla e1)) (jss_nil ⟨la, ⟨hlo.1, by omega⟩, rfl, rfl⟩)
      rintro E S ⟨nw, hnw, rfl, rfl⟩
      have hnl := len_stx nw
      have hec : atI ends.cps.toList (i : Int) = some (endC i) := by
        have := at_str (z := ends) (k := (i : Int)) (by omega) (by rw [show ends.length = 8 by decide +kernel]; omega)
        exact this
      refine jss_append (d := .str (stx nw ++ sg (endC i))) (je_var 3) (je_adds (je_var 6) (je_ats (je_str (x := ends)) (je_var 4) (by decide +kernel) hec) (by rw [hnl, show Str.length (sg (endC i)) = 1 from rfl, sizeLine_eq]; omega)) rfl (small_line' (m := 63) (by rw [List.length_map, List.length_map, List.length_range]; omega)) (jss_nil ⟨fun k => if k = i then nw else g k, _, _, _, _, fun k hk => ?_, rfl, ?_⟩)
      · by_cases e : k = i
        · simp only [if_pos e]; exact hnw
        · simp only [if_neg e]; exact hg k (by omega)
      · show [MO.ld _] = [MO.ld _]
        congr 2
        rw [List.range_succ, List.map_append, List.map_append]
        congr 1
        · congr 1
          refine List.map_congr_left fun k hk => ?_
          have : k ≠ i := by have := List.mem_range.mp hk; omega
          unfold wd8
          simp only [if_neg this]
        · show [PyData.str _] = [PyData.str _]
          congr 2
          unfold wd8
          simp only [if_pos]
          exact stx_app _ _
    · obtain ⟨g, m4, m5, m6, m7, hg, rfl, rfl⟩ := hI
      refine jss_retf (je_var 3) rfl ⟨_, ⟨g, fun k hk => hg k (by simpa [rngD_len] using hk), ?_⟩, rfl⟩
      rw [rngD_len]; rfl
/-! ### stages -/
def nmM (ns : List Str) (x : Int) : Str := ns.getD (x % ns.length).toNat Str.empty
theorem nmM_mem {ns : List Str} (h : okNs ns) (x : Int) : nmM ns x ∈ ns := AL.getD_mem (by have h0 := h.1; have := mod_bd x ns.length (by omega); omega)
theorem pl_nm {ns : List Str} (h : okNs ns) (x : Int) : pl [(("word" : Str), nmM ns x)] := pl_one (.inr ⟨(h.2 _ (nmM_mem h x)).1, (h.2 _ (nmM_mem h x)).2.1⟩) ⟨all_word, (h.2 _ (nmM_mem h x)).2.2.2.2⟩
def lnM (ns : List Str) (nums : List Int) (m : Nat) : List Str := (List.range m).map fun k => nmM ns (nums.getD k 0)
def lnF (n : Str) : List (Str × Str) := [(("sign" : Str), ("," : Str)), (("word" : Str), n)]
def lnK (cn : List Str) : List (Str × Str) := (cn.flatMap lnF).drop 1
theorem lnF_len (cn : List Str) : (cn.flatMap lnF).length = 2 * cn.length := by
  induction cn with
  | nil => rfl
  | cons a r ih => rw [List.flatMap_cons, List.length_append, ih, List.length_cons]; show 2 + _ = _; omega
theorem lnM_mem {ns : List Str} (h : okNs ns) (nums : List Int) (m : Nat) : ∀ n ∈ lnM ns nums m, n ∈ ns := fun n hn => by
  obtain ⟨k, _, rfl⟩ := List.mem_map.mp hn
  exact nmM_mem h _
theorem lnM_len (ns : List Str) (nums : List Int) (m : Nat) : (lnM ns nums m).length = m := by rw [lnM, List.length_map, List.length_range]
theorem pl_lnF {ns : List Str} (h : okNs ns) {n : Str} (hn : n ∈ ns) : pl (lnF n) := by
  have := h.2 n hn
  exact pl_app (a := [_]) (b := [_]) (pl_one (.inl (show ("sign" : Str) ≠ "word" by decide))) (pl_one (.inr ⟨this.1, this.2.1⟩) ⟨all_word, this.2.2.2.2⟩)
theorem pl_lnK {ns : List Str} (h : okNs ns) {cn : List Str} (hc : ∀ n ∈ cn, n ∈ ns) : pl (lnK cn) := fun k hk => by
  obtain ⟨n, hn, hk⟩ := List.mem_flatMap.mp (List.mem_of_mem_drop hk)
  exact pl_lnF h (hc n hn) k hk
theorem lnK_len (cn : List Str) : (lnK cn).length ≤ 2 * cn.length := by
  rw [lnK, List.length_drop, lnF_len]; omega
def R_ln (ds : List PyData) (r : PyData) : Prop := ∃ (ns : List Str) (nums : List Int) (m : Nat), okNs ns ∧ m ≤ nums.length ∧ m ≤ 1000 ∧ ds = [.list (ns.map PyData.str), .list (nums.map PyData.int), .int m] ∧ r = .tuple [.list ((lnM ns nums m).map PyData.str), .list ((lnK (lnM ns nums m)).map tkD)]
theorem je_nm {C : Fam} {E : AE} {S : Sto} {a a2 b : Expr} {ns : List Str} {x : Int} {av : AV} {pos p2 p3 p4 p5 p6 : Pos} (hz : C.b.mg "int" = none) (hl : C.b.mg "len" = none) (hns : okNs ns) (ha : JE C E S a av S) (hr : rdA S av = some (.list (ns.map PyData.str))) (ha2 : JE C E S a2 av S) (hb : JE C E S b (.d (.int x)) S)
    (hg : C.sc.names.lookup ("int" : Str) = some .globalImplicit := by rfl) (hg2 : C.sc.names.lookup ("len" : Str) = some .globalImplicit := by rfl)
    (hs1 : ∀ i : C.ι, starEach [b] (C.V i).env = (false, eval b (C.V i).env) :: starEach [] (C.V i).env := by intro _; rfl)
    (hs2 : ∀ i : C.ι, starEach [a2] (C.V i).env = (false, eval a2 (C.V i).env) :: starEach [] (C.V i).env := by intro _; rfl) :
    JE C E S (.Subscript a (.BinOp (.Call (.Name "int" p2) [b] [] p3) .Mod (.Call (.Name "len" p4) [a2] [] p5) p6) pos) (.d (.str (nmM ns x))) S := by
  have h0 : (0 : Int) < (ns.map PyData.str).length := by rw [List.length_map]; have := hns.1; omega
  have qn := mod_bd x ns.length (by have := hns.1; omega)
  exact je_at ha (je_castI (je_mod (je_int1 hz hb hg hs1 (by intro _; rfl)) (je_len hl ha2 hr rfl hg2 hs2 (by intro _; rfl)) h0) (d' := .int (x % ns.length)) (by rw [List.length_map])) hr rfl (at_strsI qn.1 qn.2)
theorem tkD_map_app (a b : List (Str × Str)) : (a ++ b).map tkD = a.map tkD ++ b.map tkD := List.map_append
theorem cal__law_listed_names {b : Bs} {f : Addr} {fd : FuncData} (z : ZB b) (F : Fun b.K "_law_listed_names" "_law_listed_names" s__law_listed_names f fd) (hm : b.mg "_law_listed_names" = some (.ref f)) : Cal b "_law_listed_names" 1 R_ln := by
  refine ⟨f, fd, p__law_listed_names, fn_data F sc__law_listed_names (fun ds r h => ?_) (fun cd A outer s H hr ds r h => ?_), hm, F.kp, F.binds fun _ _ _ _ _ _ us hl => match us, hl with | [_, _, _], _ => rfl⟩
  · obtain ⟨_, _, _, _, _, _, rfl, _⟩ := h; rfl
  · obtain ⟨ns, nums, m, hns, hm1, hm2, rfl, rfl⟩ := h
    refine jss_lcm 3 [("_law_k", 4)] (List.range (m : Int).toNat) (fun i => .int (0 + (i : Int))) (fun i => .str (nmM ns (nums.getD i 0))) (ji_range1 (ja_cons (je_var 2) ja_nil) z.z_range (by omega) (by omega))
      (fun k hk => ⟨[4], _, by simp, jg_name 4, fun T => by exact je_nm z.z_int z.z_len hns (je_var 0) rfl (je_var 0) (je_at (je_var 1) (je_var 4) rfl rfl (by rw [Int.zero_add]; exact at_ints (by have := List.mem_range.mp hk; omega)))⟩) (small_line (m := 1000) (by rw [List.length_range]; omega)) ?_
    rw [show ((List.range (m : Int).toNat).map fun i => PyData.str (nmM ns (nums.getD i 0))) = (lnM ns nums m).map PyData.str by rw [lnM, List.map_map, Int.toNat_natCast]; rfl]
    have hl := lnM_len ns nums m
    generalize lnM ns nums m = cn at hl
    refine jss_set 5 (je_ls jd_nil) ?_
    refine jss_for (ji_list (je_var 3)) (fun i E S => ∃ (m4 m6 : Option AV), E = [some (.d (.list (ns.map PyData.str))), some (.d (.list (nums.map PyData.int))), some (.d (.int m)), some (.d (.list (cn.map PyData.str))), m4, some (.d (.list (((cn.take i).flatMap lnF).map tkD))), m6] ∧ S = []) ⟨none, none, rfl, rfl⟩ (fun i d E S hd hI => ?_) (fun E S hI => ?_)
    · obtain ⟨m4, m6, rfl, rfl⟩ := hI
      rw [List.getElem?_map] at hd
      have hi : i < cn.length := by
        rcases Nat.lt_or_ge i cn.length with h | h
        · exact h
        · rw [List.getElem?_eq_none h] at hd; cases hd
      rw [List.getElem?_eq_getElem hi] at hd
      cases hd
      have ht : (cn.take (i + 1)).flatMap lnF = (cn.take i).flatMap lnF ++ lnF cn[i] := by
        rw [List.take_succ, List.getElem?_eq_getElem hi, List.flatMap_append]; simp
      have hlt : ((cn.take i).flatMap lnF).length ≤ 2 * cn.length := by rw [lnF_len, List.length_take]; omega
      refine ⟨[6], _, jg_name 6, jss_set 5 (je_castI (je_cat (je_var 5) (je_ls (jd_cons (je_tp (jd_cons je_str (jd_cons je_str jd_nil))) (jd_cons (je_tp (jd_cons je_str (jd_cons (je_var 6) jd_nil))) jd_nil))) rfl rfl ?_) (d' := .list (((cn.take (i + 1)).flatMap lnF).map tkD)) (by rw [ht, tkD_map_app]; rfl)) (jss_nil ⟨_, _, rfl, rfl⟩)⟩
      rw [sizeLine_eq, List.length_map]; show _ + 2 ≤ _; omega
    · obtain ⟨m4, m6, rfl, rfl⟩ := hI
      rw [List.length_map, List.take_length]
      refine jss_ret (je_tp (jd_cons (je_var 3) (jd_cons (je_cut (je_var 5) (jo_some je_int) jo_none rfl) jd_nil))) ?_
      rw [show (cutD ((cn.flatMap lnF).map tkD) (some 1) none) = (lnK cn).map tkD by
        unfold AL.cutD
        rw [show (some (1 : Int)) = some ((1 : Nat) : Int) from rfl, HT.sIx_nat, HT.sIx_none, lnK, List.map_drop, List.length_map]
        cases h : cn.flatMap lnF with
        | nil => rfl
        | cons a r =>
          have : min 1 (a :: r).length = 1 := by rw [List.length_cons]; omega
          rw [this, List.map_cons, List.drop_succ_cons, List.drop_zero, List.take_of_length_le (by simp)]]
structure Qu where
  t : PyData
  ks : List (Str × Str)
  dp : Int
def Qu.d (q : Qu) : PyData := .tuple [q.t, .list (q.ks.map tkD), .int q.dp]
def Pre_st (ds : List PyData) : Prop := ∃ (nums : List Int) (ns : List Str), nums.length = 6 ∧ okNs ns ∧ ds = [.list (nums.map PyData.int), .list (ns.map PyData.str)]
def Post_keep (_ : List PyData) (r : PyData) : Prop := ∃ (it : List PyData) (ks : List (Str × Str)) (dp : Int), pl ks ∧ ks.length ≤ 1100 ∧ r = .tuple [.tuple it, .list (ks.map tkD), .int dp]
def Post_group (_ : List PyData) (r : PyData) : Prop := ∃ (c1 c2 : List PyData) (ks : List (Str × Str)), pl ks ∧ ks.length ≤ 1100 ∧ r = .tuple [.tuple c1, .tuple c2, .list (ks.map tkD)]
def Post_order (_ : List PyData) (r : PyData) : Prop := ∃ (c1 : List PyData) (ks : List (Str × Str)), pl ks ∧ ks.length ≤ 1100 ∧ r = .tuple [.tuple c1, .list (ks.map tkD)]
theorem cutD_take (xs : List PyData) (k : Nat) (h : k ≤ xs.length) : cutD xs none (some (k : Int)) = xs.take k := by
  unfold AL.cutD
  rw [HT.sIx_nat, HT.sIx_none, Nat.min_eq_left h]; simp
theorem cutD_drop (xs : List PyData) (k : Nat) (h : k ≤ xs.length) : cutD xs (some (k : Int)) none = xs.drop k := by
  unfold AL.cutD
  rw [HT.sIx_nat, HT.sIx_none, Nat.min_eq_left h, List.take_of_length_le (by simp)]
theorem cut_i3 (nums : List Int) (h : 3 ≤ nums.length) : cutD (nums.map PyData.int) none (some 3) = (nums.take 3).map PyData.int := by
  rw [show (some (3 : Int)) = some ((3 : Nat) : Int) from rfl, cutD_take _ 3 (by rw [List.length_map]; omega), List.map_take]
theorem cut_d4 (nums : List Int) (h : 4 ≤ nums.length) : cutD (nums.map PyData.int) (some 4) none = (nums.drop 4).map PyData.int := by
  rw [show (some (4 : Int)) = some ((4 : Nat) : Int) from rfl, cutD_drop _ 4 (by rw [List.length_map]; omega), List.map_drop]
theorem cut_d1 (nums : List Int) (h : 1 ≤ nums.length) : cutD (nums.map PyData.int) (some 1) none = (nums.drop 1).map PyData.int := by
  rw [show (some (1 : Int)) = some ((1 : Nat) : Int) from rfl, cutD_drop _ 1 (by rw [List.length_map]; omega), List.map_drop]
theorem tk_strs (l : List (Str × Str)) : ∀ {n : Nat}, l.length ≤ n → n ≤ 1000000 → (l.map tkD).length ≤ n := fun h _ => by rw [List.length_map]; exact h
theorem tk_app {a b : List (Str × Str)} {c : List PyData} (h : b.map tkD = c) : a.map tkD ++ c = (a ++ b).map tkD := by rw [List.map_append, h]
theorem okR {s : Str} (h : s.cps.all (· < 0x110000) = true) : PyData.canLay0 (.str s) = true := h
theorem shaped_tks {ks : List (Str × Str)} (h : ∀ k ∈ ks, k.1.cps.all (· < 0x110000) = true ∧ k.2.cps.all (· < 0x110000) = true) : SeqAt.shaped (.list (ks.map tkD)) = true := by
  have h1 : ∀ l : List (Str × Str), (∀ k ∈ l, k.1.cps.all (· < 0x110000) = true ∧ k.2.cps.all (· < 0x110000) = true) → PyData.canLayAll0 (l.map tkD) = true ∧ PyData.depthAll (l.map tkD) ≤ 1 := by
    intro l
    induction l with
    | nil => exact fun _ => ⟨rfl, Nat.zero_le _⟩
    | cons a r ih =>
      intro h
      obtain ⟨i1, i2⟩ := ih fun c hc => h c (List.mem_cons_of_mem _ hc)
      obtain ⟨ha, hb⟩ := h a List.mem_cons_self
      refine ⟨?_, ?_⟩
      · show ((PyData.canLay0 (.str a.1) && (PyData.canLay0 (.str a.2) && true)) && PyData.canLayAll0 (r.map tkD)) = true
        rw [i1, okR ha, okR hb]; rfl
      · show max 1 (PyData.depthAll (r.map tkD)) ≤ 1
        omega
  obtain ⟨a, b⟩ := h1 ks h
  show (PyData.canLayAll0 _ && decide (PyData.depthAll _ + 1 ≤ 64)) = true
  rw [a, Bool.true_and]
  exact decide_eq_true (by omega)
theorem shaped_lnK {ns : List Str} (h : okNs ns) {cn : List Str} (hc : ∀ n ∈ cn, n ∈ ns) : SeqAt.shaped (.list ((lnK cn).map tkD)) = true := shaped_tks fun k hk => by
  obtain ⟨n, hn, hk⟩ := List.mem_flatMap.mp (List.mem_of_mem_drop hk)
  have := (h.2 n (hc n hn)).2.2.2.2
  rcases List.mem_cons.mp hk with rfl | hk
  · exact ⟨show ("sign" : Str).cps.all _ = true by decide +kernel, show ("," : Str).cps.all _ = true by decide +kernel⟩
  · rw [List.mem_singleton] at hk
    subst hk
    exact ⟨show ("word" : Str).cps.all _ = true by decide +kernel, this⟩
def asK (n : Str) : List (Str × Str) := [(("word" : Str), ("as" : Str)), (("word" : Str), n)]
theorem pl_asK {ns : List Str} (h : okNs ns) (x : Int) : pl (asK (nmM ns x)) := pl_app (a := [_]) (b := [_]) (pl_one (.inr (by decide))) (pl_nm h x)
def kC : List (Str × Str) := [(("sign" : Str), ("," : Str))]
theorem pl_kC : pl kC := pl_one (.inl (by decide))
theorem cal__law_keep_stage {b : Bs} {f : Addr} {fd : FuncData} (z : ZB b) (F : Fun b.K "_law_keep_stage" "_law_keep_stage" s__law_keep_stage f fd) (hm : b.mg "_law_keep_stage" = some (.ref f)) (c1 : CalQ b "_law_expression" 4 Pre_expr Post_expr) (c2 : Cal b "_law_listed_names" 1 R_ln) : CalQ b "_law_keep_stage" 5 Pre_st Post_keep := by
  refine ⟨f, fd, p__law_keep_stage, fn_dataQ F sc__law_keep_stage (fun ds h => ?_) (fun cd A outer s H hr ds h => ?_), hm, F.kp, F.binds fun _ _ _ _ _ _ us hl => match us, hl with | [_, _], _ => rfl⟩
  · obtain ⟨_, _, _, _, rfl⟩ := h; rfl
  · obtain ⟨nums, ns, hl, hns, rfl⟩ := h
    have a3 : atI (nums.map PyData.int) 3 = some (.int (nums.getD 3 0)) := at_ints (k := 3) (by omega)
    have hd4 : (nums.drop 4).length = 2 := by rw [List.length_drop]; omega
    have ht3 : (nums.take 3).length = 3 := by rw [List.length_take]; omega
    have e3 := cut_i3 nums (by omega)
    have e4 := cut_d4 nums (by omega)
    generalize nums.getD 3 0 = n3 at a3
    generalize nums.take 3 = nt at ht3 e3
    generalize nums.drop 4 = nd at hd4 e4
    obtain ⟨m, hm2, em⟩ : ∃ m : Nat, m ≤ 2 ∧ n3 / 100 % 3 = (m : Int) := ⟨(n3 / 100 % 3).toNat, by omega, by omega⟩
    refine jss_setQ 2 (jeq_cl c1 (jd_cons (je_castI (je_cut (je_var 0) jo_none (jo_some je_int) rfl) (congrArg PyData.list e3)) (jd_cons (je_var 1) jd_nil)) ⟨nt, ns, by omega, by omega, hns, rfl⟩) ?_
    rintro r ⟨e, he, rfl⟩
    have hel := he.2
    have hcm := lnM_mem hns nd m
    have hcl := lnM_len ns nd m
    have hR : R_ln [.list (ns.map PyData.str), .list (nd.map PyData.int), .int m] (.tuple [.list ((lnM ns nd m).map PyData.str), .list ((lnK (lnM ns nd m)).map tkD)]) := ⟨ns, nd, m, hns, by omega, by omega, rfl, rfl⟩
    generalize lnM ns nd m = cn at hcm hcl hR
    have hkl := lnK_len cn
    have hpk := pl_lnK hns hcm
    have hpa := pl_asK hns n3
    have ha2 : (asK (nmM ns n3)).length = 2 := rfl
    have hkc : kC.length = 1 := rfl
    refine jss_set 3 (je_nm z.z_int z.z_len hns (je_var 1) rfl (je_var 1) (je_at (je_var 0) je_int rfl rfl a3)) ?_
    generalize nmM ns n3 = nm at hpa ha2
    refine jss_set 4 (je_ls (jd_cons (je_tp (jd_cons (je_at (d' := e.t) (je_var 2) je_int rfl rfl rfl) (jd_cons (je_var 3) jd_nil))) jd_nil)) ?_
    refine jss_set 5 (je_castI (je_cat (je_at (d' := .list (e.ks.map tkD)) (je_var 2) je_int rfl rfl rfl) (je_ls (jd_cons (je_tp (jd_cons je_str (jd_cons je_str jd_nil))) (jd_cons (je_tp (jd_cons je_str (jd_cons (je_var 3) jd_nil))) jd_nil))) rfl rfl ?_) (congrArg PyData.list (tk_app (b := asK nm) rfl))) ?_
    · rw [sizeLine_eq, List.length_map]; simp; omega
    refine jss_asg (je_cl c2 (jd_cons (je_var 1) (jd_cons (je_castI (je_cut (je_var 0) (jo_some je_int) jo_none rfl) (congrArg PyData.list e4)) (jd_cons (je_castI (je_mod (je_int1 z.z_int (je_fdiv (je_at (je_var 0) je_int rfl rfl a3) je_int)) je_int) (congrArg PyData.int em)) jd_nil))) hR) (jg_tup (jgs_cons (jg_name 6) (jgs_cons (jg_name 7) jgs_nil))) ?_
    refine jss_set 4 (je_cat (je_var 4) (je_lcm [("_law_other", 8)] cn PyData.str (fun n => .tuple [.tuple [.str "column", .str n], .str n]) (ji_list (je_var 6)) (fun n hn => ⟨[8], _, by simp, jg_name 8, fun T => je_tp (jd_cons (je_tp (jd_cons je_str (jd_cons (je_var 8) jd_nil))) (jd_cons (je_var 8) jd_nil))⟩) (small_line (m := 12) (by omega))) rfl rfl ?_) ?_
    · rw [sizeLine_eq, List.length_map]; simp; omega
    generalize (cn.map fun n => PyData.tuple [.tuple [.str "column", .str n], .str n]) = its
    have hemp : PyData.eqv (.list ((lnK cn).map tkD)) (.list []) = decide (lnK cn = []) := by
      cases lnK cn with
      | nil => rfl
      | cons a r => rfl
    refine jss_ifM (fun E S => ∃ ks : List (Str × Str), pl ks ∧ ks.length ≤ 1020 ∧ E = [some (.d (.list (nums.map PyData.int))), some (.d (.list (ns.map PyData.str))), some (.d e.d), some (.d (.str nm)), some (.d (.list ([.tuple [e.t, .str nm]] ++ its))), some (.d (.list (ks.map tkD))), some (.d (.list (cn.map PyData.str))), some (.d (.list ((lnK cn).map tkD))), none] ∧ S = []) (jt_neD (je_var 7) (je_ls jd_nil) rfl rfl (shaped_lnK hns hcm) rfl) (fun _ => ?_) (fun _ => jss_nil ⟨e.ks ++ asK nm, pl_app he.1 hpa, by rw [List.length_append]; omega, rfl, rfl⟩) ?_
    · refine jss_set 5 (je_castI (je_cat (je_castI (je_cat (je_var 5) (je_ls (jd_cons (je_tp (jd_cons je_str (jd_cons je_str jd_nil))) jd_nil)) rfl rfl ?_) (congrArg PyData.list (tk_app (b := kC) rfl))) (je_var 7) rfl rfl ?_) (congrArg PyData.list (tk_app (b := lnK cn) rfl))) (jss_nil ⟨_, pl_app (pl_app (pl_app he.1 hpa) pl_kC) hpk, ?_, rfl, rfl⟩)
      · rw [sizeLine_eq, List.length_map, List.length_append]; simp; omega
      · rw [sizeLine_eq, List.length_map, List.length_map, List.length_append, List.length_append]; omega
      · rw [List.length_append, List.length_append, List.length_append]; omega
    rintro E S ⟨ks, hpks, hksl, rfl, rfl⟩
    refine jss_ifM (fun E S => ∃ (ks : List (Str × Str)) (it : List PyData) (m6 m7 m8 : Option AV), pl ks ∧ ks.length ≤ 1100 ∧ E = [some (.d (.list (nums.map PyData.int))), some (.d (.list (ns.map PyData.str))), some (.d e.d), some (.d (.str nm)), some (.d (.list it)), some (.d (.list (ks.map tkD))), m6, m7, m8] ∧ S = []) (jt_eqi (je_mod (je_int1 z.z_int (je_fdiv (je_at (je_var 0) je_int rfl rfl a3) je_int)) je_int) je_int) (fun _ => ?_) (fun _ => jss_nil ⟨ks, _, _, _, _, hpks, by omega, rfl, rfl⟩) ?_
    · refine jss_set 4 (je_revL (je_var 4) rfl) ?_
      refine jss_asg (je_cl c2 (jd_cons (je_var 1) (jd_cons (je_castI (je_cut (je_var 0) (jo_some je_int) jo_none rfl) (congrArg PyData.list e4)) (jd_cons (je_castI (je_mod (je_int1 z.z_int (je_fdiv (je_at (je_var 0) je_int rfl rfl a3) je_int)) je_int) (congrArg PyData.int em)) jd_nil))) hR) (jg_tup (jgs_cons (jg_name 6) (jgs_cons (jg_name 7) jgs_nil))) ?_
      refine jss_set 5 (je_castI (je_cat (je_at (d' := .list (e.ks.map tkD)) (je_var 2) je_int rfl rfl rfl) (je_ls (jd_cons (je_tp (jd_cons je_str (jd_cons je_str jd_nil))) (jd_cons (je_tp (jd_cons je_str (jd_cons (je_var 3) jd_nil))) jd_nil))) rfl rfl ?_) (congrArg PyData.list (tk_app (b := asK nm) rfl))) ?_
      · rw [sizeLine_eq, List.length_map]; simp; omega
      refine jss_for (ji_list (je_var 6)) (fun i E S => ∃ (ks : List (Str × Str)) (m8 : Option AV), pl ks ∧ ks.length ≤ 1002 + 2 * i ∧ E = [some (.d (.list (nums.map PyData.int))), some (.d (.list (ns.map PyData.str))), some (.d e.d), some (.d (.str nm)), some (.d (.list ([PyData.tuple [e.t, PyData.str nm]] ++ its).reverse)), some (.d (.list (ks.map tkD))), some (.d (.list (cn.map PyData.str))), some (.d (.list ((lnK cn).map tkD))), m8] ∧ S = []) ⟨e.ks ++ asK nm, _, pl_app he.1 hpa, by rw [List.length_append]; omega, rfl, rfl⟩ (fun i d E S hd hI => ?_) (fun E S hI => ?_)
      · obtain ⟨ks, m8, hp, hkl2, rfl, rfl⟩ := hI
        rw [List.getElem?_map] at hd
        have hi : i < cn.length := by
          rcases Nat.lt_or_ge i cn.length with h | h
          · exact h
          · rw [List.getElem?_eq_none h] at hd; cases hd
        obtain ⟨n, hn, rfl⟩ : ∃ n : Str, n ∈ cn ∧ d = .str n := by
          rw [List.getElem?_eq_getElem hi] at hd; exact ⟨_, List.getElem_mem hi, (Option.some.inj hd).symm⟩
        have q := hns.2 n (hcm n hn)
        have hpn : pl [(("word" : Str), n), (("sign" : Str), ("," : Str))] := pl_app (a := [_]) (b := [_]) (pl_one (.inr ⟨q.1, q.2.1⟩) ⟨all_word, q.2.2.2.2⟩) pl_kC
        refine ⟨[8], _, jg_name 8, jss_set 5 (je_castI (je_cat (je_ls (jd_cons (je_tp (jd_cons (je_str) (jd_cons (je_var 8) jd_nil))) (jd_cons (je_tp (jd_cons je_str (jd_cons je_str jd_nil))) jd_nil))) (je_var 5) rfl rfl ?_) (d' := .list (([(("word" : Str), n), (("sign" : Str), ("," : Str))] ++ ks).map tkD)) (by rw [tkD_map_app]; rfl)) (jss_nil ⟨_, _, pl_app hpn hp, ?_, rfl, rfl⟩)⟩
        · rw [sizeLine_eq, List.length_map]; simp; omega
        · rw [List.length_append]; simp; omega
      · obtain ⟨ks, m8, hp, hkl2, rfl, rfl⟩ := hI
        rw [List.length_map] at hkl2
        exact jss_nil ⟨ks, _, _, _, _, hp, by omega, rfl, rfl⟩
    rintro E S ⟨ks, it, m6, m7, m8, hp, hl2, rfl, rfl⟩
    exact jss_ret (je_tp (jd_cons (je_tuple z.z_tuple (je_var 4) rfl rfl) (jd_cons (je_var 5) (jd_cons (je_at (d' := .int e.dp) (je_var 2) je_int rfl rfl rfl) jd_nil)))) ⟨_, ⟨it, ks, e.dp, hp, hl2, rfl⟩, rfl⟩
theorem pl_w {a : Str} (h : a ≠ "join" ∧ a ≠ "union") (hc : okTk (("word" : Str), a) := by decide +kernel) : pl [(("word" : Str), a)] := pl_one (.inr h) hc
def gW : List Str := ["count", "sum", "least", "greatest"]
theorem gW_ok (x : Int) : (gW.getD (x % 4).toNat Str.empty ≠ "join" ∧ gW.getD (x % 4).toNat Str.empty ≠ "union") ∧ (gW.getD (x % 4).toNat Str.empty).cps.all (· < 0x110000) = true := by
  have h : x % 4 = 0 ∨ x % 4 = 1 ∨ x % 4 = 2 ∨ x % 4 = 3 := by omega
  rcases h with h | h | h | h <;> rw [h] <;> decide +kernel
def w1 (a : Str) : List (Str × Str) := [(("word" : Str), a)]
theorem cal__law_group_stage {b : Bs} {f : Addr} {fd : FuncData} (z : ZB b) (F : Fun b.K "_law_group_stage" "_law_group_stage" s__law_group_stage f fd) (hm : b.mg "_law_group_stage" = some (.ref f)) (c2 : Cal b "_law_listed_names" 1 R_ln) : CalQ b "_law_group_stage" 2 Pre_st Post_group := by
  refine ⟨f, fd, p__law_group_stage, fn_dataQ F sc__law_group_stage (fun ds h => ?_) (fun cd A outer s H hr ds h => ?_), hm, F.kp, F.binds fun _ _ _ _ _ _ us hl => match us, hl with | [_, _], _ => rfl⟩
  · obtain ⟨_, _, _, _, rfl⟩ := h; rfl
  · obtain ⟨nums, ns, hl, hns, rfl⟩ := h
    have a2 : atI (nums.map PyData.int) 2 = some (.int (nums.getD 2 0)) := at_ints (k := 2) (by omega)
    have a3 : ∀ i : Nat, i < 2 → atI (nums.map PyData.int) (3 + (i : Int)) = some (.int (nums.getD (3 + i) 0)) := fun i hi => by
      have := at_ints (ns := nums) (k := 3 + i) (by omega)
      rw [show (3 + (i : Int)) = ((3 + i : Nat) : Int) by omega]; exact this
    obtain ⟨m, hm2, em⟩ : ∃ m : Nat, m ≤ 2 ∧ nums.getD 2 0 % 3 = (m : Int) := ⟨(nums.getD 2 0 % 3).toNat, by omega, by omega⟩
    have hcm := lnM_mem hns nums m
    have hcl := lnM_len ns nums m
    have hR : R_ln [.list (ns.map PyData.str), .list (nums.map PyData.int), .int m] (.tuple [.list ((lnM ns nums m).map PyData.str), .list ((lnK (lnM ns nums m)).map tkD)]) := ⟨ns, nums, m, hns, by omega, by omega, rfl, rfl⟩
    generalize lnM ns nums m = cn at hcm hcl hR
    have hkl := lnK_len cn
    have hpk := pl_lnK hns hcm
    refine jss_asg (je_cl c2 (jd_cons (je_var 1) (jd_cons (je_var 0) (jd_cons (je_castI (je_mod (je_int1 z.z_int (je_at (je_var 0) je_int rfl rfl a2)) je_int) (congrArg PyData.int em)) jd_nil))) hR) (jg_tup (jgs_cons (jg_name 2) (jgs_cons (jg_name 3) jgs_nil))) ?_
    refine jss_set 3 (je_castI (je_cat (je_var 3) (je_ls (jd_cons (je_tp (jd_cons je_str (jd_cons je_str jd_nil))) jd_nil)) rfl rfl ?_) (congrArg PyData.list (tk_app (b := w1 "into") rfl))) ?_
    · rw [sizeLine_eq, List.length_map]; show _ + 1 ≤ _; omega
    refine jss_set 4 (je_lo jd_nil) ?_
    have hnn : 0 ≤ 1 + nums.getD 2 0 / 3 % 2 ∧ 1 + nums.getD 2 0 / 3 % 2 ≤ 2 := by omega
    refine jss_for (ji_range1 (ja_cons (je_add je_int (je_mod (je_int1 z.z_int (je_fdiv (je_at (je_var 0) je_int rfl rfl a2) je_int)) je_int)) ja_nil) z.z_range (by omega) (by omega)) (fun i E S => ∃ (ks : List (Str × Str)) (tot : List PyData) (m5 m6 m7 m8 : Option AV), pl ks ∧ ks.length ≤ 10 + 10 * i ∧ tot.length ≤ i ∧ E = [some (.d (.list (nums.map PyData.int))), some (.d (.list (ns.map PyData.str))), some (.d (.list (cn.map PyData.str))), some (.d (.list (ks.map tkD))), some (.o 0), m5, m6, m7, m8] ∧ S = [.ld tot])
      ⟨lnK cn ++ w1 "into", [], none, none, none, none, pl_app hpk (pl_w (by decide)), by rw [List.length_append]; show _ + 1 ≤ _; omega, Nat.le_refl _, rfl, rfl⟩ (fun i d E S hd hI => ?_) (fun E S hI => ?_)
    · obtain ⟨ks, tot, m5, m6, m7, m8, hp, hkl2, htl, rfl, rfl⟩ := hI
      obtain ⟨hi, rfl⟩ := rngD_get hd
      have hi : i < 2 := by omega
      rw [Int.zero_add]
      have ai := a3 i hi
      generalize nums.getD (3 + i) 0 = n at ai
      have q4 := mod_bd n 4 (by decide)
      refine ⟨[5], _, jg_name 5, jss_set 6 (je_at (je_ls (jd_cons je_str (jd_cons je_str (jd_cons je_str (jd_cons je_str jd_nil))))) (je_mod (je_int1 z.z_int (je_at (je_var 0) (je_add je_int (je_var 5)) rfl rfl ai)) je_int) rfl rfl (at_strsI (ns := gW) q4.1 q4.2)) ?_⟩
      have hg := gW_ok n
      generalize gW.getD (n % 4).toNat Str.empty = wd at hg
      refine jss_set 7 (je_nm z.z_int z.z_len hns (je_var 1) rfl (je_var 1) (je_fdiv (je_at (je_var 0) (je_add je_int (je_var 5)) rfl rfl ai) je_int)) ?_
      have hpa := pl_asK hns (n / 4)
      generalize nmM ns (n / 4) = nm at hpa
      have ha2 : (asK nm).length = 2 := rfl
      refine jss_set 8 je_non ?_
      refine jss_ifM (fun E S => ∃ ks : List (Str × Str), pl ks ∧ ks.length ≤ 11 + 10 * i ∧ E = [some (.d (.list (nums.map PyData.int))), some (.d (.list (ns.map PyData.str))), some (.d (.list (cn.map PyData.str))), some (.d (.list (ks.map tkD))), some (.o 0), some (.d (.int (i : Int))), some (.d (.str wd)), some (.d (.str nm)), some (.d .none)] ∧ S = [.ld tot]) (jt_gt (je_var 5) je_int) (fun _ => ?_) (fun _ => jss_nil ⟨ks, hp, by omega, rfl, rfl⟩) ?_
      · refine jss_set 3 (je_castI (je_cat (je_var 3) (je_ls (jd_cons (je_tp (jd_cons je_str (jd_cons je_str jd_nil))) jd_nil)) rfl rfl ?_) (congrArg PyData.list (tk_app (b := kC) rfl))) (jss_nil ⟨_, pl_app hp pl_kC, ?_, rfl, rfl⟩)
        · rw [sizeLine_eq, List.length_map]; show _ + 1 ≤ _; omega
        · rw [List.length_append]; show _ + 1 ≤ _; omega
      rintro E S ⟨ks, hp, hkl3, rfl, rfl⟩
      refine jss_set 3 (je_castI (je_cat (je_var 3) (je_ls (jd_cons (je_tp (jd_cons je_str (jd_cons (je_var 6) jd_nil))) jd_nil)) rfl rfl ?_) (congrArg PyData.list (tk_app (b := w1 wd) rfl))) ?_
      · rw [sizeLine_eq, List.length_map]; show _ + 1 ≤ _; omega
      have hp2 : pl (ks ++ w1 wd) := pl_app hp (pl_w hg.1 ⟨all_word, hg.2⟩)
      have hl2 : (ks ++ w1 wd).length ≤ 12 + 10 * i := by rw [List.length_append]; show _ + 1 ≤ _; omega
      generalize ks ++ w1 wd = ks at hp2 hl2
      refine jss_ifM (fun E S => ∃ (ks : List (Str × Str)) (co : PyData), pl ks ∧ ks.length ≤ 13 + 10 * i ∧ E = [some (.d (.list (nums.map PyData.int))), some (.d (.list (ns.map PyData.str))), some (.d (.list (cn.map PyData.str))), some (.d (.list (ks.map tkD))), some (.o 0), some (.d (.int (i : Int))), some (.d (.str wd)), some (.d (.str nm)), some (.d co)] ∧ S = [.ld tot]) (jt_nes (je_var 6) je_str) (fun _ => ?_) (fun _ => jss_nil ⟨ks, .none, hp2, by omega, rfl, rfl⟩) ?_
      · refine jss_set 8 (je_nm z.z_int z.z_len hns (je_var 1) rfl (je_var 1) (je_fdiv (je_at (je_var 0) (je_add je_int (je_var 5)) rfl rfl ai) je_int)) ?_
        have hpn := pl_nm hns (n / 100)
        generalize nmM ns (n / 100) = co at hpn
        refine jss_set 3 (je_castI (je_cat (je_var 3) (je_ls (jd_cons (je_tp (jd_cons je_str (jd_cons (je_var 8) jd_nil))) jd_nil)) rfl rfl ?_) (congrArg PyData.list (tk_app (b := w1 co) rfl))) (jss_nil ⟨_, .str co, pl_app hp2 hpn, ?_, rfl, rfl⟩)
        · rw [sizeLine_eq, List.length_map]; show _ + 1 ≤ _; omega
        · rw [List.length_append]; show _ + 1 ≤ _; omega
      rintro E S ⟨ks, co, hp, hkl4, rfl, rfl⟩
      refine jss_set 3 (je_castI (je_cat (je_var 3) (je_ls (jd_cons (je_tp (jd_cons je_str (jd_cons je_str jd_nil))) (jd_cons (je_tp (jd_cons je_str (jd_cons (je_var 7) jd_nil))) jd_nil))) rfl rfl ?_) (congrArg PyData.list (tk_app (b := asK nm) rfl))) ?_
      · rw [sizeLine_eq, List.length_map]; show _ + 2 ≤ _; omega
      refine jss_append (je_var 4) (je_tp (jd_cons (je_var 6) (jd_cons (je_var 8) (jd_cons (je_var 7) jd_nil)))) rfl (small_line' (m := 63) (by omega)) (jss_nil ⟨_, _, _, _, _, _, pl_app hp hpa, ?_, ?_, rfl, rfl⟩)
      · rw [List.length_append]; omega
      · rw [List.length_append, List.length_singleton]; omega
    · obtain ⟨ks, tot, m5, m6, m7, m8, hp, hkl2, htl, rfl, rfl⟩ := hI
      rw [rngD_len] at hkl2
      exact jss_ret (je_tp (jd_cons (je_tuple z.z_tuple (je_var 2) rfl rfl) (jd_cons (je_tuple z.z_tuple (je_var 4) rfl rfl) (jd_cons (je_var 3) jd_nil)))) ⟨_, ⟨_, _, ks, hp, by omega, rfl⟩, rfl⟩
theorem pl_drop {ks : List (Str × Str)} (h : pl ks) (n : Nat) : pl (ks.drop n) := fun k hk => h k (List.mem_of_mem_drop hk)
theorem cut_tk1 (ks : List (Str × Str)) : cutD (ks.map tkD) (some 1) none = (ks.drop 1).map tkD := by
  cases ks with
  | nil => rfl
  | cons a r => rw [List.map_cons, cutD_tail]; rfl
theorem cal__law_order_stage {b : Bs} {f : Addr} {fd : FuncData} (z : ZB b) (F : Fun b.K "_law_order_stage" "_law_order_stage" s__law_order_stage f fd) (hm : b.mg "_law_order_stage" = some (.ref f)) : CalQ b "_law_order_stage" 1 Pre_st Post_order := by
  refine ⟨f, fd, p__law_order_stage, fn_dataQ F sc__law_order_stage (fun ds h => ?_) (fun cd A outer s H hr ds h => ?_), hm, F.kp, F.binds fun _ _ _ _ _ _ us hl => match us, hl with | [_, _], _ => rfl⟩
  · obtain ⟨_, _, _, _, rfl⟩ := h; rfl
  · obtain ⟨nums, ns, hl, hns, rfl⟩ := h
    have a0 : atI (nums.map PyData.int) 0 = some (.int (nums.getD 0 0)) := at_ints (k := 0) (by omega)
    have a1 : ∀ i : Nat, i < 3 → atI (nums.map PyData.int) (1 + (i : Int)) = some (.int (nums.getD (1 + i) 0)) := fun i hi => by
      have := at_ints (ns := nums) (k := 1 + i) (by omega)
      rw [show (1 + (i : Int)) = ((1 + i : Nat) : Int) by omega]; exact this
    refine jss_set 2 (je_lo jd_nil) (jss_set 3 (je_ls jd_nil) ?_)
    have hnn : 0 ≤ 1 + nums.getD 0 0 % 3 ∧ 1 + nums.getD 0 0 % 3 ≤ 3 := by omega
    refine jss_for (ji_range1 (ja_cons (je_add je_int (je_mod (je_int1 z.z_int (je_at (je_var 0) je_int rfl rfl a0)) je_int)) ja_nil) z.z_range (by omega) (by omega)) (fun i E S => ∃ (ks : List (Str × Str)) (tot : List PyData) (m4 m5 m6 : Option AV), pl ks ∧ ks.length ≤ 10 * i ∧ tot.length ≤ i ∧ E = [some (.d (.list (nums.map PyData.int))), some (.d (.list (ns.map PyData.str))), some (.o 0), some (.d (.list (ks.map tkD))), m4, m5, m6] ∧ S = [.ld tot])
      ⟨[], [], none, none, none, pl_nil, Nat.le_refl _, Nat.le_refl _, rfl, rfl⟩ (fun i d E S hd hI => ?_) (fun E S hI => ?_)
    · obtain ⟨ks, tot, m4, m5, m6, hp, hkl2, htl, rfl, rfl⟩ := hI
      obtain ⟨hi, rfl⟩ := rngD_get hd
      have hi : i < 3 := by omega
      rw [Int.zero_add]
      have ai := a1 i hi
      generalize nums.getD (1 + i) 0 = n at ai
      obtain ⟨dn, hdn, edn⟩ : ∃ m : Nat, m ≤ 1 ∧ n / 100 % 2 = (m : Int) := ⟨(n / 100 % 2).toNat, by omega, by omega⟩
      refine ⟨[4], _, jg_name 4, jss_set 5 (je_nm z.z_int z.z_len hns (je_var 1) rfl (je_var 1) (je_at (je_var 0) (je_add je_int (je_var 4)) rfl rfl ai)) ?_⟩
      have hpn := pl_nm hns n
      generalize nmM ns n = nm at hpn
      have hpl : pl (lnF nm) := pl_app pl_kC hpn
      refine jss_set 6 (je_castI (je_mod (je_int1 z.z_int (je_fdiv (je_at (je_var 0) (je_add je_int (je_var 4)) rfl rfl ai) je_int)) je_int) (congrArg PyData.int edn)) ?_
      refine jss_append (je_var 2) (je_tp (jd_cons (je_var 5) (jd_cons (je_var 6) jd_nil))) rfl (small_line' (m := 63) (by omega)) ?_
      have hpd : pl ((w1 "down").take dn) := fun k hk => pl_w (a := "down") (by decide) (by decide +kernel) k (List.mem_of_mem_take hk)
      have hld : ((w1 "down").take dn).length ≤ 1 := by rw [List.length_take]; show min dn 1 ≤ 1; omega
      have hll : (lnF nm).length = 2 := rfl
      refine jss_set 3 (je_castI (je_cat (je_castI (je_cat (je_var 3) (je_ls (jd_cons (je_tp (jd_cons je_str (jd_cons je_str jd_nil))) (jd_cons (je_tp (jd_cons je_str (jd_cons (je_var 5) jd_nil))) jd_nil))) rfl rfl ?_) (congrArg PyData.list (tk_app (b := lnF nm) rfl))) (je_castI (je_cut (je_ls (jd_cons (je_tp (jd_cons je_str (jd_cons je_str jd_nil))) jd_nil)) jo_none (jo_some (je_var 6)) rfl) (d' := .list (((w1 "down").take dn).map tkD)) ?_) rfl rfl ?_) (congrArg PyData.list (tk_app (b := (w1 "down").take dn) rfl))) ?_
      · rw [sizeLine_eq, List.length_map]; show _ + 2 ≤ _; omega
      · rw [cutD_take _ dn (by show dn ≤ 1; omega), List.map_take]; rfl
      · rw [sizeLine_eq, List.length_map, List.length_map, List.length_append]; omega
      refine jss_nil ⟨_, _, _, _, _, pl_app (pl_app hp hpl) hpd, ?_, ?_, rfl, rfl⟩
      · rw [List.length_append, List.length_append]; omega
      · rw [List.length_append, List.length_singleton]; omega
    · obtain ⟨ks, tot, m4, m5, m6, hp, hkl2, htl, rfl, rfl⟩ := hI
      rw [rngD_len] at hkl2
      exact jss_ret (je_tp (jd_cons (je_tuple z.z_tuple (je_var 2) rfl rfl) (jd_cons (je_castI (je_cut (je_var 3) (jo_some je_int) jo_none rfl) (congrArg PyData.list (cut_tk1 ks))) jd_nil))) ⟨_, ⟨_, ks.drop 1, pl_drop hp 1, by rw [List.length_drop]; omega, rfl⟩, rfl⟩
/-! ### a stage over a query; two queries -/
def kBar : Str × Str := (("sign" : Str), ("|" : Str))
def kO : Str × Str := (("sign" : Str), ("(" : Str))
def kCl : Str × Str := (("sign" : Str), (")" : Str))
abbrev okW (w : Str) : Prop := w ≠ "source" ∧ w ≠ "join" ∧ w ≠ "union"
def Pre_one (q : Qu) (ds : List PyData) : Prop := ∃ (nums : List Int) (ns : List Str), nums.length = 7 ∧ okNs ns ∧ q.ks.length ≤ 1000000 ∧ ds = [q.d, .list (nums.map PyData.int), .list (ns.map PyData.str)]
def Post_one (q : Qu) (_ : List PyData) (r : PyData) : Prop := ∃ (w : Str) (rest : List PyData) (more : List (Str × Str)) (dp : Int), okW w ∧ pl more ∧ more.length ≤ 1200 ∧ r = Qu.d ⟨.tuple (.str w :: q.t :: rest), q.ks ++ (kBar :: more), dp⟩
theorem pl_kB : pl [kBar] := pl_one (.inl (by decide))
theorem one_ks {ks k2 more : List (Str × Str)} {c : List PyData} (h : k2.map tkD = c) : (((ks ++ [kBar]).map tkD ++ c) ++ more.map tkD) = (ks ++ (kBar :: (k2 ++ more))).map tkD := by
  rw [← h]; simp
theorem one_ks1 {ks k2 : List (Str × Str)} {c : List PyData} (h : k2.map tkD = c) : ((ks ++ [kBar]).map tkD ++ c) = (ks ++ (kBar :: k2)).map tkD := by
  rw [← h]; simp
theorem cal__law_one_stage {b : Bs} {f : Addr} {fd : FuncData} (z : ZB b) (F : Fun b.K "_law_one_stage" "_law_one_stage" s__law_one_stage f fd) (hm : b.mg "_law_one_stage" = some (.ref f)) (c1 : CalQ b "_law_expression" 4 Pre_expr Post_expr) (c2 : CalQ b "_law_keep_stage" 5 Pre_st Post_keep) (c3 : CalQ b "_law_group_stage" 2 Pre_st Post_group) (c4 : CalQ b "_law_order_stage" 1 Pre_st Post_order) (c5 : Cal b "_law_number_token" 1 R_ntok) : ∀ q, CalQ b "_law_one_stage" 6 (Pre_one q) (Post_one q) := by
  intro q
  refine ⟨f, fd, p__law_one_stage, fn_dataQ F sc__law_one_stage (fun ds h => ?_) (fun cd A outer s H hr ds h => ?_), hm, F.kp, F.binds fun _ _ _ _ _ _ us hl => match us, hl with | [_, _, _], _ => rfl⟩
  · obtain ⟨_, _, _, _, _, rfl⟩ := h; rfl
  · obtain ⟨nums0, ns, hl0, hns, hq, rfl⟩ := h
    have a0 : atI (nums0.map PyData.int) 0 = some (.int (nums0.getD 0 0)) := at_ints (k := 0) (by omega)
    have e1 := cut_d1 nums0 (by omega)
    have hl : (nums0.drop 1).length = 6 := by rw [List.length_drop]; omega
    generalize nums0.getD 0 0 = n0 at a0
    refine jss_asg (je_var 0) (jg_tup (jgs_cons (jg_name 3) (jgs_cons (jg_name 4) (jgs_cons (jg_name 5) jgs_nil)))) ?_
    refine jss_set 6 (je_mod (je_int1 z.z_int (je_fdiv (je_at (je_var 1) je_int rfl rfl a0) je_int)) je_int) ?_
    generalize n0 / 12 % 7 = ch
    refine jss_set 4 (je_castI (je_cat (je_var 4) (je_ls (jd_cons (je_tp (jd_cons je_str (jd_cons je_str jd_nil))) jd_nil)) rfl rfl ?_) (congrArg PyData.list (tk_app (b := [kBar]) rfl))) ?_
    · rw [sizeLine_eq, List.length_map]; show _ + 1 ≤ _; omega
    refine jss_set 1 (je_castI (je_cut (je_var 1) (jo_some je_int) jo_none rfl) (congrArg PyData.list e1)) ?_
    generalize nums0.drop 1 = nums at hl e1
    have e3 := cut_i3 nums (by omega)
    have ht3 : (nums.take 3).length = 3 := by rw [List.length_take]; omega
    have hP : Pre_st [.list (nums.map PyData.int), .list (ns.map PyData.str)] := ⟨nums, ns, hl, hns, rfl⟩
    have hsz : ∀ (k2 more : List (Str × Str)), k2.length ≤ 2 → more.length ≤ 1100 → ((q.ks ++ [kBar]).map tkD ++ k2.map tkD).length + (more.map tkD).length ≤ sizeLine := fun k2 more h1 h2 => by
      rw [sizeLine_eq]; simp only [List.length_map, List.length_append, List.length_singleton]; omega
    have hsz1 : ∀ (k2 : List (Str × Str)), k2.length ≤ 2 → ((q.ks ++ [kBar]).map tkD).length + (k2.map tkD).length ≤ sizeLine := fun k2 h1 => by
      rw [sizeLine_eq]; simp only [List.length_map, List.length_append, List.length_singleton]; omega
    refine jss_if (jt_lt (je_var 6) je_int) (fun _ => ?_) (fun _ => jss_nil ?_)
    · refine jss_setQ 7 (jeq_cl c1 (jd_cons (je_castI (je_cut (je_var 1) jo_none (jo_some je_int) rfl) (congrArg PyData.list e3)) (jd_cons (je_var 2) jd_nil)) ⟨nums.take 3, ns, by omega, by omega, hns, rfl⟩) ?_
      rintro r ⟨e, he, rfl⟩
      exact jss_ret (je_tp (jd_cons (je_tp (jd_cons je_str (jd_cons (je_var 3) (jd_cons (je_at (d' := e.t) (je_var 7) je_int rfl rfl rfl) jd_nil)))) (jd_cons (je_castI (je_cat (je_cat (je_var 4) (je_ls (jd_cons (je_tp (jd_cons je_str (jd_cons je_str jd_nil))) jd_nil)) rfl rfl (hsz1 (w1 "where") (by decide))) (je_at (d' := .list (e.ks.map tkD)) (je_var 7) je_int rfl rfl rfl) rfl rfl (hsz (w1 "where") _ (by decide) (by have := he.2; omega))) (congrArg PyData.list (one_ks (k2 := w1 "where") rfl))) (jd_cons (je_max2 z.z_max (je_var 5) (je_at (d' := .int e.dp) (je_var 7) je_int rfl rfl rfl)) jd_nil)))) ⟨_, ⟨"where", [e.t], w1 "where" ++ e.ks, _, by decide, pl_app (pl_w (by decide)) he.1, by rw [List.length_append]; have := he.2; show 1 + _ ≤ _; omega, rfl⟩, rfl⟩
    refine jss_if (jt_eqi (je_var 6) je_int) (fun _ => ?_) (fun _ => jss_nil ?_)
    · refine jss_asgQ (jeq_cl c2 (jd_cons (je_var 1) (jd_cons (je_var 2) jd_nil)) hP) ?_
      rintro r ⟨it, ks, dp, hp, hkl, rfl⟩
      refine ⟨_, _, jg_tup (jgs_cons (jg_name 8) (jgs_cons (jg_name 9) (jgs_cons (jg_name 10) jgs_nil))), ?_⟩
      exact jss_ret (je_tp (jd_cons (je_tp (jd_cons je_str (jd_cons (je_var 3) (jd_cons (je_var 8) jd_nil)))) (jd_cons (je_castI (je_cat (je_cat (je_var 4) (je_ls (jd_cons (je_tp (jd_cons je_str (jd_cons je_str jd_nil))) jd_nil)) rfl rfl (hsz1 (w1 "keep") (by decide))) (je_var 9) rfl rfl (hsz (w1 "keep") _ (by decide) hkl)) (congrArg PyData.list (one_ks (k2 := w1 "keep") rfl))) (jd_cons (je_max2 z.z_max (je_var 5) (je_var 10)) jd_nil)))) ⟨_, ⟨"keep", [.tuple it], w1 "keep" ++ ks, _, by decide, pl_app (pl_w (by decide)) hp, by rw [List.length_append]; show 1 + _ ≤ _; omega, rfl⟩, rfl⟩
    refine jss_if (jt_eqi (je_var 6) je_int) (fun _ => ?_) (fun _ => jss_nil ?_)
    · refine jss_asgQ (jeq_cl c3 (jd_cons (je_var 1) (jd_cons (je_var 2) jd_nil)) hP) ?_
      rintro r ⟨x1, x2, ks, hp, hkl, rfl⟩
      refine ⟨_, _, jg_tup (jgs_cons (jg_name 11) (jgs_cons (jg_name 12) (jgs_cons (jg_name 9) jgs_nil))), ?_⟩
      exact jss_ret (je_tp (jd_cons (je_tp (jd_cons je_str (jd_cons (je_var 3) (jd_cons (je_var 11) (jd_cons (je_var 12) jd_nil))))) (jd_cons (je_castI (je_cat (je_cat (je_var 4) (je_ls (jd_cons (je_tp (jd_cons je_str (jd_cons je_str jd_nil))) jd_nil)) rfl rfl (hsz1 (w1 "group") (by decide))) (je_var 9) rfl rfl (hsz (w1 "group") _ (by decide) hkl)) (congrArg PyData.list (one_ks (k2 := w1 "group") rfl))) (jd_cons (je_var 5) jd_nil)))) ⟨_, ⟨"group", [.tuple x1, .tuple x2], w1 "group" ++ ks, _, by decide, pl_app (pl_w (by decide)) hp, by rw [List.length_append]; show 1 + _ ≤ _; omega, rfl⟩, rfl⟩
    refine jss_if (jt_eqi (je_var 6) je_int) (fun _ => ?_) (fun _ => jss_nil ?_)
    · refine jss_asgQ (jeq_cl c4 (jd_cons (je_var 1) (jd_cons (je_var 2) jd_nil)) hP) ?_
      rintro r ⟨x1, ks, hp, hkl, rfl⟩
      refine ⟨_, _, jg_tup (jgs_cons (jg_name 13) (jgs_cons (jg_name 9) jgs_nil)), ?_⟩
      exact jss_ret (je_tp (jd_cons (je_tp (jd_cons je_str (jd_cons (je_var 3) (jd_cons (je_var 13) jd_nil)))) (jd_cons (je_castI (je_cat (je_cat (je_var 4) (je_ls (jd_cons (je_tp (jd_cons je_str (jd_cons je_str jd_nil))) jd_nil)) rfl rfl (hsz1 (w1 "order") (by decide))) (je_var 9) rfl rfl (hsz (w1 "order") _ (by decide) hkl)) (congrArg PyData.list (one_ks (k2 := w1 "order") rfl))) (jd_cons (je_var 5) jd_nil)))) ⟨_, ⟨"order", [.tuple x1], w1 "order" ++ ks, _, by decide, pl_app (pl_w (by decide)) hp, by rw [List.length_append]; show 1 + _ ≤ _; omega, rfl⟩, rfl⟩
    refine jss_if (jt_eqi (je_var 6) je_int) (fun _ => ?_) (fun _ => jss_nil ?_)
    · have a00 : atI (nums.map PyData.int) 0 = some (.int (nums.getD 0 0)) := at_ints (k := 0) (by omega)
      generalize nums.getD 0 0 = c at a00
      obtain ⟨o1, o2, o3⟩ := ntM_ok c
      refine jss_set 14 (je_cl c5 (jd_cons (je_at (je_var 1) je_int rfl rfl a00) jd_nil) ⟨c, rfl, rfl⟩) ?_
      exact jss_ret (je_tp (jd_cons (je_tp (jd_cons je_str (jd_cons (je_var 3) (jd_cons (je_intS z.z_int (je_at (je_var 14) je_int rfl rfl rfl) (int_dg o1 o2 (by omega)) (by rw [len_stx]; omega)) jd_nil)))) (jd_cons (je_castI (je_cat (je_var 4) (je_ls (jd_cons (je_tp (jd_cons je_str (jd_cons je_str jd_nil))) (jd_cons (je_var 14) jd_nil))) rfl rfl (hsz1 (w1 "limit" ++ [(("number" : Str), stx (ntM c))]) (by simp [w1]))) (congrArg PyData.list (one_ks1 (k2 := w1 "limit" ++ [(("number" : Str), stx (ntM c))]) rfl))) (jd_cons (je_var 5) jd_nil)))) ⟨_, ⟨"limit", [_], w1 "limit" ++ [(("number" : Str), stx (ntM c))], _, by decide, pl_app (pl_w (by decide)) (pl_one (.inl (show ("number" : Str) ≠ "word" by decide)) ⟨show ("number" : Str).cps.all _ = true by decide +kernel, ntM_all _⟩), by simp [w1], rfl⟩, rfl⟩
    · exact jss_ret (je_tp (jd_cons (je_tp (jd_cons je_str (jd_cons (je_var 3) jd_nil))) (jd_cons (je_castI (je_cat (je_var 4) (je_ls (jd_cons (je_tp (jd_cons je_str (jd_cons je_str jd_nil))) jd_nil)) rfl rfl (hsz1 (w1 "distinct") (by decide))) (congrArg PyData.list (one_ks1 (k2 := w1 "distinct") rfl))) (jd_cons (je_var 5) jd_nil)))) ⟨_, ⟨"distinct", [], w1 "distinct", _, by decide, pl_w (by decide), by decide, rfl⟩, rfl⟩
def twK (q p : Qu) (w : Str) (more : List (Str × Str)) : List (Str × Str) := q.ks ++ (kBar :: (("word" : Str), w) :: kO :: (p.ks ++ (kCl :: more)))
def Pre_two (q p : Qu) (ds : List PyData) : Prop := ∃ (nums : List Int) (ns : List Str), (nums.length = 7 ∨ nums = [0]) ∧ okNs ns ∧ q.ks.length ≤ 1000000 ∧ p.ks.length ≤ 1000000 ∧ ds = [q.d, p.d, .list (nums.map PyData.int), .list (ns.map PyData.str)]
def Post_two (q p : Qu) (_ : List PyData) (r : PyData) : Prop := ∃ (w : Str) (rest : List PyData) (more : List (Str × Str)) (dp : Int), (w = "join" ∨ w = "union") ∧ pl more ∧ more.length ≤ 1200 ∧ r = Qu.d ⟨.tuple (.str w :: q.t :: p.t :: rest), twK q p w more, dp⟩
theorem cal__law_two_stage {b : Bs} {f : Addr} {fd : FuncData} (z : ZB b) (F : Fun b.K "_law_two_stage" "_law_two_stage" s__law_two_stage f fd) (hm : b.mg "_law_two_stage" = some (.ref f)) (c1 : CalQ b "_law_expression" 4 Pre_expr Post_expr) : ∀ q p, CalQ b "_law_two_stage" 5 (Pre_two q p) (Post_two q p) := by
  intro q p
  refine ⟨f, fd, p__law_two_stage, fn_dataQ F sc__law_two_stage (fun ds h => ?_) (fun cd A outer s H hr ds h => ?_), hm, F.kp, F.binds fun _ _ _ _ _ _ us hl => match us, hl with | [_, _, _, _], _ => rfl⟩
  · obtain ⟨_, _, _, _, _, _, rfl⟩ := h; rfl
  · obtain ⟨nums, ns, hl, hns, hq, hp, rfl⟩ := h
    have a0 : atI (nums.map PyData.int) 0 = some (.int (nums.getD 0 0)) := at_ints (k := 0) (by rcases hl with h | rfl; omega; decide)
    have hj : nums.getD 0 0 / 12 % 2 ≠ 0 → nums.length = 7 := fun h => by
      rcases hl with h' | rfl
      · exact h'
      · exact absurd rfl h
    generalize nums.getD 0 0 = n0 at a0 hj
    refine jss_asg (je_var 0) (jg_tup (jgs_cons (jg_name 4) (jgs_cons (jg_name 5) (jgs_cons (jg_name 6) jgs_nil)))) ?_
    refine jss_set 6 (je_max2 z.z_max (je_var 6) (je_add (je_at (d' := .int p.dp) (je_var 1) je_int rfl rfl rfl) je_int)) ?_
    refine jss_set 7 (je_castI (je_cat (je_cat (je_ls (jd_cons (je_tp (jd_cons je_str (jd_cons je_str jd_nil))) jd_nil)) (je_at (d' := .list (p.ks.map tkD)) (je_var 1) je_int rfl rfl rfl) rfl rfl ?_) (je_ls (jd_cons (je_tp (jd_cons je_str (jd_cons je_str jd_nil))) jd_nil)) rfl rfl ?_) (d' := .list ((kO :: (p.ks ++ [kCl])).map tkD)) (by simp [tkD, kO, kCl])) ?_
    · rw [sizeLine_eq, List.length_map]; show 1 + _ ≤ _; omega
    · rw [sizeLine_eq, List.length_append, List.length_map]; show 1 + _ + 1 ≤ _; omega
    have hsz1 : ((q.ks).map tkD).length + 2 ≤ sizeLine := by rw [sizeLine_eq, List.length_map]; omega
    have hsz2 : ∀ k2 : List (Str × Str), k2.length = 2 → (q.ks.map tkD ++ k2.map tkD).length + ((kO :: (p.ks ++ [kCl])).map tkD).length ≤ sizeLine := fun k2 h2 => by
      rw [sizeLine_eq]; simp only [List.length_map, List.length_append, List.length_cons, List.length_nil]; omega
    refine jss_if (jt_eqi (je_mod (je_int1 z.z_int (je_fdiv (je_at (je_var 2) je_int rfl rfl a0) je_int)) je_int) je_int) (fun _ => ?_) (fun hne => jss_nil ?_)
    · exact jss_ret (je_tp (jd_cons (je_tp (jd_cons je_str (jd_cons (je_var 4) (jd_cons (je_at (d' := p.t) (je_var 1) je_int rfl rfl rfl) jd_nil)))) (jd_cons (je_castI (je_cat (je_cat (je_var 5) (je_ls (jd_cons (je_tp (jd_cons je_str (jd_cons je_str jd_nil))) (jd_cons (je_tp (jd_cons je_str (jd_cons je_str jd_nil))) jd_nil))) rfl rfl hsz1) (je_var 7) rfl rfl (hsz2 [kBar, kU] rfl)) (d' := .list ((twK q p "union" []).map tkD)) (by simp [twK, tkD, kBar, kO, kCl])) (jd_cons (je_var 6) jd_nil)))) ⟨_, ⟨"union", [], [], _, .inr rfl, pl_nil, by decide, rfl⟩, rfl⟩
    have hl7 := hj (of_decide_eq_false hne)
    have e13 : cutD (nums.map PyData.int) (some 1) (some 3) = ((nums.drop 1).take 2).map PyData.int := by
      unfold AL.cutD
      rw [show (some (1 : Int)) = some ((1 : Nat) : Int) from rfl, show (some (3 : Int)) = some ((3 : Nat) : Int) from rfl, HT.sIx_nat, HT.sIx_nat, List.length_map, hl7, ← List.map_drop, ← List.map_take]; rfl
    have hl2 : ((nums.drop 1).take 2).length = 2 := by rw [List.length_take, List.length_drop]; omega
    refine jss_setQ 8 (jeq_cl c1 (jd_cons (je_castI (je_cut (je_var 2) (jo_some je_int) (jo_some je_int) rfl) (congrArg PyData.list e13)) (jd_cons (je_var 3) jd_nil)) ⟨(nums.drop 1).take 2, ns, by omega, by omega, hns, rfl⟩) ?_
    rintro r ⟨e, he, rfl⟩
    have hel := he.2
    refine jss_set 5 (je_castI (je_cat (je_cat (je_cat (je_cat (je_var 5) (je_ls (jd_cons (je_tp (jd_cons je_str (jd_cons je_str jd_nil))) (jd_cons (je_tp (jd_cons je_str (jd_cons je_str jd_nil))) jd_nil))) rfl rfl hsz1) (je_var 7) rfl rfl (hsz2 [kBar, kJ] rfl)) (je_ls (jd_cons (je_tp (jd_cons je_str (jd_cons je_str jd_nil))) jd_nil)) rfl rfl ?_) (je_at (d' := .list (e.ks.map tkD)) (je_var 8) je_int rfl rfl rfl) rfl rfl ?_) (d' := .list ((twK q p "join" (w1 "on" ++ e.ks)).map tkD)) (by simp [twK, tkD, kBar, kO, kCl, w1])) ?_
    · rw [sizeLine_eq]; simp only [List.length_map, List.length_append, List.length_cons, List.length_nil]; omega
    · rw [sizeLine_eq]; simp only [List.length_map, List.length_append, List.length_cons, List.length_nil]; omega
    exact jss_ret (je_tp (jd_cons (je_tp (jd_cons je_str (jd_cons (je_var 4) (jd_cons (je_at (d' := p.t) (je_var 1) je_int rfl rfl rfl) (jd_cons (je_at (d' := e.t) (je_var 8) je_int rfl rfl rfl) jd_nil))))) (jd_cons (je_var 5) (jd_cons (je_max2 z.z_max (je_var 6) (je_at (d' := .int e.dp) (je_var 8) je_int rfl rfl rfl)) jd_nil)))) ⟨_, ⟨"join", [e.t], w1 "on" ++ e.ks, _, .inl rfl, pl_app (pl_w (by decide)) he.1, by rw [List.length_append]; show 1 + _ ≤ _; omega, rfl⟩, rfl⟩
/-! ### queries and their sources -/
def kAt : Str × Str := (("word" : Str), ("at" : Str))
def vD : Option Str → PyData
  | none => .none
  | some s => .str s
def prD (p : Str × Option Str) : PyData := .tuple [.str p.1, vD p.2]
def okPr (p : Str × Option Str) : Prop := p.1 ≠ "join" ∧ p.1 ≠ "union" ∧ p.1.cps.all (· < 0x110000) = true ∧ ∀ v, p.2 = some v → v.cps.all (· < 0x110000) = true
def srcK (p : Str × Option Str) : List (Str × Str) := match p.2 with
  | none => [(("word" : Str), p.1)]
  | some v => [(("word" : Str), p.1), kAt, (("string" : Str), v)]
inductive QT : Nat → List (Str × Option Str) → PyData → List (Str × Str) → Prop
  | src {m : Nat} {p : Str × Option Str} : okPr p → QT m [p] (.tuple [.str "source", .str p.1, vD p.2]) (srcK p)
  | one {m : Nat} {ss : List (Str × Option Str)} {t : PyData} {ks more : List (Str × Str)} {w : Str} {rest : List PyData} : QT m ss t ks → okW w → pl more → QT (m + 1) ss (.tuple (.str w :: t :: rest)) (ks ++ (kBar :: more))
  | two {m : Nat} {ss ss2 : List (Str × Option Str)} {t t2 : PyData} {ks ks2 more : List (Str × Str)} {w : Str} {rest : List PyData} : QT m ss t ks → QT m ss2 t2 ks2 → (w = "join" ∨ w = "union") → pl more → QT (m + 1) (ss ++ ss2) (.tuple (.str w :: t :: t2 :: rest)) (ks ++ (kBar :: (("word" : Str), w) :: kO :: (ks2 ++ (kCl :: more))))
theorem QT.up {m : Nat} {ss : List (Str × Option Str)} {t : PyData} {ks : List (Str × Str)} (h : QT m ss t ks) : QT (m + 1) ss t ks := by
  induction h with
  | src a => exact .src a
  | one _ a b ih => exact .one ih a b
  | two _ _ a b i1 i2 => exact .two i1 i2 a b
theorem QT.mono {m n : Nat} {ss : List (Str × Option Str)} {t : PyData} {ks : List (Str × Str)} (h : QT m ss t ks) (hn : m ≤ n) : QT n ss t ks := by
  obtain ⟨k, rfl⟩ := Nat.exists_eq_add_of_le hn
  clear hn
  induction k with
  | zero => exact h
  | succ k ih => exact ih.up
theorem QT.len {m : Nat} {ss : List (Str × Option Str)} {t : PyData} {ks : List (Str × Str)} (h : QT m ss t ks) : ss.length ≤ ks.length ∧ 0 < ks.length ∧ 0 < ss.length := by
  induction h with
  | src a =>
    refine ⟨?_, ?_, Nat.succ_pos _⟩
    · unfold srcK; split <;> simp
    · unfold srcK; split <;> simp
  | one _ a b ih => simp only [List.length_append, List.length_cons]; omega
  | two _ _ a b i1 i2 => simp only [List.length_append, List.length_cons]; omega
theorem QT.okp {m : Nat} {ss : List (Str × Option Str)} {t : PyData} {ks : List (Str × Str)} (h : QT m ss t ks) : ∀ p ∈ ss, okPr p := by
  induction h with
  | src a => intro p hp; rw [List.mem_singleton] at hp; subst hp; exact a
  | one _ a b ih => exact ih
  | two _ _ a b i1 i2 =>
    intro p hp
    rcases List.mem_append.mp hp with h | h
    · exact i1 p h
    · exact i2 p h
def okQu (n m : Nat) (q : Qu) : Prop := (∃ ss, QT n ss q.t q.ks) ∧ q.ks.length ≤ m
theorem okQu.mono {n m n' m' : Nat} {q : Qu} (h : okQu n m q) (h1 : n ≤ n') (h2 : m ≤ m') : okQu n' m' q := by
  obtain ⟨⟨ss, hs⟩, hl⟩ := h
  exact ⟨⟨ss, hs.mono h1⟩, Nat.le_trans hl h2⟩
instance : Inhabited Qu := ⟨⟨.none, [], 0⟩⟩
def vtM (c : Int) : Str := cutS (Txt.replace (textM c) "'" "q") none (some 20)
theorem vtM_ok (c : Int) : (vtM c).cps.all (· < 0x110000) = true := vt_all c 20
def Pre_query (ds : List PyData) : Prop := ∃ (cs : List Int) (ns : List Str), 0 < cs.length ∧ cs.length ≤ 6 ∧ okNs ns ∧ ds = [.list (cs.map PyData.int), .list (ns.map PyData.str)]
def Post_query (_ : List PyData) (r : PyData) : Prop := ∃ q : Qu, okQu 11 1000000 q ∧ r = q.d
theorem cal__law_query {b : Bs} {f : Addr} {fd : FuncData} (z : ZB b) (F : Fun b.K "_law_query" "_law_query" s__law_query f fd) (hm : b.mg "_law_query" = some (.ref f)) (c1 : Cal b "_law_draws" 1 R_draws) (c2 : Cal b "_law_text" 2 R_text) (c3 : ∀ q, CalQ b "_law_one_stage" 6 (Pre_one q) (Post_one q)) (c4 : ∀ q p, CalQ b "_law_two_stage" 5 (Pre_two q p) (Post_two q p)) : CalQ b "_law_query" 7 Pre_query Post_query := by
  refine ⟨f, fd, p__law_query, fn_dataTQ F sc__law_query (by decide +kernel) (by decide) (fun ds h => ?_) (fun cd A outer s H hr ds h => ?_), hm, F.kp, F.binds fun _ _ _ _ _ _ us hl => match us, hl with | [_, _], _ => rfl⟩
  · obtain ⟨_, _, _, _, _, rfl⟩ := h; rfl
  · obtain ⟨cs, ns, hc0, hc6, hns, rfl⟩ := h
    refine jst_set 2 (je_lo jd_nil) ?_
    refine jst_for (ji_list (je_var 0)) (fun i E S => ∃ (es : List Qu) (m3 m4 m5 m6 m7 m8 m9 : Option AV), es.length ≤ i ∧ (0 < i → 0 < es.length) ∧ (∀ e ∈ es, okQu i (1300 * 2 ^ i - 1300) e) ∧ E = [some (.d (.list (cs.map PyData.int))), some (.d (.list (ns.map PyData.str))), some (.o 0), m3, m4, m5, m6, m7, m8, m9] ∧ S = [.ld (es.map Qu.d)])
      ⟨[], none, none, none, none, none, none, none, Nat.le_refl _, fun h => by omega, fun e he => (by cases he), rfl, rfl⟩ (fun i d E S hd hI => ?_) (fun E S hI => ?_)
    · obtain ⟨es, m3, m4, m5, m6, m7, m8, m9, hel, hen, heo, rfl, rfl⟩ := hI
      rw [List.getElem?_map] at hd
      have hi : i < cs.length := by
        rcases Nat.lt_or_ge i cs.length with h | h
        · exact h
        · rw [List.getElem?_eq_none h] at hd; cases hd
      obtain ⟨c, rfl⟩ : ∃ c : Int, d = .int c := by
        rw [List.getElem?_eq_getElem hi] at hd; exact ⟨_, (Option.some.inj hd).symm⟩
      have hpw : 1300 * 2 ^ (i + 1) = 2 * (1300 * 2 ^ i) := by rw [Nat.pow_succ]; omega
      have hp1 : 1 ≤ 2 ^ i := Nat.one_le_two_pow
      have hp4 : 2 ^ i ≤ 32 := by
        have : i = 0 ∨ i = 1 ∨ i = 2 ∨ i = 3 ∨ i = 4 ∨ i = 5 := by omega
        rcases this with rfl | rfl | rfl | rfl | rfl | rfl <;> decide
      refine ⟨[3], _, jg_name 3, jst_set 4 (je_cl c1 (jd_cons (je_var 3) (jd_cons je_int (jd_cons je_int (jd_cons (je_pow je_int je_int) jd_nil)))) ⟨c, 49, 10 ^ 30, 7, by decide, by decide, by decide, rfl, rfl⟩) ?_⟩
      have hdl : (drawsM c 49 (10 ^ 30) 7).2.length = 7 := drawsM_len _ _ _ _
      generalize (drawsM c 49 (10 ^ 30) 7).2 = dr at hdl
      have at0 : ∀ i : Nat, i < 7 → atI (dr.map PyData.int) (i : Int) = some (.int (dr.getD i 0)) := fun i hi => at_ints (by omega)
      have a1 := at0 1 (by decide)
      have a2 := at0 2 (by decide)
      have a3 := at0 3 (by decide)
      refine jst_set 5 (je_mod (je_int1 z.z_int (je_at (je_var 4) je_int rfl rfl (at0 0 (by decide)))) je_int) ?_
      generalize dr.getD 0 0 % 12 = ch
      generalize dr.getD 1 0 = n1 at a1
      generalize dr.getD 2 0 = n2 at a2
      generalize dr.getD 3 0 = n3 at a3
      have hemp : (es.map Qu.d).isEmpty = es.isEmpty := by cases es <;> rfl
      obtain ⟨l, hl⟩ := last1 es
      obtain ⟨x, y, hxy⟩ := last2 es
      have hle : ((es.map Qu.d).length : Int) = (es.length : Int) := by rw [List.length_map]
      have hy1 : 1 < es.length → atI (es.map Qu.d) (-1) = some y.d := fun h => by
        obtain ⟨xs, rfl⟩ := hxy h
        rw [List.map_append]; exact at_m1 _ _ _
      refine jst_if (z := decide (1 < (es.length : Int)) && (decide (7 < ch) && decide (y.dp < 12))) (jtt_of (jt_w (jw_and (x := decide (1 < (es.length : Int))) (y := decide (7 < ch) && decide (y.dp < 12)) (jt_gt (je_castI (je_len z.z_len (je_var 2) rfl rfl) (congrArg PyData.int hle)) je_int) (fun e => jw_and (jt_gt (je_var 5) je_int) (fun _ => jw_and1 (jt_lt (je_at (d' := .int y.dp) (je_at (d' := y.d) (je_var 2) (je_neg je_int) rfl rfl (hy1 (by have := of_decide_eq_true e; omega))) je_int rfl rfl rfl) je_int)) (fun _ => rfl)) (fun _ => rfl)))) (fun e => jst_of ?_) (fun e => ?_)
      · rw [Bool.and_eq_true] at e
        obtain ⟨xs, rfl⟩ := hxy (by have := of_decide_eq_true e.1; omega)
        obtain ⟨⟨ss1, hq1⟩, hl1⟩ := heo x (by simp)
        obtain ⟨⟨ss2, hq2⟩, hl2⟩ := heo y (by simp)
        have hxl : xs.length + 2 ≤ i := by rw [List.length_append] at hel; exact hel
        have hs1 : (xs ++ [x, y]).map Qu.d = ((xs ++ [x]).map Qu.d) ++ [y.d] := by simp
        have hs2 : (xs ++ [x]).map Qu.d = (xs.map Qu.d) ++ [x.d] := by simp
        refine jss_set 6 (je_pop (ds := (xs ++ [x]).map Qu.d) (d := y.d) (je_var 2) (by rw [hs1]; rfl)) ?_
        refine jss_appendQ (ds := xs.map Qu.d) (ds0 := (xs ++ [x]).map Qu.d) (je_var 2) (jeq_cl (c4 x y) (jd_cons (je_pop (ds := xs.map Qu.d) (d := x.d) (je_var 2) (by rw [hs2]; rfl)) (jd_cons (je_var 6) (jd_cons (je_var 4) (jd_cons (je_var 1) jd_nil)))) ⟨dr, ns, .inl hdl, hns, by omega, by omega, rfl⟩) rfl rfl (small_line' (m := 63) (by rw [List.length_map]; omega)) ?_
        rintro d ⟨w, rest, more, dp, hw, hpm, hml, rfl⟩
        refine jss_nil (jst_nil ⟨xs ++ [⟨.tuple (.str w :: x.t :: y.t :: rest), twK x y w more, dp⟩], _, _, _, _, _, _, _, by rw [List.length_append, List.length_singleton]; omega, fun _ => by simp, fun e he => ?_, rfl, by simp⟩)
        rcases List.mem_append.mp he with h | h
        · exact (heo e (List.mem_append_left _ h)).mono (by omega) (by omega)
        · rw [List.mem_singleton] at h; subst h
          refine ⟨⟨ss1 ++ ss2, .two hq1 hq2 hw hpm⟩, ?_⟩
          show (twK x y w more).length ≤ _
          unfold twK
          simp only [List.length_append, List.length_cons]
          omega
      refine jst_if (z := es.isEmpty || decide (ch ∈ [6, 7])) (jtt_of (jt_w (jw_or (x := es.isEmpty) (y := decide (ch ∈ [6, 7])) (jt_cast (jt_not (jt_cast (jt_lst (je_var 2) rfl rfl) (congrArg not hemp))) (Bool.not_not _)) (fun _ => jw_or1 (jt_ini (xs := [6, 7]) (je_var 5) (je_ls (jd_cons je_int (jd_cons je_int jd_nil))) rfl rfl)) (fun _ => rfl)))) (fun e => ?_) (fun e => ?_)
      · refine jst_set 7 (je_nm z.z_int z.z_len hns (je_var 1) rfl (je_var 1) (je_at (je_var 4) je_int rfl rfl a1)) ?_
        have hnm := hns.2 _ (nmM_mem hns n1)
        generalize nmM ns n1 = nm at hnm
        refine jst_one (jss_append (d := Qu.d ⟨.tuple [.str "source", .str nm, .none], srcK (nm, none), 0⟩) (je_var 2) (je_tp (jd_cons (je_tp (jd_cons je_str (jd_cons (je_var 7) (jd_cons je_non jd_nil)))) (jd_cons (je_ls (jd_cons (je_tp (jd_cons je_str (jd_cons (je_var 7) jd_nil))) jd_nil)) (jd_cons je_int jd_nil)))) rfl (small_line' (m := 63) (by rw [List.length_map]; omega)) (jss_nil ?_))
        refine jst_if (jtt_of (jt_eqi (je_mod (je_int1 z.z_int (je_at (je_var 4) je_int rfl rfl a2)) je_int) je_int)) (fun _ => ?_) (fun _ => jst_nil (jst_nil (jst_nil (jst_nil ⟨es ++ [⟨.tuple [.str "source", .str nm, .none], srcK (nm, none), 0⟩], _, _, _, _, _, _, _, by rw [List.length_append, List.length_singleton]; omega, fun _ => by simp, fun e he => ?_, rfl, by simp⟩))))
        · have hq : Str.length ("q" : Str) = 1 := rfl
          have htl := textM_len n3
          refine jst_setT 8 (jet_cuts (jet_replace (je_cl c2 (jd_cons (je_at (je_var 4) je_int rfl rfl a3) jd_nil) ⟨_, rfl, rfl⟩) (by rw [hq]; omega)) jo_none (jo_some je_int) (rep_fit _ _ _ (by rw [hq]; omega))) (jst_of ?_)
          have hvt := vtM_ok n3
          have evt : cutS (Txt.replace (textM n3) "'" "q") none (some 20) = vtM n3 := rfl
          rw [evt]
          generalize vtM n3 = vt at hvt
          refine jss_setix (d := Qu.d ⟨.tuple [.str "source", .str nm, .str vt], srcK (nm, some vt), 0⟩) (l := 0) (ds := es.map Qu.d ++ [Qu.d ⟨.tuple [.str "source", .str nm, .none], srcK (nm, none), 0⟩]) (m := es.length) (je_tp (jd_cons (je_tp (jd_cons je_str (jd_cons (je_var 7) (jd_cons (je_var 8) jd_nil)))) (jd_cons (je_ls (jd_cons (je_tp (jd_cons je_str (jd_cons (je_var 7) jd_nil))) (jd_cons (je_tp (jd_cons je_str (jd_cons je_str jd_nil))) (jd_cons (je_tp (jd_cons je_str (jd_cons (je_var 8) jd_nil))) jd_nil)))) (jd_cons je_int jd_nil)))) (je_var 2) (je_neg je_int) rfl ?_ (jss_nil (jst_nil (jst_nil (jst_nil ⟨es ++ [⟨.tuple [.str "source", .str nm, .str vt], srcK (nm, some vt), 0⟩], _, _, _, _, _, _, _, by rw [List.length_append, List.length_singleton]; omega, fun _ => by simp, fun e he => ?_, rfl, ?_⟩))))
          · unfold ixN
            rw [List.length_append, List.length_map, List.length_singleton, if_neg (by omega), if_pos (by omega)]
            congr 1
            omega
          · rcases List.mem_append.mp he with h | h
            · exact (heo e h).mono (by omega) (by omega)
            · rw [List.mem_singleton] at h; subst h
              exact ⟨⟨_, .src (p := (nm, some vt)) ⟨hnm.1, hnm.2.1, hnm.2.2.2.2, fun v hv => by cases hv; exact hvt⟩⟩, by show 3 ≤ _; omega⟩
          · show [MO.ld _] = [MO.ld _]
            congr 2
            rw [List.map_append, show es.length = (es.map Qu.d).length by rw [List.length_map], List.set_append_right _ _ (Nat.le_refl _), Nat.sub_self]
            rfl
        · rcases List.mem_append.mp he with h | h
          · exact (heo e h).mono (by omega) (by omega)
          · rw [List.mem_singleton] at h; subst h
            exact ⟨⟨_, .src (p := (nm, none)) ⟨hnm.1, hnm.2.1, hnm.2.2.2.2, fun v hv => by cases hv⟩⟩, by show 1 ≤ _; omega⟩
      · rw [Bool.or_eq_false_iff] at e
        obtain ⟨xs, rfl⟩ := hl e.1
        obtain ⟨⟨ss1, hq1⟩, hl1⟩ := heo l (by simp)
        have hxl : xs.length + 1 ≤ i := by rw [List.length_append] at hel; exact hel
        have hs2 : (xs ++ [l]).map Qu.d = (xs.map Qu.d) ++ [l.d] := by simp
        refine jst_of (jss_appendQ (ds := xs.map Qu.d) (ds0 := (xs ++ [l]).map Qu.d) (je_var 2) (jeq_cl (c3 l) (jd_cons (je_pop (ds := xs.map Qu.d) (d := l.d) (je_var 2) (by rw [hs2]; rfl)) (jd_cons (je_var 4) (jd_cons (je_var 1) jd_nil))) ⟨dr, ns, hdl, hns, by omega, rfl⟩) rfl rfl (small_line' (m := 63) (by rw [List.length_map]; omega)) ?_)
        rintro d ⟨w, rest, more, dp, hw, hpm, hml, rfl⟩
        refine jss_nil (jst_nil (jst_nil ⟨xs ++ [⟨.tuple (.str w :: l.t :: rest), l.ks ++ (kBar :: more), dp⟩], _, _, _, _, _, _, _, by rw [List.length_append, List.length_singleton]; omega, fun _ => by simp, fun e he => ?_, rfl, by simp⟩))
        rcases List.mem_append.mp he with h | h
        · exact (heo e (List.mem_append_left _ h)).mono (by omega) (by omega)
        · rw [List.mem_singleton] at h; subst h
          refine ⟨⟨ss1, .one hq1 hw hpm⟩, ?_⟩
          show (l.ks ++ (kBar :: more)).length ≤ _
          simp only [List.length_append, List.length_cons]
          omega
    · obtain ⟨es, m3, m4, m5, m6, m7, m8, m9, hel, hen, heo, rfl, rfl⟩ := hI
      rw [List.length_map] at hel hen heo
      have hp8 : 2 ^ cs.length ≤ 64 := by
        have : cs.length = 1 ∨ cs.length = 2 ∨ cs.length = 3 ∨ cs.length = 4 ∨ cs.length = 5 ∨ cs.length = 6 := by omega
        rcases this with h | h | h | h | h | h <;> rw [h] <;> decide
      obtain ⟨e0, er, rfl⟩ : ∃ e0 er, es = e0 :: er := by
        cases es with
        | nil => have := hen hc0; simp at this
        | cons a r => exact ⟨a, r, rfl⟩
      have heo : ∀ e ∈ e0 :: er, okQu 6 90000 e := fun e he => (heo e he).mono hc6 (by omega)
      have herl : er.length ≤ 5 := by rw [List.length_cons] at hel; omega
      refine jst_of (jss_set 9 (je_at (d' := e0.d) (je_var 2) je_int rfl rfl (at_0 _ _)) ?_)
      refine jss_for (ji_cast (ds' := er.map Qu.d) (ji_list (je_cut (je_var 2) (jo_some je_int) jo_none rfl)) (cutD_tail _ _)) (fun j E S => ∃ (e : Qu) (m6 : Option AV), okQu (6 + j) (100000 * (j + 1)) e ∧ E = [some (.d (.list (cs.map PyData.int))), some (.d (.list (ns.map PyData.str))), some (.o 0), m3, m4, m5, m6, m7, m8, some (.d e.d)] ∧ S = [.ld ((e0 :: er).map Qu.d)])
        ⟨e0, _, (heo e0 (by simp)).mono (by omega) (by omega), rfl, rfl⟩ (fun j d E S hd hI => ?_) (fun E S hI => ?_)
      · obtain ⟨e, m6, he, rfl, rfl⟩ := hI
        rw [List.getElem?_map] at hd
        have hj : j < er.length := by
          rcases Nat.lt_or_ge j er.length with h | h
          · exact h
          · rw [List.getElem?_eq_none h] at hd; cases hd
        obtain ⟨o, ho, rfl⟩ : ∃ o : Qu, o ∈ er ∧ d = o.d := by
          rw [List.getElem?_eq_getElem hj] at hd; exact ⟨_, List.getElem_mem hj, (Option.some.inj hd).symm⟩
        have hok := heo o (List.mem_cons_of_mem _ ho)
        refine ⟨[6], _, jg_name 6, ?_⟩
        refine jss_if (jt_lt (je_at (d' := .int o.dp) (je_var 6) je_int rfl rfl rfl) je_int) (fun _ => ?_) (fun _ => jss_nil (jss_nil ⟨e, _, he.mono (by omega) (by omega), rfl, rfl⟩))
        obtain ⟨⟨ss1, hq1⟩, hl1⟩ := he
        obtain ⟨⟨ss2, hq2⟩, hl2⟩ := hok
        refine jss_setQ 9 (jeq_cl (c4 e o) (jd_cons (je_var 9) (jd_cons (je_var 6) (jd_cons (je_ls (jd_cons je_int jd_nil)) (jd_cons (je_var 1) jd_nil)))) ⟨[0], ns, .inr rfl, hns, by omega, by omega, rfl⟩) ?_
        rintro d ⟨w, rest, more, dp, hw, hpm, hml, rfl⟩
        refine jss_nil (jss_nil ⟨⟨.tuple (.str w :: e.t :: o.t :: rest), twK e o w more, dp⟩, _, ⟨⟨ss1 ++ ss2, QT.two (m := 6 + j) hq1 (hq2.mono (by omega)) hw hpm⟩, ?_⟩, rfl, rfl⟩)
        show (twK e o w more).length ≤ _
        unfold twK
        simp only [List.length_append, List.length_cons]
        omega
      · obtain ⟨e, m6, he, rfl, rfl⟩ := hI
        rw [List.length_map] at he
        exact jss_ret (je_var 9) ⟨_, ⟨e, he.mono (by omega) (by omega), rfl⟩, rfl⟩
/-! ### the scan of the tokens finds the sources -/
def npl (k : Str × Str) : Prop := k ≠ kJ ∧ k ≠ kU
def hitB (p2 p1 : Str × Str) : Bool := decide (p1 = kO) && (decide (p2 = kJ) || decide (p2 = kU))
def prM (x : Str × Str) (r : List (Str × Str)) : Option (Str × Option Str) := if r.head? = some kAt then (r[1]?).map fun v => (x.2, some v.2) else some (x.2, none)
def sc : Str × Str → Str × Str → List (Str × Str) → Option (List (Str × Option Str))
  | _, _, [] => some []
  | p2, p1, x :: r => if hitB p2 p1 = true then (prM x r).bind fun q => (sc p1 x r).map (q :: ·) else sc p1 x r
theorem hit_npl {p2 p1 : Str × Str} (h : npl p2) : hitB p2 p1 = false := by
  unfold hitB; rw [decide_eq_false h.1, decide_eq_false h.2]; simp
theorem hit_no {p2 p1 : Str × Str} (h : p1 ≠ kO) : hitB p2 p1 = false := by
  unfold hitB; rw [decide_eq_false h]; simp
theorem sc_no {p2 p1 x : Str × Str} {r : List (Str × Str)} (h : hitB p2 p1 = false) : sc p2 p1 (x :: r) = sc p1 x r := by
  rw [sc, if_neg (by rw [h]; decide)]
theorem sc_pl : ∀ (more : List (Str × Str)) {q2 q1 : Str × Str}, pl more → npl q2 → npl q1 → ∃ r2 r1, npl r2 ∧ npl r1 ∧ ∀ s, sc q2 q1 (more ++ s) = sc r2 r1 s
  | [], q2, q1, _, h2, h1 => ⟨q2, q1, h2, h1, fun s => rfl⟩
  | x :: m, q2, q1, hp, h2, h1 => by
    have hx := hp x List.mem_cons_self
    obtain ⟨r2, r1, a, b, c⟩ := sc_pl m (q2 := q1) (q1 := x) (fun k hk => hp k (List.mem_cons_of_mem _ hk)) h1 ⟨hx.1, hx.2.1⟩
    exact ⟨r2, r1, a, b, fun s => by rw [List.cons_append, sc_no (hit_npl h2), c s]⟩
theorem npl_src {p : Str × Option Str} (h : okPr p) : npl (("word" : Str), p.1) := ⟨fun e => h.1 (congrArg Prod.snd e), fun e => h.2.1 (congrArg Prod.snd e)⟩
theorem npl_kO : npl kO := by unfold npl; decide
theorem npl_kAt : npl kAt := by unfold npl; decide
theorem npl_kBar : npl kBar := by unfold npl; decide
theorem npl_kCl : npl kCl := by unfold npl; decide
theorem npl_str (v : Str) : npl (("string" : Str), v) := ⟨fun e => absurd (congrArg Prod.fst e) (show ("string" : Str) ≠ "word" by decide), fun e => absurd (congrArg Prod.fst e) (show ("string" : Str) ≠ "word" by decide)⟩
theorem word_kO (a : Str) : (("word" : Str), a) ≠ kO := fun e => absurd (congrArg Prod.fst e) (show ("word" : Str) ≠ "sign" by decide)
theorem hd_bar (s : List (Str × Str)) : (kBar :: s).head? ≠ some kAt := show some kBar ≠ some kAt by decide
theorem hd_cl (s : List (Str × Str)) : (kCl :: s).head? ≠ some kAt := show some kCl ≠ some kAt by decide
theorem sc_QT {m : Nat} {ss : List (Str × Option Str)} {t : PyData} {ks : List (Str × Str)} (h : QT m ss t ks) : ∀ {p2 : Str × Str}, (p2 = kJ ∨ p2 = kU) → ∃ q2 q1, npl q2 ∧ npl q1 ∧ ∀ s : List (Str × Str), s.head? ≠ some kAt → sc p2 kO (ks ++ s) = (sc q2 q1 s).map (ss ++ ·) := by
  induction h with
  | @src m p a =>
    intro p2 hp2
    have hh : hitB p2 kO = true := by unfold hitB; rcases hp2 with rfl | rfl <;> decide
    obtain ⟨n, v⟩ := p
    cases v with
    | none =>
      refine ⟨kO, _, npl_kO, npl_src a, fun s hs => ?_⟩
      show sc p2 kO ((("word" : Str), n) :: s) = _
      rw [sc, if_pos hh, prM, if_neg hs, Option.bind_some]
      rfl
    | some v =>
      refine ⟨kAt, _, npl_kAt, npl_str v, fun s hs => ?_⟩
      show sc p2 kO ((("word" : Str), n) :: kAt :: (("string" : Str), v) :: s) = _
      have e : prM (("word" : Str), n) (kAt :: (("string" : Str), v) :: s) = some (n, some v) := by unfold prM; exact if_pos rfl
      rw [sc, if_pos hh, e, Option.bind_some, sc_no (hit_npl npl_kO), sc_no (hit_no (by decide))]
      rfl
  | @one m ss t ks more w rest hq hw hp ih =>
    intro p2 hp2
    obtain ⟨q2, q1, n2, n1, hs⟩ := ih hp2
    obtain ⟨r2, r1, a, b, c⟩ := sc_pl (kBar :: more) (q2 := q2) (q1 := q1) (pl_app pl_kB hp) n2 n1
    refine ⟨r2, r1, a, b, fun s h => ?_⟩
    rw [List.append_assoc, hs _ (by rw [List.cons_append]; exact show some kBar ≠ some kAt by decide), c s]
  | @two m ss ss2 t t2 ks ks2 more w rest hq hq2 hw hp i1 i2 =>
    intro p2 hp2
    obtain ⟨q2, q1, n2, n1, hs⟩ := i1 hp2
    have hw' : (("word" : Str), w) = kJ ∨ (("word" : Str), w) = kU := by rcases hw with rfl | rfl; exact .inl rfl; exact .inr rfl
    obtain ⟨q4, q3, n4, n3, hs2⟩ := i2 hw'
    obtain ⟨r2, r1, a, b, c⟩ := sc_pl (kCl :: more) (q2 := q4) (q1 := q3) (pl_app (pl_one (.inl (by decide))) hp) n4 n3
    refine ⟨r2, r1, a, b, fun s h => ?_⟩
    rw [List.append_assoc, List.cons_append, hs _ (hd_bar _)]
    rw [sc_no (hit_npl n2), List.cons_append, sc_no (hit_npl n1), List.cons_append, sc_no (hit_npl npl_kBar), List.append_assoc, List.cons_append, hs2 _ (hd_cl _), ← List.cons_append, c s, Option.map_map]
    congr 1
    funext l
    show ss ++ (ss2 ++ l) = _
    rw [List.append_assoc]
theorem sc_all {m : Nat} {ss : List (Str × Option Str)} {t : PyData} {ks : List (Str × Str)} (h : QT m ss t ks) : sc kU kO ks = some ss := by
  obtain ⟨q2, q1, _, _, hs⟩ := sc_QT h (p2 := kU) (.inr rfl)
  have := hs [] (by decide)
  rw [List.append_nil] at this
  rw [this]
  show some (ss ++ []) = _
  rw [List.append_nil]
theorem QT.tks {m : Nat} {ss : List (Str × Option Str)} {t : PyData} {ks : List (Str × Str)} (h : QT m ss t ks) : ∀ k ∈ ks, okTk k := by
  induction h with
  | @src m p a =>
    obtain ⟨n, v⟩ := p
    intro k hk
    cases v with
    | none =>
      rw [show srcK (n, none) = [(("word" : Str), n)] from rfl, List.mem_singleton] at hk
      subst hk
      exact ⟨all_word, a.2.2.1⟩
    | some v =>
      rw [show srcK (n, some v) = [(("word" : Str), n), kAt, (("string" : Str), v)] from rfl] at hk
      rcases List.mem_cons.mp hk with rfl | hk
      · exact ⟨all_word, a.2.2.1⟩
      · rcases List.mem_cons.mp hk with rfl | hk
        · decide +kernel
        · rw [List.mem_singleton] at hk
          subst hk
          exact ⟨show ("string" : Str).cps.all _ = true by decide +kernel, a.2.2.2 v rfl⟩
  | one hq hw hp ih =>
    intro k hk
    rcases List.mem_append.mp hk with h | h
    · exact ih k h
    · rcases List.mem_cons.mp h with rfl | h
      · decide +kernel
      · exact (hp k h).2.2
  | two hq hq2 hw hp i1 i2 =>
    intro k hk
    rcases List.mem_append.mp hk with h | h
    · exact i1 k h
    · rcases List.mem_cons.mp h with rfl | h
      · decide +kernel
      · rcases List.mem_cons.mp h with rfl | h
        · rcases hw with rfl | rfl <;> decide +kernel
        · rcases List.mem_cons.mp h with rfl | h
          · decide +kernel
          · rcases List.mem_append.mp h with h | h
            · exact i2 k h
            · rcases List.mem_cons.mp h with rfl | h
              · decide +kernel
              · exact (hp k h).2.2
def addP (acc : List (Str × Option Str)) (p : Str × Option Str) : List (Str × Option Str) := if p ∈ acc then acc else acc ++ [p]
def dd (acc ss : List (Str × Option Str)) : List (Str × Option Str) := ss.foldl addP acc
theorem dd_app (acc a b : List (Str × Option Str)) : dd acc (a ++ b) = dd (dd acc a) b := List.foldl_append ..
theorem addP_len (acc : List (Str × Option Str)) (p : Str × Option Str) : (addP acc p).length ≤ acc.length + 1 := by
  unfold addP; split
  · omega
  · simp
theorem dd_len : ∀ (ss acc : List (Str × Option Str)), (dd acc ss).length ≤ acc.length + ss.length
  | [], acc => Nat.le_refl _
  | p :: r, acc => by
    have h := dd_len r (addP acc p)
    have := addP_len acc p
    rw [List.length_cons]
    exact Nat.le_trans h (by omega)
theorem dd_ok : ∀ (ss : List (Str × Option Str)) {acc : List (Str × Option Str)}, (∀ p ∈ acc, okPr p) → (∀ p ∈ ss, okPr p) → ∀ p ∈ dd acc ss, okPr p
  | [], acc, h, _ => h
  | q :: r, acc, h, h2 => dd_ok r (acc := addP acc q) (fun p hp => by
      unfold addP at hp
      split at hp
      · exact h p hp
      · rcases List.mem_append.mp hp with hp | hp
        · exact h p hp
        · rw [List.mem_singleton] at hp; subst hp; exact h2 _ List.mem_cons_self) (fun p hp => h2 p (List.mem_cons_of_mem _ hp))
theorem eqv_prD (a b : Str × Option Str) : PyData.eqv (prD a) (prD b) = decide (a = b) := by
  obtain ⟨a1, a2⟩ := a
  obtain ⟨b1, b2⟩ := b
  have e : PyData.eqv (prD (a1, a2)) (prD (b1, b2)) = ((a1 == b1) && (PyData.eqv (vD a2) (vD b2) && true)) := by
    unfold prD
    rw [PyData.eqv, PyData.eqvAll, PyData.eqvAll, PyData.eqvAll, PyData.eqv]
  rw [e, Bool.and_true]
  have e2 : PyData.eqv (vD a2) (vD b2) = decide (a2 = b2) := by
    cases a2 <;> cases b2
    · rfl
    · rfl
    · rfl
    · rename_i x y
      show (x == y) = _
      by_cases h : x = y
      · subst h; simp
      · simp [h]
  rw [e2]
  by_cases h : a1 = b1
  · subst h
    by_cases h2 : a2 = b2
    · subst h2; simp
    · simp [h2]
  · simp [h]
theorem any_prD (acc : List (Str × Option Str)) (p : Str × Option Str) : ((acc.map prD).any fun z => PyData.eqv z (prD p)) = decide (p ∈ acc) := by
  induction acc with
  | nil => rfl
  | cons a r ih =>
    rw [List.map_cons, List.any_cons, ih, eqv_prD]
    by_cases h : a = p
    · subst h; simp
    · have : ¬ p = a := fun e => h e.symm
      simp [h, this]
theorem eqv_tk (a b : Str × Str) : PyData.eqv (tkD a) (tkD b) = decide (a = b) := by
  obtain ⟨a1, a2⟩ := a
  obtain ⟨b1, b2⟩ := b
  have e : PyData.eqv (tkD (a1, a2)) (tkD (b1, b2)) = ((a1 == b1) && ((a2 == b2) && true)) := by
    unfold tkD
    rw [PyData.eqv, PyData.eqvAll, PyData.eqvAll, PyData.eqvAll, PyData.eqv, PyData.eqv]
  rw [e, Bool.and_true]
  by_cases h : a1 = b1
  · subst h
    by_cases h2 : a2 = b2
    · subst h2; simp
    · simp [h2]
  · simp [h]
theorem shaped_pr {p : Str × Option Str} (h : okPr p) : SeqAt.shaped (prD p) = true := by
  obtain ⟨n, v⟩ := p
  have hv : PyData.canLay0 (vD v) = true := by
    cases v with
    | none => rfl
    | some v => exact h.2.2.2 v rfl
  have hd : PyData.depth (vD v) = 0 := by cases v <;> rfl
  show ((PyData.canLay0 (.str n) && (PyData.canLay0 (vD v) && true)) && decide (max 0 (max (PyData.depth (vD v)) 0) + 1 ≤ 64)) = true
  rw [hv, hd, okR h.2.2.1]; rfl
theorem shaped_prs {l : List (Str × Option Str)} (h : ∀ p ∈ l, okPr p) : SeqAt.shaped (.list (l.map prD)) = true := by
  have h1 : ∀ l : List (Str × Option Str), (∀ p ∈ l, okPr p) → PyData.canLayAll0 (l.map prD) = true ∧ PyData.depthAll (l.map prD) ≤ 1 := by
    intro l
    induction l with
    | nil => exact fun _ => ⟨rfl, Nat.zero_le _⟩
    | cons a r ih =>
      intro h
      obtain ⟨i1, i2⟩ := ih fun c hc => h c (List.mem_cons_of_mem _ hc)
      have ha := h a List.mem_cons_self
      obtain ⟨n, v⟩ := a
      have hv : PyData.canLay0 (vD v) = true := by
        cases v with
        | none => rfl
        | some v => exact ha.2.2.2 v rfl
      have hd : PyData.depth (vD v) = 0 := by cases v <;> rfl
      refine ⟨?_, ?_⟩
      · show ((PyData.canLay0 (.str n) && (PyData.canLay0 (vD v) && true)) && PyData.canLayAll0 (r.map prD)) = true
        rw [i1, hv, okR ha.2.2.1]; rfl
      · show max (max 0 (max (PyData.depth (vD v)) 0) + 1) (PyData.depthAll (r.map prD)) ≤ 1
        rw [hd]
        simp only [Nat.max_self]
        omega
  obtain ⟨a, b⟩ := h1 l h
  show (PyData.canLayAll0 _ && decide (PyData.depthAll _ + 1 ≤ 64)) = true
  rw [a, Bool.true_and]
  exact decide_eq_true (by omega)
theorem shaped_tk {k : Str × Str} (h : okTk k) : SeqAt.shaped (tkD k) = true := by
  show ((PyData.canLay0 (.str k.1) && (PyData.canLay0 (.str k.2) && true)) && true) = true
  rw [okR h.1, okR h.2]; rfl
/-! ### the sources of a query, two ways -/
def R_srcs (ds : List PyData) (r : PyData) : Prop := ∃ (m : Nat) (ss : List (Str × Option Str)) (t : PyData) (ks : List (Str × Str)), QT m ss t ks ∧ ks.length ≤ 1000000 ∧ ds = [.list (ks.map tkD)] ∧ r = .list ((dd [] ss).map prD)
theorem eqv_at (l : List (Str × Str)) (h : l.length ≤ 1) : PyData.eqv (.list (l.map tkD)) (.list [tkD kAt]) = decide (l.head? = some kAt) := by
  match l, h with
  | [], _ => rfl
  | [a], _ =>
    show (PyData.eqv (tkD a) (tkD kAt) && true) = decide (some a = some kAt)
    rw [eqv_tk, Bool.and_true]
    simp
theorem any_ju (p : Str × Str) : ([tkD kJ, tkD kU].any fun z => PyData.eqv z (tkD p)) = (decide (p = kJ) || decide (p = kU)) := by
  rw [List.any_cons, List.any_cons, List.any_nil, eqv_tk, eqv_tk, Bool.or_false]
  have e1 : decide (kJ = p) = decide (p = kJ) := by by_cases h : kJ = p; subst h; rfl; rw [decide_eq_false h, decide_eq_false (fun e => h e.symm)]
  have e2 : decide (kU = p) = decide (p = kU) := by by_cases h : kU = p; subst h; rfl; rw [decide_eq_false h, decide_eq_false (fun e => h e.symm)]
  rw [e1, e2]
theorem cal__law_sources {b : Bs} {f : Addr} {fd : FuncData} (z : ZB b) (F : Fun b.K "_law_sources" "_law_sources" s__law_sources f fd) (hm : b.mg "_law_sources" = some (.ref f)) : Cal b "_law_sources" 1 R_srcs := by
  refine ⟨f, fd, p__law_sources, fn_data F sc__law_sources (fun ds r h => ?_) (fun cd A outer s H hr ds r h => ?_), hm, F.kp, F.binds fun _ _ _ _ _ _ us hl => match us, hl with | [_], _ => rfl⟩
  · obtain ⟨_, _, _, _, _, _, rfl, _⟩ := h; rfl
  · obtain ⟨m, ss, t, ks, hQ, hkl, rfl, rfl⟩ := h
    have hok := hQ.okp
    have htk := hQ.tks
    have hsl := hQ.len.1
    refine jss_set 1 (je_lo jd_nil) ?_
    refine jss_for (ji_range1 (ja_cons (je_len z.z_len (je_var 0) rfl rfl) ja_nil) z.z_range (by omega) (by rw [List.length_map]; omega)) (fun k E S => ∃ (sa rest : List (Str × Option Str)) (p2 p1 : Str × Str) (m2 m3 m4 : Option AV), sc p2 p1 (ks.drop k) = some rest ∧ sa ++ rest = ss ∧ (k = 0 → p2 = kU ∧ p1 = kO) ∧ (k = 1 → p2 = kO) ∧ (0 < k → ks[k - 1]? = some p1) ∧ (1 < k → ks[k - 2]? = some p2) ∧ E = [some (.d (.list (ks.map tkD))), some (.o 0), m2, m3, m4] ∧ S = [.ld ((dd [] sa).map prD)])
      ⟨[], ss, kU, kO, none, none, none, sc_all hQ, rfl, fun _ => ⟨rfl, rfl⟩, fun h => by omega, fun h => by omega, fun h => by omega, rfl, rfl⟩ (fun k d E S hd hI => ?_) (fun E S hI => ?_)
    · obtain ⟨sa, rest, p2, p1, m2, m3, m4, hsc, hsr, h0, h1, hp1, hp2, rfl, rfl⟩ := hI
      obtain ⟨hi, rfl⟩ := rngD_get hd
      have hk : k < ks.length := by rw [List.length_map] at hi; omega
      rw [Int.zero_add]
      have hdr : ks.drop k = ks[k] :: ks.drop (k + 1) := List.drop_eq_getElem_cons hk
      have hxt : okTk ks[k] := htk _ (List.getElem_mem hk)
      have hxat : atI (ks.map tkD) (k : Int) = some (tkD ks[k]) := atI_nat (by rw [List.getElem?_map, List.getElem?_eq_getElem hk]; rfl)
      have hkx : ks[k]? = some ks[k] := List.getElem?_eq_getElem hk
      generalize ks[k] = x at hdr hxt hxat hkx
      rw [hdr] at hsc
      have hsal : (dd [] sa).length ≤ 1000000 := by
        have := dd_len sa []
        have h2 : sa.length ≤ ss.length := by rw [← hsr, List.length_append]; omega
        simp only [List.length_nil] at this
        omega
      have hdok : ∀ p ∈ dd [] sa, okPr p := dd_ok sa (fun p hp => by cases hp) (fun p hp => hok p (by rw [← hsr]; exact List.mem_append_left _ hp))
      have m1 : 1 < k → atI (ks.map tkD) ((k : Int) - 1) = some (tkD p1) ∧ okTk p1 := fun h => by
        have e := hp1 (by omega)
        refine ⟨?_, htk _ (List.mem_of_getElem? e)⟩
        rw [show (k : Int) - 1 = ((k - 1 : Nat) : Int) by omega]
        exact atI_nat (by rw [List.getElem?_map, e]; rfl)
      have m2' : 1 < k → atI (ks.map tkD) ((k : Int) - 2) = some (tkD p2) ∧ okTk p2 := fun h => by
        have e := hp2 h
        refine ⟨?_, htk _ (List.mem_of_getElem? e)⟩
        rw [show (k : Int) - 2 = ((k - 2 : Nat) : Int) by omega]
        exact atI_nat (by rw [List.getElem?_map, e]; rfl)
      have toN : decide ((1 : Int) < (k : Int)) = true → 1 < k := fun h => by have := of_decide_eq_true h; omega
      refine ⟨[2], _, jg_name 2, ?_⟩
      refine jss_set 3 (je_and (x := decide ((1 : Int) < (k : Int))) (y := decide (p1 = kO) && (decide (p2 = kJ) || decide (p2 = kU))) (je_gt (je_var 2) je_int) (fun e => je_and (x := decide (p1 = kO)) (y := decide (p2 = kJ) || decide (p2 = kU)) (je_castI (je_eqD (je_at (je_var 0) (je_sub (je_var 2) je_int) rfl rfl (m1 (toN e)).1) (je_tp (jd_cons je_str (jd_cons je_str jd_nil))) rfl rfl (shaped_tk (m1 (toN e)).2) (shaped_tk (k := kO) (by decide +kernel))) (congrArg PyData.bool (eqv_tk p1 kO))) (fun _ => je_one (je_castI (je_inD (je_at (je_var 0) (je_sub (je_var 2) je_int) rfl rfl (m2' (toN e)).1) (je_ls (jd_cons (je_tp (jd_cons je_str (jd_cons je_str jd_nil))) (jd_cons (je_tp (jd_cons je_str (jd_cons je_str jd_nil))) jd_nil))) rfl rfl (shaped_tk (m2' (toN e)).2) (shaped_tks (ks := [kJ, kU]) (by decide +kernel))) (congrArg PyData.bool (any_ju p2)))) (fun _ => rfl)) (fun _ => rfl)) ?_
      have hz : (decide ((k : Int) = 0) || (decide ((1 : Int) < (k : Int)) && (decide (p1 = kO) && (decide (p2 = kJ) || decide (p2 = kU))))) = hitB p2 p1 := by
        rcases Nat.lt_or_ge 1 k with h | h
        · rw [decide_eq_true (show (1 : Int) < (k : Int) by omega), decide_eq_false (show ¬ (k : Int) = 0 by omega)]; rfl
        · rw [decide_eq_false (show ¬ (1 : Int) < (k : Int) by omega), Bool.false_and, Bool.or_false]
          have : k = 0 ∨ k = 1 := by omega
          rcases this with e | e
          · obtain ⟨rfl, rfl⟩ := h0 e
            rw [decide_eq_true (show (k : Int) = 0 by omega)]; decide
          · have := h1 e
            subst this
            rw [decide_eq_false (show ¬ (k : Int) = 0 by omega), hit_npl npl_kO]
      generalize (decide ((1 : Int) < (k : Int)) && (decide (p1 = kO) && (decide (p2 = kJ) || decide (p2 = kU)))) = inn at hz
      refine jss_if (z := hitB p2 p1) (jt_w (jw_or (x := decide ((k : Int) = 0)) (y := inn) (jt_eqi (je_var 2) je_int) (fun _ => jw_or1 (jt_val (je_var 3))) (fun _ => rfl) hz.symm)) (fun e => ?_) (fun e => ?_)
      · rw [sc, if_pos e] at hsc
        obtain ⟨q, hq, hsc⟩ := Option.bind_eq_some_iff.mp hsc
        obtain ⟨rest', hsc2, rfl⟩ := Option.map_eq_some_iff.mp hsc
        have hcut : cutD (ks.map tkD) (some ((k : Int) + 1)) (some ((k : Int) + 2)) = ((ks.drop (k + 1)).take 1).map tkD := by
          unfold AL.cutD
          rw [show (k : Int) + 1 = ((k + 1 : Nat) : Int) from rfl, show (k : Int) + 2 = ((k + 2 : Nat) : Int) from rfl, HT.sIx_nat, HT.sIx_nat, List.length_map, Nat.min_eq_left (show k + 1 ≤ ks.length by omega), ← List.map_drop, ← List.map_take]
          rcases Nat.lt_or_ge (k + 1) ks.length with h | h
          · rw [Nat.min_eq_left (show k + 2 ≤ ks.length by omega), show k + 2 - (k + 1) = 1 by omega]
          · rw [List.drop_eq_nil_of_le h]; simp
        have hhd : ((ks.drop (k + 1)).take 1).head? = (ks.drop (k + 1)).head? := by cases ks.drop (k + 1) <;> rfl
        refine jss_set 4 (je_tp (jd_cons (je_at (d' := .str x.2) (je_at (je_var 0) (je_var 2) rfl rfl hxat) je_int rfl rfl rfl) (jd_cons je_non jd_nil))) ?_
        refine jss_ifM (fun E S => E = [some (.d (.list (ks.map tkD))), some (.o 0), some (.d (.int (k : Int))), some (.d (.bool inn)), some (.d (prD q))] ∧ S = [.ld ((dd [] sa).map prD)]) (jt_cast (jt_eqD (je_castI (je_cut (je_var 0) (jo_some (je_add (je_var 2) je_int)) (jo_some (je_add (je_var 2) je_int)) rfl) (congrArg PyData.list hcut)) (je_ls (jd_cons (je_tp (jd_cons je_str (jd_cons je_str jd_nil))) jd_nil)) rfl rfl (shaped_tks fun y hy => htk y (List.mem_of_mem_drop (List.mem_of_mem_take hy))) (shaped_tks (ks := [kAt]) (by decide +kernel))) (eqv_at _ (by rw [List.length_take]; omega))) (fun e2 => ?_) (fun e2 => ?_) ?_
        · have e2 := of_decide_eq_true e2
          rw [hhd] at e2
          rw [prM, if_pos e2] at hq
          obtain ⟨v, hv, rfl⟩ := Option.map_eq_some_iff.mp hq
          rw [List.getElem?_drop] at hv
          have hvat : atI (ks.map tkD) ((k : Int) + 2) = some (tkD v) := by
            rw [show (k : Int) + 2 = ((k + 1 + 1 : Nat) : Int) by omega]
            exact atI_nat (by rw [List.getElem?_map, hv]; rfl)
          exact jss_set 4 (je_tp (jd_cons (je_at (d' := .str x.2) (je_at (je_var 0) (je_var 2) rfl rfl hxat) je_int rfl rfl rfl) (jd_cons (je_at (d' := .str v.2) (je_at (je_var 0) (je_add (je_var 2) je_int) rfl rfl hvat) je_int rfl rfl rfl) jd_nil))) (jss_nil ⟨rfl, rfl⟩)
        · have e2 := of_decide_eq_false e2
          rw [hhd] at e2
          rw [prM, if_neg e2] at hq
          cases hq
          exact jss_nil ⟨rfl, rfl⟩
        rintro E S ⟨rfl, rfl⟩
        have hqok : okPr q := hok q (by rw [← hsr]; simp)
        have hnext : ∀ S' : Sto, S' = [.ld ((dd [] (sa ++ [q])).map prD)] → ∃ (sa2 rest2 : List (Str × Option Str)) (p2' p1' : Str × Str) (m2 m3 m4 : Option AV), sc p2' p1' (ks.drop (k + 1)) = some rest2 ∧ sa2 ++ rest2 = ss ∧ (k + 1 = 0 → p2' = kU ∧ p1' = kO) ∧ (k + 1 = 1 → p2' = kO) ∧ (0 < k + 1 → ks[k + 1 - 1]? = some p1') ∧ (1 < k + 1 → ks[k + 1 - 2]? = some p2') ∧ [some (AV.d (.list (ks.map tkD))), some (.o 0), some (.d (.int (k : Int))), some (.d (.bool inn)), some (.d (prD q))] = [some (.d (.list (ks.map tkD))), some (.o 0), m2, m3, m4] ∧ S' = [.ld ((dd [] sa2).map prD)] := fun S' hS => by
          refine ⟨sa ++ [q], rest', p1, x, _, _, _, hsc2, by rw [List.append_assoc]; exact hsr, fun h => by omega, fun h => (h0 (by omega)).2, fun _ => hkx, fun h => ?_, rfl, hS⟩
          rw [show k + 1 - 2 = k - 1 by omega]; exact hp1 (by omega)
        have hdd : dd [] (sa ++ [q]) = addP (dd [] sa) q := by rw [dd_app]; rfl
        refine jss_if (z := !decide (q ∈ dd [] sa)) (jt_cast (jt_notinD (je_var 4) (je_var 1) rfl rfl (shaped_pr hqok) (shaped_prs hdok)) (by rw [any_prD])) (fun e3 => ?_) (fun e3 => ?_)
        · have e3 : ¬ q ∈ dd [] sa := by simpa using e3
          refine jss_append (d := prD q) (je_var 1) (je_var 4) rfl (small_line' (m := 1000001) (by rw [List.length_map]; omega)) (jss_nil (jss_nil (jss_nil (hnext _ ?_))))
          rw [hdd, addP, if_neg e3, List.map_append]; rfl
        · have e3 : q ∈ dd [] sa := by simpa using e3
          refine jss_nil (jss_nil (jss_nil (hnext _ ?_)))
          rw [hdd, addP, if_pos e3]
      · rw [sc, if_neg (by rw [e]; decide)] at hsc
        refine jss_nil (jss_nil ⟨sa, rest, p1, x, _, _, _, hsc, hsr, fun h => by omega, fun h => (h0 (by omega)).2, fun _ => hkx, fun h => ?_, rfl, rfl⟩)
        rw [show k + 1 - 2 = k - 1 by omega]; exact hp1 (by omega)
    · obtain ⟨sa, rest, p2, p1, m2, m3, m4, hsc, hsr, h0, h1, hp1, hp2, rfl, rfl⟩ := hI
      rw [rngD_len, List.length_map, Int.toNat_natCast, List.drop_length, sc] at hsc
      cases hsc
      rw [List.append_nil] at hsr
      subst hsr
      exact jss_retf (je_var 1) rfl rfl
/-! ### equal things, part by part -/
def okV : Nat → PyData → Prop
  | _, .none => True
  | _, .int _ => True
  | _, .str _ => True
  | n + 1, .tuple xs => (∀ x ∈ xs, okV n x) ∧ xs.length ≤ 2000000
  | _, _ => False
def R_same (n : Nat) (ds : List PyData) (r : PyData) : Prop := ∃ x, okV n x ∧ ds = [x, x] ∧ r = .bool true
theorem cal__law_same {b : Bs} {f : Addr} {fd : FuncData} (z : ZB b) (F : Fun b.K "_law_same" "_law_same" s__law_same f fd) (hm : b.mg "_law_same" = some (.ref f)) : ∀ n, Cal b "_law_same" (n + 1) (R_same n) := by
  intro n
  induction n with
  | zero =>
    refine ⟨f, fd, p__law_same, fn_data F sc__law_same (fun ds r h => ?_) (fun cd A outer s H hr ds r h => ?_), hm, F.kp, F.binds fun _ _ _ _ _ _ us hl => match us, hl with | [_, _], _ => rfl⟩
    · obtain ⟨_, _, rfl, _⟩ := h; rfl
    · obtain ⟨x, hx, rfl, rfl⟩ := h
      cases x with
      | none => exact jss_if (jt_isN (je_var 1)) (fun _ => jss_ret (je_isN (je_var 0)) rfl) (fun e => by cases e)
      | int i => exact jss_if (jt_isN (je_var 1)) (fun e => by cases e) (fun _ => jss_nil (jss_if (jt_val (je_istup z.z_isinstance z.z_tuple (je_var 1) rfl)) (fun e => by cases e) (fun _ => jss_nil (jss_if (jt_val (je_isstr z.z_isinstance z.z_str (je_var 1) rfl)) (fun e => by cases e) (fun _ => jss_nil (jss_ret (je_and (je_isint z.z_isinstance z.z_int (je_var 0) rfl) (fun _ => je_and (je_not (je_isbool z.z_isinstance z.z_bool (je_var 0) rfl)) (fun _ => je_one (je_eqi (je_var 0) (je_var 1))) (fun _ => rfl)) (fun _ => rfl)) (by simp [isIntD, isBoolD])))))))
      | str y => exact jss_if (jt_isN (je_var 1)) (fun e => by cases e) (fun _ => jss_nil (jss_if (jt_val (je_istup z.z_isinstance z.z_tuple (je_var 1) rfl)) (fun e => by cases e) (fun _ => jss_nil (jss_if (jt_val (je_isstr z.z_isinstance z.z_str (je_var 1) rfl)) (fun _ => jss_ret (je_and (je_isstr z.z_isinstance z.z_str (je_var 0) rfl) (fun _ => je_one (je_eqs (je_var 0) (je_var 1))) (fun _ => rfl)) (by simp [isStrD])) (fun e => by cases e)))))
      | _ => simp only [okV] at hx
  | succ n ih =>
    refine ⟨f, fd, p__law_same, fn_data F sc__law_same (fun ds r h => ?_) (fun cd A outer s H hr ds r h => ?_), hm, F.kp, F.binds fun _ _ _ _ _ _ us hl => match us, hl with | [_, _], _ => rfl⟩
    · obtain ⟨_, _, rfl, _⟩ := h; rfl
    · obtain ⟨x, hx, rfl, rfl⟩ := h
      cases x with
      | none => exact jss_if (jt_isN (je_var 1)) (fun _ => jss_ret (je_isN (je_var 0)) rfl) (fun e => by cases e)
      | int i => exact jss_if (jt_isN (je_var 1)) (fun e => by cases e) (fun _ => jss_nil (jss_if (jt_val (je_istup z.z_isinstance z.z_tuple (je_var 1) rfl)) (fun e => by cases e) (fun _ => jss_nil (jss_if (jt_val (je_isstr z.z_isinstance z.z_str (je_var 1) rfl)) (fun e => by cases e) (fun _ => jss_nil (jss_ret (je_and (je_isint z.z_isinstance z.z_int (je_var 0) rfl) (fun _ => je_and (je_not (je_isbool z.z_isinstance z.z_bool (je_var 0) rfl)) (fun _ => je_one (je_eqi (je_var 0) (je_var 1))) (fun _ => rfl)) (fun _ => rfl)) (by simp [isIntD, isBoolD])))))))
      | str y => exact jss_if (jt_isN (je_var 1)) (fun e => by cases e) (fun _ => jss_nil (jss_if (jt_val (je_istup z.z_isinstance z.z_tuple (je_var 1) rfl)) (fun e => by cases e) (fun _ => jss_nil (jss_if (jt_val (je_isstr z.z_isinstance z.z_str (je_var 1) rfl)) (fun _ => jss_ret (je_and (je_isstr z.z_isinstance z.z_str (je_var 0) rfl) (fun _ => je_one (je_eqs (je_var 0) (je_var 1))) (fun _ => rfl)) (by simp [isStrD])) (fun e => by cases e)))))
      | tuple xs =>
        simp only [okV] at hx
        refine jss_if (jt_isN (je_var 1)) (fun e => by cases e) (fun _ => jss_nil (jss_if (jt_val (je_istup z.z_isinstance z.z_tuple (je_var 1) rfl)) (fun _ => ?_) (fun e => by cases e)))
        refine jss_if (jt_w (jw_or (jt_not (jt_val (je_istup z.z_isinstance z.z_tuple (je_var 0) rfl))) (fun _ => jw_or1 (jt_nei (je_len z.z_len (je_var 0) rfl rfl) (je_len z.z_len (je_var 1) rfl rfl))) (fun _ => rfl))) (fun e => ?_) (fun _ => jss_nil ?_)
        · simp [isTupD] at e
        refine jss_for (ji_range1 (ja_cons (je_len z.z_len (je_var 1) rfl rfl) ja_nil) z.z_range (by omega) (by omega)) (fun i E S => ∃ m2, E = [some (.d (.tuple xs)), some (.d (.tuple xs)), m2] ∧ S = []) ⟨none, rfl, rfl⟩ ?_ ?_
        · rintro i d E S hd ⟨m2, rfl, rfl⟩
          obtain ⟨hi, rfl⟩ := rngD_get hd
          have hi' : i < xs.length := by simpa using hi
          have ha : atI xs (0 + (i : Int)) = some xs[i] := by rw [Int.zero_add]; exact atI_nat (List.getElem?_eq_getElem hi')
          refine ⟨_, _, jg_name 2, ?_⟩
          exact jss_if (jt_not (jt_val (je_cl ih (jd_cons (je_at (je_var 0) (je_var 2) rfl rfl ha) (jd_cons (je_at (je_var 1) (je_var 2) rfl rfl ha) jd_nil)) ⟨xs[i], hx.1 _ (List.getElem_mem hi'), rfl, rfl⟩ (Nat.le_refl _)))) (fun e => by cases e) (fun _ => jss_nil (jss_nil ⟨_, rfl, rfl⟩))
        · rintro E S ⟨m2, rfl, rfl⟩
          exact jss_ret je_bl rfl
      | _ => simp only [okV] at hx
def R_add (m : Nat) (avs : List AV) (S : Sto) (r : ResA) (S' : Sto) : Prop := ∃ (ss : List (Str × Option Str)) (t : PyData) (ks : List (Str × Str)) (l : Nat) (acc : List (Str × Option Str)), QT m ss t ks ∧ S[l]? = some (.ld (acc.map prD)) ∧ (∀ p ∈ acc, okPr p) ∧ acc.length + ss.length ≤ 2000000 ∧ avs = [.d t, .o l] ∧ r = .ok (.d .none) ∧ S' = S.set l (.ld ((dd acc ss).map prD))
theorem set_at {S : Sto} {l : Nat} {o o' : MO} (h : S[l]? = some o) : (S.set l o')[l]? = some o' := List.getElem?_set_self (List.getElem?_eq_some_iff.mp h).1
theorem cal_add_sources {b : Bs} {f : Addr} {fd : FuncData} (z : ZB b) (F : Fun b.K "add_sources" "add_sources" s_add_sources f fd) (hm : b.mg "add_sources" = some (.ref f)) : ∀ m, CalO none b "add_sources" (m + 1) (R_add m) := by
  intro m
  have src : ∀ (k : Nat) (cd : Value) (A : Around) (outer : List Env) (s : Shared) (H : Hp) (hr : Room k (A.deeper (envOfC "add_sources" (defScope s_add_sources) s.heap.objs.size f cd))) (p : Str × Option Str) (l : Nat) (acc : List (Str × Option Str)) (S : Sto), okPr p → S[l]? = some (.ld (acc.map prD)) → (∀ p ∈ acc, okPr p) → acc.length + 1 ≤ 2000000 →
      JSs (defF ⟨b.P, b.w, b.K, b.mg, b.base⟩ n_add_sources k "add_sources" (defScope s_add_sources) f cd A outer s H sc_add_sources.nd hr true) (startE n_add_sources [.d (.tuple [.str "source", .str p.1, vD p.2]), .o l]) S (defBody s_add_sources) (poO (.ok (.d .none)) (S.set l (.ld ((dd acc [p]).map prD)))) := by
    intro k cd A outer s H hr p l acc S hp hl hacc hlen
    have hrd : rdA S (.o l) = some (.list (acc.map prD)) := by show rdO (S[l]?) = _; rw [hl]; rfl
    have hdd : dd acc [p] = addP acc p := rfl
    refine jss_if (z := true) (jt_cast (jt_eqs (je_at (je_var 0) je_int rfl rfl rfl) je_str) (by decide)) (fun _ => ?_) (fun h => by cases h)
    refine jss_if (z := !decide (p ∈ acc)) (jt_cast (jt_notinD (av := .d (prD p)) (je_cutt (ds := [.str "source", .str p.1, vD p.2]) (je_var 0) (jo_some je_int) jo_none rfl (by show ¬ (HT.sIx 3 0 (some 1) = 0 ∧ HT.sIx 3 3 none = 3); decide)) (je_var 1) rfl hrd (shaped_pr hp) (shaped_prs hacc)) (by rw [any_prD])) (fun e => ?_) (fun e => ?_)
    · have e : ¬ p ∈ acc := by simpa using e
      refine jss_append (d := prD p) (je_var 1) (je_cutt (ds := [.str "source", .str p.1, vD p.2]) (je_var 0) (jo_some je_int) jo_none rfl (by show ¬ (HT.sIx 3 0 (some 1) = 0 ∧ HT.sIx 3 3 none = 3); decide)) hl (small_line' (m := 2000000) (by rw [List.length_map]; omega)) (jss_nil (jss_nil (jss_nil ⟨rfl, ?_⟩)))
      rw [hdd, addP, if_neg e, List.map_append]; exact .refl
    · have e : p ∈ acc := by simpa using e
      refine jss_nil (jss_nil (jss_nil ⟨rfl, ?_⟩))
      rw [hdd, addP, if_pos e]
      rw [show S.set l (.ld (acc.map prD)) = S by
        have := List.getElem?_eq_some_iff.mp hl
        obtain ⟨h1, h2⟩ := this
        rw [← h2, List.set_getElem_self]]
      exact .refl
  induction m with
  | zero =>
    refine ⟨f, fd, p_add_sources, fn_obj F sc_add_sources (fun avs S r S' h => ?_) (fun cd A outer s H hr avs S r S' h hc => ?_), hm, F.kp, F.binds fun _ _ _ _ _ _ us hl => match us, hl with | [_, _], _ => rfl⟩
    · obtain ⟨_, _, _, _, _, _, _, _, _, rfl, rfl, rfl⟩ := h; exact ⟨rfl, by rw [List.length_set]; exact Nat.le_refl _, fun x hx => by cases hx⟩
    · obtain ⟨ss, t, ks, l, acc, hQ, hl, hacc, hlen, rfl, rfl, rfl⟩ := h
      cases hQ with
      | @src _ p a => exact src 0 cd A outer s H hr p l acc S a hl hacc hlen
  | succ m ih =>
    refine ⟨f, fd, p_add_sources, fn_obj F sc_add_sources (fun avs S r S' h => ?_) (fun cd A outer s H hr avs S r S' h hc => ?_), hm, F.kp, F.binds fun _ _ _ _ _ _ us hl => match us, hl with | [_, _], _ => rfl⟩
    · obtain ⟨_, _, _, _, _, _, _, _, _, rfl, rfl, rfl⟩ := h; exact ⟨rfl, by rw [List.length_set]; exact Nat.le_refl _, fun x hx => by cases hx⟩
    · obtain ⟨ss, t, ks, l, acc, hQ, hl, hacc, hlen, rfl, rfl, rfl⟩ := h
      cases hQ with
      | @src _ p a => exact src (m + 1) cd A outer s H hr p l acc S a hl hacc hlen
      | @one _ _ t ks more w rest hq hw hp =>
        refine jss_if (z := false) (jt_cast (jt_eqs (je_at (je_var 0) je_int rfl rfl (at_0 _ _)) je_str) (decide_eq_false hw.1)) (fun h => by cases h) (fun _ => ?_)
        refine jss_expr (je_clo ih (ja_cons (je_at (d' := t) (je_var 0) je_int rfl rfl (atI_nat (j := 1) rfl)) (ja_cons (je_var 1) ja_nil)) ⟨ss, t, ks, l, acc, hq, hl, hacc, hlen, rfl, rfl, rfl⟩ (Nat.le_refl _)) ?_
        exact jss_if (z := false) (jt_w (jw_or (x := false) (y := false) (jt_cast (jt_eqs (je_at (je_var 0) je_int rfl rfl (at_0 _ _)) je_str) (decide_eq_false hw.2.1)) (fun _ => jw_or1 (jt_cast (jt_eqs (je_at (je_var 0) je_int rfl rfl (at_0 _ _)) je_str) (decide_eq_false hw.2.2))) (fun h => by cases h))) (fun h => by cases h) (fun _ => jss_nil (jss_nil (jss_nil ⟨rfl, .refl⟩)))
      | @two _ ss ss2 t t2 ks ks2 more w rest hq hq2 hw hp =>
        have hns : w ≠ "source" := by rcases hw with rfl | rfl <;> decide
        rw [List.length_append] at hlen
        refine jss_if (z := false) (jt_cast (jt_eqs (je_at (je_var 0) je_int rfl rfl (at_0 _ _)) je_str) (decide_eq_false hns)) (fun h => by cases h) (fun _ => ?_)
        refine jss_expr (je_clo ih (ja_cons (je_at (d' := t) (je_var 0) je_int rfl rfl (atI_nat (j := 1) rfl)) (ja_cons (je_var 1) ja_nil)) ⟨ss, t, ks, l, acc, hq, hl, hacc, by omega, rfl, rfl, rfl⟩ (Nat.le_refl _)) ?_
        have hz : (decide (w = "join") || decide (w = "union")) = true := by rcases hw with rfl | rfl <;> decide
        refine jss_if (z := true) (jt_w (jw_or (x := decide (w = "join")) (y := decide (w = "union")) (jt_eqs (je_at (je_var 0) je_int rfl rfl (at_0 _ _)) je_str) (fun _ => jw_or1 (jt_eqs (je_at (je_var 0) je_int rfl rfl (at_0 _ _)) je_str)) (fun _ => rfl) hz.symm)) (fun _ => ?_) (fun h => by cases h)
        have hdl := dd_len ss acc
        refine jss_expr (je_clo ih (ja_cons (je_at (d' := t2) (je_var 0) je_int rfl rfl (atI_nat (j := 2) rfl)) (ja_cons (je_var 1) ja_nil)) ⟨ss2, t2, ks2, l, dd acc ss, hq2, set_at hl, dd_ok ss hacc hq.okp, by omega, rfl, rfl, rfl⟩ (Nat.le_refl _)) ?_
        rw [List.set_set, ← dd_app]
        exact jss_nil (jss_nil (jss_nil ⟨rfl, .refl⟩))
def R_sources (avs : List AV) (S : Sto) (r : ResA) (S' : Sto) : Prop := ∃ (ss : List (Str × Option Str)) (t : PyData) (ks : List (Str × Str)), QT 11 ss t ks ∧ ss.length ≤ 1000000 ∧ avs = [.d t] ∧ r = .ok (.o S.length) ∧ S' = S ++ [.ld ((dd [] ss).map prD)]
theorem cal_sources {b : Bs} {f : Addr} {fd : FuncData} (z : ZB b) (F : Fun b.K "sources" "sources" s_sources f fd) (hm : b.mg "sources" = some (.ref f)) (c1 : ∀ m, CalO none b "add_sources" (m + 1) (R_add m)) : CalO none b "sources" 13 R_sources := by
  refine ⟨f, fd, p_sources, fn_obj F sc_sources (fun avs S r S' h => ?_) (fun cd A outer s H hr avs S r S' h hc => ?_), hm, F.kp, F.binds fun _ _ _ _ _ _ us hl => match us, hl with | [_], _ => rfl⟩
  · obtain ⟨_, _, _, _, _, rfl, rfl, rfl⟩ := h; exact ⟨rfl, by rw [List.length_append]; omega, fun x hx => by cases hx⟩
  · obtain ⟨ss, t, ks, hQ, hsl, rfl, rfl, rfl⟩ := h
    have hl : (S ++ [MO.ld []])[S.length]? = some (.ld (([] : List (Str × Option Str)).map prD)) := by rw [List.getElem?_append_right (Nat.le_refl _), Nat.sub_self]; rfl
    refine jss_set 1 (je_lo jd_nil) ?_
    refine jss_expr (je_clo (c1 11) (ja_cons (je_var 0) (ja_cons (je_var 1) ja_nil)) ⟨ss, t, ks, S.length, [], hQ, hl, fun p hp => (by cases hp), by rw [List.length_nil]; omega, rfl, rfl, rfl⟩) ?_
    refine jss_ret (je_var 1) ⟨rfl, ?_, ?_⟩
    · rw [List.set_append_right _ _ (Nat.le_refl _), Nat.sub_self]; exact .refl
    · show clA _ (.o S.length) = true
      rw [List.length_append]
      show decide (S.length < S.length + 1) = true
      exact decide_eq_true (by omega)
def R_slist (avs : List AV) (S : Sto) (r : ResA) (S' : Sto) : Prop := ∃ (av bv : AV) (xs : List PyData), rdA S av = some (.list xs) ∧ rdA S bv = some (.list xs) ∧ (∀ x ∈ xs, okV 1 x) ∧ xs.length ≤ 2000000 ∧ avs = [av, bv] ∧ r = .ok (.d (.bool true)) ∧ S' = S
theorem cal__law_same_list {b : Bs} {f : Addr} {fd : FuncData} (z : ZB b) (F : Fun b.K "_law_same_list" "_law_same_list" s__law_same_list f fd) (hm : b.mg "_law_same_list" = some (.ref f)) (c1 : ∀ n, Cal b "_law_same" (n + 1) (R_same n)) : CalO none b "_law_same_list" 4 R_slist := by
  refine ⟨f, fd, p__law_same_list, fn_obj F sc__law_same_list (fun avs S r S' h => ?_) (fun cd A outer s H hr avs S r S' h hc => ?_), hm, F.kp, F.binds fun _ _ _ _ _ _ us hl => match us, hl with | [_, _], _ => rfl⟩
  · obtain ⟨_, _, _, _, _, _, _, rfl, rfl, rfl⟩ := h; exact ⟨rfl, Nat.le_refl _, fun x hx => by cases hx⟩
  · obtain ⟨av, bv, xs, h1, h2, hx, hl, rfl, rfl, rfl⟩ := h
    exact jss_ret (je_and (je_islist z.z_isinstance z.z_list (je_var 0) h1) (fun _ => je_one (je_cl (c1 2) (jd_cons (je_tuple z.z_tuple (je_var 0) h1 rfl) (jd_cons (je_tuple z.z_tuple (je_var 1) h2 rfl) jd_nil)) ⟨.tuple xs, ⟨hx, hl⟩, rfl, rfl⟩)) (fun _ => rfl) (z := true)) ⟨rfl, .refl, rfl⟩
/-! ### the law -/
theorem okNs_w8 {g : Nat → List Nat} (hg : okG 8 g) : okNs [wd8 g 0, wd8 g 1] := by
  have h : ∀ k, k < 8 → wd8 g k ≠ "join" ∧ wd8 g k ≠ "union" ∧ wd8 g k ≠ "at" ∧ (wd8 g k).length ≤ 12 ∧ (wd8 g k).cps.all (· < 0x110000) = true := fun k hk => by
    obtain ⟨h1, h2⟩ := hg k hk
    have hm := endC_mem k hk
    have hl : (tl (wd8 g k)).getLast? = some (endC k) := by unfold wd8; rw [tl_mk]; simp
    have ne : ∀ s : Str, ∀ c : Nat, (tl s).getLast? = some c → c ∉ ([98, 99, 102, 103, 104, 106, 107, 113] : List Nat) → wd8 g k ≠ s := fun s c hs hc e => by
      rw [e, hs] at hl
      cases hl
      exact hc hm
    refine ⟨ne _ 110 (by decide +kernel) (by decide), ne _ 110 (by decide +kernel) (by decide), ne _ 116 (by decide +kernel) (by decide), ?_, ?_⟩
    · unfold wd8; rw [len_stx, List.length_append, List.length_singleton]; omega
    · refine all_of fun c hc => ?_
      unfold wd8 at hc
      rw [tl_mk] at hc
      rcases List.mem_append.mp hc with h | h
      · have := h1 c h; omega
      · rw [List.mem_singleton] at h
        subst h
        simp only [List.mem_cons, List.not_mem_nil, or_false] at hm
        omega
  refine ⟨Nat.succ_pos _, fun n hn => ?_⟩
  rcases List.mem_cons.mp hn with rfl | hn
  · exact h 0 (by decide)
  · rw [List.mem_singleton] at hn
    subst hn
    exact h 1 (by decide)
theorem okV_pr (p : Str × Option Str) : okV 1 (prD p) := by
  obtain ⟨n, v⟩ := p
  refine ⟨fun x hx => ?_, by show 2 ≤ _; decide⟩
  rcases List.mem_cons.mp hx with rfl | hx
  · simp only [okV]
  · rw [List.mem_singleton] at hx
    subst hx
    cases v <;> simp only [vD, okV]
def R_law (ds : List PyData) (r : PyData) : Prop := ∃ ns : List Int, ns.length ≤ 63 ∧ (∀ n ∈ ns, Bg n) ∧ ds = [scrD ns] ∧ r = .bool true
theorem fn_law {b : Bs} {f : Addr} {fd : FuncData} (z : ZB b) (F : Fun b.K "law" "law" s_law f fd) (c1 : Cal b "_law_cell" 1 R_cell) (c2 : Cal b "_law_thing" 1 R_thing) (c3 : CalQ b "_law_words" 2 Pre_w8 Post_w8) (c4 : CalQ b "_law_query" 7 Pre_query Post_query) (c5 : Cal b "_law_sources" 1 R_srcs) (c6 : CalO none b "sources" 13 R_sources) (c7 : CalO none b "_law_same_list" 4 R_slist) : FnOk b.P b.w b.K b.mg b.base CX0 14 f fd p_law (spP b.K R_law) := by
  refine fn_data F sc_law (fun ds r h => ?_) (fun cd A outer s H hr ds r h => ?_)
  · obtain ⟨_, _, _, rfl, _⟩ := h; rfl
  · obtain ⟨ns, hl, hB, rfl, rfl⟩ := h
    refine jss_setQ 1 (jeq_cut (Post' := fun r => ∃ nm : List Str, okNs nm ∧ r = .list (nm.map PyData.str)) (jeq_cl c3 (jd_cons (je_cl c2 (jd_cons (je_var 0) (jd_cons je_int jd_nil)) ⟨ns, 1, rfl, rfl⟩) jd_nil) ⟨_, rfl⟩) jo_none (jo_some je_int) (fun r hr => ?_)) ?_
    · obtain ⟨g, hg, rfl⟩ := hr
      exact ⟨_, rfl, [wd8 g 0, wd8 g 1], okNs_w8 hg, rfl⟩
    rintro r ⟨nm, hnm, rfl⟩
    refine jss_set 2 (je_add je_int (je_mod (je_int1 z.z_int (je_cl c1 (jd_cons (je_var 0) (jd_cons je_int jd_nil)) ⟨ns, 0, rfl, rfl⟩)) je_int)) ?_
    have hcn : 1 ≤ 1 + cellM ns 0 % 6 ∧ 1 + cellM ns 0 % 6 ≤ 6 := by omega
    generalize 1 + cellM ns 0 % 6 = cn at hcn
    refine jss_asgQ (jeq_cl c4 (jd_cons (je_lcm [("_law_k", 6)] (List.range cn.toNat) (fun i => .int (0 + (i : Int))) (fun i => .int (thingM ns (2 + i))) (ji_range1 (ja_cons (je_var 2) ja_nil) z.z_range (by omega) (by omega))
      (fun i hi => ⟨[6], _, by simp, jg_name 6, fun T => je_cl c2 (jd_cons (je_var 0) (jd_cons (je_add je_int (je_var 6)) jd_nil)) ⟨ns, 2 + i, by rw [show (2 : Int) + (0 + (i : Int)) = ((2 + i : Nat) : Int) by omega], rfl⟩⟩) (by rw [List.length_range, sizeLine_eq]; omega)) (jd_cons (je_var 1) jd_nil)) ⟨(List.range cn.toNat).map fun i => thingM ns (2 + i), nm, by rw [List.length_map, List.length_range]; omega, by rw [List.length_map, List.length_range]; omega, hnm, by rw [List.map_map]; rfl⟩) ?_
    rintro r ⟨q, ⟨⟨ss, hQ⟩, hql⟩, rfl⟩
    have hsl := hQ.len.1
    have hdl := dd_len ss []
    rw [List.length_nil] at hdl
    have hv : ∀ x ∈ (dd [] ss).map prD, okV 1 x := fun x hx => by
      obtain ⟨p, _, rfl⟩ := List.mem_map.mp hx
      exact okV_pr p
    have hvl : ((dd [] ss).map prD).length ≤ 2000000 := by rw [List.length_map]; omega
    refine ⟨_, _, jg_tup (jgs_cons (jg_name 3) (jgs_cons (jg_name 4) (jgs_cons (jg_name 5) jgs_nil))), ?_⟩
    refine jss_set 7 (je_cl c5 (jd_cons (je_var 4) jd_nil) ⟨11, ss, q.t, q.ks, hQ, hql, rfl, rfl⟩) ?_
    refine jss_set 8 (je_clo c6 (ja_cons (je_var 3) ja_nil) ⟨ss, q.t, q.ks, hQ, by omega, rfl, rfl, rfl⟩) ?_
    generalize hxs : (dd [] ss).map prD = xs at hv hvl
    refine jss_if (z := false) (jt_not (z := true) (jt_val (je_clo c7 (ja_cons (je_var 8) (ja_cons (je_var 7) ja_nil)) ⟨.o 0, .d (.list xs), xs, rfl, rfl, hv, hvl, rfl, rfl, rfl⟩))) (fun h => by cases h) (fun _ => jss_nil ?_)
    refine jss_append (ds := xs) (d := .tuple [.str "a", .none]) (je_var 8) (je_tp (jd_cons je_str (jd_cons je_non jd_nil))) rfl (small_line' (m := 2000000) hvl) ?_
    refine jss_setix (l := 0) (ds := xs ++ [.tuple [.str "a", .none]]) (m := 0) (d := .tuple [.str "b", .str "b"]) (je_tp (jd_cons je_str (jd_cons je_str jd_nil))) (je_var 8) je_int rfl ?_ ?_
    · unfold ixN
      rw [List.length_append, List.length_singleton, if_pos (by omega), if_pos (by omega)]
      rfl
    exact jss_ret (je_clo c7 (ja_cons (je_clo c6 (ja_cons (je_var 3) ja_nil) ⟨ss, q.t, q.ks, hQ, by omega, rfl, rfl, rfl⟩) (ja_cons (je_var 7) ja_nil)) ⟨.o 1, .d (.list xs), xs, congrArg some (congrArg PyData.list hxs), rfl, hv, hvl, rfl, rfl, rfl⟩) rfl

open PySem.W in
theorem all_mk {l : PySem.W.OpenLaw} {w : World} {K : PySem.W.Frag} {h : Heap} {mg : Str → Option Value} {fa : Addr} (X : K.In h) (G : h.Ns mainGlobals mg) (hfa : mg "law" = some (.ref fa))
    {f0 : Addr} {od0 an0 : Option Addr} {sl0 : Array (Option Value)} {oc0 kV0 dc0 pm0 cd0 ct0 : Value}
    {f1 : Addr} {od1 an1 : Option Addr} {sl1 : Array (Option Value)} {oc1 kV1 dc1 pm1 cd1 ct1 : Value}
    {f2 : Addr} {od2 an2 : Option Addr} {sl2 : Array (Option Value)} {oc2 kV2 dc2 pm2 cd2 ct2 : Value}
    {f3 : Addr} {od3 an3 : Option Addr} {sl3 : Array (Option Value)} {oc3 kV3 dc3 pm3 cd3 ct3 : Value}
    {f4 : Addr} {od4 an4 : Option Addr} {sl4 : Array (Option Value)} {oc4 kV4 dc4 pm4 cd4 ct4 : Value}
    {f5 : Addr} {od5 an5 : Option Addr} {sl5 : Array (Option Value)} {oc5 kV5 dc5 pm5 cd5 ct5 : Value}
    {f6 : Addr} {od6 an6 : Option Addr} {sl6 : Array (Option Value)} {oc6 kV6 dc6 pm6 cd6 ct6 : Value}
    {f7 : Addr} {od7 an7 : Option Addr} {sl7 : Array (Option Value)} {oc7 kV7 dc7 pm7 cd7 ct7 : Value}
    {f8 : Addr} {od8 an8 : Option Addr} {sl8 : Array (Option Value)} {oc8 kV8 dc8 pm8 cd8 ct8 : Value}
    {f9 : Addr} {od9 an9 : Option Addr} {sl9 : Array (Option Value)} {oc9 kV9 dc9 pm9 cd9 ct9 : Value}
    {f10 : Addr} {od10 an10 : Option Addr} {sl10 : Array (Option Value)} {oc10 kV10 dc10 pm10 cd10 ct10 : Value}
    {f11 : Addr} {od11 an11 : Option Addr} {sl11 : Array (Option Value)} {oc11 kV11 dc11 pm11 cd11 ct11 : Value}
    {f12 : Addr} {od12 an12 : Option Addr} {sl12 : Array (Option Value)} {oc12 kV12 dc12 pm12 cd12 ct12 : Value}
    {f13 : Addr} {od13 an13 : Option Addr} {sl13 : Array (Option Value)} {oc13 kV13 dc13 pm13 cd13 ct13 : Value}
    {f14 : Addr} {od14 an14 : Option Addr} {sl14 : Array (Option Value)} {oc14 kV14 dc14 pm14 cd14 ct14 : Value}
    {f15 : Addr} {od15 an15 : Option Addr} {sl15 : Array (Option Value)} {oc15 kV15 dc15 pm15 cd15 ct15 : Value}
    {f16 : Addr} {od16 an16 : Option Addr} {sl16 : Array (Option Value)} {oc16 kV16 dc16 pm16 cd16 ct16 : Value}
    {f17 : Addr} {od17 an17 : Option Addr} {sl17 : Array (Option Value)} {oc17 kV17 dc17 pm17 cd17 ct17 : Value}
    {f18 : Addr} {od18 an18 : Option Addr} {sl18 : Array (Option Value)} {oc18 kV18 dc18 pm18 cd18 ct18 : Value}
    {f19 : Addr} {od19 an19 : Option Addr} {sl19 : Array (Option Value)} {oc19 kV19 dc19 pm19 cd19 ct19 : Value}
    {f20 : Addr} {od20 an20 : Option Addr} {sl20 : Array (Option Value)} {oc20 kV20 dc20 pm20 cd20 ct20 : Value}
    {f21 : Addr} {od21 an21 : Option Addr} {sl21 : Array (Option Value)} {oc21 kV21 dc21 pm21 cd21 ct21 : Value}
    {f22 : Addr} {od22 an22 : Option Addr} {sl22 : Array (Option Value)} {oc22 kV22 dc22 pm22 cd22 ct22 : Value}
    {f23 : Addr} {od23 an23 : Option Addr} {sl23 : Array (Option Value)} {oc23 kV23 dc23 pm23 cd23 ct23 : Value}
    {f24 : Addr} {od24 an24 : Option Addr} {sl24 : Array (Option Value)} {oc24 kV24 dc24 pm24 cd24 ct24 : Value}
    (a0 : PySem.W.nsIn K mainGlobals "_law_cell" = some (some (.ref f0))) (l0 : K.lookup f0 = some ⟨oc0, od0, .func (PySem.W.fnOf "_law_cell" "_law_cell" (defArgs s__law_cell) (defBody s__law_cell) (defScope s__law_cell) .none kV0 dc0 pm0 an0 cd0 ct0), sl0⟩) (c0 : PySem.W.codeIn K cd0 "_law_cell" = true) (k0 : PySem.W.keepIn K (.ref f0) = true)
    (a1 : PySem.W.nsIn K mainGlobals "_law_thing" = some (some (.ref f1))) (l1 : K.lookup f1 = some ⟨oc1, od1, .func (PySem.W.fnOf "_law_thing" "_law_thing" (defArgs s__law_thing) (defBody s__law_thing) (defScope s__law_thing) .none kV1 dc1 pm1 an1 cd1 ct1), sl1⟩) (c1 : PySem.W.codeIn K cd1 "_law_thing" = true) (k1 : PySem.W.keepIn K (.ref f1) = true)
    (a2 : PySem.W.nsIn K mainGlobals "_law_draws" = some (some (.ref f2))) (l2 : K.lookup f2 = some ⟨oc2, od2, .func (PySem.W.fnOf "_law_draws" "_law_draws" (defArgs s__law_draws) (defBody s__law_draws) (defScope s__law_draws) .none kV2 dc2 pm2 an2 cd2 ct2), sl2⟩) (c2 : PySem.W.codeIn K cd2 "_law_draws" = true) (k2 : PySem.W.keepIn K (.ref f2) = true)
    (a3 : PySem.W.nsIn K mainGlobals "_law_words" = some (some (.ref f3))) (l3 : K.lookup f3 = some ⟨oc3, od3, .func (PySem.W.fnOf "_law_words" "_law_words" (defArgs s__law_words) (defBody s__law_words) (defScope s__law_words) .none kV3 dc3 pm3 an3 cd3 ct3), sl3⟩) (c3 : PySem.W.codeIn K cd3 "_law_words" = true) (k3 : PySem.W.keepIn K (.ref f3) = true)
    (a4 : PySem.W.nsIn K mainGlobals "_law_char" = some (some (.ref f4))) (l4 : K.lookup f4 = some ⟨oc4, od4, .func (PySem.W.fnOf "_law_char" "_law_char" (defArgs s__law_char) (defBody s__law_char) (defScope s__law_char) .none kV4 dc4 pm4 an4 cd4 ct4), sl4⟩) (c4 : PySem.W.codeIn K cd4 "_law_char" = true) (k4 : PySem.W.keepIn K (.ref f4) = true)
    (a5 : PySem.W.nsIn K mainGlobals "_law_text" = some (some (.ref f5))) (l5 : K.lookup f5 = some ⟨oc5, od5, .func (PySem.W.fnOf "_law_text" "_law_text" (defArgs s__law_text) (defBody s__law_text) (defScope s__law_text) .none kV5 dc5 pm5 an5 cd5 ct5), sl5⟩) (c5 : PySem.W.codeIn K cd5 "_law_text" = true) (k5 : PySem.W.keepIn K (.ref f5) = true)
    (a6 : PySem.W.nsIn K mainGlobals "_law_wrapped" = some (some (.ref f6))) (l6 : K.lookup f6 = some ⟨oc6, od6, .func (PySem.W.fnOf "_law_wrapped" "_law_wrapped" (defArgs s__law_wrapped) (defBody s__law_wrapped) (defScope s__law_wrapped) .none kV6 dc6 pm6 an6 cd6 ct6), sl6⟩) (c6 : PySem.W.codeIn K cd6 "_law_wrapped" = true) (k6 : PySem.W.keepIn K (.ref f6) = true)
    (a7 : PySem.W.nsIn K mainGlobals "_law_unary" = some (some (.ref f7))) (l7 : K.lookup f7 = some ⟨oc7, od7, .func (PySem.W.fnOf "_law_unary" "_law_unary" (defArgs s__law_unary) (defBody s__law_unary) (defScope s__law_unary) .none kV7 dc7 pm7 an7 cd7 ct7), sl7⟩) (c7 : PySem.W.codeIn K cd7 "_law_unary" = true) (k7 : PySem.W.keepIn K (.ref f7) = true)
    (a8 : PySem.W.nsIn K mainGlobals "_law_binary" = some (some (.ref f8))) (l8 : K.lookup f8 = some ⟨oc8, od8, .func (PySem.W.fnOf "_law_binary" "_law_binary" (defArgs s__law_binary) (defBody s__law_binary) (defScope s__law_binary) .none kV8 dc8 pm8 an8 cd8 ct8), sl8⟩) (c8 : PySem.W.codeIn K cd8 "_law_binary" = true) (k8 : PySem.W.keepIn K (.ref f8) = true)
    (a9 : PySem.W.nsIn K mainGlobals "_law_number_token" = some (some (.ref f9))) (l9 : K.lookup f9 = some ⟨oc9, od9, .func (PySem.W.fnOf "_law_number_token" "_law_number_token" (defArgs s__law_number_token) (defBody s__law_number_token) (defScope s__law_number_token) .none kV9 dc9 pm9 an9 cd9 ct9), sl9⟩) (c9 : PySem.W.codeIn K cd9 "_law_number_token" = true) (k9 : PySem.W.keepIn K (.ref f9) = true)
    (a10 : PySem.W.nsIn K mainGlobals "_law_token_leaf" = some (some (.ref f10))) (l10 : K.lookup f10 = some ⟨oc10, od10, .func (PySem.W.fnOf "_law_token_leaf" "_law_token_leaf" (defArgs s__law_token_leaf) (defBody s__law_token_leaf) (defScope s__law_token_leaf) .none kV10 dc10 pm10 an10 cd10 ct10), sl10⟩) (c10 : PySem.W.codeIn K cd10 "_law_token_leaf" = true) (k10 : PySem.W.keepIn K (.ref f10) = true)
    (a11 : PySem.W.nsIn K mainGlobals "_law_expression" = some (some (.ref f11))) (l11 : K.lookup f11 = some ⟨oc11, od11, .func (PySem.W.fnOf "_law_expression" "_law_expression" (defArgs s__law_expression) (defBody s__law_expression) (defScope s__law_expression) .none kV11 dc11 pm11 an11 cd11 ct11), sl11⟩) (c11 : PySem.W.codeIn K cd11 "_law_expression" = true) (k11 : PySem.W.keepIn K (.ref f11) = true)
    (a12 : PySem.W.nsIn K mainGlobals "_law_listed_names" = some (some (.ref f12))) (l12 : K.lookup f12 = some ⟨oc12, od12, .func (PySem.W.fnOf "_law_listed_names" "_law_listed_names" (defArgs s__law_listed_names) (defBody s__law_listed_names) (defScope s__law_listed_names) .none kV12 dc12 pm12 an12 cd12 ct12), sl12⟩) (c12 : PySem.W.codeIn K cd12 "_law_listed_names" = true) (k12 : PySem.W.keepIn K (.ref f12) = true)
    (a13 : PySem.W.nsIn K mainGlobals "_law_keep_stage" = some (some (.ref f13))) (l13 : K.lookup f13 = some ⟨oc13, od13, .func (PySem.W.fnOf "_law_keep_stage" "_law_keep_stage" (defArgs s__law_keep_stage) (defBody s__law_keep_stage) (defScope s__law_keep_stage) .none kV13 dc13 pm13 an13 cd13 ct13), sl13⟩) (c13 : PySem.W.codeIn K cd13 "_law_keep_stage" = true) (k13 : PySem.W.keepIn K (.ref f13) = true)
    (a14 : PySem.W.nsIn K mainGlobals "_law_group_stage" = some (some (.ref f14))) (l14 : K.lookup f14 = some ⟨oc14, od14, .func (PySem.W.fnOf "_law_group_stage" "_law_group_stage" (defArgs s__law_group_stage) (defBody s__law_group_stage) (defScope s__law_group_stage) .none kV14 dc14 pm14 an14 cd14 ct14), sl14⟩) (c14 : PySem.W.codeIn K cd14 "_law_group_stage" = true) (k14 : PySem.W.keepIn K (.ref f14) = true)
    (a15 : PySem.W.nsIn K mainGlobals "_law_order_stage" = some (some (.ref f15))) (l15 : K.lookup f15 = some ⟨oc15, od15, .func (PySem.W.fnOf "_law_order_stage" "_law_order_stage" (defArgs s__law_order_stage) (defBody s__law_order_stage) (defScope s__law_order_stage) .none kV15 dc15 pm15 an15 cd15 ct15), sl15⟩) (c15 : PySem.W.codeIn K cd15 "_law_order_stage" = true) (k15 : PySem.W.keepIn K (.ref f15) = true)
    (a16 : PySem.W.nsIn K mainGlobals "_law_one_stage" = some (some (.ref f16))) (l16 : K.lookup f16 = some ⟨oc16, od16, .func (PySem.W.fnOf "_law_one_stage" "_law_one_stage" (defArgs s__law_one_stage) (defBody s__law_one_stage) (defScope s__law_one_stage) .none kV16 dc16 pm16 an16 cd16 ct16), sl16⟩) (c16 : PySem.W.codeIn K cd16 "_law_one_stage" = true) (k16 : PySem.W.keepIn K (.ref f16) = true)
    (a17 : PySem.W.nsIn K mainGlobals "_law_two_stage" = some (some (.ref f17))) (l17 : K.lookup f17 = some ⟨oc17, od17, .func (PySem.W.fnOf "_law_two_stage" "_law_two_stage" (defArgs s__law_two_stage) (defBody s__law_two_stage) (defScope s__law_two_stage) .none kV17 dc17 pm17 an17 cd17 ct17), sl17⟩) (c17 : PySem.W.codeIn K cd17 "_law_two_stage" = true) (k17 : PySem.W.keepIn K (.ref f17) = true)
    (a18 : PySem.W.nsIn K mainGlobals "_law_query" = some (some (.ref f18))) (l18 : K.lookup f18 = some ⟨oc18, od18, .func (PySem.W.fnOf "_law_query" "_law_query" (defArgs s__law_query) (defBody s__law_query) (defScope s__law_query) .none kV18 dc18 pm18 an18 cd18 ct18), sl18⟩) (c18 : PySem.W.codeIn K cd18 "_law_query" = true) (k18 : PySem.W.keepIn K (.ref f18) = true)
    (a19 : PySem.W.nsIn K mainGlobals "_law_sources" = some (some (.ref f19))) (l19 : K.lookup f19 = some ⟨oc19, od19, .func (PySem.W.fnOf "_law_sources" "_law_sources" (defArgs s__law_sources) (defBody s__law_sources) (defScope s__law_sources) .none kV19 dc19 pm19 an19 cd19 ct19), sl19⟩) (c19 : PySem.W.codeIn K cd19 "_law_sources" = true) (k19 : PySem.W.keepIn K (.ref f19) = true)
    (a20 : PySem.W.nsIn K mainGlobals "add_sources" = some (some (.ref f20))) (l20 : K.lookup f20 = some ⟨oc20, od20, .func (PySem.W.fnOf "add_sources" "add_sources" (defArgs s_add_sources) (defBody s_add_sources) (defScope s_add_sources) .none kV20 dc20 pm20 an20 cd20 ct20), sl20⟩) (c20 : PySem.W.codeIn K cd20 "add_sources" = true) (k20 : PySem.W.keepIn K (.ref f20) = true)
    (a21 : PySem.W.nsIn K mainGlobals "sources" = some (some (.ref f21))) (l21 : K.lookup f21 = some ⟨oc21, od21, .func (PySem.W.fnOf "sources" "sources" (defArgs s_sources) (defBody s_sources) (defScope s_sources) .none kV21 dc21 pm21 an21 cd21 ct21), sl21⟩) (c21 : PySem.W.codeIn K cd21 "sources" = true) (k21 : PySem.W.keepIn K (.ref f21) = true)
    (a22 : PySem.W.nsIn K mainGlobals "_law_same" = some (some (.ref f22))) (l22 : K.lookup f22 = some ⟨oc22, od22, .func (PySem.W.fnOf "_law_same" "_law_same" (defArgs s__law_same) (defBody s__law_same) (defScope s__law_same) .none kV22 dc22 pm22 an22 cd22 ct22), sl22⟩) (c22 : PySem.W.codeIn K cd22 "_law_same" = true) (k22 : PySem.W.keepIn K (.ref f22) = true)
    (a23 : PySem.W.nsIn K mainGlobals "_law_same_list" = some (some (.ref f23))) (l23 : K.lookup f23 = some ⟨oc23, od23, .func (PySem.W.fnOf "_law_same_list" "_law_same_list" (defArgs s__law_same_list) (defBody s__law_same_list) (defScope s__law_same_list) .none kV23 dc23 pm23 an23 cd23 ct23), sl23⟩) (c23 : PySem.W.codeIn K cd23 "_law_same_list" = true) (k23 : PySem.W.keepIn K (.ref f23) = true)
    (a24 : PySem.W.nsIn K mainGlobals "law" = some (some (.ref f24))) (l24 : K.lookup f24 = some ⟨oc24, od24, .func (PySem.W.fnOf "law" "law" (defArgs s_law) (defBody s_law) (defScope s_law) .none kV24 dc24 pm24 an24 cd24 ct24), sl24⟩) (c24 : PySem.W.codeIn K cd24 "law" = true) (k24 : PySem.W.keepIn K (.ref f24) = true)
    (z_bool : PySem.W.nsIn K mainGlobals "bool" = some none)
    (z_int : PySem.W.nsIn K mainGlobals "int" = some none)
    (z_isinstance : PySem.W.nsIn K mainGlobals "isinstance" = some none)
    (z_len : PySem.W.nsIn K mainGlobals "len" = some none)
    (z_list : PySem.W.nsIn K mainGlobals "list" = some none)
    (z_max : PySem.W.nsIn K mainGlobals "max" = some none)
    (z_range : PySem.W.nsIn K mainGlobals "range" = some none)
    (z_str : PySem.W.nsIn K mainGlobals "str" = some none)
    (z_tuple : PySem.W.nsIn K mainGlobals "tuple" = some none)
    : ∃ fd : FuncData, (∀ (s : Shared) (v : Value), BindsTo s fd ⟨[v], []⟩ [("_law_script", v)]) ∧ ∀ base : Heap, K.In base → base.Ns mainGlobals mg → FnOk l.prog w K mg base CX0 14 fa fd ["_law_script"] (spP K R_law) := by
  have e := hfa.symm.trans (PySem.W.mg_of X G a24)
  cases e
  refine ⟨PySem.W.fnOf "law" "law" (defArgs s_law) (defBody s_law) (defScope s_law) .none kV24 dc24 pm24 an24 cd24 ct24, fun s v => .of_eq rfl, fun base _ _ => ?_⟩
  have z : ZB ⟨l.prog, w, K, mg, base⟩ := ⟨PySem.W.mg_none_of X G z_bool, PySem.W.mg_none_of X G z_int, PySem.W.mg_none_of X G z_isinstance, PySem.W.mg_none_of X G z_len, PySem.W.mg_none_of X G z_list, PySem.W.mg_none_of X G z_max, PySem.W.mg_none_of X G z_range, PySem.W.mg_none_of X G z_str, PySem.W.mg_none_of X G z_tuple⟩
  have C0 := cal__law_cell (b := ⟨l.prog, w, K, mg, base⟩) z (fun_mk (st := s__law_cell) l0 c0 k0) (PySem.W.mg_of X G a0) 
  have C1 := cal__law_thing (b := ⟨l.prog, w, K, mg, base⟩) z (fun_mk (st := s__law_thing) l1 c1 k1) (PySem.W.mg_of X G a1) 
  have C2 := cal__law_draws (b := ⟨l.prog, w, K, mg, base⟩) z (fun_mk (st := s__law_draws) l2 c2 k2) (PySem.W.mg_of X G a2) 
  have C3 := cal__law_words (b := ⟨l.prog, w, K, mg, base⟩) z (fun_mk (st := s__law_words) l3 c3 k3) (PySem.W.mg_of X G a3) C2
  have C4 := cal__law_char (b := ⟨l.prog, w, K, mg, base⟩) z (fun_mk (st := s__law_char) l4 c4 k4) (PySem.W.mg_of X G a4) 
  have C5 := cal__law_text (b := ⟨l.prog, w, K, mg, base⟩) z (fun_mk (st := s__law_text) l5 c5 k5) (PySem.W.mg_of X G a5) C2 C4
  have C6 := cal__law_wrapped (b := ⟨l.prog, w, K, mg, base⟩) z (fun_mk (st := s__law_wrapped) l6 c6 k6) (PySem.W.mg_of X G a6) 
  have C7 := cal__law_unary (b := ⟨l.prog, w, K, mg, base⟩) z (fun_mk (st := s__law_unary) l7 c7 k7) (PySem.W.mg_of X G a7) C6
  have C8 := cal__law_binary (b := ⟨l.prog, w, K, mg, base⟩) z (fun_mk (st := s__law_binary) l8 c8 k8) (PySem.W.mg_of X G a8) C6
  have C9 := cal__law_number_token (b := ⟨l.prog, w, K, mg, base⟩) z (fun_mk (st := s__law_number_token) l9 c9 k9) (PySem.W.mg_of X G a9) 
  have C10 := cal__law_token_leaf (b := ⟨l.prog, w, K, mg, base⟩) z (fun_mk (st := s__law_token_leaf) l10 c10 k10) (PySem.W.mg_of X G a10) C5 C9
  have C11 := cal__law_expression (b := ⟨l.prog, w, K, mg, base⟩) z (fun_mk (st := s__law_expression) l11 c11 k11) (PySem.W.mg_of X G a11) C2 C7 C8 C10 C6
  have C12 := cal__law_listed_names (b := ⟨l.prog, w, K, mg, base⟩) z (fun_mk (st := s__law_listed_names) l12 c12 k12) (PySem.W.mg_of X G a12) 
  have C13 := cal__law_keep_stage (b := ⟨l.prog, w, K, mg, base⟩) z (fun_mk (st := s__law_keep_stage) l13 c13 k13) (PySem.W.mg_of X G a13) C11 C12
  have C14 := cal__law_group_stage (b := ⟨l.prog, w, K, mg, base⟩) z (fun_mk (st := s__law_group_stage) l14 c14 k14) (PySem.W.mg_of X G a14) C12
  have C15 := cal__law_order_stage (b := ⟨l.prog, w, K, mg, base⟩) z (fun_mk (st := s__law_order_stage) l15 c15 k15) (PySem.W.mg_of X G a15) 
  have C16 := cal__law_one_stage (b := ⟨l.prog, w, K, mg, base⟩) z (fun_mk (st := s__law_one_stage) l16 c16 k16) (PySem.W.mg_of X G a16) C11 C13 C14 C15 C9
  have C17 := cal__law_two_stage (b := ⟨l.prog, w, K, mg, base⟩) z (fun_mk (st := s__law_two_stage) l17 c17 k17) (PySem.W.mg_of X G a17) C11
  have C18 := cal__law_query (b := ⟨l.prog, w, K, mg, base⟩) z (fun_mk (st := s__law_query) l18 c18 k18) (PySem.W.mg_of X G a18) C2 C5 C16 C17
  have C19 := cal__law_sources (b := ⟨l.prog, w, K, mg, base⟩) z (fun_mk (st := s__law_sources) l19 c19 k19) (PySem.W.mg_of X G a19) 
  have C20 := cal_add_sources (b := ⟨l.prog, w, K, mg, base⟩) z (fun_mk (st := s_add_sources) l20 c20 k20) (PySem.W.mg_of X G a20) 
  have C21 := cal_sources (b := ⟨l.prog, w, K, mg, base⟩) z (fun_mk (st := s_sources) l21 c21 k21) (PySem.W.mg_of X G a21) C20
  have C22 := cal__law_same (b := ⟨l.prog, w, K, mg, base⟩) z (fun_mk (st := s__law_same) l22 c22 k22) (PySem.W.mg_of X G a22) 
  have C23 := cal__law_same_list (b := ⟨l.prog, w, K, mg, base⟩) z (fun_mk (st := s__law_same_list) l23 c23 k23) (PySem.W.mg_of X G a23) C22
  exact fn_law z (fun_mk (st := s_law) l24 c24 k24) C0 C1 C3 C18 C19 C21 C23
end K58
open PySem PySem.W PyProof.Rows
set_option maxHeartbeats 0 in
theorem PySem.Challenge.cw_versiontables_k58_sources_holds : PySem.Challenge.rw_versiontables_k58_sources.Holds := by
  w_on; o_law; k_head; (case hw => w_witness2)
  k_fill
  refine L2.walk_ofB (l := PySem.Challenge.rw_versiontables_k58_sources) (n := 63) (k := 14) (x := "_law_script") (CX := fun _ => L2.CX0) (sp := fun w => AL.spP _ K58.R_law) rfl (by decide) rfl ⟨rfl, by decide, by decide⟩ (fun w h Y => PySem.W.kIn_of Y) ?F (fun w H a ls hl hb _ hS => ⟨_, _, [], H, ⟨ls, hl, fun n hn => AL.Bg.of_bits (hb n hn), rfl, rfl⟩, L2.Same.refl _, fun _ hb => (nomatch hb), .cons (.lst hS (AL.dpa_of_ints ls)) .nil, fun v F H' _ _ r => (by cases r; rfl)⟩) (fun _ _ _ _ _ h => h)
  case F =>
    intro w mg fa h KX G hmg
    refine' K58.all_mk KX G hmg ?a0 ?l0 ?c0 ?k0 ?a1 ?l1 ?c1 ?k1 ?a2 ?l2 ?c2 ?k2 ?a3 ?l3 ?c3 ?k3 ?a4 ?l4 ?c4 ?k4 ?a5 ?l5 ?c5 ?k5 ?a6 ?l6 ?c6 ?k6 ?a7 ?l7 ?c7 ?k7 ?a8 ?l8 ?c8 ?k8 ?a9 ?l9 ?c9 ?k9 ?a10 ?l10 ?c10 ?k10 ?a11 ?l11 ?c11 ?k11 ?a12 ?l12 ?c12 ?k12 ?a13 ?l13 ?c13 ?k13 ?a14 ?l14 ?c14 ?k14 ?a15 ?l15 ?c15 ?k15 ?a16 ?l16 ?c16 ?k16 ?a17 ?l17 ?c17 ?k17 ?a18 ?l18 ?c18 ?k18 ?a19 ?l19 ?c19 ?k19 ?a20 ?l20 ?c20 ?k20 ?a21 ?l21 ?c21 ?k21 ?a22 ?l22 ?c22 ?k22 ?a23 ?l23 ?c23 ?k23 ?a24 ?l24 ?c24 ?k24 ?z_bool ?z_int ?z_isinstance ?z_len ?z_list ?z_max ?z_range ?z_str ?z_tuple
    (case a0 => k_is); (case l0 => k_is); (case c0 => k_is); (case k0 => k_is); (case a1 => k_is); (case l1 => k_is)
    (case c1 => k_is); (case k1 => k_is); (case a2 => k_is); (case l2 => k_is); (case c2 => k_is); (case k2 => k_is)
    (case a3 => k_is); (case l3 => k_is); (case c3 => k_is); (case k3 => k_is); (case a4 => k_is); (case l4 => k_is)
    (case c4 => k_is); (case k4 => k_is); (case a5 => k_is); (case l5 => k_is); (case c5 => k_is); (case k5 => k_is)
    (case a6 => k_is); (case l6 => k_is); (case c6 => k_is); (case k6 => k_is); (case a7 => k_is); (case l7 => k_is)
    (case c7 => k_is); (case k7 => k_is); (case a8 => k_is); (case l8 => k_is); (case c8 => k_is); (case k8 => k_is)
    (case a9 => k_is); (case l9 => k_is); (case c9 => k_is); (case k9 => k_is); (case a10 => k_is); (case l10 => k_is)
    (case c10 => k_is); (case k10 => k_is); (case a11 => k_is); (case l11 => k_is); (case c11 => k_is); (case k11 => k_is)
    (case a12 => k_is); (case l12 => k_is); (case c12 => k_is); (case k12 => k_is); (case a13 => k_is); (case l13 => k_is)
    (case c13 => k_is); (case k13 => k_is); (case a14 => k_is); (case l14 => k_is); (case c14 => k_is); (case k14 => k_is)
    (case a15 => k_is); (case l15 => k_is); (case c15 => k_is); (case k15 => k_is); (case a16 => k_is); (case l16 => k_is)
    (case c16 => k_is); (case k16 => k_is); (case a17 => k_is); (case l17 => k_is); (case c17 => k_is); (case k17 => k_is)
    (case a18 => k_is); (case l18 => k_is); (case c18 => k_is); (case k18 => k_is); (case a19 => k_is); (case l19 => k_is)
    (case c19 => k_is); (case k19 => k_is); (case a20 => k_is); (case l20 => k_is); (case c20 => k_is); (case k20 => k_is)
    (case a21 => k_is); (case l21 => k_is); (case c21 => k_is); (case k21 => k_is); (case a22 => k_is); (case l22 => k_is)
    (case c22 => k_is); (case k22 => k_is); (case a23 => k_is); (case l23 => k_is); (case c23 => k_is); (case k23 => k_is)
    (case a24 => k_is); (case l24 => k_is); (case c24 => k_is); (case k24 => k_is); (case z_bool => k_is); (case z_int => k_is)
    (case z_isinstance => k_is); (case z_len => k_is); (case z_list => k_is); (case z_max => k_is); (case z_range => k_is); (case z_str => k_is)
    (case z_tuple => k_is)
