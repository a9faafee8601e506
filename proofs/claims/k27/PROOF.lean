import PyProof.Rows.All
import Wide.All
import OpenK.AllK
import Wide.FinOn
import HandS.ForMost
import HandS.Walk
import HandS.TupAny
import HandS.Style
import HandS.IsInst
import HandS.Zip
import PySem.Challenge.RW_bearfaults_k27_threes_and_pairs
set_option Elab.async false
set_option linter.all false
set_option maxRecDepth 100000
set_option maxHeartbeats 4000000
/-! TL: data over the hand layer's readings: what a reading evaluates to, by plain data; a frozen part of the heap, own lists, the whole. -/
namespace TL
open PySem L2
abbrev Fg := PySem.W.Frag

/-! ### data in a heap -/
mutual
inductive Rp (K : Fg) (F : Hp) : V → PyData → Prop
  | non : Rp K F .non .none
  | bl (b : Bool) : Rp K F (.bl b) (.bool b)
  | int (i : Int) : Rp K F (.int i) (.int i)
  | str (x : Str) : Rp K F (.str x) (.str x)
  | lst {a : Addr} {xs : List V} {ds : List PyData} : SqL K F a xs → xs.length ≤ sizeLine → RpAll K F xs ds → Rp K F (.ref a) (.list ds)
  | tup {a : Addr} {xs : List V} {ds : List PyData} : SqT K F a xs → xs.length ≤ sizeLine → RpAll K F xs ds → Rp K F (.ref a) (.tuple ds)
inductive RpAll (K : Fg) (F : Hp) : List V → List PyData → Prop
  | nil : RpAll K F [] []
  | cons {v : V} {vs : List V} {d : PyData} {ds : List PyData} : Rp K F v d → RpAll K F vs ds → RpAll K F (v :: vs) (d :: ds)
end
theorem same_rd {H H' : Hp} {a : Addr} {u : HO} (e : Same H H') (h : Rd H a u) : Rd H' a u := by
  rcases h with h | ⟨o, h⟩
  · exact .inl (e _ _ h)
  · exact .inr ⟨o, e _ _ h⟩
theorem same_t {K : Fg} {H H' : Hp} {a : Addr} {xs : List V} (e : Same H H') (h : SqT K H a xs) : SqT K H' a xs := by
  rcases h with h | h
  · exact .inl (same_rd e h)
  · exact .inr h
section
variable {K : Fg} {F F' : Hp}
mutual
theorem Rp.mono (e : Same F F') : ∀ (d : PyData) (v : V), Rp K F v d → Rp K F' v d
  | .none, _, h => by cases h; exact .non
  | .bool b, _, h => by cases h; exact .bl b
  | .int i, _, h => by cases h; exact .int i
  | .str x, _, h => by cases h; exact .str x
  | .list ds, _, h => by
    cases h with
    | lst h1 h2 h3 => exact .lst (e.seq h1) h2 (RpAll.mono e ds _ h3)
  | .tuple ds, _, h => by
    cases h with
    | tup h1 h2 h3 => exact .tup (same_t e h1) h2 (RpAll.mono e ds _ h3)
  | .dict _, _, h => by cases h
theorem RpAll.mono (e : Same F F') : ∀ (ds : List PyData) (vs : List V), RpAll K F vs ds → RpAll K F' vs ds
  | [], _, h => by cases h; exact .nil
  | d :: ds, _, h => by
    cases h with
    | cons h1 h2 => exact .cons (Rp.mono e d _ h1) (RpAll.mono e ds _ h2)
end
theorem Rp.up {d : PyData} {v : V} (h : Rp K F v d) (e : Same F F') : Rp K F' v d := Rp.mono e d v h
theorem RpAll.up {ds : List PyData} {vs : List V} (h : RpAll K F vs ds) (e : Same F F') : RpAll K F' vs ds := RpAll.mono e ds vs h
mutual
theorem Rp.dp : ∀ (d : PyData) (v : V), Rp K F v d → Dp K F v d
  | .none, _, h => by cases h; exact .non
  | .bool b, _, h => by cases h; exact .bl b
  | .int i, _, h => by cases h; exact .int i
  | .str x, _, h => by cases h; exact .str x
  | .list ds, _, h => by
    cases h with
    | lst h1 h2 h3 => exact .lst h1 (RpAll.dp ds _ h3)
  | .tuple ds, _, h => by
    cases h with
    | tup h1 h2 h3 => exact .tup h1 (RpAll.dp ds _ h3)
  | .dict _, _, h => by cases h
theorem RpAll.dp : ∀ (ds : List PyData) (vs : List V), RpAll K F vs ds → DpAll K F vs ds
  | [], _, h => by cases h; exact .nil
  | d :: ds, _, h => by
    cases h with
    | cons h1 h2 => exact .cons (Rp.dp d _ h1) (RpAll.dp ds _ h2)
end
theorem RpAll.length : ∀ {vs : List V} {ds : List PyData}, RpAll K F vs ds → vs.length = ds.length
  | _, _, .nil => rfl
  | _, _, .cons _ t => by rw [List.length_cons, List.length_cons, RpAll.length t]
theorem RpAll.get : ∀ {vs : List V} {ds : List PyData} {i : Nat} {d : PyData}, RpAll K F vs ds → ds[i]? = some d → ∃ v, vs[i]? = some v ∧ Rp K F v d
  | _, _, _, _, .nil, e => by simp at e
  | _, _, 0, _, .cons r _, e => by simp at e; subst e; exact ⟨_, rfl, r⟩
  | _, _, i + 1, d, .cons _ t, e => by
    obtain ⟨v, h1, h2⟩ := RpAll.get (i := i) (d := d) t (by simpa using e)
    exact ⟨v, by simpa using h1, h2⟩
theorem RpAll.getV : ∀ {vs : List V} {ds : List PyData} {i : Nat} {v : V}, RpAll K F vs ds → vs[i]? = some v → ∃ d, ds[i]? = some d ∧ Rp K F v d
  | _, _, _, _, .nil, e => by simp at e
  | _, _, 0, _, .cons r _, e => by simp at e; subst e; exact ⟨_, rfl, r⟩
  | _, _, i + 1, v, .cons _ t, e => by
    obtain ⟨d, h1, h2⟩ := RpAll.getV (i := i) (v := v) t (by simpa using e)
    exact ⟨d, by simpa using h1, h2⟩
theorem RpAll.append : ∀ {vs ws : List V} {ds es : List PyData}, RpAll K F vs ds → RpAll K F ws es → RpAll K F (vs ++ ws) (ds ++ es)
  | _, _, _, _, .nil, s => s
  | _, _, _, _, .cons r t, s => .cons r (RpAll.append t s)
theorem RpAll.take : ∀ {vs : List V} {ds : List PyData} (n : Nat), RpAll K F vs ds → RpAll K F (vs.take n) (ds.take n)
  | _, _, 0, _ => .nil
  | _, _, _ + 1, .nil => .nil
  | _, _, n + 1, .cons r t => .cons r (RpAll.take n t)
theorem RpAll.drop : ∀ {vs : List V} {ds : List PyData} (n : Nat), RpAll K F vs ds → RpAll K F (vs.drop n) (ds.drop n)
  | _, _, 0, r => r
  | _, _, _ + 1, .nil => .nil
  | _, _, n + 1, .cons _ t => RpAll.drop n t
theorem RpAll.set {v : V} {d : PyData} (r : Rp K F v d) : ∀ {vs : List V} {ds : List PyData} (i : Nat), RpAll K F vs ds → RpAll K F (vs.set i v) (ds.set i d)
  | _, _, _, .nil => .nil
  | _, _, 0, .cons _ t => .cons r t
  | _, _, i + 1, .cons q t => .cons q (RpAll.set r i t)
theorem RpAll.reverse {vs : List V} {ds : List PyData} (h : RpAll K F vs ds) : RpAll K F vs.reverse ds.reverse := by
  induction vs generalizing ds with
  | nil => cases h; exact .nil
  | cons v vs ih =>
    cases h with
    | cons r t =>
      rw [List.reverse_cons, List.reverse_cons]
      exact (ih t).append (.cons r .nil)
theorem RpAll.rep {vs : List V} {ds : List PyData} (h : RpAll K F vs ds) : ∀ k : Nat, RpAll K F (List.replicate k vs).flatten (List.replicate k ds).flatten
  | 0 => .nil
  | k + 1 => by
    rw [List.replicate_succ, List.replicate_succ, List.flatten_cons, List.flatten_cons]
    exact h.append (RpAll.rep h k)
theorem RpAll.ints : ∀ {vs : List V} {ns : List Int}, RpAll K F vs (ns.map PyData.int) → vs = ns.map V.int
  | _, [], h => by cases h; rfl
  | _, n :: ns, h => by
    cases h with
    | cons r t => cases r; rw [RpAll.ints t]; rfl
theorem RpAll.bools : ∀ {vs : List V} {ns : List Bool}, RpAll K F vs (ns.map PyData.bool) → vs = ns.map V.bl
  | _, [], h => by cases h; rfl
  | _, n :: ns, h => by
    cases h with
    | cons r t => cases r; rw [RpAll.bools t]; rfl
theorem RpAll.strs : ∀ {vs : List V} {ns : List Str}, RpAll K F vs (ns.map PyData.str) → vs = ns.map V.str
  | _, [], h => by cases h; rfl
  | _, n :: ns, h => by
    cases h with
    | cons r t => cases r; rw [RpAll.strs t]; rfl
theorem RpAll.of_ints : ∀ (ns : List Int), RpAll K F (ns.map V.int) (ns.map PyData.int)
  | [] => .nil
  | n :: ns => .cons (.int n) (RpAll.of_ints ns)
end

/-! ### the slots -/
inductive Sl where
  | un
  | val (d : PyData)
  | adr (a : Addr)
  | tow (ps : List Addr)
def SlR (K : Fg) (F : Hp) : Option V → Sl → Prop
  | _, .un => True
  | s, .val d => ∃ v, s = some v ∧ Rp K F v d
  | s, .adr a => s = some (.ref a)
  | s, .tow ps => ∃ t, s = some (.ref t) ∧ SqT K F t (ps.map .ref)
inductive EnvR (K : Fg) (F : Hp) : L2.St → List Sl → Prop
  | nil : EnvR K F [] []
  | cons {s : Option V} {σ : L2.St} {r : Sl} {ρ : List Sl} : SlR K F s r → EnvR K F σ ρ → EnvR K F (s :: σ) (r :: ρ)
section
variable {K : Fg} {F F' : Hp} {σ : L2.St} {ρ : List Sl}
theorem SlR.up {s : Option V} {r : Sl} (h : SlR K F s r) (e : Same F F') : SlR K F' s r := by
  cases r with
  | un => trivial
  | val d => obtain ⟨v, h1, h2⟩ := h; exact ⟨v, h1, h2.up e⟩
  | adr a => exact h
  | tow ps => obtain ⟨t, h1, h2⟩ := h; exact ⟨t, h1, same_t e h2⟩
theorem EnvR.up (h : EnvR K F σ ρ) (e : Same F F') : EnvR K F' σ ρ := by
  induction h with
  | nil => exact .nil
  | cons r _ ih => exact .cons (r.up e) ih
theorem EnvR.at : ∀ {σ : L2.St} {ρ : List Sl} {i : Nat} {r : Sl}, EnvR K F σ ρ → ρ[i]? = some r → ∃ s, σ[i]? = some s ∧ SlR K F s r
  | _, _, _, _, .nil, e => by simp at e
  | _, _, 0, _, .cons r _, e => by simp at e; subst e; exact ⟨_, rfl, r⟩
  | _, _, i + 1, r, .cons _ t, e => by
    obtain ⟨v, h1, h2⟩ := EnvR.at (i := i) (r := r) t (by simpa using e)
    exact ⟨v, by simpa using h1, h2⟩
theorem EnvR.val {i : Nat} {d : PyData} (h : EnvR K F σ ρ) (e : ρ[i]? = some (.val d)) : ∃ v, σ[i]? = some (some v) ∧ Rp K F v d := by
  obtain ⟨s, h1, v, rfl, h2⟩ := h.at e
  exact ⟨v, h1, h2⟩
theorem EnvR.adr {i : Nat} {a : Addr} (h : EnvR K F σ ρ) (e : ρ[i]? = some (.adr a)) : σ[i]? = some (some (.ref a)) := by
  obtain ⟨s, h1, h2⟩ := h.at e
  cases h2
  exact h1
theorem EnvR.set {s : Option V} {r : Sl} (q : SlR K F s r) : ∀ {σ : L2.St} {ρ : List Sl} (i : Nat), EnvR K F σ ρ → EnvR K F (σ.set i s) (ρ.set i r)
  | _, _, _, .nil => .nil
  | _, _, 0, .cons _ t => .cons q t
  | _, _, i + 1, .cons p t => .cons p (EnvR.set q i t)
theorem EnvR.setv {v : V} {d : PyData} (h : EnvR K F σ ρ) (q : Rp K F v d) (i : Nat) : EnvR K F (σ.set i (some v)) (ρ.set i (.val d)) := EnvR.set (s := some v) (r := .val d) ⟨v, rfl, q⟩ i h
theorem EnvR.seta {a : Addr} (h : EnvR K F σ ρ) (i : Nat) : EnvR K F (σ.set i (some (.ref a))) (ρ.set i (.adr a)) := EnvR.set (s := some (.ref a)) (r := .adr a) rfl i h
theorem EnvR.blank : ∀ (n : Nat), EnvR K F (List.replicate n none) (List.replicate n .un)
  | 0 => .nil
  | n + 1 => .cons trivial (EnvR.blank n)
theorem EnvR.app : ∀ {σ τ : L2.St} {ρ π : List Sl}, EnvR K F σ ρ → EnvR K F τ π → EnvR K F (σ ++ τ) (ρ ++ π)
  | _, _, _, _, .nil, s => s
  | _, _, _, _, .cons r t, s => .cons r (EnvR.app t s)
/-- arguments: data, or own lists by their addresses -/
inductive AsR (K : Fg) (F : Hp) : List V → List Sl → Prop
  | nil : AsR K F [] []
  | val {v : V} {d : PyData} {vs : List V} {as : List Sl} : Rp K F v d → AsR K F vs as → AsR K F (v :: vs) (.val d :: as)
  | adr {a : Addr} {vs : List V} {as : List Sl} : AsR K F vs as → AsR K F (.ref a :: vs) (.adr a :: as)
theorem AsR.up {vs : List V} {as : List Sl} (h : AsR K F vs as) (e : Same F F') : AsR K F' vs as := by
  induction h with
  | nil => exact .nil
  | val r _ ih => exact .val (r.up e) ih
  | adr _ ih => exact .adr ih
theorem AsR.env : ∀ {vs : List V} {as : List Sl}, AsR K F vs as → EnvR K F (vs.map some) as
  | _, _, .nil => .nil
  | _, _, .val r t => .cons ⟨_, rfl, r⟩ t.env
  | _, _, .adr t => .cons rfl t.env
theorem AsR.length : ∀ {vs : List V} {as : List Sl}, AsR K F vs as → vs.length = as.length
  | _, _, .nil => rfl
  | _, _, .val _ t => by rw [List.length_cons, List.length_cons, AsR.length t]
  | _, _, .adr t => by rw [List.length_cons, List.length_cons, AsR.length t]
theorem AsR.all : ∀ {vs : List V} {ds : List PyData}, AsR K F vs (ds.map .val) → RpAll K F vs ds
  | _, [], h => by cases h; exact .nil
  | _, d :: ds, h => by
    cases h with
    | val r t => exact .cons r (AsR.all t)
theorem EnvR.start {N : List Str} {vs : List V} {as : List Sl} (h : AsR K F vs as) : EnvR K F (start N vs) (as ++ List.replicate (N.length - as.length) .un) := by
  unfold L2.start
  rw [h.length]
  exact h.env.app (EnvR.blank _)
/-- forgetting slots -/
def Wk : List Sl → List Sl → Prop
  | [], [] => True
  | r :: ρ, r' :: ρ' => (r' = r ∨ r' = .un) ∧ Wk ρ ρ'
  | _, _ => False
theorem EnvR.weak : ∀ {σ : L2.St} {ρ ρ' : List Sl}, EnvR K F σ ρ → Wk ρ ρ' → EnvR K F σ ρ'
  | _, _, [], .nil, _ => .nil
  | _, _, r' :: ρ', .cons r t, ⟨h1, h2⟩ => by
    refine .cons ?_ (EnvR.weak t h2)
    rcases h1 with rfl | rfl
    · exact r
    · trivial
  | _, _, _ :: _, .nil, h => h.elim
  | _, _, [], .cons _ _, h => h.elim
def wipeS (ρ : List Sl) : List Nat → List Sl
  | [] => ρ
  | v :: vs => (wipeS ρ vs).set v .un
theorem EnvR.wipe (h : EnvR K F σ ρ) : ∀ vs : List Nat, EnvR K F (L2.wipe σ vs) (wipeS ρ vs)
  | [] => h
  | v :: vs => by
    unfold L2.wipe wipeS
    exact EnvR.set (r := .un) trivial v (EnvR.wipe h vs)
theorem wipe_at (σ : L2.St) (i : Nat) : ∀ vs : List Nat, (L2.wipe σ vs)[i]? = if i ∈ vs then (if i < σ.length then some none else none) else σ[i]?
  | [] => by simp [L2.wipe]
  | v :: vs => by
    unfold L2.wipe
    rw [List.getElem?_set, wipe_at σ i vs, wipe_length]
    by_cases h : v = i
    · subst h; simp
    · have h' : ¬ i = v := fun e => h e.symm
      simp [h, h']
theorem wipe_wipe (σ : L2.St) (vs : List Nat) : L2.wipe (L2.wipe σ vs) vs = L2.wipe σ vs := by
  apply List.ext_getElem?
  intro i
  rw [wipe_at, wipe_at, wipe_length]
  split <;> rfl
theorem wipe_set (σ : L2.St) {i : Nat} {s : Option V} {vs : List Nat} (h : i ∈ vs) : L2.wipe (σ.set i s) vs = L2.wipe σ vs := by
  apply List.ext_getElem?
  intro j
  rw [wipe_at, wipe_at, List.length_set]
  by_cases e : j ∈ vs
  · rw [if_pos e, if_pos e]
  · rw [if_neg e, if_neg e, List.getElem?_set_ne (fun (q : i = j) => e (q ▸ h))]
end

/-! ### the heap's parts: F0, H0: frozen and whole at the entry; D0: lists at the entry that may be changed; F: frozen; O: own lists; H: the whole -/
structure OE where
  a : Addr
  nw : Bool
  ds : List PyData
abbrev Os := List OE
structure Hx (K : Fg) (F0 H0 : Hp) (D0 : List Addr) (F : Hp) (O : Os) (H : Hp) : Prop where
  f0 : Same F0 F
  fh : Same F H
  keep : ∀ a o, H0 a = some o → a ∉ D0 → H a = some o
  live : ∀ a o, H0 a = some o → ∃ o', H a = some o'
  new : ∀ a o, H0 a = some o → F0 a = none → F a = none
  own : ∀ p ∈ O, F p.a = none ∧ (p.nw = true → H0 p.a = none) ∧ (p.nw = false → p.a ∈ D0) ∧ ∃ vs, H p.a = some (.lst vs) ∧ vs.length ≤ sizeLine ∧ RpAll K F vs p.ds
  nd : (O.map OE.a).Nodup
/-- what a call leaves: D the lists that it may have changed -/
structure Stp (D : List Addr) (F H F' H' : Hp) : Prop where
  ff : Same F F'
  fh : Same F' H'
  keep : ∀ a o, H a = some o → a ∉ D → H' a = some o
  live : ∀ a o, H a = some o → ∃ o', H' a = some o'
  new : ∀ a o, H a = some o → F a = none → F' a = none
section
variable {K : Fg} {F0 H0 F H F' H' : Hp} {D0 : List Addr} {O : Os}
theorem Hx.start (h : Same F H) : Hx K F H [] F [] H := ⟨Same.refl _, h, fun _ _ e _ => e, fun _ o e => ⟨o, e⟩, fun _ _ _ e => e, fun p h => by simp at h, List.nodup_nil⟩
theorem Hx.start1 {p : Addr} {vs : List V} {ds : List PyData} (h : Same F H) (n : F p = none) (hp : H p = some (.lst vs)) (hz : vs.length ≤ sizeLine) (r : RpAll K F vs ds) : Hx K F H [p] F [⟨p, false, ds⟩] H := by
  refine ⟨Same.refl _, h, fun _ _ e _ => e, fun _ o e => ⟨o, e⟩, fun _ _ _ e => e, fun q hq => ?_, by simp⟩
  have e : q = ⟨p, false, ds⟩ := by simpa using hq
  subst e
  exact ⟨n, fun z => (Bool.false_ne_true z).elim, fun _ => by simp, vs, hp, hz, r⟩
theorem Hx.stp (S : Hx K F0 H0 D0 F O H) : Stp D0 F0 H0 F H := ⟨S.f0, S.fh, S.keep, S.live, S.new⟩
theorem Hx.nof (S : Hx K F0 H0 D0 F O H) {p : Addr} (h : H p = none) : F p = none := S.fh.free h
theorem Hx.noh0 (S : Hx K F0 H0 D0 F O H) {p : Addr} (h : H p = none) : H0 p = none := by
  cases e : H0 p with
  | none => rfl
  | some o =>
    obtain ⟨o', e'⟩ := S.live _ _ e
    rw [h] at e'
    cases e'
theorem same_upd {H : Hp} {p : Addr} {o : HO} (h : H p = none) : Same H (upd H p o) := fun a u e => by
  rw [upd_ne (ne_of_none e h)]
  exact e
theorem same_upd2 {F H : Hp} {p : Addr} {o : HO} (h : Same F H) : Same (upd F p o) (upd H p o) := fun a u e => by
  unfold upd at e ⊢
  split at e
  · rw [if_pos (by assumption)]; exact e
  · rw [if_neg (by assumption)]; exact h _ _ e
/-- a new object, frozen -/
theorem Hx.put (S : Hx K F0 H0 D0 F O H) {p : Addr} {o : HO} (h : H p = none) : Hx K F0 H0 D0 (upd F p o) O (upd H p o) := by
  have hF := S.nof h
  refine ⟨S.f0.trans (same_upd hF), same_upd2 S.fh, fun a u e n => ?_, fun a u e => ?_, fun a u e n => ?_, fun q hq => ?_, S.nd⟩
  · have := S.keep a u e n
    rw [upd_ne (ne_of_none this h)]
    exact this
  · obtain ⟨u', e'⟩ := S.live a u e
    exact ⟨u', by rw [upd_ne (ne_of_none e' h)]; exact e'⟩
  · obtain ⟨u', e'⟩ := S.live a u e
    rw [upd_ne (ne_of_none e' h)]
    exact S.new a u e n
  · obtain ⟨h1, h2, h3, vs, h4, h5, h6⟩ := S.own q hq
    have ne := ne_of_none h4 h
    exact ⟨by rw [upd_ne ne]; exact h1, h2, h3, vs, by rw [upd_ne ne]; exact h4, h5, h6.up (same_upd hF)⟩
/-- a new own list -/
theorem Hx.mine (S : Hx K F0 H0 D0 F O H) {p : Addr} {vs : List V} {ds : List PyData} (h : H p = none) (hz : vs.length ≤ sizeLine) (r : RpAll K F vs ds) : Hx K F0 H0 D0 F (⟨p, true, ds⟩ :: O) (upd H p (.lst vs)) := by
  have hF := S.nof h
  refine ⟨S.f0, S.fh.trans (same_upd h), fun a u e n => ?_, fun a u e => ?_, S.new, fun q hq => ?_, ?_⟩
  · have := S.keep a u e n
    rw [upd_ne (ne_of_none this h)]
    exact this
  · obtain ⟨u', e'⟩ := S.live a u e
    exact ⟨u', by rw [upd_ne (ne_of_none e' h)]; exact e'⟩
  · rcases List.mem_cons.mp hq with rfl | hq
    · exact ⟨hF, fun _ => S.noh0 h, fun z => (Bool.false_ne_true z.symm).elim, vs, upd_same, hz, r⟩
    · obtain ⟨h1, h2, h3, vs', h4, h5, h6⟩ := S.own q hq
      exact ⟨h1, h2, h3, vs', by rw [upd_ne (ne_of_none h4 h)]; exact h4, h5, h6⟩
  · rw [List.map_cons, List.nodup_cons]
    refine ⟨fun hm => ?_, S.nd⟩
    obtain ⟨q, hq, e⟩ := List.mem_map.mp hm
    obtain ⟨_, _, _, vs', h4, _⟩ := S.own q hq
    have e' : q.a = p := e
    rw [e', h] at h4
    cases h4
theorem Hx.get (S : Hx K F0 H0 D0 F O H) {j : Nat} {q : OE} (h : O[j]? = some q) : F q.a = none ∧ (q.nw = true → H0 q.a = none) ∧ (q.nw = false → q.a ∈ D0) ∧ ∃ vs, H q.a = some (.lst vs) ∧ vs.length ≤ sizeLine ∧ RpAll K F vs q.ds := S.own q (List.mem_of_getElem? h)
theorem nodup_at {α : Type} {l : List α} (h : l.Nodup) {i j : Nat} {x : α} (a : l[i]? = some x) (b : l[j]? = some x) : i = j := by
  obtain ⟨h1, e1⟩ := List.getElem?_eq_some_iff.mp a
  obtain ⟨h2, e2⟩ := List.getElem?_eq_some_iff.mp b
  exact (List.getElem_inj h).mp (e1.trans e2.symm)
/-- an own list is changed -/
theorem Hx.mut (S : Hx K F0 H0 D0 F O H) {j : Nat} {l : Addr} {nw : Bool} {ds ds' : List PyData} {vs : List V} (h : O[j]? = some ⟨l, nw, ds⟩) (hz : vs.length ≤ sizeLine) (r : RpAll K F vs ds') :
    Hx K F0 H0 D0 F (O.set j ⟨l, nw, ds'⟩) (upd H l (.lst vs)) := by
  obtain ⟨h1, h2, h3, vs0, h4, h5, h6⟩ := S.get h
  refine ⟨S.f0, fun a u e => ?_, fun a u e n => ?_, fun a u e => ?_, S.new, fun q hq => ?_, ?_⟩
  · rw [upd_ne (ne_of_none e h1)]
    exact S.fh _ _ e
  · have ne : a ≠ l := by
      rintro rfl
      cases nw with
      | true => rw [h2 rfl] at e; cases e
      | false => exact n (h3 rfl)
    rw [upd_ne ne]
    exact S.keep a u e n
  · by_cases ne : a = l
    · subst ne; exact ⟨_, upd_same⟩
    · rw [upd_ne ne]; exact S.live a u e
  · obtain ⟨i, hi⟩ := List.mem_iff_getElem?.mp hq
    by_cases e : j = i
    · subst e
      have hj : j < O.length := (List.getElem?_eq_some_iff.mp h).1
      rw [List.getElem?_set_self hj] at hi
      cases hi
      exact ⟨h1, h2, h3, vs, upd_same, hz, r⟩
    · rw [List.getElem?_set_ne e] at hi
      obtain ⟨g1, g2, g3, vs', g4, g5, g6⟩ := S.get hi
      have ne : q.a ≠ l := by
        intro z
        refine e (nodup_at S.nd (x := l) ?_ ?_)
        · rw [List.getElem?_map, h]; rfl
        · rw [List.getElem?_map, hi]; simp [z]
      exact ⟨g1, g2, g3, vs', by rw [upd_ne ne]; exact g4, g5, g6⟩
  · have e : (O.set j ⟨l, nw, ds'⟩).map OE.a = O.map OE.a := by
      rw [List.map_set]
      apply List.ext_getElem?
      intro i
      by_cases e : j = i
      · subst e
        have hj : j < O.length := (List.getElem?_eq_some_iff.mp h).1
        rw [List.getElem?_set_self (by simpa using hj), List.getElem?_map, h]; rfl
      · rw [List.getElem?_set_ne e]
    rw [e]
    exact S.nd
/-- an own list is frozen -/
theorem Hx.frz (S : Hx K F0 H0 D0 F O H) {j : Nat} {l : Addr} {ds : List PyData} (h : O[j]? = some ⟨l, true, ds⟩) :
    ∃ F', Same F F' ∧ Hx K F0 H0 D0 F' (O.eraseIdx j) H ∧ Rp K F' (.ref l) (.list ds) := by
  obtain ⟨h1, h2, h3, vs, h4, h5, h6⟩ := S.get h
  refine ⟨upd F l (.lst vs), same_upd h1, ⟨S.f0.trans (same_upd h1), fun a u e => ?_, S.keep, S.live, fun a u e n => ?_, fun q hq => ?_, ?_⟩, .lst (SqL.of upd_same) h5 (h6.up (same_upd h1))⟩
  · unfold upd at e
    split at e
    · rename_i z
      subst z
      cases e
      exact h4
    · exact S.fh _ _ e
  · have ne : a ≠ l := by rintro rfl; rw [h2 rfl] at e; cases e
    rw [upd_ne ne]
    exact S.new a u e n
  · have hq' := List.mem_of_mem_eraseIdx hq
    obtain ⟨g1, g2, g3, vs', g4, g5, g6⟩ := S.own q hq'
    have ne : q.a ≠ l := by
      intro z
      obtain ⟨i, hi⟩ := List.mem_iff_getElem?.mp hq
      rw [List.getElem?_eraseIdx] at hi
      split at hi
      · rename_i hlt
        have := nodup_at S.nd (x := l) (i := j) (j := i) (by rw [List.getElem?_map, h]; rfl) (by rw [List.getElem?_map, hi]; simp [z])
        omega
      · rename_i hlt
        have := nodup_at S.nd (x := l) (i := j) (j := i + 1) (by rw [List.getElem?_map, h]; rfl) (by rw [List.getElem?_map, hi]; simp [z])
        omega
    exact ⟨by rw [upd_ne ne]; exact g1, g2, g3, vs', g4, g5, g6.up (same_upd h1)⟩
  · exact S.nd.sublist ((List.eraseIdx_sublist O j).map OE.a)
/-- behind a call that changes nothing that was there -/
theorem Hx.call (S : Hx K F0 H0 D0 F O H) (q : Stp [] F H F' H') : Hx K F0 H0 D0 F' O H' := by
  refine ⟨S.f0.trans q.ff, q.fh, fun a u e n => q.keep _ _ (S.keep a u e n) (by simp), fun a u e => ?_, fun a u e n => ?_, fun p hp => ?_, S.nd⟩
  · obtain ⟨u', e'⟩ := S.live a u e
    exact q.live _ _ e'
  · obtain ⟨u', e'⟩ := S.live a u e
    exact q.new _ _ e' (S.new a u e n)
  · obtain ⟨h1, h2, h3, vs, h4, h5, h6⟩ := S.own p hp
    exact ⟨q.new _ _ h4 h1, h2, h3, vs, q.keep _ _ h4 (by simp), h5, h6.up q.ff⟩
/-- .. that changes one own list -/
theorem Hx.call1 (S : Hx K F0 H0 D0 F O H) {j : Nat} {l : Addr} {nw : Bool} {ds ds' : List PyData} {vs : List V} (h : O[j]? = some ⟨l, nw, ds⟩) (q : Stp [l] F H F' H') (hl : H' l = some (.lst vs)) (hz : vs.length ≤ sizeLine) (r : RpAll K F' vs ds') :
    Hx K F0 H0 D0 F' (O.set j ⟨l, nw, ds'⟩) H' := by
  obtain ⟨h1, h2, h3, vs0, h4, h5, h6⟩ := S.get h
  refine ⟨S.f0.trans q.ff, q.fh, fun a u e n => ?_, fun a u e => ?_, fun a u e n => ?_, fun p hp => ?_, ?_⟩
  · have ne : a ≠ l := by
      rintro rfl
      cases nw with
      | true => rw [h2 rfl] at e; cases e
      | false => exact n (h3 rfl)
    exact q.keep _ _ (S.keep a u e n) (by simpa using ne)
  · obtain ⟨u', e'⟩ := S.live a u e
    exact q.live _ _ e'
  · obtain ⟨u', e'⟩ := S.live a u e
    exact q.new _ _ e' (S.new a u e n)
  · obtain ⟨i, hi⟩ := List.mem_iff_getElem?.mp hp
    by_cases e : j = i
    · subst e
      have hj : j < O.length := (List.getElem?_eq_some_iff.mp h).1
      rw [List.getElem?_set_self hj] at hi
      cases hi
      exact ⟨q.new _ _ h4 h1, h2, h3, vs, hl, hz, r⟩
    · rw [List.getElem?_set_ne e] at hi
      obtain ⟨g1, g2, g3, vs', g4, g5, g6⟩ := S.get hi
      have ne : p.a ≠ l := by
        intro z
        refine e (nodup_at S.nd (x := l) ?_ ?_)
        · rw [List.getElem?_map, h]; rfl
        · rw [List.getElem?_map, hi]; simp [z]
      exact ⟨q.new _ _ g4 g1, g2, g3, vs', q.keep _ _ g4 (by simpa using ne), g5, g6.up q.ff⟩
  · have e : (O.set j ⟨l, nw, ds'⟩).map OE.a = O.map OE.a := by
      rw [List.map_set]
      apply List.ext_getElem?
      intro i
      by_cases e : j = i
      · subst e
        have hj : j < O.length := (List.getElem?_eq_some_iff.mp h).1
        rw [List.getElem?_set_self (by simpa using hj), List.getElem?_map, h]; rfl
      · rw [List.getElem?_set_ne e]
    rw [e]
    exact S.nd
end
end TL

namespace TL
open PySem L2

/-! ### encodings -/
class Enc (α : Type) where
  enc : α → PyData
open Enc
@[reducible] instance : Enc Int := ⟨.int⟩
@[reducible] instance : Enc Bool := ⟨.bool⟩
@[reducible] instance : Enc Str := ⟨.str⟩
@[reducible] instance : Enc Unit := ⟨fun _ => .none⟩
@[reducible] instance {α : Type} [Enc α] : Enc (List α) := ⟨fun xs => .list (xs.map enc)⟩
@[reducible] instance {α β : Type} [Enc α] [Enc β] : Enc (α × β) := ⟨fun p => .tuple [enc p.1, enc p.2]⟩
/-- a tuple of any length, its items of one kind -/
structure Tp (α : Type) where
  l : List α
  deriving DecidableEq
@[reducible] instance {α : Type} [Enc α] : Enc (Tp α) := ⟨fun t => .tuple (t.l.map enc)⟩
structure T3 (α β γ : Type) where
  a : α
  b : β
  c : γ
  deriving DecidableEq
structure T4 (α β γ δ : Type) where
  a : α
  b : β
  c : γ
  d : δ
  deriving DecidableEq
@[reducible] instance {α β γ : Type} [Enc α] [Enc β] [Enc γ] : Enc (T3 α β γ) := ⟨fun p => .tuple [enc p.a, enc p.b, enc p.c]⟩
@[reducible] instance {α β γ δ : Type} [Enc α] [Enc β] [Enc γ] [Enc δ] : Enc (T4 α β γ δ) := ⟨fun p => .tuple [enc p.a, enc p.b, enc p.c, enc p.d]⟩
def encO {α : Type} [Enc α] : Option α → PyData
  | none => .none
  | some x => enc x
@[reducible] instance {α : Type} [Enc α] : Enc (Option α) := ⟨encO⟩

/-! ### judgements -/
section
variable (K : Fg)
structure RX (t : TE) (ρ : List Sl) (O : Os) (d : PyData) (O' : Os) : Prop where
  run : ∀ (F0 H0 : Hp) (D0 : List Addr) (σ : L2.St) (F H : Hp) (Q : VK), EnvR K F σ ρ → Hx K F0 H0 D0 F O H →
    (∀ v F' H', Same F F' → Hx K F0 H0 D0 F' O' H' → Rp K F' v d → Q v H') → t σ H Q
/-- a new list, own -/
structure RXo (t : TE) (ρ : List Sl) (O : Os) (ds : List PyData) (O' : Os) : Prop where
  run : ∀ (F0 H0 : Hp) (D0 : List Addr) (σ : L2.St) (F H : Hp) (Q : VK), EnvR K F σ ρ → Hx K F0 H0 D0 F O H →
    (∀ p F' H', Same F F' → Hx K F0 H0 D0 F' (⟨p, true, ds⟩ :: O') H' → Q (.ref p) H') → t σ H Q
/-- a list that is read -/
structure RXs (t : TE) (ρ : List Sl) (O : Os) (ds : List PyData) (O' : Os) : Prop where
  run : ∀ (F0 H0 : Hp) (D0 : List Addr) (σ : L2.St) (F H : Hp) (Q : VK), EnvR K F σ ρ → Hx K F0 H0 D0 F O H →
    (∀ a F' H', Same F F' → Hx K F0 H0 D0 F' O' H' → (∀ F2 H2, Same F' F2 → Hx K F0 H0 D0 F2 O' H2 → ∃ vs, SqL K H2 a vs ∧ vs.length ≤ sizeLine ∧ RpAll K F2 vs ds) → Q (.ref a) H') → t σ H Q
/-- what is read, by the whole heap -/
structure RXh (t : TE) (ρ : List Sl) (O : Os) (d : PyData) (O' : Os) : Prop where
  run : ∀ (F0 H0 : Hp) (D0 : List Addr) (σ : L2.St) (F H : Hp) (Q : VK), EnvR K F σ ρ → Hx K F0 H0 D0 F O H →
    (∀ v F' H', Same F F' → Hx K F0 H0 D0 F' O' H' → (∀ F2 H2, Same F' F2 → Hx K F0 H0 D0 F2 O' H2 → Rp K H2 v d) → Q v H') → t σ H Q
structure RA (t : TA) (ρ : List Sl) (O : Os) (as : List Sl) (O' : Os) : Prop where
  run : ∀ (F0 H0 : Hp) (D0 : List Addr) (σ : L2.St) (F H : Hp) (Q : List V → Hp → Prop), EnvR K F σ ρ → Hx K F0 H0 D0 F O H →
    (∀ vs F' H', Same F F' → Hx K F0 H0 D0 F' O' H' → AsR K F' vs as → Q vs H') → t σ H Q
structure RT (t : TT) (ρ : List Sl) (O : Os) (b : Bool) (O' : Os) : Prop where
  run : ∀ (F0 H0 : Hp) (D0 : List Addr) (σ : L2.St) (F H : Hp) (Q : Bool → Hp → Prop), EnvR K F σ ρ → Hx K F0 H0 D0 F O H →
    (∀ F' H', Same F F' → Hx K F0 H0 D0 F' O' H' → Q b H') → t σ H Q
structure RO (t : TO) (ρ : List Sl) (O : Os) (o : Option Int) (O' : Os) : Prop where
  run : ∀ (F0 H0 : Hp) (D0 : List Addr) (σ : L2.St) (F H : Hp) (Q : Option Int → Hp → Prop), EnvR K F σ ρ → Hx K F0 H0 D0 F O H →
    (∀ F' H', Same F F' → Hx K F0 H0 D0 F' O' H' → Q o H') → t σ H Q
/-- a target; ts its slots -/
structure RG (g : TG) (d : PyData) (ρ ρ' : List Sl) (ts : List Nat) : Prop where
  run : ∀ (σ : L2.St) (F H : Hp) (v : V) (Q : L2.St → Hp → Prop), EnvR K F σ ρ → Rp K F v d → Same F H →
    (∀ σ', EnvR K F σ' ρ' → (∀ vs : List Nat, (∀ t ∈ ts, t ∈ vs) → L2.wipe σ' vs = L2.wipe σ vs) → Q σ' H) → g v σ H Q
structure WalkD (J : It) (ys : List PyData) (F1 : Hp) : Prop where
  sz : ys.length ≤ sizeLine
  go : ∀ (F0 H0 : Hp) (D0 : List Addr) (F : Hp) (O : Os) (H : Hp) (i : Nat), i < ys.length → Same F1 F → Hx K F0 H0 D0 F O H → J.go i H
  stop : ∀ (F0 H0 : Hp) (D0 : List Addr) (F : Hp) (O : Os) (H : Hp), Same F1 F → Hx K F0 H0 D0 F O H → J.stop ys.length H
  yld : ∀ (F0 H0 : Hp) (D0 : List Addr) (F : Hp) (O : Os) (H : Hp) (i : Nat) (x : V) (H' : Hp), i < ys.length → Same F1 F → Hx K F0 H0 D0 F O H → J.yld i H x H' →
    ∃ F' y, Same F F' ∧ Hx K F0 H0 D0 F' O H' ∧ ys[i]? = some y ∧ Rp K F' x y
structure RI (wi : TI) (ρ : List Sl) (O : Os) (ys : List PyData) (O' : Os) : Prop where
  run : ∀ (F0 H0 : Hp) (D0 : List Addr) (σ : L2.St) (F H : Hp) (R : It → Hp → Prop), EnvR K F σ ρ → Hx K F0 H0 D0 F O H →
    (∀ J F' H', Same F F' → Hx K F0 H0 D0 F' O' H' → WalkD K J ys F' → R J H') → wi σ H R
end
section
variable {K : Fg} {t : TE} {ρ : List Sl} {O O' : Os} {d : PyData} {ds : List PyData} {F0 H0 : Hp} {D0 : List Addr} {σ : L2.St} {F H : Hp}
/-- the evaluation is used -/
theorem RX.go (h : RX K t ρ O d O') {Q : VK} (E : EnvR K F σ ρ) (S : Hx K F0 H0 D0 F O H)
    (k : ∀ v F' H', Same F F' → EnvR K F' σ ρ → Hx K F0 H0 D0 F' O' H' → Rp K F' v d → Q v H') : t σ H Q := h.run _ _ _ _ _ _ Q E S fun v F' H' f S' r => k v F' H' f (E.up f) S' r
theorem RXo.go (h : RXo K t ρ O ds O') {Q : VK} (E : EnvR K F σ ρ) (S : Hx K F0 H0 D0 F O H)
    (k : ∀ p F' H', Same F F' → EnvR K F' σ ρ → Hx K F0 H0 D0 F' (⟨p, true, ds⟩ :: O') H' → Q (.ref p) H') : t σ H Q := h.run _ _ _ _ _ _ Q E S fun v F' H' f S' => k v F' H' f (E.up f) S'
theorem RXs.go (h : RXs K t ρ O ds O') {Q : VK} (E : EnvR K F σ ρ) (S : Hx K F0 H0 D0 F O H)
    (k : ∀ a F' H', Same F F' → EnvR K F' σ ρ → Hx K F0 H0 D0 F' O' H' → (∀ F2 H2, Same F' F2 → Hx K F0 H0 D0 F2 O' H2 → ∃ vs, SqL K H2 a vs ∧ vs.length ≤ sizeLine ∧ RpAll K F2 vs ds) → Q (.ref a) H') : t σ H Q :=
  h.run _ _ _ _ _ _ Q E S fun a F' H' f S' q => k a F' H' f (E.up f) S' q
theorem RXh.go (h : RXh K t ρ O d O') {Q : VK} (E : EnvR K F σ ρ) (S : Hx K F0 H0 D0 F O H)
    (k : ∀ v F' H', Same F F' → EnvR K F' σ ρ → Hx K F0 H0 D0 F' O' H' → (∀ F2 H2, Same F' F2 → Hx K F0 H0 D0 F2 O' H2 → Rp K H2 v d) → Q v H') : t σ H Q :=
  h.run _ _ _ _ _ _ Q E S fun v F' H' f S' q => k v F' H' f (E.up f) S' q
theorem RT.go {t : TT} {b : Bool} (h : RT K t ρ O b O') {Q : Bool → Hp → Prop} (E : EnvR K F σ ρ) (S : Hx K F0 H0 D0 F O H)
    (k : ∀ F' H', Same F F' → EnvR K F' σ ρ → Hx K F0 H0 D0 F' O' H' → Q b H') : t σ H Q := h.run _ _ _ _ _ _ Q E S fun F' H' f S' => k F' H' f (E.up f) S'
theorem RA.go {t : TA} {as : List Sl} (h : RA K t ρ O as O') {Q : List V → Hp → Prop} (E : EnvR K F σ ρ) (S : Hx K F0 H0 D0 F O H)
    (k : ∀ vs F' H', Same F F' → EnvR K F' σ ρ → Hx K F0 H0 D0 F' O' H' → AsR K F' vs as → Q vs H') : t σ H Q := h.run _ _ _ _ _ _ Q E S fun v F' H' f S' r => k v F' H' f (E.up f) S' r
theorem RO.go {t : TO} {o : Option Int} (h : RO K t ρ O o O') {Q : Option Int → Hp → Prop} (E : EnvR K F σ ρ) (S : Hx K F0 H0 D0 F O H)
    (k : ∀ F' H', Same F F' → EnvR K F' σ ρ → Hx K F0 H0 D0 F' O' H' → Q o H') : t σ H Q := h.run _ _ _ _ _ _ Q E S fun F' H' f S' => k F' H' f (E.up f) S'
theorem RI.go {t : TI} {ys : List PyData} (h : RI K t ρ O ys O') {Q : It → Hp → Prop} (E : EnvR K F σ ρ) (S : Hx K F0 H0 D0 F O H)
    (k : ∀ J F' H', Same F F' → EnvR K F' σ ρ → Hx K F0 H0 D0 F' O' H' → WalkD K J ys F' → Q J H') : t σ H Q := h.run _ _ _ _ _ _ Q E S fun J F' H' f S' r => k J F' H' f (E.up f) S' r
theorem RXo.frz (h : RXo K t ρ O ds O') : RX K t ρ O (.list ds) O' := ⟨fun _ _ _ _ _ _ Q E S k => h.go E S fun p F' H' f _ S' => by
  obtain ⟨F2, f2, S2, r⟩ := S'.frz (j := 0) (l := p) (ds := ds) rfl
  exact k _ F2 H' (f.trans f2) S2 r⟩
theorem RX.s (h : RX K t ρ O (.list ds) O') : RXs K t ρ O ds O' := ⟨fun _ _ _ _ _ _ Q E S k => h.go E S fun v F' H' f _ S' r => by
  cases r with
  | lst h1 h2 h3 => exact k _ F' H' f S' fun F2 H2 f2 S2 => ⟨_, (f2.trans S2.fh).seq h1, h2, h3.up f2⟩⟩
theorem RXo.s (h : RXo K t ρ O ds O') : RXs K t ρ O ds O' := RX.s (RXo.frz h)
theorem RX.h (h : RX K t ρ O d O') : RXh K t ρ O d O' := ⟨fun _ _ _ _ _ _ Q E S k => h.go E S fun v F' H' f _ S' r => k v F' H' f S' fun F2 H2 f2 S2 => r.up (f2.trans S2.fh)⟩
theorem RXs.h (h : RXs K t ρ O ds O') : RXh K t ρ O (.list ds) O' := ⟨fun _ _ _ _ _ _ Q E S k => h.go E S fun a F' H' f _ S' h1 => k _ F' H' f S' fun F2 H2 f2 S2 => by
  obtain ⟨vs, q1, q2, q3⟩ := h1 F2 H2 f2 S2
  exact .lst q1 q2 (q3.up S2.fh)⟩

/-! ### names, constants -/
theorem rx_var {i : Nat} (h : ρ[i]? = some (.val d)) : RX K (tVar i) ρ O d O := ⟨fun _ _ _ _ _ _ Q E S k => by
  obtain ⟨v, h1, h2⟩ := E.val h
  exact ⟨v, h1, k v _ _ (Same.refl _) S h2⟩⟩
theorem rxs_own {i j : Nat} {a : Addr} {nw : Bool} (h : ρ[i]? = some (.adr a)) (ho : O[j]? = some ⟨a, nw, ds⟩) : RXs K (tVar i) ρ O ds O := ⟨fun _ _ _ _ _ _ Q E S k => by
  refine ⟨_, E.adr h, k a _ _ (Same.refl _) S fun F2 H2 f2 S2 => ?_⟩
  obtain ⟨_, _, _, vs', h4', h5', h6'⟩ := S2.get ho
  exact ⟨vs', SqL.of h4', h5', h6'⟩⟩
theorem rx_int {i : Int} : RX K (tC (.int i)) ρ O (.int i) O := ⟨fun _ _ _ _ _ _ Q E S k => k _ _ _ (Same.refl _) S (.int i)⟩
theorem rx_bl {b : Bool} : RX K (tC (.bl b)) ρ O (.bool b) O := ⟨fun _ _ _ _ _ _ Q E S k => k _ _ _ (Same.refl _) S (.bl b)⟩
theorem rx_str {x : Str} : RX K (tC (.str x)) ρ O (.str x) O := ⟨fun _ _ _ _ _ _ Q E S k => k _ _ _ (Same.refl _) S (.str x)⟩
theorem rx_non : RX K (tC .non) ρ O .none O := ⟨fun _ _ _ _ _ _ Q E S k => k _ _ _ (Same.refl _) S .non⟩
end
end TL

namespace TL
open PySem L2
open Enc

/-! ### operators -/
section
variable {K : Fg} {ta tb tc : TE} {ρ : List Sl} {O O1 O2 O3 : Os}
/-- two-place rules by values -/
theorem rx_op {r : R2} {d e f : PyData} (ha : RX K ta ρ O d O1) (hb : RX K tb ρ O1 e O2)
    (hr : ∀ (F H : Hp) (x y : V) (Q : VK), Same F H → Rp K F x d → Rp K F y e → (∀ v, Rp K F v f → Q v H) → r x y H Q) : RX K (tOp r ta tb) ρ O f O2 := ⟨fun _ _ _ _ _ _ Q E S k =>
  ha.go E S fun x F1 H1 f1 E1 S1 r1 => hb.go E1 S1 fun y F2 H2 f2 E2 S2 r2 => hr F2 H2 x y Q S2.fh (r1.up f2) r2 fun v r3 => k v F2 H2 (f1.trans f2) S2 r3⟩
theorem rx_ii {g : Int → Int → V} {i j : Int} {f : PyData} (hg : ∀ F, Rp K F (g i j) f) (ha : RX K ta ρ O (.int i) O1) (hb : RX K tb ρ O1 (.int j) O2) : RX K (tOp (rI0 g) ta tb) ρ O f O2 :=
  rx_op ha hb fun F H x y Q _ rx ry k => by
    cases rx
    cases ry
    exact ⟨i, j, rfl, rfl, k _ (hg F)⟩
theorem rx_iiC {C : Int → Int → Prop} {g : Int → Int → V} {i j : Int} {f : PyData} (hg : ∀ F, Rp K F (g i j) f) (hc : C i j) (ha : RX K ta ρ O (.int i) O1) (hb : RX K tb ρ O1 (.int j) O2) : RX K (tOp (rI C g) ta tb) ρ O f O2 :=
  rx_op ha hb fun F H x y Q _ rx ry k => by
    cases rx
    cases ry
    exact ⟨i, j, rfl, rfl, hc, k _ (hg F)⟩
variable {i j : Int}
theorem rx_add (ha : RX K ta ρ O (.int i) O1) (hb : RX K tb ρ O1 (.int j) O2) : RX K (tOp (rI0 fun i j => .int (i + j)) ta tb) ρ O (.int (i + j)) O2 := rx_ii (fun _ => .int _) ha hb
theorem rx_sub (ha : RX K ta ρ O (.int i) O1) (hb : RX K tb ρ O1 (.int j) O2) : RX K (tOp (rI0 fun i j => .int (i - j)) ta tb) ρ O (.int (i - j)) O2 := rx_ii (fun _ => .int _) ha hb
theorem rx_band (ha : RX K ta ρ O (.int i) O1) (hb : RX K tb ρ O1 (.int j) O2) : RX K (tOp (rI0 fun i j => .int (Builtin.bitAnd i j)) ta tb) ρ O (.int (Builtin.bitAnd i j)) O2 := rx_ii (fun _ => .int _) ha hb
theorem rx_bor (ha : RX K ta ρ O (.int i) O1) (hb : RX K tb ρ O1 (.int j) O2) : RX K (tOp (rI0 fun i j => .int (Builtin.bitOr i j)) ta tb) ρ O (.int (Builtin.bitOr i j)) O2 := rx_ii (fun _ => .int _) ha hb
theorem rx_bxor (ha : RX K ta ρ O (.int i) O1) (hb : RX K tb ρ O1 (.int j) O2) : RX K (tOp (rI0 fun i j => .int (Builtin.bitXor i j)) ta tb) ρ O (.int (Builtin.bitXor i j)) O2 := rx_ii (fun _ => .int _) ha hb
theorem rx_mul (ha : RX K ta ρ O (.int i) O1) (hb : RX K tb ρ O1 (.int j) O2) (hc : CMul i j) : RX K (tOp (rI CMul fun i j => .int (i * j)) ta tb) ρ O (.int (i * j)) O2 := rx_iiC (fun _ => .int _) hc ha hb
theorem rx_mod (ha : RX K ta ρ O (.int i) O1) (hb : RX K tb ρ O1 (.int j) O2) (hc : 0 < j) : RX K (tOp (rI (fun _ j => 0 < j) fun i j => .int (i % j)) ta tb) ρ O (.int (i % j)) O2 := rx_iiC (C := fun _ j => 0 < j) (fun _ => .int _) hc ha hb
theorem rx_fdiv (ha : RX K ta ρ O (.int i) O1) (hb : RX K tb ρ O1 (.int j) O2) (hc : CDiv i j) : RX K (tOp (rI CDiv fun i j => .int (i / j)) ta tb) ρ O (.int (i / j)) O2 := rx_iiC (fun _ => .int _) hc ha hb
theorem rx_pow (ha : RX K ta ρ O (.int i) O1) (hb : RX K tb ρ O1 (.int j) O2) (hc : CPow i j) : RX K (tOp (rI CPow fun i j => .int (i ^ j.toNat)) ta tb) ρ O (.int (i ^ j.toNat)) O2 := rx_iiC (fun _ => .int _) hc ha hb
theorem rx_shl (ha : RX K ta ρ O (.int i) O1) (hb : RX K tb ρ O1 (.int j) O2) (hc : CPow i j) : RX K (tOp (rI CPow fun i j => .int (i * 2 ^ j.toNat)) ta tb) ρ O (.int (i * 2 ^ j.toNat)) O2 := rx_iiC (fun _ => .int _) hc ha hb
theorem rx_shr (ha : RX K ta ρ O (.int i) O1) (hb : RX K tb ρ O1 (.int j) O2) (hc : 0 ≤ j) : RX K (tOp (rI (fun _ j => 0 ≤ j) fun i j => .int (i / 2 ^ j.toNat)) ta tb) ρ O (.int (i / 2 ^ j.toNat)) O2 := rx_iiC (C := fun _ j => 0 ≤ j) (fun _ => .int _) hc ha hb
theorem rx_lt (ha : RX K ta ρ O (.int i) O1) (hb : RX K tb ρ O1 (.int j) O2) : RX K (tOp (rI0 fun i j => .bl (decide (i < j))) ta tb) ρ O (.bool (decide (i < j))) O2 := rx_ii (fun _ => .bl _) ha hb
theorem rx_le (ha : RX K ta ρ O (.int i) O1) (hb : RX K tb ρ O1 (.int j) O2) : RX K (tOp (rI0 fun i j => .bl (decide (i ≤ j))) ta tb) ρ O (.bool (decide (i ≤ j))) O2 := rx_ii (fun _ => .bl _) ha hb
theorem rx_gt (ha : RX K ta ρ O (.int i) O1) (hb : RX K tb ρ O1 (.int j) O2) : RX K (tOp (rI0 fun i j => .bl (decide (j < i))) ta tb) ρ O (.bool (decide (j < i))) O2 := rx_ii (fun _ => .bl _) ha hb
theorem rx_ge (ha : RX K ta ρ O (.int i) O1) (hb : RX K tb ρ O1 (.int j) O2) : RX K (tOp (rI0 fun i j => .bl (decide (j ≤ i))) ta tb) ρ O (.bool (decide (j ≤ i))) O2 := rx_ii (fun _ => .bl _) ha hb
theorem rx_neg {g : Int → V} {f : PyData} (ha : RX K ta ρ O (.int i) O1) (hg : ∀ F, Rp K F (g i) f) : RX K (tUn (rU g) ta) ρ O f O1 := ⟨fun _ _ _ _ _ _ Q E S k =>
  ha.go E S fun x F1 H1 f1 E1 S1 r1 => by
    cases r1
    exact ⟨i, rfl, k _ _ _ f1 S1 (hg _)⟩⟩
theorem rx_usub (ha : RX K ta ρ O (.int i) O1) : RX K (tUn (rU fun i => .int (-i)) ta) ρ O (.int (-i)) O1 := rx_neg ha fun _ => .int _
theorem rx_inv (ha : RX K ta ρ O (.int i) O1) : RX K (tUn (rU fun i => .int (Builtin.bitNot i)) ta) ρ O (.int (Builtin.bitNot i)) O1 := rx_neg ha fun _ => .int _

/-! ### == -/
/-- kinds whose data == tells apart as Lean's = does; ok: the texts within are texts -/
class EqD (α : Type) [Enc α] [DecidableEq α] where
  ok : α → Bool
  eqv : ∀ x y : α, PyData.eqv (enc x) (enc y) = decide (x = y)
  dp : Nat
  dep : ∀ x : α, (enc x).depth ≤ dp
  lay : ∀ x : α, ok x = true → (enc x).canLay0 = true
theorem eqvAll_map {α : Type} [Enc α] [DecidableEq α] [EqD α] : ∀ xs ys : List α, PyData.eqvAll (xs.map enc) (ys.map enc) = decide (xs = ys)
  | [], [] => by simp [PyData.eqvAll]
  | [], y :: ys => by simp [PyData.eqvAll]
  | x :: xs, [] => by simp [PyData.eqvAll]
  | x :: xs, y :: ys => by
    rw [List.map_cons, List.map_cons, PyData.eqvAll, EqD.eqv, eqvAll_map xs ys]
    rw [Bool.eq_iff_iff]
    simp
end

theorem canLayAll_map {α : Type} [Enc α] [DecidableEq α] [EqD α] : ∀ xs : List α, xs.all EqD.ok = true → PyData.canLayAll0 (xs.map enc) = true
  | [], _ => rfl
  | x :: xs, h => by
    rw [List.all_cons, Bool.and_eq_true] at h
    rw [List.map_cons, PyData.canLayAll0, EqD.lay x h.1, canLayAll_map xs h.2]
    rfl
theorem depthAll_map {α : Type} [Enc α] [DecidableEq α] [EqD α] : ∀ xs : List α, PyData.depthAll (xs.map enc) ≤ EqD.dp α
  | [] => Nat.zero_le _
  | x :: xs => by
    rw [List.map_cons, PyData.depthAll]
    have h1 := EqD.dep x
    have h2 := depthAll_map xs
    omega
instance : EqD Int := ⟨fun _ => true, fun x y => by simp [enc, PyData.eqv, Bool.beq_eq_decide_eq], 0, fun _ => Nat.le_refl _, fun _ _ => rfl⟩
instance : EqD Bool := ⟨fun _ => true, fun x y => by simp [enc, PyData.eqv, Bool.beq_eq_decide_eq], 0, fun _ => Nat.le_refl _, fun _ _ => rfl⟩
instance : EqD Str := ⟨PyData.strOk, fun x y => by simp [enc, PyData.eqv, Bool.beq_eq_decide_eq], 0, fun _ => Nat.le_refl _, fun x h => by simpa [enc, PyData.canLay0] using h⟩
instance {α : Type} [Enc α] [DecidableEq α] [EqD α] : EqD (List α) := ⟨fun xs => xs.all EqD.ok, fun x y => by simp only [enc, PyData.eqv, eqvAll_map], EqD.dp α + 1, fun x => by
  have := depthAll_map x
  simp only [enc, PyData.depth]; omega, fun x h => by
  simp only [enc, PyData.canLay0]
  exact canLayAll_map x h⟩
instance {α : Type} [Enc α] [DecidableEq α] [EqD α] : EqD (Tp α) := ⟨fun xs => xs.l.all EqD.ok, fun x y => by
  simp only [enc, PyData.eqv, eqvAll_map]
  cases x; cases y; simp, EqD.dp α + 1, fun x => by
  have := depthAll_map x.l
  simp only [enc, PyData.depth]; omega, fun x h => by
  simp only [enc, PyData.canLay0]
  exact canLayAll_map x.l h⟩
instance {α β : Type} [Enc α] [DecidableEq α] [EqD α] [Enc β] [DecidableEq β] [EqD β] : EqD (α × β) := ⟨fun p => EqD.ok p.1 && EqD.ok p.2, fun x y => by
  simp only [enc, PyData.eqv, PyData.eqvAll, EqD.eqv, Bool.and_true]
  cases x; cases y; rw [Bool.eq_iff_iff]; simp, max (EqD.dp α) (EqD.dp β) + 1, fun x => by
  have h1 := EqD.dep x.1
  have h2 := EqD.dep x.2
  simp only [enc, PyData.depth, PyData.depthAll] at *; omega, fun x h => by
  rw [Bool.and_eq_true] at h
  simp only [enc, PyData.canLay0, PyData.canLayAll0, Bool.and_true, Bool.and_eq_true]
  exact ⟨EqD.lay _ h.1, EqD.lay _ h.2⟩⟩
instance {α β γ : Type} [Enc α] [DecidableEq α] [EqD α] [Enc β] [DecidableEq β] [EqD β] [Enc γ] [DecidableEq γ] [EqD γ] : EqD (T3 α β γ) := ⟨fun p => EqD.ok p.a && (EqD.ok p.b && EqD.ok p.c), fun x y => by
  simp only [enc, PyData.eqv, PyData.eqvAll, EqD.eqv, Bool.and_true]
  cases x; cases y; rw [Bool.eq_iff_iff]; simp, max (EqD.dp α) (max (EqD.dp β) (EqD.dp γ)) + 1, fun x => by
  have h1 := EqD.dep x.a
  have h2 := EqD.dep x.b
  have h3 := EqD.dep x.c
  simp only [enc, PyData.depth, PyData.depthAll] at *; omega, fun x h => by
  rw [Bool.and_eq_true, Bool.and_eq_true] at h
  simp only [enc, PyData.canLay0, PyData.canLayAll0, Bool.and_true, Bool.and_eq_true]
  exact ⟨EqD.lay _ h.1, EqD.lay _ h.2.1, EqD.lay _ h.2.2⟩⟩
instance {α β γ δ : Type} [Enc α] [DecidableEq α] [EqD α] [Enc β] [DecidableEq β] [EqD β] [Enc γ] [DecidableEq γ] [EqD γ] [Enc δ] [DecidableEq δ] [EqD δ] : EqD (T4 α β γ δ) := ⟨fun p => EqD.ok p.a && (EqD.ok p.b && (EqD.ok p.c && EqD.ok p.d)), fun x y => by
  simp only [enc, PyData.eqv, PyData.eqvAll, EqD.eqv, Bool.and_true]
  cases x; cases y; rw [Bool.eq_iff_iff]; simp, max (EqD.dp α) (max (EqD.dp β) (max (EqD.dp γ) (EqD.dp δ))) + 1, fun x => by
  have h1 := EqD.dep x.a
  have h2 := EqD.dep x.b
  have h3 := EqD.dep x.c
  have h4 := EqD.dep x.d
  simp only [enc, PyData.depth, PyData.depthAll] at *; omega, fun x h => by
  rw [Bool.and_eq_true, Bool.and_eq_true, Bool.and_eq_true] at h
  simp only [enc, PyData.canLay0, PyData.canLayAll0, Bool.and_true, Bool.and_eq_true]
  exact ⟨EqD.lay _ h.1, EqD.lay _ h.2.1, EqD.lay _ h.2.2.1, EqD.lay _ h.2.2.2⟩⟩
instance : EqD (Option Int) := ⟨fun _ => true, fun x y => by cases x <;> cases y <;> simp [enc, encO, PyData.eqv, Bool.beq_eq_decide_eq], 0, fun x => by cases x <;> exact Nat.le_refl _, fun x _ => by cases x <;> rfl⟩

section
variable {K : Fg} {ta tb tc : TE} {ρ : List Sl} {O O1 O2 O3 : Os}
/-- two-place rules that read the whole heap -/
theorem rx_opH {r : R2} {d e f : PyData} (ha : RXh K ta ρ O d O1) (hb : RXh K tb ρ O1 e O1)
    (hr : ∀ (H : Hp) (x y : V) (Q : VK), Rp K H x d → Rp K H y e → (∀ v, (∀ F, Rp K F v f) → Q v H) → r x y H Q) : RX K (tOp r ta tb) ρ O f O1 := ⟨fun _ _ _ _ _ _ Q E S k =>
  ha.go E S fun x F1 H1 f1 E1 S1 r1 => hb.go E1 S1 fun y F2 H2 f2 E2 S2 r2 => hr H2 x y Q (r1 F2 H2 f2 S2) (r2 F2 H2 (Same.refl _) S2) fun v r3 => k v F2 H2 (f1.trans f2) S2 (r3 F2)⟩
theorem rx_eqD {α : Type} [Enc α] [DecidableEq α] [EqD α] {x y : α} (ha : RXh K ta ρ O (enc x) O1) (hb : RXh K tb ρ O1 (enc y) O1) (hd : EqD.dp α ≤ 64) (hx : EqD.ok x = true) (hy : EqD.ok y = true) :
    RX K (tOp (rEqD K) ta tb) ρ O (.bool (decide (x = y))) O1 := rx_opH ha hb fun H u v Q ru rv k => by
  have s : ∀ z : α, EqD.ok z = true → SeqAt.shaped (enc z) = true := fun z h => by
    unfold SeqAt.shaped
    rw [EqD.lay z h, Bool.true_and]
    exact decide_eq_true (Nat.le_trans (EqD.dep z) hd)
  refine ⟨enc x, enc y, ru.dp _ _, rv.dp _ _, s x hx, s y hy, ?_⟩
  rw [EqD.eqv]
  exact k _ fun _ => .bl _
theorem rx_neD {α : Type} [Enc α] [DecidableEq α] [EqD α] {x y : α} (ha : RXh K ta ρ O (enc x) O1) (hb : RXh K tb ρ O1 (enc y) O1) (hd : EqD.dp α ≤ 64) (hx : EqD.ok x = true) (hy : EqD.ok y = true) :
    RX K (tOp (rNeD K) ta tb) ρ O (.bool (!decide (x = y))) O1 := rx_opH ha hb fun H u v Q ru rv k => by
  have s : ∀ z : α, EqD.ok z = true → SeqAt.shaped (enc z) = true := fun z h => by
    unfold SeqAt.shaped
    rw [EqD.lay z h, Bool.true_and]
    exact decide_eq_true (Nat.le_trans (EqD.dep z) hd)
  refine ⟨enc x, enc y, ru.dp _ _, rv.dp _ _, s x hx, s y hy, ?_⟩
  rw [EqD.eqv]
  exact k _ fun _ => .bl _
/-- == of texts -/
theorem rx_eqs {i j : Str} (ha : RX K ta ρ O (.str i) O1) (hb : RX K tb ρ O1 (.str j) O2) : RX K (tOp rEq ta tb) ρ O (.bool (decide (i = j))) O2 := rx_op ha hb fun F H x y Q _ rx ry k => by
  cases rx
  cases ry
  refine ⟨rfl, ?_⟩
  rw [show decide (V.str i = V.str j) = decide (i = j) from by simp]
  exact k _ (.bl _)
theorem rx_nes {i j : Str} (ha : RX K ta ρ O (.str i) O1) (hb : RX K tb ρ O1 (.str j) O2) : RX K (tOp rNe ta tb) ρ O (.bool (!decide (i = j))) O2 := rx_op ha hb fun F H x y Q _ rx ry k => by
  cases rx
  cases ry
  refine ⟨rfl, ?_⟩
  rw [show decide (V.str i = V.str j) = decide (i = j) from by simp]
  exact k _ (.bl _)
theorem rx_eqi {i j : Int} (ha : RX K ta ρ O (.int i) O1) (hb : RX K tb ρ O1 (.int j) O2) : RX K (tOp rEq ta tb) ρ O (.bool (decide (i = j))) O2 := rx_op ha hb fun F H x y Q _ rx ry k => by
  cases rx
  cases ry
  refine ⟨rfl, ?_⟩
  rw [show decide (V.int i = V.int j) = decide (i = j) from by simp]
  exact k _ (.bl _)
theorem rx_nei {i j : Int} (ha : RX K ta ρ O (.int i) O1) (hb : RX K tb ρ O1 (.int j) O2) : RX K (tOp rNe ta tb) ρ O (.bool (!decide (i = j))) O2 := rx_op ha hb fun F H x y Q _ rx ry k => by
  cases rx
  cases ry
  refine ⟨rfl, ?_⟩
  rw [show decide (V.int i = V.int j) = decide (i = j) from by simp]
  exact k _ (.bl _)
theorem rx_eqb {i j : Bool} (ha : RX K ta ρ O (.bool i) O1) (hb : RX K tb ρ O1 (.bool j) O2) : RX K (tOp rEq ta tb) ρ O (.bool (decide (i = j))) O2 := rx_op ha hb fun F H x y Q _ rx ry k => by
  cases rx
  cases ry
  refine ⟨rfl, ?_⟩
  rw [show decide (V.bl i = V.bl j) = decide (i = j) from by simp]
  exact k _ (.bl _)
theorem rx_neb {i j : Bool} (ha : RX K ta ρ O (.bool i) O1) (hb : RX K tb ρ O1 (.bool j) O2) : RX K (tOp rNe ta tb) ρ O (.bool (!decide (i = j))) O2 := rx_op ha hb fun F H x y Q _ rx ry k => by
  cases rx
  cases ry
  refine ⟨rfl, ?_⟩
  rw [show decide (V.bl i = V.bl j) = decide (i = j) from by simp]
  exact k _ (.bl _)
/-- is None of what may be None -/
theorem rx_isN {α : Type} [Enc α] {o : Option α} (hn : ∀ x : α, enc x ≠ .none) (ha : RX K ta ρ O (enc o) O1) : RX K (tIsN ta) ρ O (.bool o.isNone) O1 := ⟨fun _ _ _ _ _ _ Q E S k => ha.go E S fun x F1 H1 f1 E1 S1 r1 => by
  have e : decide (x = V.non) = o.isNone := by
    cases o with
    | none => cases r1; rfl
    | some z =>
      have r1 : Rp K F1 x (enc z) := r1
      refine decide_eq_false fun q => ?_
      subst q
      generalize h : enc z = d at r1
      cases r1
      exact hn z h
  rw [e]
  exact k _ _ _ f1 S1 (.bl _)⟩
theorem rx_notN {α : Type} [Enc α] {o : Option α} (hn : ∀ x : α, enc x ≠ .none) (ha : RX K ta ρ O (enc o) O1) : RX K (tNotN ta) ρ O (.bool o.isSome) O1 := ⟨fun _ _ _ _ _ _ Q E S k => ha.go E S fun x F1 H1 f1 E1 S1 r1 => by
  have e : (!decide (x = V.non)) = o.isSome := by
    cases o with
    | none => cases r1; rfl
    | some z =>
      have r1 : Rp K F1 x (enc z) := r1
      have : decide (x = V.non) = false := decide_eq_false fun q => by
        subst q
        generalize h : enc z = d at r1
        cases r1
        exact hn z h
      rw [this]; rfl
  rw [e]
  exact k _ _ _ f1 S1 (.bl _)⟩
end
end TL

namespace TL
open PySem L2
open Enc
/-! ### displays, arguments -/
section
variable {K : Fg} {ta tb tc : TE} {ρ : List Sl} {O O1 O2 O3 : Os} {t : TA}
theorem ra_nil : RA K tNil ρ O [] O := ⟨fun _ _ _ _ _ _ Q E S k => k _ _ _ (Same.refl _) S .nil⟩
theorem ra_cons {d : PyData} {as : List Sl} (ha : RX K ta ρ O d O1) (hr : RA K t ρ O1 as O2) : RA K (tCons ta t) ρ O (.val d :: as) O2 := ⟨fun _ _ _ _ _ _ Q E S k =>
  ha.go E S fun x F1 H1 f1 E1 S1 r1 => hr.go E1 S1 fun xs F2 H2 f2 E2 S2 r2 => k _ F2 H2 (f1.trans f2) S2 (.val (r1.up f2) r2)⟩
theorem ra_own {i : Nat} {a : Addr} {as : List Sl} (h : ρ[i]? = some (.adr a)) (hr : RA K t ρ O as O2) : RA K (tCons (tVar i) t) ρ O (.adr a :: as) O2 := ⟨fun _ _ _ _ _ _ Q E S k =>
  ⟨_, E.adr h, hr.go E S fun xs F2 H2 f2 E2 S2 r2 => k _ F2 H2 f2 S2 (.adr r2)⟩⟩
theorem rx_tup {ds : List PyData} (h : RA K t ρ O (ds.map .val) O1) (hz : ds.length ≤ 1000 := by exact Nat.le_of_ble_eq_true rfl) : RX K (tTup t) ρ O (.tuple ds) O1 := ⟨fun _ _ _ _ _ _ Q E S k => h.go E S fun vs F1 H1 f1 E1 S1 r1 => by
  have r := r1.all
  have hl := r.length
  have hz' : vs.length ≤ sizeLine := Nat.le_trans (by omega : vs.length ≤ 1000) (by decide)
  refine ⟨hz', fun p hp => ?_⟩
  have f2 := same_upd (o := .tup vs) (S1.nof hp)
  exact k _ _ _ (f1.trans f2) (S1.put hp) (.tup (SqT.of upd_same) hz' (r.up f2))⟩
theorem rxo_lst {ds : List PyData} (h : RA K t ρ O (ds.map .val) O1) (hz : ds.length ≤ 1000 := by exact Nat.le_of_ble_eq_true rfl) : RXo K (tLst t) ρ O ds O1 := ⟨fun _ _ _ _ _ _ Q E S k => h.go E S fun vs F1 H1 f1 E1 S1 r1 => by
  have r := r1.all
  have hl := r.length
  have hz' : vs.length ≤ sizeLine := Nat.le_trans (by omega : vs.length ≤ 1000) (by decide)
  exact ⟨hz', fun p hp => k _ _ _ f1 (S1.mine hp hz' r)⟩⟩

/-! ### calls of built-ins, by values -/
theorem rx_cb1 {r : List V → Hp → VK → Prop} {d f : PyData} (ha : RX K ta ρ O d O1) (hr : ∀ (F H : Hp) (x : V) (Q : VK), Same F H → Rp K F x d → (∀ v, Rp K F v f → Q v H) → r [x] H Q) : RX K (tCB r (tCons ta tNil)) ρ O f O1 := ⟨fun _ _ _ _ _ _ Q E S k =>
  ha.go E S fun x F1 H1 f1 E1 S1 r1 => hr F1 H1 x Q S1.fh r1 fun v r3 => k v F1 H1 f1 S1 r3⟩
theorem rx_cb2 {r : List V → Hp → VK → Prop} {d e f : PyData} (ha : RX K ta ρ O d O1) (hb : RX K tb ρ O1 e O2) (hr : ∀ (F H : Hp) (x y : V) (Q : VK), Same F H → Rp K F x d → Rp K F y e → (∀ v, Rp K F v f → Q v H) → r [x, y] H Q) :
    RX K (tCB r (tCons ta (tCons tb tNil))) ρ O f O2 := ⟨fun _ _ _ _ _ _ Q E S k =>
  ha.go E S fun x F1 H1 f1 E1 S1 r1 => hb.go E1 S1 fun y F2 H2 f2 E2 S2 r2 => hr F2 H2 x y Q S2.fh (r1.up f2) r2 fun v r3 => k v F2 H2 (f1.trans f2) S2 r3⟩
/-- over a list that is read -/
theorem rx_cbs {r : List V → Hp → VK → Prop} {ds : List PyData} {f : PyData} (ha : RXs K ta ρ O ds O1)
    (hr : ∀ (F H : Hp) (a : Addr) (vs : List V) (Q : VK), Same F H → SqL K H a vs → vs.length ≤ sizeLine → RpAll K F vs ds → (∀ v, (∀ F, Rp K F v f) → Q v H) → r [.ref a] H Q) : RX K (tCB r (tCons ta tNil)) ρ O f O1 := ⟨fun _ _ _ _ _ _ Q E S k =>
  ha.go E S fun a F1 H1 f1 E1 S1 r1 => by
    obtain ⟨vs, q1, q2, q3⟩ := r1 F1 H1 (Same.refl _) S1
    exact hr F1 H1 a vs Q S1.fh q1 q2 q3 fun v r3 => k v F1 H1 f1 S1 (r3 F1)⟩
abbrev rLenQ (K : Fg) : List V → Hp → VK → Prop := fun xs H Q => ∃ p ys, xs = [.ref p] ∧ (SqL K H p ys ∨ SqT K H p ys) ∧ Q (.int ys.length) H
theorem rx_len {ds : List PyData} (ha : RXs K ta ρ O ds O1) : RX K (tCB (rLenQ K) (tCons ta tNil)) ρ O (.int (ds.length : Nat)) O1 := rx_cbs ha fun F H a vs Q _ h1 h2 h3 k =>
  ⟨a, vs, rfl, .inl h1, by rw [h3.length]; exact k _ fun _ => .int _⟩
theorem rx_lenT {ds : List PyData} (ha : RX K ta ρ O (.tuple ds) O1) : RX K (tCB (rLenQ K) (tCons ta tNil)) ρ O (.int (ds.length : Nat)) O1 := rx_cb1 ha fun F H x Q f r k => by
  cases r with
  | tup h1 h2 h3 => exact ⟨_, _, rfl, .inr (same_t f h1), by rw [h3.length]; exact k _ (.int _)⟩
theorem rx_lenS {z : Str} (ha : RX K ta ρ O (.str z) O1) (hz : z.length ≤ sizeLine) : RX K (tCB (fun xs H Q => ∃ z, xs = [.str z] ∧ z.length ≤ sizeLine ∧ Q (.int z.length) H) (tCons ta tNil)) ρ O (.int z.length) O1 := rx_cb1 ha fun F H x Q f r k => by
  cases r
  exact ⟨_, rfl, hz, k _ (.int _)⟩
theorem rx_sum {ns : List Int} (ha : RXs K ta ρ O (ns.map .int) O1) : RX K (tCB (rSum K) (tCons ta tNil)) ρ O (.int ns.sum) O1 := rx_cbs ha fun F H a vs Q _ h1 h2 h3 k =>
  ⟨a, ns, rfl, (by rw [← h3.ints]; exact h1), k _ fun _ => .int _⟩
theorem rx_all {ns : List Bool} (ha : RXs K ta ρ O (ns.map .bool) O1) : RX K (tCB (rAll K) (tCons ta tNil)) ρ O (.bool (ns.all id)) O1 := rx_cbs ha fun F H a vs Q _ h1 h2 h3 k =>
  ⟨a, ns, rfl, (by rw [← h3.bools]; exact h1), k _ fun _ => .bl _⟩
def maxO (ns : List Int) : Option Int := ns.max?
def minO (ns : List Int) : Option Int := ns.min?
theorem rx_max {ns : List Int} {m : Int} (hm : maxO ns = some m) (ha : RXs K ta ρ O (ns.map .int) O1) : RX K (tCB (rMax K) (tCons ta tNil)) ρ O (.int m) O1 := rx_cbs ha fun F H a vs Q _ h1 h2 h3 k => by
  have hm' : ns.max? = some m := hm
  rw [List.max?_eq_some_iff] at hm'
  refine ⟨a, ns, rfl, (by rw [← h3.ints]; exact h1), ?_, fun m' h4 h5 => ?_⟩
  · cases ns with
    | nil => simp at hm'
    | cons _ _ => exact Nat.succ_pos _
  · have e : m' = m := Int.le_antisymm (hm'.2 _ h4) (h5 _ hm'.1)
    subst e
    exact k _ fun _ => .int _
theorem rx_min {ns : List Int} {m : Int} (hm : minO ns = some m) (ha : RXs K ta ρ O (ns.map .int) O1) : RX K (tCB (rMin K) (tCons ta tNil)) ρ O (.int m) O1 := rx_cbs ha fun F H a vs Q _ h1 h2 h3 k => by
  have hm' : ns.min? = some m := hm
  rw [List.min?_eq_some_iff] at hm'
  refine ⟨a, ns, rfl, (by rw [← h3.ints]; exact h1), ?_, fun m' h4 h5 => ?_⟩
  · cases ns with
    | nil => simp at hm'
    | cons _ _ => exact Nat.succ_pos _
  · have e : m' = m := Int.le_antisymm (h5 _ hm'.1) (hm'.2 _ h4)
    subst e
    exact k _ fun _ => .int _
def max2 (i j : Int) : Int := if j > i then j else i
def min2 (i j : Int) : Int := if j < i then j else i
def abs1 (i : Int) : Int := if i < 0 then -i else i
theorem rx_max2 {i j : Int} (ha : RX K ta ρ O (.int i) O1) (hb : RX K tb ρ O1 (.int j) O2) : RX K (tCB (fun xs H Q => ∃ i j, xs = [.int i, .int j] ∧ Q (.int (if j > i then j else i)) H) (tCons ta (tCons tb tNil))) ρ O (.int (max2 i j)) O2 := rx_cb2 ha hb fun F H x y Q f r s k => by
  cases r
  cases s
  exact ⟨i, j, rfl, k _ (.int _)⟩
theorem rx_min2 {i j : Int} (ha : RX K ta ρ O (.int i) O1) (hb : RX K tb ρ O1 (.int j) O2) : RX K (tCB (fun xs H Q => ∃ i j, xs = [.int i, .int j] ∧ Q (.int (if j < i then j else i)) H) (tCons ta (tCons tb tNil))) ρ O (.int (min2 i j)) O2 := rx_cb2 ha hb fun F H x y Q f r s k => by
  cases r
  cases s
  exact ⟨i, j, rfl, k _ (.int _)⟩
theorem rx_abs {i : Int} (ha : RX K ta ρ O (.int i) O1) : RX K (tCB (fun xs H Q => ∃ i, xs = [.int i] ∧ Q (.int (if i < 0 then -i else i)) H) (tCons ta tNil)) ρ O (.int (abs1 i)) O1 := rx_cb1 ha fun F H x Q f r k => by
  cases r
  exact ⟨i, rfl, k _ (.int _)⟩

/-! ### items -/
theorem atI_map {α β : Type} (f : α → β) {xs : List α} {i : Int} {x : α} (h : atI xs i = some x) : atI (xs.map f) i = some (f x) := by
  unfold atI at h ⊢
  rw [List.length_map]
  cases e : ixN xs.length i with
  | none => rw [e] at h; simp at h
  | some j =>
    rw [e] at h
    simp only [Option.bind_some] at h ⊢
    rw [List.getElem?_map, h]
    rfl
theorem RpAll.atI {K : Fg} {F : Hp} {vs : List V} {ds : List PyData} (r : RpAll K F vs ds) {i : Int} {d : PyData} (h : L2.atI ds i = some d) : ∃ v, L2.atI vs i = some v ∧ Rp K F v d := by
  unfold L2.atI at h ⊢
  rw [r.length]
  cases e : ixN ds.length i with
  | none => rw [e] at h; simp at h
  | some j =>
    rw [e] at h
    simp only [Option.bind_some] at h ⊢
    exact r.get h
theorem rx_ix {ds : List PyData} {i : Int} {d : PyData} (h : atI ds i = some d) (ha : RXs K ta ρ O ds O1) (hb : RX K tb ρ O1 (.int i) O1) : RX K (tOp (rIxL K) ta tb) ρ O d O1 := ⟨fun _ _ _ _ _ _ Q E S k =>
  ha.go E S fun a F1 H1 f1 E1 S1 r1 => hb.go E1 S1 fun y F2 H2 f2 E2 S2 r2 => by
    cases r2
    obtain ⟨vs, q1, q2, q3⟩ := r1 F2 H2 f2 S2
    obtain ⟨v, e, r⟩ := q3.atI h
    exact ⟨a, vs, i, v, rfl, rfl, q1, e, k v F2 H2 (f1.trans f2) S2 r⟩⟩
/-- a list just made, its place reckoned with changes -/
theorem rx_ixF {ds : List PyData} {i : Int} {d : PyData} (h : atI ds i = some d) (ha : RX K ta ρ O (.list ds) O1) (hb : RX K tb ρ O1 (.int i) O2) : RX K (tOp (rIxL K) ta tb) ρ O d O2 := ⟨fun _ _ _ _ _ _ Q E S k =>
  ha.go E S fun x F1 H1 f1 E1 S1 r1 => hb.go E1 S1 fun y F2 H2 f2 E2 S2 r2 => by
    cases r2
    have r1' := r1.up f2
    cases r1' with
    | lst q1 q2 q3 =>
      obtain ⟨v, e, r⟩ := q3.atI h
      exact ⟨_, _, i, v, rfl, rfl, S2.fh.seq q1, e, k v F2 H2 (f1.trans f2) S2 r⟩⟩
theorem rx_ixT {ds : List PyData} {i : Int} {d : PyData} (h : atI ds i = some d) (ha : RX K ta ρ O (.tuple ds) O1) (hb : RX K tb ρ O1 (.int i) O2) : RX K (tOp (rIxT K) ta tb) ρ O d O2 := ⟨fun _ _ _ _ _ _ Q E S k =>
  ha.go E S fun x F1 H1 f1 E1 S1 r1 => hb.go E1 S1 fun y F2 H2 f2 E2 S2 r2 => by
    cases r2
    have r1' := r1.up f2
    cases r1' with
    | tup q1 q2 q3 =>
      obtain ⟨v, e, r⟩ := q3.atI h
      exact ⟨_, _, i, v, rfl, rfl, same_t S2.fh q1, e, k v F2 H2 (f1.trans f2) S2 r⟩⟩
def signAt (z : Str) (i : Int) : Option Str := if z.length ≤ sizeLine then (atI z.cps.toList i).map fun c => ⟨#[c]⟩ else none
theorem rx_ixS {z : Str} {i : Int} {c : Str} (h : signAt z i = some c) (ha : RX K ta ρ O (.str z) O1) (hb : RX K tb ρ O1 (.int i) O2) : RX K (tOp rIxS ta tb) ρ O (.str c) O2 := rx_op ha hb fun F H x y Q f r s k => by
  cases r
  cases s
  unfold signAt at h
  split at h
  · rename_i hz
    cases e : atI z.cps.toList i with
    | none => rw [e] at h; cases h
    | some n =>
      rw [e] at h
      cases h
      exact ⟨z, i, n, rfl, rfl, hz, e, k _ (.str _)⟩
  · cases h

/-! ### in -/
theorem inV_ints (x : Int) (xs : List Int) : inV (.int x) (xs.map V.int) = decide (x ∈ xs) := by
  induction xs with
  | nil => rfl
  | cons a xs ih =>
    show (eqV (.int a) (.int x) || inV (.int x) (xs.map V.int)) = _
    rw [ih, show eqV (.int a) (.int x) = (a == x) from rfl, Bool.eq_iff_iff]
    simp only [Bool.or_eq_true, beq_iff_eq, decide_eq_true_eq, List.mem_cons]
    exact ⟨fun h => h.imp Eq.symm id, fun h => h.imp Eq.symm id⟩
theorem flat_ints (xs : List Int) : (xs.map V.int).all flatV = true := by simp [flatV]
theorem inV_strs (x : Str) (xs : List Str) : inV (.str x) (xs.map V.str) = decide (x ∈ xs) := by
  induction xs with
  | nil => rfl
  | cons a xs ih =>
    show (eqV (.str a) (.str x) || inV (.str x) (xs.map V.str)) = _
    rw [ih, show eqV (.str a) (.str x) = (a == x) from rfl, Bool.eq_iff_iff]
    simp only [Bool.or_eq_true, beq_iff_eq, decide_eq_true_eq, List.mem_cons]
    exact ⟨fun h => h.imp Eq.symm id, fun h => h.imp Eq.symm id⟩
theorem flat_strs (xs : List Str) : (xs.map V.str).all flatV = true := by simp [flatV]
theorem rx_inI {x : Int} {xs : List Int} {neg : Bool} (ha : RX K ta ρ O (.int x) O1) (hb : RXs K tb ρ O1 (xs.map .int) O2) : RX K (tOp (rIn K neg) ta tb) ρ O (.bool (if neg then !decide (x ∈ xs) else decide (x ∈ xs))) O2 := ⟨fun _ _ _ _ _ _ Q E S k =>
  ha.go E S fun v F1 H1 f1 E1 S1 r1 => hb.go E1 S1 fun a F2 H2 f2 E2 S2 r2 => by
    cases r1
    obtain ⟨vs, q1, q2, q3⟩ := r2 F2 H2 (Same.refl _) S2
    have e := q3.ints
    subst e
    refine ⟨a, _, rfl, .inl q1, rfl, flat_ints xs, ?_⟩
    rw [inV_ints]
    exact k _ F2 H2 (f1.trans f2) S2 (.bl _)⟩
theorem rx_inS {x : Str} {xs : List Str} {neg : Bool} (ha : RX K ta ρ O (.str x) O1) (hb : RXs K tb ρ O1 (xs.map .str) O2) : RX K (tOp (rIn K neg) ta tb) ρ O (.bool (if neg then !decide (x ∈ xs) else decide (x ∈ xs))) O2 := ⟨fun _ _ _ _ _ _ Q E S k =>
  ha.go E S fun v F1 H1 f1 E1 S1 r1 => hb.go E1 S1 fun a F2 H2 f2 E2 S2 r2 => by
    cases r1
    obtain ⟨vs, q1, q2, q3⟩ := r2 F2 H2 (Same.refl _) S2
    have e := q3.strs
    subst e
    refine ⟨a, _, rfl, .inl q1, rfl, flat_strs xs, ?_⟩
    rw [inV_strs]
    exact k _ F2 H2 (f1.trans f2) S2 (.bl _)⟩
theorem rx_inIT {x : Int} {xs : List Int} {neg : Bool} (ha : RX K ta ρ O (.int x) O1) (hb : RX K tb ρ O1 (.tuple (xs.map .int)) O2) : RX K (tOp (rIn K neg) ta tb) ρ O (.bool (if neg then !decide (x ∈ xs) else decide (x ∈ xs))) O2 := rx_op ha hb fun F H u v Q f r s k => by
  cases r
  cases s with
  | tup q1 q2 q3 =>
    have e := q3.ints
    subst e
    refine ⟨_, _, rfl, .inr (same_t f q1), rfl, flat_ints xs, ?_⟩
    rw [inV_ints]
    exact k _ (.bl _)
theorem rx_inST {x : Str} {xs : List Str} {neg : Bool} (ha : RX K ta ρ O (.str x) O1) (hb : RX K tb ρ O1 (.tuple (xs.map .str)) O2) : RX K (tOp (rIn K neg) ta tb) ρ O (.bool (if neg then !decide (x ∈ xs) else decide (x ∈ xs))) O2 := rx_op ha hb fun F H u v Q f r s k => by
  cases r
  cases s with
  | tup q1 q2 q3 =>
    have e := q3.strs
    subst e
    refine ⟨_, _, rfl, .inr (same_t f q1), rfl, flat_strs xs, ?_⟩
    rw [inV_strs]
    exact k _ (.bl _)

/-! ### slices -/
theorem ro_none : RO K tNoPart ρ O none O := ⟨fun _ _ _ _ _ _ Q E S k => k _ _ (Same.refl _) S⟩
theorem ro_some {i : Int} (h : RX K ta ρ O (.int i) O1) : RO K (tPart ta) ρ O (some i) O1 := ⟨fun _ _ _ _ _ _ Q E S k => h.go E S fun x F1 H1 f1 E1 S1 r1 => by
  cases r1
  exact ⟨i, rfl, k _ _ f1 S1⟩⟩
def cutL {α : Type} (xs : List α) (lo hi : Option Int) : List α := (xs.drop (HT.sIx xs.length 0 lo)).take (HT.sIx xs.length xs.length hi - HT.sIx xs.length 0 lo)
theorem cutL_map {α β : Type} (f : α → β) (xs : List α) (lo hi : Option Int) : (cutL xs lo hi).map f = cutL (xs.map f) lo hi := by
  unfold cutL
  rw [List.map_take, List.map_drop, List.length_map]
theorem RpAll.cut {K : Fg} {F : Hp} {vs : List V} {ds : List PyData} (r : RpAll K F vs ds) (lo hi : Option Int) : RpAll K F (cutV vs lo hi) (cutL ds lo hi) := by
  unfold cutV cutL
  rw [r.length]
  exact (r.drop _).take _
theorem rxo_slice {ds : List PyData} {tl th : TO} {lo hi : Option Int} (ha : RXs K ta ρ O ds O1) (hl : RO K tl ρ O1 lo O1) (hh : RO K th ρ O1 hi O1) : RXo K (tSl (rSlL K) ta tl th) ρ O (cutL ds lo hi) O1 := ⟨fun _ _ _ _ _ _ Q E S k =>
  ha.go E S fun a F1 H1 f1 E1 S1 r1 => hl.go E1 S1 fun F2 H2 f2 E2 S2 => hh.go E2 S2 fun F3 H3 f3 E3 S3 => by
    obtain ⟨vs, q1, q2, q3⟩ := r1 F3 H3 (f2.trans f3) S3
    exact ⟨a, vs, rfl, q1, fun p hp => k p F3 _ ((f1.trans f2).trans f3) (S3.mine hp (Nat.le_trans (cutV_length _ _ _) q2) (q3.cut lo hi))⟩⟩
/-- .. its bounds reckoned with changes -/
theorem rxo_sliceF {ds : List PyData} {tl th : TO} {lo hi : Option Int} (ha : RX K ta ρ O (.list ds) O1) (hl : RO K tl ρ O1 lo O2) (hh : RO K th ρ O2 hi O3) : RXo K (tSl (rSlL K) ta tl th) ρ O (cutL ds lo hi) O3 := ⟨fun _ _ _ _ _ _ Q E S k =>
  ha.go E S fun x F1 H1 f1 E1 S1 r1 => hl.go E1 S1 fun F2 H2 f2 E2 S2 => hh.go E2 S2 fun F3 H3 f3 E3 S3 => by
    have r1' := r1.up (f2.trans f3)
    cases r1' with
    | lst q1 q2 q3 => exact ⟨_, _, rfl, S3.fh.seq q1, fun p hp => k p F3 _ ((f1.trans f2).trans f3) (S3.mine hp (Nat.le_trans (cutV_length _ _ _) q2) (q3.cut lo hi))⟩⟩
theorem rxo_rev {ds : List PyData} (ha : RXs K ta ρ O ds O1) : RXo K (tRevL K ta) ρ O ds.reverse O1 := ⟨fun _ _ _ _ _ _ Q E S k =>
  ha.go E S fun a F1 H1 f1 E1 S1 r1 => by
    obtain ⟨vs, q1, q2, q3⟩ := r1 F1 H1 (Same.refl _) S1
    exact ⟨a, vs, rfl, q1, fun p hp => k p F1 _ f1 (S1.mine hp (by rw [List.length_reverse]; exact q2) q3.reverse)⟩⟩
theorem cutV_whole {α : Type} (xs : List α) {lo hi : Option Int} (h : HT.sIx xs.length 0 lo = 0 ∧ HT.sIx xs.length xs.length hi = xs.length) : cutL xs lo hi = xs := by
  unfold cutL
  rw [h.1, h.2]
  simp
theorem rx_sliceT {ds : List PyData} {tl th : TO} {lo hi : Option Int} (ha : RX K ta ρ O (.tuple ds) O1) (hl : RO K tl ρ O1 lo O2) (hh : RO K th ρ O2 hi O3) : RX K (tSl (rSlA K) ta tl th) ρ O (.tuple (cutL ds lo hi)) O3 := ⟨fun _ _ _ _ _ _ Q E S k =>
  ha.go E S fun x F1 H1 f1 E1 S1 r1 => hl.go E1 S1 fun F2 H2 f2 E2 S2 => hh.go E2 S2 fun F3 H3 f3 E3 S3 => by
    have r1' := r1.up (f2.trans f3)
    cases r1' with
    | @tup _ xs _ q1 q2 q3 =>
      refine ⟨_, _, rfl, same_t S3.fh q1, fun hw => ?_, fun _ p hp => ?_⟩
      · rw [cutV_whole ds (by rw [← q3.length]; exact hw)] at k
        exact k _ F3 _ ((f1.trans f2).trans f3) S3 (.tup q1 q2 q3)
      · have f4 := same_upd (o := .tup (cutV xs lo hi)) (S3.nof hp)
        exact k _ _ _ (((f1.trans f2).trans f3).trans f4) (S3.put hp) (.tup (SqT.of upd_same) (Nat.le_trans (cutV_length _ _ _) q2) ((q3.cut lo hi).up f4))⟩

/-! ### list(), tuple(), + -/
abbrev rListOf (K : Fg) : List V → Hp → VK → Prop := fun xs H Q => ∃ p ys, xs = [.ref p] ∧ (SqL K H p ys ∨ SqT K H p ys) ∧ ∀ l, H l = none → Q (.ref l) (upd H l (.lst ys))
theorem rxo_list {ds : List PyData} (ha : RXs K ta ρ O ds O1) : RXo K (tCB (rListOf K) (tCons ta tNil)) ρ O ds O1 := ⟨fun _ _ _ _ _ _ Q E S k =>
  ha.go E S fun a F1 H1 f1 E1 S1 r1 => by
    obtain ⟨vs, q1, q2, q3⟩ := r1 F1 H1 (Same.refl _) S1
    exact ⟨a, vs, rfl, .inl q1, fun p hp => k p F1 _ f1 (S1.mine hp q2 q3)⟩⟩
theorem rxo_listT {ds : List PyData} (ha : RX K ta ρ O (.tuple ds) O1) : RXo K (tCB (rListOf K) (tCons ta tNil)) ρ O ds O1 := ⟨fun _ _ _ _ _ _ Q E S k =>
  ha.go E S fun x F1 H1 f1 E1 S1 r1 => by
    cases r1 with
    | tup q1 q2 q3 => exact ⟨_, _, rfl, .inr (same_t S1.fh q1), fun p hp => k p F1 _ f1 (S1.mine hp q2 q3)⟩⟩
abbrev rTupleOf (K : Fg) : List V → Hp → VK → Prop := fun xs H Q => ∃ p ys, xs = [.ref p] ∧ ((SqL K H p ys ∧ ∀ l, H l = none → Q (.ref l) (upd H l (.tup ys))) ∨ (SqT K H p ys ∧ Q (.ref p) H))
theorem rx_tuple {ds : List PyData} (ha : RXs K ta ρ O ds O1) : RX K (tCB (rTupleOf K) (tCons ta tNil)) ρ O (.tuple ds) O1 := ⟨fun _ _ _ _ _ _ Q E S k =>
  ha.go E S fun a F1 H1 f1 E1 S1 r1 => by
    obtain ⟨vs, q1, q2, q3⟩ := r1 F1 H1 (Same.refl _) S1
    refine ⟨a, vs, rfl, .inl ⟨q1, fun p hp => ?_⟩⟩
    have f2 := same_upd (o := .tup vs) (S1.nof hp)
    exact k _ _ _ (f1.trans f2) (S1.put hp) (.tup (SqT.of upd_same) q2 (q3.up f2))⟩
/-- lists of any making -/
def rCatR (K : Fg) : R2 := fun x y H Q => ∃ l b xs zs, x = .ref l ∧ y = .ref b ∧ SqL K H l xs ∧ SqL K H b zs ∧ xs.length + zs.length ≤ sizeLine ∧ ∀ p, H p = none → Q (.ref p) (upd H p (.lst (xs ++ zs)))
theorem op_catR {X : Cx} : OpR X (binaryOp .Add) (rCatR X.K) := by
  intro pins s σ H x y v u Q I rx ry h
  obtain ⟨l, b, xs, zs, rfl, rfl, hH, hB, hz, q⟩ := h
  cases rx
  cases ry
  obtain ⟨its, r, ⟨⟨cls, dd, data, sl⟩, n, ho, hc, hd, hx⟩, z⟩ := I.list hH
  obtain ⟨its2, r2, ⟨⟨cls2, dd2, data2, sl2⟩, n2, ho2, hc2, hd2, hx2⟩, z2⟩ := I.list hB
  have hl := r.length
  have hl2 := r2.length
  simp only at hc hd hx hc2 hd2 hx2
  subst hc hx hc2 hx2
  have e : its.toArray ++ its2.toArray = (its ++ its2).toArray := by simp
  refine concat_meets ⟨_, ho, rfl⟩ ⟨_, ho2, rfl⟩ noFill_list_add seq_list_add PySem.F.slot_list_add PySem.F.entry_list_add (PySem.F.args_list_add_2 _ _)
    (PyProof.Rows.list_addW l b its.toArray its2.toArray n n2 dd dd2 sl sl2 (by rw [List.size_toArray, List.size_toArray]; omega)) ⟨ho, ho2, ?_⟩
  rw [e]
  exact ⟨.ref _, _, I.lnew (t' := s.toks) (r.append r2) (by rw [List.length_append]; omega), rfl, q _ I.fresh⟩
theorem rxo_cat {ds es : List PyData} (ha : RXs K ta ρ O ds O1) (hb : RXs K tb ρ O1 es O1) (hz : ds.length + es.length ≤ sizeLine) : RXo K (tOp (rCatR K) ta tb) ρ O (ds ++ es) O1 := ⟨fun _ _ _ _ _ _ Q E S k =>
  ha.go E S fun a F1 H1 f1 E1 S1 r1 => hb.go E1 S1 fun b F2 H2 f2 E2 S2 r2 => by
    obtain ⟨vs, q1, q2, q3⟩ := r1 F2 H2 f2 S2
    obtain ⟨ws, p1, p2, p3⟩ := r2 F2 H2 (Same.refl _) S2
    have e1 := q3.length
    have e2 := p3.length
    exact ⟨a, b, vs, ws, rfl, rfl, q1, p1, by omega, fun p hp => k p F2 _ (f1.trans f2) (S2.mine hp (by rw [List.length_append]; omega) (q3.append p3))⟩⟩
theorem rxo_catF {ds es : List PyData} (ha : RX K ta ρ O (.list ds) O1) (hb : RX K tb ρ O1 (.list es) O2) (hz : ds.length + es.length ≤ sizeLine) : RXo K (tOp (rCatR K) ta tb) ρ O (ds ++ es) O2 := ⟨fun _ _ _ _ _ _ Q E S k =>
  ha.go E S fun x F1 H1 f1 E1 S1 r1 => hb.go E1 S1 fun y F2 H2 f2 E2 S2 r2 => by
    have r1' := r1.up f2
    cases r1' with
    | lst q1 q2 q3 =>
      cases r2 with
      | lst p1 p2 p3 =>
        have e1 := q3.length
        have e2 := p3.length
        exact ⟨_, _, _, _, rfl, rfl, S2.fh.seq q1, S2.fh.seq p1, by omega, fun p hp => k p F2 _ (f1.trans f2) (S2.mine hp (by rw [List.length_append]; omega) (q3.append p3))⟩⟩
theorem rx_catT {ds es : List PyData} (ha : RX K ta ρ O (.tuple ds) O1) (hb : RX K tb ρ O1 (.tuple es) O2) (hz : ds.length + es.length ≤ sizeLine) : RX K (tOp (rCatA K) ta tb) ρ O (.tuple (ds ++ es)) O2 := ⟨fun _ _ _ _ _ _ Q E S k =>
  ha.go E S fun x F1 H1 f1 E1 S1 r1 => hb.go E1 S1 fun y F2 H2 f2 E2 S2 r2 => by
    have r1' := r1.up f2
    cases r1' with
    | @tup _ xs _ q1 q2 q3 =>
      cases r2 with
      | @tup _ ys _ p1 p2 p3 =>
        have e1 := q3.length
        have e2 := p3.length
        refine ⟨_, _, _, _, rfl, rfl, same_t S2.fh q1, same_t S2.fh p1, by omega, fun e => ?_, fun _ e => ?_, fun _ _ p hp => ?_⟩
        · subst e
          cases q3
          exact k _ F2 _ (f1.trans f2) S2 (.tup p1 p2 p3)
        · subst e
          cases p3
          rw [List.append_nil] at k
          exact k _ F2 _ (f1.trans f2) S2 (.tup q1 q2 q3)
        · have f3 := same_upd (o := .tup (xs ++ ys)) (S2.nof hp)
          exact k _ _ _ ((f1.trans f2).trans f3) (S2.put hp) (.tup (SqT.of upd_same) (by rw [List.length_append]; omega) ((q3.append p3).up f3))⟩
/-- list * int, the list just made -/
theorem rxo_rep {ds : List PyData} {i : Int} (ha : RXo K ta ρ O ds O1) (hb : ∀ p, RX K tb ρ (⟨p, true, ds⟩ :: O1) (.int i) (⟨p, true, ds⟩ :: O1)) (hz : ds.length * i.toNat ≤ sizeLine) (hi : -(2 ^ 63) ≤ i ∧ i < 2 ^ 63) :
    RXo K (tOp rRep ta tb) ρ O (List.replicate i.toNat ds).flatten O1 := ⟨fun _ _ _ _ _ _ Q E S k =>
  ha.go E S fun l F1 H1 f1 E1 S1 => (hb l).go E1 S1 fun y F2 H2 f2 E2 S2 r2 => by
    cases r2
    obtain ⟨_, _, _, vs, g4, g5, g6⟩ := S2.get (j := 0) (q := ⟨l, true, ds⟩) rfl
    have g4 : H2 l = some (.lst vs) := g4
    have e1 : vs.length = ds.length := RpAll.length g6
    have S3 : Hx K _ _ _ F2 O1 H2 := ⟨S2.f0, S2.fh, S2.keep, S2.live, S2.new, fun p hp => S2.own p (List.mem_cons_of_mem _ hp), (List.nodup_cons.mp S2.nd).2⟩
    exact ⟨l, i, vs, rfl, rfl, g4, hi.1, hi.2, by rw [e1]; exact hz, fun p hp => k p F2 _ (f1.trans f2) (S3.mine hp (by simp only [List.length_flatten, List.map_replicate, List.sum_replicate_nat]; rw [e1, Nat.mul_comm]; exact hz) (RpAll.rep g6 _))⟩⟩
end
end TL

namespace TL
open PySem L2
open Enc
theorem Hx.drop {K : Fg} {F0 H0 F H : Hp} {D0 : List Addr} {O : Os} (S : Hx K F0 H0 D0 F O H) (j : Nat) : Hx K F0 H0 D0 F (O.eraseIdx j) H :=
  ⟨S.f0, S.fh, S.keep, S.live, S.new, fun p hp => S.own p (List.mem_of_mem_eraseIdx hp), S.nd.sublist ((List.eraseIdx_sublist O j).map OE.a)⟩
/-- a thing that is made and not looked at again -/
theorem Hx.junk {K : Fg} {F0 H0 F H : Hp} {D0 : List Addr} {O : Os} (S : Hx K F0 H0 D0 F O H) {p : Addr} {o : HO} (h : H p = none) : Hx K F0 H0 D0 F O (upd H p o) := by
  refine ⟨S.f0, S.fh.trans (same_upd h), fun a u e n => ?_, fun a u e => ?_, S.new, fun q hq => ?_, S.nd⟩
  · have := S.keep a u e n
    rw [upd_ne (ne_of_none this h)]
    exact this
  · obtain ⟨u', e'⟩ := S.live a u e
    exact ⟨u', by rw [upd_ne (ne_of_none e' h)]; exact e'⟩
  · obtain ⟨h1, h2, h3, vs', h4, h5, h6⟩ := S.own q hq
    exact ⟨h1, h2, h3, vs', by rw [upd_ne (ne_of_none h4 h)]; exact h4, h5, h6⟩
section
variable {K : Fg} {ta tb tc : TE} {ρ : List Sl} {O O1 O2 O3 : Os} {t : TA} {tt tu : TT}
/-! ### tests, truth values -/
theorem rt_val {b : Bool} (h : RX K ta ρ O (.bool b) O1) : RT K (tTest ta) ρ O b O1 := ⟨fun _ _ _ _ _ _ Q E S k => h.go E S fun x F1 H1 f1 E1 S1 r1 => by
  cases r1
  exact ⟨b, rfl, k F1 H1 f1 S1⟩⟩
theorem rt_b {b : Bool} (h : RX K ta ρ O (.bool b) O1) : RT K (tB ta) ρ O b O1 := ⟨fun _ _ _ _ _ _ Q E S k => h.go E S fun x F1 H1 f1 E1 S1 r1 => by
  cases r1
  exact ⟨b, rfl, k F1 H1 f1 S1⟩⟩
theorem rt_and {a c : Bool} (ha : RT K tt ρ O a O1) (h1 : a = true → RT K tu ρ O1 c O2) (h0 : a = false → c = false ∧ O2 = O1) : RT K (tAnd tt tu) ρ O c O2 := ⟨fun _ _ _ _ _ _ Q E S k => ha.go E S fun F1 H1 f1 E1 S1 => by
  cases a with
  | true =>
    have r := h1 rfl
    exact iteT (r.go E1 S1 fun F2 H2 f2 E2 S2 => k F2 H2 (f1.trans f2) S2)
  | false =>
    obtain ⟨e, e2⟩ := h0 rfl
    subst e
    subst e2
    exact iteF (k F1 H1 f1 S1)⟩
theorem rt_or {a c : Bool} (ha : RT K tt ρ O a O1) (h1 : a = false → RT K tu ρ O1 c O2) (h0 : a = true → c = true ∧ O2 = O1) : RT K (tOr tt tu) ρ O c O2 := ⟨fun _ _ _ _ _ _ Q E S k => ha.go E S fun F1 H1 f1 E1 S1 => by
  cases a with
  | false =>
    have r := h1 rfl
    exact iteF (r.go E1 S1 fun F2 H2 f2 E2 S2 => k F2 H2 (f1.trans f2) S2)
  | true =>
    obtain ⟨e, e2⟩ := h0 rfl
    subst e
    subst e2
    exact iteT (k F1 H1 f1 S1)⟩
theorem rt_and2 {a b : Bool} (ha : RT K tt ρ O a O) (hb : RT K tu ρ O b O) : RT K (tAnd tt tu) ρ O (a && b) O := rt_and ha (fun e => by rw [e]; exact hb) fun e => ⟨by rw [e]; rfl, rfl⟩
theorem rt_or2 {a b : Bool} (ha : RT K tt ρ O a O) (hb : RT K tu ρ O b O) : RT K (tOr tt tu) ρ O (a || b) O := rt_or ha (fun e => by rw [e]; exact hb) fun e => ⟨by rw [e]; rfl, rfl⟩
theorem rt_not {a : Bool} (ha : RT K tt ρ O a O1) : RT K (tNot tt) ρ O (!a) O1 := ⟨fun _ _ _ _ _ _ Q E S k => ha.go E S fun F1 H1 f1 E1 S1 => k F1 H1 f1 S1⟩
theorem rx_and {a c : Bool} (ha : RX K ta ρ O (.bool a) O1) (h1 : a = true → RX K tb ρ O1 (.bool c) O2) (h0 : a = false → c = false ∧ O2 = O1) : RX K (tAndV ta tb) ρ O (.bool c) O2 := ⟨fun _ _ _ _ _ _ Q E S k => ha.go E S fun x F1 H1 f1 E1 S1 r1 => by
  cases r1
  refine ⟨a, rfl, ?_⟩
  cases a with
  | true =>
    have r := h1 rfl
    exact iteT (r.go E1 S1 fun v F2 H2 f2 E2 S2 r2 => k v F2 H2 (f1.trans f2) S2 r2)
  | false =>
    obtain ⟨e, e2⟩ := h0 rfl
    subst e
    subst e2
    exact iteF (k _ F1 H1 f1 S1 (.bl false))⟩
theorem rx_or {a c : Bool} (ha : RX K ta ρ O (.bool a) O1) (h1 : a = false → RX K tb ρ O1 (.bool c) O2) (h0 : a = true → c = true ∧ O2 = O1) : RX K (tOrV ta tb) ρ O (.bool c) O2 := ⟨fun _ _ _ _ _ _ Q E S k => ha.go E S fun x F1 H1 f1 E1 S1 r1 => by
  cases r1
  refine ⟨a, rfl, ?_⟩
  cases a with
  | false =>
    have r := h1 rfl
    exact iteF (r.go E1 S1 fun v F2 H2 f2 E2 S2 r2 => k v F2 H2 (f1.trans f2) S2 r2)
  | true =>
    obtain ⟨e, e2⟩ := h0 rfl
    subst e
    subst e2
    exact iteT (k _ F1 H1 f1 S1 (.bl true))⟩
theorem rx_and2 {a b : Bool} (ha : RX K ta ρ O (.bool a) O) (hb : RX K tb ρ O (.bool b) O) : RX K (tAndV ta tb) ρ O (.bool (a && b)) O := rx_and ha (fun e => by rw [e]; exact hb) fun e => ⟨by rw [e]; rfl, rfl⟩
theorem rx_or2 {a b : Bool} (ha : RX K ta ρ O (.bool a) O) (hb : RX K tb ρ O (.bool b) O) : RX K (tOrV ta tb) ρ O (.bool (a || b)) O := rx_or ha (fun e => by rw [e]; exact hb) fun e => ⟨by rw [e]; rfl, rfl⟩
theorem rx_not {a : Bool} (ha : RX K ta ρ O (.bool a) O1) : RX K (tNotV ta) ρ O (.bool (!a)) O1 := ⟨fun _ _ _ _ _ _ Q E S k => ha.go E S fun x F1 H1 f1 E1 S1 r1 => by
  cases r1
  exact ⟨a, rfl, k _ F1 H1 f1 S1 (.bl _)⟩⟩
theorem rx_if {b : Bool} {d : PyData} (hc : RT K tt ρ O b O1) (h1 : b = true → RX K ta ρ O1 d O2) (h0 : b = false → RX K tb ρ O1 d O2) : RX K (tIf tt ta tb) ρ O d O2 := ⟨fun _ _ _ _ _ _ Q E S k => hc.go E S fun F1 H1 f1 E1 S1 => by
  cases b with
  | true => exact iteT ((h1 rfl).go E1 S1 fun v F2 H2 f2 E2 S2 r2 => k v F2 H2 (f1.trans f2) S2 r2)
  | false => exact iteF ((h0 rfl).go E1 S1 fun v F2 H2 f2 E2 S2 r2 => k v F2 H2 (f1.trans f2) S2 r2)⟩
/-- 0 <= n <= 8: a chain -/
theorem rx_chain {r r' : R2} {d e f : PyData} {a b : Bool} (ha : RX K ta ρ O d O) (hb : RX K tb ρ O e O) (hc : RX K tc ρ O f O)
    (hr : ∀ (F H : Hp) (x y : V) (Q : VK), Rp K F x d → Rp K F y e → Q (.bl a) H → r x y H Q) (hr' : ∀ (F H : Hp) (x y : V) (Q : VK), Rp K F x e → Rp K F y f → Q (.bl b) H → r' x y H Q) : RX K (tChain r r' ta tb tc) ρ O (.bool (a && b)) O := ⟨fun _ _ _ _ _ _ Q E S k =>
  ha.go E S fun x F1 H1 f1 E1 S1 r1 => hb.go E1 S1 fun y F2 H2 f2 E2 S2 r2 => hr F2 H2 x y _ (r1.up f2) r2 ⟨a, rfl, by
    cases a with
    | true => exact iteT (hc.go E2 S2 fun z F3 H3 f3 E3 S3 r3 => hr' F3 H3 y z Q (r2.up f3) r3 (k _ F3 H3 ((f1.trans f2).trans f3) S3 (.bl _)))
    | false => exact iteF (k _ F2 H2 (f1.trans f2) S2 (.bl _))⟩⟩
theorem ch_le {F H : Hp} {i j : Int} {x y : V} {Q : VK} (r : Rp K F x (.int i)) (s : Rp K F y (.int j)) (k : Q (.bl (decide (i ≤ j))) H) : rI0 (fun i j => .bl (decide (i ≤ j))) x y H Q := by
  cases r
  cases s
  exact ⟨i, j, rfl, rfl, k⟩
theorem ch_lt {F H : Hp} {i j : Int} {x y : V} {Q : VK} (r : Rp K F x (.int i)) (s : Rp K F y (.int j)) (k : Q (.bl (decide (i < j))) H) : rI0 (fun i j => .bl (decide (i < j))) x y H Q := by
  cases r
  cases s
  exact ⟨i, j, rfl, rfl, k⟩
theorem rx_chLE {i j l : Int} (ha : RX K ta ρ O (.int i) O) (hb : RX K tb ρ O (.int j) O) (hc : RX K tc ρ O (.int l) O) : RX K (tChain (rI0 fun i j => .bl (decide (i ≤ j))) (rI0 fun i j => .bl (decide (i ≤ j))) ta tb tc) ρ O (.bool (decide (i ≤ j) && decide (j ≤ l))) O :=
  rx_chain ha hb hc (fun _ _ _ _ _ => ch_le) fun _ _ _ _ _ => ch_le
theorem rx_chLtLE {i j l : Int} (ha : RX K ta ρ O (.int i) O) (hb : RX K tb ρ O (.int j) O) (hc : RX K tc ρ O (.int l) O) : RX K (tChain (rI0 fun i j => .bl (decide (i < j))) (rI0 fun i j => .bl (decide (i ≤ j))) ta tb tc) ρ O (.bool (decide (i < j) && decide (j ≤ l))) O :=
  rx_chain ha hb hc (fun _ _ _ _ _ => ch_lt) fun _ _ _ _ _ => ch_le
/-- int(flag), int(n) -/
def b2n (b : Bool) : Int := if b then 1 else 0

/-! ### {..}.get(k, x) over a written dict of ints by texts -/
def dlit (kvs : List (Str × Int)) (k : Str) : Option Int := (kvs.find? fun kv => decide (kv.1 = k)).map (·.2)
theorem pairs_lit : ∀ (kvs : List (Str × Int)) {σ : L2.St} {H : Hp} {Q : List (V × V) → Hp → Prop}, Q (kvs.map fun p => (V.str p.1, V.int p.2)) H → tPairs (kvs.map fun p => (tC (.str p.1), tC (.int p.2))) σ H Q
  | [], _, _, _, h => h
  | (k, v) :: r, σ, H, Q, h => by
    show tC (.str k) σ H fun x H1 => tC (.int v) σ H1 fun y H2 => tPairs (r.map fun p => (tC (.str p.1), tC (.int p.2))) σ H2 fun ps H3 => Q ((x, y) :: ps) H3
    exact pairs_lit r (Q := fun ps H3 => Q ((V.str k, V.int v) :: ps) H3) h
def litV (kvs : List (Str × Int)) : List (Key × V) := kvs.map fun p => (Sum.inr p.1, V.int p.2)
theorem valV_lit {k : Str} : ∀ (kvs : List (Str × Int)), valV (litV kvs) (Sum.inr k : Key) = (dlit kvs k).map V.int
  | [] => rfl
  | (a, v) :: r => by
    have ih := valV_lit (k := k) r
    unfold valV dlit litV at ih ⊢
    rw [List.map_cons, List.find?_cons, List.find?_cons]
    by_cases e : a = k
    · subst e
      simp
    · have e1 : decide ((Sum.inr a : Key) = Sum.inr k) = false := decide_eq_false fun q => e (Sum.inr.inj q)
      have e2 : decide (a = k) = false := decide_eq_false e
      rw [e1, e2]
      exact ih
theorem merge_lit {kvs : List (Str × Int)} (h : mergeK [] (litV kvs) = litV kvs) (k : Str) : valV (mergeK [] (litV kvs)) (Sum.inr k : Key) = (dlit kvs k).map V.int := by rw [h, valV_lit]
theorem upd_over {H : Hp} {p : Addr} {o o' : HO} : upd (upd H p o) p o' = upd H p o' := upd_upd
/-- {..}.get(k, d) -/
theorem rx_lget {kvs : List (Str × Int)} {k : Str} {i : Int} (hl : kvs.length ≤ 15) (hm : mergeK [] (litV kvs) = litV kvs) (hk : RX K ta ρ O (.str k) O1) (hd : RX K tb ρ O1 (.int i) O2) :
    RX K (tDGet2 (tDisp (kvs.map fun p => (tC (.str p.1), tC (.int p.2)))) ta tb) ρ O (.int ((dlit kvs k).getD i)) O2 := ⟨fun _ _ _ _ _ _ Q E S kk => by
  intro p hp
  refine pairs_lit kvs ⟨upd_same, litV kvs, ?_, ?_, ?_⟩
  · unfold litV; rw [List.map_map]; rfl
  · unfold litV; rw [List.length_map]; exact hl
  · rw [upd_upd, hm]
    have f0 := same_upd (o := .dK (litV kvs)) (S.nof hp)
    refine ⟨p, rfl, .inl ⟨_, .inl upd_same⟩, hk.go (E.up f0) (S.put (o := .dK (litV kvs)) hp) fun y F1 H1 f1 E1 S1 r1 => hd.go E1 S1 fun z F2 H2 f2 E2 S2 r2 => ?_⟩
    cases r1
    cases r2
    have hp2 : H2 p = some (.dK (litV kvs)) := S2.fh _ _ (f2 _ _ (f1 _ _ upd_same))
    refine ⟨_, DGet.k (k := Sum.inr k) hp2, ?_⟩
    rw [valV_lit]
    have e : (((dlit kvs k).map V.int).getD (V.int i)) = V.int ((dlit kvs k).getD i) := by cases dlit kvs k <;> rfl
    rw [e]
    exact kk _ F2 H2 ((f0.trans f1).trans f2) S2 (.int _)⟩

/-! ### calls of the text's defs -/
/-- R ds d: called with the data ds the def hands back d -/
def SpP (K : Fg) (R : List PyData → PyData → Prop) : Sp := fun vs H Q _ => ∃ F ds d, RpAll K F vs ds ∧ Same F H ∧ R ds d ∧ ∀ v F' H', Stp [] F H F' H' → Rp K F' v d → Q v H'
/-- .. a new list of the data es -/
def SpN (K : Fg) (R : List PyData → List PyData → Prop) : Sp := fun vs H Q _ => ∃ F ds es, RpAll K F vs ds ∧ Same F H ∧ R ds es ∧
  ∀ p F' H' xs, Stp [] F H F' H' → H p = none → F' p = none → H' p = some (.lst xs) → xs.length ≤ sizeLine → RpAll K F' xs es → Q (.ref p) H'
/-- the first argument an own list, of the data c, that is changed to c' -/
def SpPo (K : Fg) (R : List PyData → List PyData → PyData → List PyData → Prop) : Sp := fun vs H Q _ => ∃ F p ws xs c ds d c', vs = .ref p :: ws ∧ RpAll K F ws ds ∧ Same F H ∧ F p = none ∧ H p = some (.lst xs) ∧ xs.length ≤ sizeLine ∧ RpAll K F xs c ∧ R c ds d c' ∧
  ∀ v F' H' ys, Stp [p] F H F' H' → F' p = none → H' p = some (.lst ys) → ys.length ≤ sizeLine → RpAll K F' ys c' → Rp K F' v d → Q v H'
def SpNo (K : Fg) (R : List PyData → List PyData → List PyData → List PyData → Prop) : Sp := fun vs H Q _ => ∃ F p ws xs c ds es c', vs = .ref p :: ws ∧ RpAll K F ws ds ∧ Same F H ∧ F p = none ∧ H p = some (.lst xs) ∧ xs.length ≤ sizeLine ∧ RpAll K F xs c ∧ R c ds es c' ∧
  ∀ q F' H' ys zs, Stp [p] F H F' H' → F' p = none → H' p = some (.lst ys) → ys.length ≤ sizeLine → RpAll K F' ys c' → H q = none → F' q = none → H' q = some (.lst zs) → zs.length ≤ sizeLine → RpAll K F' zs es → Q (.ref q) H'
variable {E0 : XK}
theorem rx_call {R : List PyData → PyData → Prop} {ds : List PyData} {d : PyData} (hR : R ds d) (ha : RA K t ρ O (ds.map .val) O1) : RX K (tCall (SpP K R) [] E0 t) ρ O d O1 := ⟨fun _ _ _ _ _ _ Q E S k => ha.go E S fun vs F1 H1 f1 E1 S1 r1 => by
  rw [List.append_nil]
  exact ⟨F1, ds, d, r1.all, S1.fh, hR, fun v F' H' st r => k v F' H' (f1.trans st.ff) (S1.call st) r⟩⟩
theorem rxo_call {R : List PyData → List PyData → Prop} {ds es : List PyData} (hR : R ds es) (ha : RA K t ρ O (ds.map .val) O1) : RXo K (tCall (SpN K R) [] E0 t) ρ O es O1 := ⟨fun _ _ _ _ _ _ Q E S k => ha.go E S fun vs F1 H1 f1 E1 S1 r1 => by
  rw [List.append_nil]
  refine ⟨F1, ds, es, r1.all, S1.fh, hR, fun p F' H' xs st h1 h2 h3 h4 h5 => k p F' H' (f1.trans st.ff) ?_⟩
  have S2 := S1.call st
  refine ⟨S2.f0, S2.fh, S2.keep, S2.live, S2.new, fun q hq => ?_, ?_⟩
  · rcases List.mem_cons.mp hq with rfl | hq
    · exact ⟨h2, fun _ => S1.noh0 h1, fun z => (Bool.false_ne_true z.symm).elim, xs, h3, h4, h5⟩
    · exact S2.own q hq
  · rw [List.map_cons, List.nodup_cons]
    refine ⟨fun hm => ?_, S2.nd⟩
    obtain ⟨q, hq, e⟩ := List.mem_map.mp hm
    obtain ⟨_, _, _, vs', g4, _⟩ := S1.own q hq
    have e' : q.a = p := e
    rw [e', h1] at g4
    cases g4⟩
theorem rx_callo {R : List PyData → List PyData → PyData → List PyData → Prop} {a : Addr} {nw : Bool} {j : Nat} {c c' ds : List PyData} {d : PyData} (ha : RA K t ρ O (.adr a :: ds.map .val) O1) (hj : O1[j]? = some ⟨a, nw, c⟩) (hR : R c ds d c') :
    RX K (tCall (SpPo K R) [] E0 t) ρ O d (O1.set j ⟨a, nw, c'⟩) := ⟨fun _ _ _ _ _ _ Q E S k => ha.go E S fun vs F1 H1 f1 E1 S1 r1 => by
  rw [List.append_nil]
  obtain ⟨g1, g2, g3, xs, g4, g5, g6⟩ := S1.get hj
  cases r1 with
  | adr r1 =>
    exact ⟨F1, a, _, xs, c, ds, d, c', rfl, r1.all, S1.fh, g1, g4, g5, g6, hR, fun v F' H' ys st h1 h2 h3 h4 r => k v F' H' (f1.trans st.ff) (S1.call1 hj st h2 h3 h4) r⟩⟩
theorem rxo_callo {R : List PyData → List PyData → List PyData → List PyData → Prop} {a : Addr} {nw : Bool} {j : Nat} {c c' ds es : List PyData} (ha : RA K t ρ O (.adr a :: ds.map .val) O1) (hj : O1[j]? = some ⟨a, nw, c⟩) (hR : R c ds es c') :
    RXo K (tCall (SpNo K R) [] E0 t) ρ O es (O1.set j ⟨a, nw, c'⟩) := ⟨fun _ _ _ _ _ _ Q E S k => ha.go E S fun vs F1 H1 f1 E1 S1 r1 => by
  rw [List.append_nil]
  obtain ⟨g1, g2, g3, xs, g4, g5, g6⟩ := S1.get hj
  cases r1 with
  | adr r1 =>
    refine ⟨F1, a, _, xs, c, ds, es, c', rfl, r1.all, S1.fh, g1, g4, g5, g6, hR, fun q F' H' ys zs st h1 h2 h3 h4 n1 n2 n3 n4 n5 => k q F' H' (f1.trans st.ff) ?_⟩
    have S2 := S1.call1 hj st h2 h3 h4
    refine ⟨S2.f0, S2.fh, S2.keep, S2.live, S2.new, fun w hw => ?_, ?_⟩
    · rcases List.mem_cons.mp hw with rfl | hw
      · exact ⟨n2, fun _ => S1.noh0 n1, fun z => (Bool.false_ne_true z.symm).elim, zs, n3, n4, n5⟩
      · exact S2.own w hw
    · rw [List.map_cons, List.nodup_cons]
      refine ⟨fun hm => ?_, S2.nd⟩
      have e : (O1.set j ⟨a, nw, c'⟩).map OE.a = O1.map OE.a := by
        rw [List.map_set]
        apply List.ext_getElem?
        intro i
        by_cases e : j = i
        · subst e
          have hj' : j < O1.length := (List.getElem?_eq_some_iff.mp hj).1
          rw [List.getElem?_set_self (by simpa using hj'), List.getElem?_map, hj]; rfl
        · rw [List.getElem?_set_ne e]
      rw [e] at hm
      obtain ⟨w, hw, e'⟩ := List.mem_map.mp hm
      obtain ⟨_, _, _, vs', k4, _⟩ := S1.own w hw
      have e2 : w.a = q := e'
      rw [e2, n1] at k4
      cases k4⟩

/-! ### targets -/
theorem rg_name {i : Nat} {d : PyData} : RG K (gName i) d ρ (ρ.set i (.val d)) [i] := ⟨fun σ F H v Q E r f k => k _ (E.setv r i) fun vs h => wipe_set _ (h i (by simp))⟩
inductive RGs (K : Fg) : TGs → List PyData → List Sl → List Sl → List Nat → Prop
  | nil {ρ : List Sl} : RGs K gNil [] ρ ρ []
  | cons {g : TG} {gs : TGs} {d : PyData} {ds : List PyData} {ρ ρ1 ρ2 : List Sl} {ts us : List Nat} : RG K g d ρ ρ1 ts → RGs K gs ds ρ1 ρ2 us → RGs K (gCons g gs) (d :: ds) ρ ρ2 (ts ++ us)
theorem RGs.run {g : TGs} {ds : List PyData} {ρ ρ' : List Sl} {ts : List Nat} (h : RGs K g ds ρ ρ' ts) : ∀ (σ : L2.St) (F H : Hp) (vs : List V) (Q : L2.St → Hp → Prop), EnvR K F σ ρ → RpAll K F vs ds → Same F H →
    (∀ σ', EnvR K F σ' ρ' → (∀ ws : List Nat, (∀ t ∈ ts, t ∈ ws) → L2.wipe σ' ws = L2.wipe σ ws) → Q σ' H) → g vs σ H Q := by
  induction h with
  | nil =>
    intro σ F H vs Q E r f k
    cases r
    exact ⟨rfl, k σ E fun _ _ => rfl⟩
  | cons h1 _ ih =>
    intro σ F H vs Q E r f k
    cases r with
    | cons r1 r2 =>
      refine ⟨_, _, rfl, h1.run σ F H _ _ E r1 f fun σ1 E1 w1 => ih σ1 F H _ Q E1 r2 f fun σ2 E2 w2 => k σ2 E2 fun ws hw => ?_⟩
      rw [w2 ws fun t ht => hw t (List.mem_append_right _ ht), w1 ws fun t ht => hw t (List.mem_append_left _ ht)]
theorem rg_tup {gs : TGs} {n : Nat} {ds : List PyData} {ρ ρ' : List Sl} {ts : List Nat} (h : RGs K gs ds ρ ρ' ts) (hn : ds.length = n := by rfl) : RG K (gTup K n gs) (.tuple ds) ρ ρ' ts := ⟨fun σ F H v Q E r f k => by
  cases r with
  | tup q1 q2 q3 => exact ⟨_, _, rfl, same_t f q1, by rw [q3.length, hn], h.run σ F H _ Q E q3 f k⟩⟩
end
end TL

namespace TL
open PySem L2
open Enc
/-! ### what loops walk -/
section
variable {K : Fg} {ta tb tc : TE} {ρ : List Sl} {O O1 O2 O3 : Os} {t : TA} {ys : List PyData}
theorem ri_list (h : RX K ta ρ O (.list ys) O1) : RI K (iList K ta) ρ O ys O1 := ⟨fun _ _ _ _ _ _ R E S k => h.go E S fun x F1 H1 f1 E1 S1 r1 => by
  cases r1 with
  | @lst a xs _ q1 q2 q3 =>
    refine ⟨a, rfl, ⟨xs, S1.fh.seq q1⟩, k _ F1 H1 f1 S1 ⟨by rw [← q3.length]; exact q2, fun _ _ _ F O H i hi f S => ?_, fun _ _ _ F O H f S => ?_, fun _ _ _ F O H i x H' hi f S y => ?_⟩⟩
    · rw [← q3.length] at hi
      exact ⟨xs, xs[i], (f.trans S.fh).seq q1, by simp [hi]⟩
    · exact ⟨xs, (f.trans S.fh).seq q1, by rw [q3.length]; exact Nat.le_refl _⟩
    · obtain ⟨e, y⟩ := y
      subst e
      obtain ⟨d, e, r⟩ := (q3.up f).getV (y xs ((f.trans S.fh).seq q1))
      exact ⟨F, d, Same.refl _, S, e, r⟩⟩
theorem ri_tup (h : RX K ta ρ O (.tuple ys) O1) : RI K (iTup K ta) ρ O ys O1 := ⟨fun _ _ _ _ _ _ R E S k => h.go E S fun x F1 H1 f1 E1 S1 r1 => by
  cases r1 with
  | @tup a xs _ q1 q2 q3 =>
    refine ⟨a, rfl, ⟨xs, same_t S1.fh q1⟩, k _ F1 H1 f1 S1 ⟨by rw [← q3.length]; exact q2, fun _ _ _ F O H i hi f S => ?_, fun _ _ _ F O H f S => ?_, fun _ _ _ F O H i x H' hi f S y => ?_⟩⟩
    · rw [← q3.length] at hi
      exact ⟨xs, xs[i], same_t (f.trans S.fh) q1, by simp [hi]⟩
    · exact ⟨xs, same_t (f.trans S.fh) q1, by rw [q3.length]; exact Nat.le_refl _⟩
    · obtain ⟨e, y⟩ := y
      subst e
      obtain ⟨d, e, r⟩ := (q3.up f).getV (y xs (same_t (f.trans S.fh) q1))
      exact ⟨F, d, Same.refl _, S, e, r⟩⟩
/-- lo, lo + 1, .. n of them -/
def rngL (lo : Int) (n : Nat) : List Int := (List.range n).map fun i => lo + (i : Nat)
theorem rngL_length (lo : Int) (n : Nat) : (rngL lo n).length = n := by unfold rngL; simp
theorem walk_rng {F1 : Hp} (lo : Int) (n : Nat) (hn : n ≤ sizeLine) : WalkD K (Itr lo n) ((rngL lo n).map .int) F1 := by
  have hl : ((rngL lo n).map PyData.int).length = n := by rw [List.length_map, rngL_length]
  refine ⟨by rw [hl]; exact hn, fun _ _ _ F O H i hi f S => ?_, fun _ _ _ F O H f S => ?_, fun _ _ _ F O H i x H' hi f S y => ?_⟩
  · rw [hl] at hi; exact hi
  · show n ≤ _; rw [hl]; exact Nat.le_refl _
  · obtain ⟨e, y⟩ := y
    subst e
    subst y
    rw [hl] at hi
    exact ⟨F, .int (lo + i), Same.refl _, S, by unfold rngL; simp [hi], .int _⟩
def rngO (n : Int) : Option (List Int) := if -4611686018427387904 ≤ n ∧ n ≤ 16777216 then some (rngL 0 n.toNat) else none
def rng2O (a b : Int) : Option (List Int) := if -4611686018427387904 ≤ a ∧ a ≤ 16777216 ∧ -4611686018427387904 ≤ b ∧ b - a ≤ 16777216 ∧ b ≤ 16777216 then some (rngL a (b - a).toNat) else none
theorem rngO_some {n : Int} {r : List Int} (h : rngO n = some r) : (-4611686018427387904 ≤ n ∧ n ≤ 16777216) ∧ r = rngL 0 n.toNat := by
  unfold rngO at h
  split at h
  · cases h; exact ⟨by assumption, rfl⟩
  · cases h
theorem ri_range {n : Int} {r : List Int} (hr : rngO n = some r) (h : RX K ta ρ O (.int n) O1) : RI K (iRng1 (tCons ta tNil)) ρ O (r.map .int) O1 := ⟨fun _ _ _ _ _ _ R E S k => h.go E S fun x F1 H1 f1 E1 S1 r1 => by
  obtain ⟨⟨h1, h2⟩, rfl⟩ := rngO_some hr
  cases r1
  have hs : sizeLine = 16777216 := sizeLine_eq
  exact ⟨n, rfl, by omega, by omega, k _ F1 H1 f1 S1 (walk_rng 0 n.toNat (by omega))⟩⟩
theorem ri_range2 {a b : Int} {r : List Int} (hr : rng2O a b = some r) (h : RX K ta ρ O (.int a) O1) (h' : RX K tb ρ O1 (.int b) O2) : RI K (iRng2 (tCons ta (tCons tb tNil))) ρ O (r.map .int) O2 := ⟨fun _ _ _ _ _ _ R E S k =>
  h.go E S fun x F1 H1 f1 E1 S1 r1 => h'.go E1 S1 fun y F2 H2 f2 E2 S2 r2 => by
    unfold rng2O at hr
    split at hr
    · rename_i hc
      obtain ⟨c1, c2, c3, c4, c5⟩ := hc
      cases hr
      cases r1
      cases r2
      have hs : sizeLine = 16777216 := sizeLine_eq
      exact ⟨a, b, rfl, ⟨by omega, by omega, by omega, by omega⟩, k _ F2 H2 (f1.trans f2) S2 (walk_rng a (b - a).toNat (by omega))⟩
    · cases hr⟩
/-- range(len(x)) and the like: what is known to be small -/
theorem ri_rangeN {n : Nat} (hn : n ≤ sizeLine) (h : RX K ta ρ O (.int (n : Nat)) O1) : RI K (iRng1 (tCons ta tNil)) ρ O ((rngL 0 n).map .int) O1 := ⟨fun _ _ _ _ _ _ R E S k => h.go E S fun x F1 H1 f1 E1 S1 r1 => by
  cases r1
  have hs : sizeLine = 16777216 := sizeLine_eq
  refine ⟨(n : Nat), rfl, by omega, by omega, k _ F1 H1 f1 S1 ?_⟩
  rw [Int.toNat_natCast]
  exact walk_rng 0 n hn⟩
theorem ri_rangeLen {ds : List PyData} (ha : RXs K ta ρ O ds O1) : RI K (iRng1 (tCons (tCB (rLenQ K) (tCons ta tNil)) tNil)) ρ O ((rngL 0 ds.length).map .int) O1 := ⟨fun _ _ _ _ _ _ R E S k => by
  refine ha.go E S fun a F1 H1 f1 E1 S1 r1 => ?_
  obtain ⟨vs, q1, q2, q3⟩ := r1 F1 H1 (Same.refl _) S1
  have hs : sizeLine = 16777216 := sizeLine_eq
  refine ⟨a, vs, rfl, .inl q1, (vs.length : Nat), rfl, by omega, by omega, k _ F1 H1 f1 S1 ?_⟩
  rw [Int.toNat_natCast, q3.length]
  exact walk_rng 0 _ (by rw [← q3.length]; exact q2)⟩
theorem ri_rangeLenT {ds : List PyData} (ha : RX K ta ρ O (.tuple ds) O1) : RI K (iRng1 (tCons (tCB (rLenQ K) (tCons ta tNil)) tNil)) ρ O ((rngL 0 ds.length).map .int) O1 := ⟨fun _ _ _ _ _ _ R E S k => by
  refine ha.go E S fun x F1 H1 f1 E1 S1 r1 => ?_
  cases r1 with
  | @tup a xs _ q1 q2 q3 =>
    have hs : sizeLine = 16777216 := sizeLine_eq
    refine ⟨a, xs, rfl, .inr (same_t S1.fh q1), (xs.length : Nat), rfl, by omega, by omega, k _ F1 H1 f1 S1 ?_⟩
    rw [Int.toNat_natCast, q3.length]
    exact walk_rng 0 _ (by rw [← q3.length]; exact q2)⟩
/-- a, a + c, .. -/
def rngC (a c : Int) (n : Nat) : List Int := (List.range n).map fun i => a + (i : Nat) * c
theorem walk_rngC {F1 : Hp} (lo c : Int) (n : Nat) (hn : n ≤ sizeLine) : WalkD K (Itc lo c n) ((rngC lo c n).map .int) F1 := by
  have hl : ((rngC lo c n).map PyData.int).length = n := by unfold rngC; simp
  refine ⟨by rw [hl]; exact hn, fun _ _ _ F O H i hi f S => ?_, fun _ _ _ F O H f S => ?_, fun _ _ _ F O H i x H' hi f S y => ?_⟩
  · rw [hl] at hi; exact hi
  · show n ≤ _; rw [hl]; exact Nat.le_refl _
  · obtain ⟨e, y⟩ := y
    subst e
    subst y
    rw [hl] at hi
    exact ⟨F, .int (lo + i * c), Same.refl _, S, by unfold rngC; simp [hi], .int _⟩
def rngDownO (a b : Int) : Option (List Int) := if -16777216 ≤ a ∧ a ≤ 16777216 ∧ -16777216 ≤ b ∧ b ≤ 16777216 ∧ a - b ≤ 16777216 then some (rngC a (-1) (a - b).toNat) else none
/-- range(a, b, -1) -/
theorem ri_rangeDown {a b : Int} {r : List Int} (hr : rngDownO a b = some r) (h : RX K ta ρ O (.int a) O1) (h' : RX K tb ρ O1 (.int b) O2) (h2 : RX K tc ρ O2 (.int (-1)) O3) : RI K (iRng3 (tCons ta (tCons tb (tCons tc tNil)))) ρ O (r.map .int) O3 := ⟨fun _ _ _ _ _ _ R E S k =>
  h.go E S fun x F1 H1 f1 E1 S1 r1 => h'.go E1 S1 fun y F2 H2 f2 E2 S2 r2 => h2.go E2 S2 fun z F3 H3 f3 E3 S3 r3 => by
    unfold rngDownO at hr
    split at hr
    · rename_i hc
      obtain ⟨c1, c2, c3, c4, c5⟩ := hc
      cases hr
      cases r1
      cases r2
      cases r3
      have hs : sizeLine = 16777216 := sizeLine_eq
      exact ⟨a, b, -1, (a - b).toNat, rfl, RgC.neg (by omega) (by omega) (by omega) (by omega), k _ F3 H3 ((f1.trans f2).trans f3) S3 (walk_rngC a (-1) _ (by omega))⟩
    · cases hr⟩
/-- a pair that an iterator makes -/
theorem pair_put {F0 H0 F H : Hp} {D0 : List Addr} {x y : V} {d e : PyData} {T : Addr} (S : Hx K F0 H0 D0 F O H) (hT : H T = none) (r1 : Rp K F x d) (r2 : Rp K F y e) :
    ∃ F', Same F F' ∧ Hx K F0 H0 D0 F' O (upd H T (.tup [x, y])) ∧ Rp K F' (.ref T) (.tuple [d, e]) := by
  have f := same_upd (o := .tup [x, y]) (S.nof hT)
  exact ⟨_, f, S.put hT, .tup (SqT.of upd_same) (by show 2 ≤ sizeLine; decide) (.cons (r1.up f) (.cons (r2.up f) .nil))⟩
def enumD (ys : List PyData) : List PyData := ys.zipIdx.map fun p => .tuple [.int (p.2 : Nat), p.1]
theorem ri_enum (h : RX K ta ρ O (.list ys) O1) : RI K (iEnum K (tCons ta tNil)) ρ O (enumD ys) O1 := ⟨fun _ _ _ _ _ _ R E S k => h.go E S fun x F1 H1 f1 E1 S1 r1 => by
  cases r1 with
  | @lst a xs _ q1 q2 q3 =>
    have hl : (enumD ys).length = ys.length := by unfold enumD; simp
    refine ⟨a, xs, rfl, S1.fh.seq q1, k _ F1 H1 f1 S1 ⟨by rw [hl, ← q3.length]; exact q2, fun _ _ _ F O H i hi f S => ?_, fun _ _ _ F O H f S => ?_, fun _ _ _ F O H i x H' hi f S y => ?_⟩⟩
    · rw [hl, ← q3.length] at hi
      exact ⟨xs, xs[i], (f.trans S.fh).seq q1, by simp [hi]⟩
    · exact ⟨xs, (f.trans S.fh).seq q1, by rw [q3.length, hl]; exact Nat.le_refl _⟩
    · obtain ⟨T, z, rfl, hT, rfl, y⟩ := y
      obtain ⟨d, e, r⟩ := (q3.up f).getV (y xs ((f.trans S.fh).seq q1))
      obtain ⟨F2, f2, S2, r2⟩ := pair_put S hT (.int (i : Nat)) r
      exact ⟨F2, _, f2, S2, by unfold enumD; simp [e], r2⟩⟩
def zipD (ys zs : List PyData) : List PyData := (ys.zip zs).map fun p => .tuple [p.1, p.2]
theorem ri_zip {zs : List PyData} (h : RX K ta ρ O (.list ys) O1) (h' : RX K tb ρ O1 (.list zs) O2) : RI K (iZip K (tCons ta (tCons tb tNil))) ρ O (zipD ys zs) O2 := ⟨fun _ _ _ _ _ _ R E S k =>
  h.go E S fun x F1 H1 f1 E1 S1 r1 => h'.go E1 S1 fun y F2 H2 f2 E2 S2 r2 => by
    have r1' := r1.up f2
    cases r1' with
    | @lst a xs _ q1 q2 q3 =>
      cases r2 with
      | @lst b ws _ p1 p2 p3 =>
        have hl : (zipD ys zs).length = min xs.length ws.length := by unfold zipD; rw [List.length_map, List.length_zip, q3.length, p3.length]
        refine ⟨a, b, xs, ws, rfl, S2.fh.seq q1, S2.fh.seq p1, k _ F2 H2 (f1.trans f2) S2 ⟨by omega, fun _ _ _ F O H i hi f S => ?_, fun _ _ _ F O H f S => ?_, fun _ _ _ F O H i x H' hi f S y => ?_⟩⟩
        · have h1 : i < xs.length := by omega
          have h2 : i < ws.length := by omega
          exact ⟨xs, ws, xs[i], ws[i], (f.trans S.fh).seq q1, (f.trans S.fh).seq p1, by simp [h1], by simp [h2]⟩
        · exact ⟨xs, ws, (f.trans S.fh).seq q1, (f.trans S.fh).seq p1, by omega⟩
        · obtain ⟨T, u, v, rfl, hT, rfl, y1, y2⟩ := y
          obtain ⟨d, e, r⟩ := (q3.up f).getV (y1 xs ((f.trans S.fh).seq q1))
          obtain ⟨d', e', r'⟩ := (p3.up f).getV (y2 ws ((f.trans S.fh).seq p1))
          obtain ⟨F3, f3, S3, r3⟩ := pair_put S hT r r'
          refine ⟨F3, _, f3, S3, ?_, r3⟩
          unfold zipD
          have ez : (ys.zip zs)[i]? = some (d, d') := List.getElem?_zip_eq_some.mpr ⟨e, e'⟩
          rw [List.getElem?_map, ez]
          rfl⟩
/-- a text, sign by sign -/
def signs (z : Str) : List Str := z.cps.toList.map fun c => ⟨#[c]⟩
theorem ri_str {z : Str} (hz : z.length ≤ sizeLine) (h : RX K ta ρ O (.str z) O1) : RI K (iStr ta) ρ O ((signs z).map .str) O1 := ⟨fun _ _ _ _ _ _ R E S k => h.go E S fun x F1 H1 f1 E1 S1 r1 => by
  cases r1
  have hl : ((signs z).map PyData.str).length = z.cps.size := by unfold signs; simp
  refine ⟨z, rfl, k _ F1 H1 f1 S1 ⟨by rw [hl]; exact hz, fun _ _ _ F O H i hi f S => ?_, fun _ _ _ F O H f S => ?_, fun _ _ _ F O H i x H' hi f S y => ?_⟩⟩
  · rw [hl] at hi; exact hi
  · show z.cps.size ≤ _; rw [hl]; exact Nat.le_refl _
  · obtain ⟨e, c, hc, y⟩ := y
    subst e
    subst y
    refine ⟨F, .str ⟨#[c]⟩, Same.refl _, S, ?_, .str _⟩
    unfold signs
    rw [List.map_map, List.getElem?_map, Array.getElem?_toList, hc]
    rfl⟩
end

/-! ### loops in plain data -/
/-- [f x for x in xs if ..], a state handed on; none within: left out -/
def fmS {α β S : Type} (g : α → S → Option (Option β × S)) : List α → S → Option (List β × S)
  | [], s => some ([], s)
  | x :: xs, s => (g x s).bind fun r => (fmS g xs r.2).bind fun q => some (match r.1 with | none => q.1 | some y => y :: q.1, q.2)
def forS {α S : Type} (f : α → S → Option S) : List α → S → Option S
  | [], s => some s
  | x :: xs, s => (f x s).bind fun s' => forS f xs s'
inductive Fl (S R : Type) where
  | nx (s : S)
  | bk (s : S)
  | rt (r : R)
def forF {α S R : Type} (f : α → S → Option (Fl S R)) : List α → S → Option (Fl S R)
  | [], s => some (.nx s)
  | x :: xs, s => (f x s).bind fun r => match r with
    | .nx s' => forF f xs s'
    | .bk s' => some (.nx s')
    | .rt r => some (.rt r)
def whileS {S : Type} (c : S → Option Bool) (f : S → Option S) : Nat → S → Option S
  | 0, _ => none
  | n + 1, s => (c s).bind fun b => if b = true then (f s).bind fun s' => whileS c f n s' else some s
def whileF {S R : Type} (c : S → Option Bool) (f : S → Option (Fl S R)) : Nat → S → Option (Fl S R)
  | 0, _ => none
  | n + 1, s => (c s).bind fun b => if b = true then (f s).bind fun r => match r with
    | .nx s' => whileF c f n s'
    | .bk s' => some (.nx s')
    | .rt r => some (.rt r) else some (.nx s)
theorem bindE {α β : Type} {m : Option α} {f : α → Option β} {r : β} (h : m.bind f = some r) : ∃ x, m = some x ∧ f x = some r := by
  cases m with
  | none => cases h
  | some x => exact ⟨x, rfl, h⟩

/-! ### comprehensions -/
section
variable {K : Fg} {ρ : List Sl} {O : Os}
theorem rxo_lcS {α β S : Type} {eα : α → PyData} {eβ : β → PyData} {wi : TI} {g : TG} {tt : TT} {te : TE} {vs : List Nat} {xs : List α} {Of : S → Os} {s0 s1 : S} {zs : List β} {f : α → S → Option (Option β × S)} (ρx : α → List Sl) (ts : List Nat)
    (hI : RI K wi ρ O (xs.map eα) (Of s0)) (hf : fmS f xs s0 = some (zs, s1)) (hts : ∀ t ∈ ts, t ∈ vs) (hg : ∀ x ∈ xs, RG K g (eα x) (wipeS ρ vs) (ρx x) ts)
    (step : ∀ x ∈ xs, ∀ s o s', f x s = some (o, s') → ∃ b s2, (∀ D acc, RT K tt (ρx x) (⟨D, true, acc⟩ :: Of s) b (⟨D, true, acc⟩ :: Of s2)) ∧
      (b = true → ∃ y, o = some y ∧ ∀ D acc, RX K te (ρx x) (⟨D, true, acc⟩ :: Of s2) (eβ y) (⟨D, true, acc⟩ :: Of s')) ∧ (b = false → o = none ∧ s2 = s')) :
    RXo K (tLc wi g tt te vs) ρ O (zs.map eβ) (Of s1) := ⟨fun F0 H0 D0 σ F H Q E S k => hI.go E S fun J F1 H1 f1 E1 S1 w => by
  intro D hD
  have hl : (xs.map eα).length = xs.length := List.length_map _
  have W : Walk J xs.length (fun H => ∃ F O, Same F1 F ∧ Hx K F0 H0 D0 F O H) (fun i H x H' => ∀ F O, Same F1 F → Hx K F0 H0 D0 F O H → ∃ F' y, Same F F' ∧ Hx K F0 H0 D0 F' O H' ∧ xs[i]? = some y ∧ Rp K F' x (eα y)) := by
    refine ⟨fun i H hi q => ?_, fun H q => ?_, fun i H x H' hi _ y F O f S => ?_⟩
    · obtain ⟨F, O, f, S⟩ := q
      exact w.go F0 H0 D0 F O H i (by rw [hl]; exact hi) f S
    · obtain ⟨F, O, f, S⟩ := q
      have := w.stop F0 H0 D0 F O H f S
      rw [hl] at this
      exact this
    · obtain ⟨F', y', f', S', e, r⟩ := w.yld F0 H0 D0 F O H i x H' (by rw [hl]; exact hi) f S y
      rw [List.getElem?_map] at e
      cases e2 : xs[i]? with
      | none => rw [e2] at e; cases e
      | some z =>
        rw [e2] at e
        have e3 : eα z = y' := Option.some.inj e
        subst e3
        exact ⟨F', z, f', S', rfl, r⟩
  refine lc_it W (fun i H => ∃ s F acc zr, Same F1 F ∧ Hx K F0 H0 D0 F (⟨D, true, acc⟩ :: Of s) H ∧ fmS f (xs.drop i) s = some (zr, s1) ∧ acc ++ zr.map eβ = zs.map eβ ∧ acc.length ≤ i) ⟨s0, F1, [], zs, Same.refl _, S1.mine hD (Nat.zero_le _) .nil, hf, rfl, Nat.le_refl _⟩
    (fun i H _ q => by obtain ⟨s, F, acc, zr, q1, q2, _⟩ := q; exact ⟨F, _, q1, q2⟩) (fun i x H H' hi q y => ?_) (fun H q => ?_)
  · obtain ⟨s, F, acc, zr, q1, q2, q3, q4, q5⟩ := q
    obtain ⟨F2, z, f2, S2, ez, rz⟩ := y F _ q1 q2
    have hm : z ∈ xs := List.mem_of_getElem? ez
    have hi' : xs[i] = z := by
      rw [List.getElem?_eq_getElem hi] at ez
      exact Option.some.inj ez
    rw [List.drop_eq_getElem_cons hi, hi'] at q3
    obtain ⟨⟨o, s'⟩, e1, q3⟩ := bindE q3
    obtain ⟨⟨zr', s1'⟩, e2, q3⟩ := bindE q3
    obtain ⟨b, s2, hb, ht, hn⟩ := step z hm s o s' e1
    have q3 := Option.some.inj q3
    have es : s1' = s1 := congrArg Prod.snd q3
    subst es
    refine (hg z hm).run _ F2 H' x _ ((E1.wipe vs).up (q1.trans f2)) rz S2.fh fun σ' E' wq => ⟨(wq vs hts).trans (wipe_wipe σ vs), (hb D acc).go E' S2 fun F3 H3 f3 E3 S3 => ?_⟩
    cases b with
    | true =>
      obtain ⟨y, eo, hy⟩ := ht rfl
      subst eo
      refine iteT ((hy D acc).go E3 S3 fun v F4 H4 f4 E4 S4 r4 => ?_)
      obtain ⟨g1, g2, g3, us, g4, g5, g6⟩ := S4.get (j := 0) (q := ⟨D, true, acc⟩) rfl
      have g4' : H4 D = some (.lst us) := g4
      have gl : us.length = acc.length := RpAll.length g6
      have hlt : us.length < sizeLine := by
        have := w.sz
        rw [hl] at this
        omega
      refine ⟨us, g4', hlt, s', F4, acc ++ [eβ y], zr', ((q1.trans f2).trans f3).trans f4, ?_, e2, ?_, ?_⟩
      · exact S4.mut (j := 0) (l := D) (nw := true) (ds := acc) (ds' := acc ++ [eβ y]) rfl (by rw [List.length_append, List.length_singleton]; omega) (RpAll.append g6 (.cons r4 .nil))
      · have ez' : zr = y :: zr' := (congrArg Prod.fst q3).symm
        rw [← q4, ez', List.map_cons, List.append_assoc]
        rfl
      · rw [List.length_append, List.length_singleton]; omega
    | false =>
      obtain ⟨eo, es⟩ := hn rfl
      subst eo
      subst es
      have ez' : zr = zr' := (congrArg Prod.fst q3).symm
      exact iteF ⟨s2, F3, acc, zr', (q1.trans f2).trans f3, S3, e2, by rw [← q4, ez'], by omega⟩
  · obtain ⟨s, F, acc, zr, q1, q2, q3, q4, q5⟩ := q
    rw [List.drop_length] at q3
    have q3' := Option.some.inj q3
    have e1 : zr = [] := (congrArg Prod.fst q3').symm
    have e2 : s = s1 := congrArg Prod.snd q3'
    subst e1
    subst e2
    rw [List.map_nil, List.append_nil] at q4
    rw [← q4] at k
    exact k D F H (f1.trans q1) q2⟩
end
end TL

namespace TL
open PySem L2
open Enc
/-! ### comprehensions, plain -/
def mapO {α β : Type} (f : α → Option β) : List α → Option (List β)
  | [] => some []
  | x :: xs => (f x).bind fun y => (mapO f xs).bind fun ys => some (y :: ys)
def filtO {α β : Type} (p : α → Option Bool) (f : α → Option β) : List α → Option (List β)
  | [] => some []
  | x :: xs => (p x).bind fun b => if b = true then (f x).bind fun y => (filtO p f xs).bind fun ys => some (y :: ys) else filtO p f xs
/-- with a state, all kept -/
def mapS {α β S : Type} (f : α → S → Option (β × S)) : List α → S → Option (List β × S)
  | [], s => some ([], s)
  | x :: xs, s => (f x s).bind fun r => (mapS f xs r.2).bind fun q => some (r.1 :: q.1, q.2)
def filtS {α β S : Type} (p : α → S → Option (Bool × S)) (f : α → S → Option (β × S)) : List α → S → Option (List β × S)
  | [], s => some ([], s)
  | x :: xs, s => (p x s).bind fun b => if b.1 = true then (f x b.2).bind fun r => (filtS p f xs r.2).bind fun q => some (r.1 :: q.1, q.2) else filtS p f xs b.2
section
variable {K : Fg} {ρ : List Sl} {O O1 : Os} {α β S : Type} {eα : α → PyData} {eβ : β → PyData} {wi : TI} {g : TG} {tt : TT} {te : TE} {vs : List Nat} {xs : List α}
theorem mapS_fm {f : α → S → Option (β × S)} : ∀ (xs : List α) (s : S), fmS (fun x s => (f x s).bind fun r => some (some r.1, r.2)) xs s = mapS f xs s
  | [], s => rfl
  | x :: xs, s => by
    unfold fmS mapS
    cases f x s with
    | none => rfl
    | some r =>
      simp only [Option.bind_some]
      rw [mapS_fm xs r.2]
theorem filtS_fm {p : α → S → Option (Bool × S)} {f : α → S → Option (β × S)} : ∀ (xs : List α) (s : S), fmS (fun x s => (p x s).bind fun b => if b.1 = true then (f x b.2).bind fun r => some (some r.1, r.2) else some (none, b.2)) xs s = filtS p f xs s
  | [], s => rfl
  | x :: xs, s => by
    unfold fmS filtS
    cases p x s with
    | none => rfl
    | some b =>
      simp only [Option.bind_some]
      cases b.1 with
      | true =>
        simp only [if_true]
        cases f x b.2 with
        | none => rfl
        | some r =>
          simp only [Option.bind_some]
          rw [filtS_fm xs r.2]
      | false =>
        simp only [Bool.false_eq_true, if_false, Option.bind_some]
        rw [filtS_fm xs b.2]
        cases filtS p f xs b.2 with
        | none => rfl
        | some q => rfl
theorem rt_yes : RT K tYes ρ O true O := ⟨fun _ _ _ _ _ _ Q E S k => k _ _ (Same.refl _) S⟩
theorem rxo_mapS {Of : S → Os} {s0 s1 : S} {zs : List β} {f : α → S → Option (β × S)} (ρx : α → List Sl) (ts : List Nat) (hI : RI K wi ρ O (xs.map eα) (Of s0)) (hf : mapS f xs s0 = some (zs, s1)) (hts : ∀ t ∈ ts, t ∈ vs)
    (hg : ∀ x ∈ xs, RG K g (eα x) (wipeS ρ vs) (ρx x) ts) (he : ∀ x ∈ xs, ∀ s y s', f x s = some (y, s') → ∀ D acc, RX K te (ρx x) (⟨D, true, acc⟩ :: Of s) (eβ y) (⟨D, true, acc⟩ :: Of s')) :
    RXo K (tLc wi g tYes te vs) ρ O (zs.map eβ) (Of s1) :=
  rxo_lcS ρx ts hI ((mapS_fm xs s0).trans hf) hts hg fun x hx s o s' e => by
    obtain ⟨r, e1, e2⟩ := bindE e
    have e2 := Option.some.inj e2
    refine ⟨true, s, fun D acc => rt_yes, fun _ => ⟨r.1, (congrArg Prod.fst e2).symm, fun D acc => ?_⟩, fun q => (Bool.false_ne_true q.symm).elim⟩
    have e3 : r.2 = s' := congrArg Prod.snd e2
    subst e3
    exact he x hx s r.1 r.2 e1 D acc
theorem rxo_filtS {Of : S → Os} {s0 s1 : S} {zs : List β} {p : α → S → Option (Bool × S)} {f : α → S → Option (β × S)} (ρx : α → List Sl) (ts : List Nat) (hI : RI K wi ρ O (xs.map eα) (Of s0)) (hf : filtS p f xs s0 = some (zs, s1)) (hts : ∀ t ∈ ts, t ∈ vs)
    (hg : ∀ x ∈ xs, RG K g (eα x) (wipeS ρ vs) (ρx x) ts) (ht : ∀ x ∈ xs, ∀ s b s', p x s = some (b, s') → ∀ D acc, RT K tt (ρx x) (⟨D, true, acc⟩ :: Of s) b (⟨D, true, acc⟩ :: Of s'))
    (he : ∀ x ∈ xs, ∀ s y s', f x s = some (y, s') → ∀ D acc, RX K te (ρx x) (⟨D, true, acc⟩ :: Of s) (eβ y) (⟨D, true, acc⟩ :: Of s')) :
    RXo K (tLc wi g tt te vs) ρ O (zs.map eβ) (Of s1) :=
  rxo_lcS ρx ts hI ((filtS_fm xs s0).trans hf) hts hg fun x hx s o s' e => by
    obtain ⟨⟨b, s2⟩, e1, e2⟩ := bindE e
    refine ⟨b, s2, ht x hx s b s2 e1, fun q => ?_, fun q => ?_⟩
    · subst q
      have e2 : ((f x s2).bind fun r => some (some r.1, r.2)) = some (o, s') := e2
      obtain ⟨r, e3, e4⟩ := bindE e2
      have e4 := Option.some.inj e4
      have e5 : r.2 = s' := congrArg Prod.snd e4
      subst e5
      exact ⟨r.1, (congrArg Prod.fst e4).symm, he x hx s2 r.1 r.2 e3⟩
    · subst q
      have e2 : (some (none, s2) : Option (Option β × S)) = some (o, s') := e2
      have e2 := Option.some.inj e2
      exact ⟨(congrArg Prod.fst e2).symm, congrArg Prod.snd e2⟩
theorem mapO_S {f : α → Option β} : ∀ (xs : List α), mapS (fun x (_ : Unit) => (f x).bind fun y => some (y, ())) xs () = (mapO f xs).bind fun ys => some (ys, ())
  | [] => rfl
  | x :: xs => by
    unfold mapS mapO
    cases f x with
    | none => rfl
    | some r =>
      simp only [Option.bind_some]
      rw [mapO_S xs]
      cases mapO f xs with
      | none => rfl
      | some ys => rfl
theorem filtO_S {p : α → Option Bool} {f : α → Option β} : ∀ (xs : List α), filtS (fun x (_ : Unit) => (p x).bind fun y => some (y, ())) (fun x (_ : Unit) => (f x).bind fun y => some (y, ())) xs () = (filtO p f xs).bind fun ys => some (ys, ())
  | [] => rfl
  | x :: xs => by
    unfold filtS filtO
    cases p x with
    | none => rfl
    | some b =>
      simp only [Option.bind_some]
      cases b with
      | true =>
        simp only [if_true]
        cases f x with
        | none => rfl
        | some r =>
          simp only [Option.bind_some]
          rw [filtO_S xs]
          cases filtO p f xs with
          | none => rfl
          | some ys => rfl
      | false =>
        simp only [Bool.false_eq_true, if_false]
        rw [filtO_S xs]
theorem rxo_mapO {zs : List β} {f : α → Option β} (ρx : α → List Sl) (ts : List Nat) (hI : RI K wi ρ O (xs.map eα) O1) (hf : mapO f xs = some zs) (hts : ∀ t ∈ ts, t ∈ vs)
    (hg : ∀ x ∈ xs, RG K g (eα x) (wipeS ρ vs) (ρx x) ts) (he : ∀ x ∈ xs, ∀ y, f x = some y → ∀ D acc, RX K te (ρx x) (⟨D, true, acc⟩ :: O1) (eβ y) (⟨D, true, acc⟩ :: O1)) :
    RXo K (tLc wi g tYes te vs) ρ O (zs.map eβ) O1 :=
  rxo_mapS (S := Unit) (Of := fun _ => O1) (s0 := ()) (s1 := ()) (f := fun x (_ : Unit) => (f x).bind fun y => some (y, ())) ρx ts hI (by rw [mapO_S, hf]; rfl) hts hg fun x hx s y s' e D acc => by
    obtain ⟨z, e1, e2⟩ := bindE e
    have e2 := Option.some.inj e2
    have e3 : z = y := congrArg Prod.fst e2
    subst e3
    exact he x hx z e1 D acc
theorem rxo_filtO {zs : List β} {p : α → Option Bool} {f : α → Option β} (ρx : α → List Sl) (ts : List Nat) (hI : RI K wi ρ O (xs.map eα) O1) (hf : filtO p f xs = some zs) (hts : ∀ t ∈ ts, t ∈ vs)
    (hg : ∀ x ∈ xs, RG K g (eα x) (wipeS ρ vs) (ρx x) ts) (ht : ∀ x ∈ xs, ∀ b, p x = some b → ∀ D acc, RT K tt (ρx x) (⟨D, true, acc⟩ :: O1) b (⟨D, true, acc⟩ :: O1))
    (he : ∀ x ∈ xs, ∀ y, f x = some y → ∀ D acc, RX K te (ρx x) (⟨D, true, acc⟩ :: O1) (eβ y) (⟨D, true, acc⟩ :: O1)) :
    RXo K (tLc wi g tt te vs) ρ O (zs.map eβ) O1 :=
  rxo_filtS (S := Unit) (Of := fun _ => O1) (s0 := ()) (s1 := ()) (p := fun x (_ : Unit) => (p x).bind fun y => some (y, ())) (f := fun x (_ : Unit) => (f x).bind fun y => some (y, ())) ρx ts hI (by rw [filtO_S, hf]; rfl) hts hg (fun x hx s y s' e D acc => by
    obtain ⟨z, e1, e2⟩ := bindE e
    have e2 := Option.some.inj e2
    have e3 : z = y := congrArg Prod.fst e2
    subst e3
    exact ht x hx z e1 D acc) fun x hx s y s' e D acc => by
    obtain ⟨z, e1, e2⟩ := bindE e
    have e2 := Option.some.inj e2
    have e3 : z = y := congrArg Prod.fst e2
    subst e3
    exact he x hx z e1 D acc
theorem mapO_some {f : α → β} : ∀ xs : List α, mapO (fun x => some (f x)) xs = some (xs.map f)
  | [] => rfl
  | x :: xs => by unfold mapO; rw [mapO_some xs]; rfl
theorem filtO_some {p : α → Bool} {f : α → β} : ∀ xs : List α, filtO (fun x => some (p x)) (fun x => some (f x)) xs = some ((xs.filter p).map f)
  | [] => rfl
  | x :: xs => by
    unfold filtO
    rw [filtO_some xs, List.filter_cons]
    simp only [Option.bind_some]
    cases p x <;> rfl
theorem rxo_map {f : α → β} (ρx : α → List Sl) (ts : List Nat) (hI : RI K wi ρ O (xs.map eα) O1) (hts : ∀ t ∈ ts, t ∈ vs)
    (hg : ∀ x ∈ xs, RG K g (eα x) (wipeS ρ vs) (ρx x) ts) (he : ∀ x ∈ xs, ∀ D acc, RX K te (ρx x) (⟨D, true, acc⟩ :: O1) (eβ (f x)) (⟨D, true, acc⟩ :: O1)) :
    RXo K (tLc wi g tYes te vs) ρ O ((xs.map f).map eβ) O1 :=
  rxo_mapO (f := fun x => some (f x)) ρx ts hI (mapO_some xs) hts hg fun x hx y e D acc => by
    have e := Option.some.inj e
    subst e
    exact he x hx D acc
theorem rxo_filt {p : α → Bool} {f : α → β} (ρx : α → List Sl) (ts : List Nat) (hI : RI K wi ρ O (xs.map eα) O1) (hts : ∀ t ∈ ts, t ∈ vs)
    (hg : ∀ x ∈ xs, RG K g (eα x) (wipeS ρ vs) (ρx x) ts) (ht : ∀ x ∈ xs, ∀ D acc, RT K tt (ρx x) (⟨D, true, acc⟩ :: O1) (p x) (⟨D, true, acc⟩ :: O1))
    (he : ∀ x ∈ xs, ∀ D acc, RX K te (ρx x) (⟨D, true, acc⟩ :: O1) (eβ (f x)) (⟨D, true, acc⟩ :: O1)) :
    RXo K (tLc wi g tt te vs) ρ O (((xs.filter p).map f).map eβ) O1 :=
  rxo_filtO (p := fun x => some (p x)) (f := fun x => some (f x)) ρx ts hI (filtO_some xs) hts hg (fun x hx y e D acc => by
    have e := Option.some.inj e
    subst e
    exact ht x hx D acc) fun x hx y e D acc => by
    have e := Option.some.inj e
    subst e
    exact he x hx D acc
/-- sources by kinds -/
def enumL (xs : List α) : List (Int × α) := xs.zipIdx.map fun p => ((p.2 : Nat), p.1)
theorem ri_enumT [Enc α] {ta : TE} (h : RX K ta ρ O (.list (xs.map enc)) O1) : RI K (iEnum K (tCons ta tNil)) ρ O ((enumL xs).map enc) O1 := by
  have e : (enumL xs).map enc = enumD (xs.map enc) := by
    unfold enumL enumD
    rw [List.map_map, List.zipIdx_map, List.map_map]
    rfl
  rw [e]
  exact ri_enum h
theorem ri_zipT [Enc α] [Enc β] {ta tb : TE} {ys : List β} {O2 : Os} (h : RX K ta ρ O (.list (xs.map enc)) O1) (h' : RX K tb ρ O1 (.list (ys.map enc)) O2) : RI K (iZip K (tCons ta (tCons tb tNil))) ρ O ((xs.zip ys).map enc) O2 := by
  have e : (xs.zip ys).map enc = zipD (xs.map enc) (ys.map enc) := by
    unfold zipD
    rw [List.zip_map, List.map_map]
    rfl
  rw [e]
  exact ri_zip h h'
end

/-! ### statements -/
theorem sq {t u : TS} {D : Ends} {σ : L2.St} {H : Hp} (h : t { D with nx := u D } σ H) : tSeq t u D σ H := h
section
variable {K : Fg} {ta tb tc te : TE} {ρ ρ' : List Sl} {O O' O1 O2 O3 : Os} {F0 H0 F H : Hp} {D0 : List Addr} {σ : L2.St} {D : Ends} {d : PyData} {ds : List PyData}
theorem st_set {i : Nat} (h : RX K te ρ O d O') (E : EnvR K F σ ρ) (S : Hx K F0 H0 D0 F O H) (k : ∀ σ' F' H', Same F F' → EnvR K F' σ' (ρ.set i (.val d)) → Hx K F0 H0 D0 F' O' H' → D.nx σ' H') : tAsg te (gName i) D σ H :=
  h.go E S fun v F' H' f E' S' r => k _ F' H' f (E'.setv r i) S'
theorem st_setO {i : Nat} (h : RXo K te ρ O ds O') (E : EnvR K F σ ρ) (S : Hx K F0 H0 D0 F O H) (k : ∀ p σ' F' H', Same F F' → EnvR K F' σ' (ρ.set i (.adr p)) → Hx K F0 H0 D0 F' (⟨p, true, ds⟩ :: O') H' → D.nx σ' H') : tAsg te (gName i) D σ H :=
  h.go E S fun p F' H' f E' S' => k p _ F' H' f (E'.seta i) S'
theorem st_unp {g : TG} {ts : List Nat} (h : RX K te ρ O d O') (hg : RG K g d ρ ρ' ts) (E : EnvR K F σ ρ) (S : Hx K F0 H0 D0 F O H) (k : ∀ σ' F' H', Same F F' → EnvR K F' σ' ρ' → Hx K F0 H0 D0 F' O' H' → D.nx σ' H') : tAsg te g D σ H :=
  h.go E S fun v F' H' f E' S' r => hg.run _ F' H' v _ E' r S'.fh fun σ' E2 _ => k σ' F' H' f E2 S'
def setO {α : Type} (xs : List α) (i : Int) (x : α) : Option (List α) := (ixN xs.length i).map fun j => xs.set j x
theorem setO_map {α β : Type} (f : α → β) {xs : List α} {i : Int} {x : α} {r : List α} (h : setO xs i x = some r) : setO (xs.map f) i (f x) = some (r.map f) := by
  unfold setO at h ⊢
  rw [List.length_map]
  cases e : ixN xs.length i with
  | none => rw [e] at h; cases h
  | some j =>
    rw [e] at h
    cases h
    show some ((xs.map f).set j (f x)) = some ((xs.set j x).map f)
    rw [List.map_set]
/-- xs[i] = e, xs an own list -/
theorem st_put {i j : Nat} {a : Addr} {nw : Bool} {n : Int} {ds' : List PyData} (hn : setO ds n d = some ds') (h : RX K te ρ O d O1) (hs : ρ[i]? = some (.adr a)) (hi : RX K ta ρ O1 (.int n) O2) (hj : O2[j]? = some ⟨a, nw, ds⟩) (E : EnvR K F σ ρ) (S : Hx K F0 H0 D0 F O H)
    (k : ∀ F' H', Same F F' → EnvR K F' σ ρ → Hx K F0 H0 D0 F' (O2.set j ⟨a, nw, ds'⟩) H' → D.nx σ H') : tAsg te (gSub (tVar i) ta rSetL) D σ H :=
  h.go E S fun v F1 H1 f1 E1 S1 r1 => ⟨_, E1.adr hs, hi.go E1 S1 fun y F2 H2 f2 E2 S2 r2 => by
    cases r2
    obtain ⟨g1, g2, g3, vs, g4, g5, g6⟩ := S2.get hj
    have g4 : H2 a = some (.lst vs) := g4
    have g6 : RpAll K F2 vs ds := g6
    unfold setO at hn
    cases e : ixN ds.length n with
    | none => rw [e] at hn; cases hn
    | some m =>
      rw [e] at hn
      cases hn
      exact ⟨a, vs, n, m, rfl, rfl, g4, by rw [g6.length]; exact e, k F2 _ (f1.trans f2) E2 (S2.mut hj (by rw [List.length_set]; exact g5) (RpAll.set (r1.up f2) m g6))⟩⟩
def appO {α : Type} (xs : List α) (x : α) : Option (List α) := if xs.length < 16777216 then some (xs ++ [x]) else none
theorem appO_map {α β : Type} (f : α → β) {xs : List α} {x : α} {r : List α} (h : appO xs x = some r) : appO (xs.map f) (f x) = some (r.map f) := by
  unfold appO at h ⊢
  rw [List.length_map]
  split at h
  · rename_i hc
    cases h
    rw [if_pos hc]
    simp
  · cases h
def extO {α : Type} (xs ys : List α) : Option (List α) := if xs.length + ys.length ≤ 16777216 then some (xs ++ ys) else none
theorem extO_map {α β : Type} (f : α → β) {xs ys : List α} {r : List α} (h : extO xs ys = some r) : extO (xs.map f) (ys.map f) = some (r.map f) := by
  unfold extO at h ⊢
  rw [List.length_map, List.length_map]
  split at h
  · rename_i hc
    cases h
    rw [if_pos hc]
    simp
  · cases h
/-- xs.append(e) -/
theorem st_app {i j : Nat} {a : Addr} {nw : Bool} {ds' : List PyData} (hn : appO ds d = some ds') (hs : ρ[i]? = some (.adr a)) (h : RX K te ρ O d O1) (hj0 : ∃ e, O[j]? = some ⟨a, nw, e⟩) (hj : O1[j]? = some ⟨a, nw, ds⟩) (E : EnvR K F σ ρ) (S : Hx K F0 H0 D0 F O H)
    (k : ∀ F' H', Same F F' → EnvR K F' σ ρ → Hx K F0 H0 D0 F' (O1.set j ⟨a, nw, ds'⟩) H' → D.nx σ H') : tDrop (tBM K "list" rAppend (tVar i) (tCons te tNil)) D σ H := by
  obtain ⟨e0, hj0⟩ := hj0
  obtain ⟨_, _, _, vs0, g0, _⟩ := S.get hj0
  refine ⟨_, E.adr hs, .inl ⟨rfl, _, .inl (.inl g0)⟩, h.go E S fun v F1 H1 f1 E1 S1 r1 => ?_⟩
  obtain ⟨g1, g2, g3, vs, g4, g5, g6⟩ := S1.get hj
  have g4 : H1 a = some (.lst vs) := g4
  have g6 : RpAll K F1 vs ds := g6
  unfold appO at hn
  split at hn
  · rename_i hc
    cases hn
    have hz : vs.length < sizeLine := by rw [g6.length, sizeLine_eq]; exact hc
    exact ⟨a, vs, v, rfl, rfl, g4, hz, k F1 _ f1 E1 (S1.mut hj (by rw [List.length_append, List.length_singleton]; omega) (g6.append (.cons r1 .nil)))⟩
  · cases hn
theorem list_extendW (l : Addr) (items : Array Value) (n : Nat) (b : Addr) (items2 : Array Value) (n2 : Nat) (dd2 : Option Addr) (sl2 : Array (Option Value)) (hc0 : ¬(!items.isEmpty && Builtin.List.listTooLong (items.size + items2.size)) = true) (hc1 : items.size ≤ sizeLine) (hs2 : items.size + items2.size ≤ sizeLine + 1) :
    Meets (Builtin.«list.extend» ⟨[.ref l, .ref b], []⟩) (fun _ R s => s.heap.get? l = some { cls := .type "list", dict := none, data := .seq items n, slots := #[] } ∧ s.heap.get? b = some { cls := .type "list", dict := dd2, data := .seq items2 n2, slots := sl2 } ∧ R (.ok (.ret Value.none)) { s with heap := s.heap.update l (Obj.mapSeq fun x => x ++ items2), toks := s.toks }) :=
  .of_wp fun prog w A R s h => by
    obtain ⟨hp, g, d, tk, os⟩ := s; obtain ⟨hl, hb, h⟩ := h; have f1 := AutoSeq1.idx_int; have f2 := AutoSeq1.sub_tuple_tuple; have f3 := AutoSeq1.sub_list_list; have f4 := AutoSeq1.sub_tuple_list; have f5 := AutoSeq1.sub_list_tuple;
    have hz' : (items ++ items2).size ≤ sizeLine + 1 := by rw [Array.size_append]; exact hs2
    wp_walk using (wpAny_updateSeq hl rfl (hz := hc1) (_hz' := hz')), wpAny_loadPart' hl, wpAny_loadPart' hb; exact ⟨_, rfl, h⟩
def rExtR (K : Fg) : V → List V → Hp → VK → Prop := fun x vs H Q => ∃ l b xs zs, x = .ref l ∧ vs = [.ref b] ∧ H l = some (.lst xs) ∧ SqL K H b zs ∧ xs.length + zs.length ≤ sizeLine ∧ Q .non (upd H l (.lst (xs ++ zs)))
theorem mt_extR {X : Cx} : MtM X "list.extend" (rExtR X.K) := by
  intro pins s σ H x vs v us Q I rx rv h
  obtain ⟨l, b, xs, zs, rfl, rfl, hH, hB, hz, q⟩ := h
  cases rx
  obtain ⟨u, rfl, ru⟩ := rv.one
  cases ru
  obtain ⟨z, its, n, r, hl, e⟩ := I.lstM hH
  obtain ⟨its2, r2, ⟨⟨cls2, dd2, data2, sl2⟩, n2, e2, hc2, hd2, hx2⟩, z2⟩ := I.list hB
  simp only at hc2 hd2 hx2
  subst hc2 hx2
  have hl2 := r2.length
  have hsz : its.toArray.size + its2.toArray.size ≤ sizeLine := by rw [List.size_toArray, List.size_toArray]; omega
  have hlong : ¬ (!its.toArray.isEmpty && Builtin.List.listTooLong (its.toArray.size + its2.toArray.size)) = true := by
    rw [notLongL hsz, Bool.and_false]
    exact Bool.false_ne_true
  refine call_meets F.slot_list_extend ⟨_, e, rfl⟩ F.entry_list_extend (F.args_list_extend_2 _ _)
    (list_extendW l its.toArray n b its2.toArray n2 dd2 sl2 hlong (by rw [List.size_toArray]; omega) (by omega)) ⟨e, e2, ?_⟩
  refine ⟨.non, _, I.lset (its' := its ++ its2) hH e (by simp) (r.append r2) ?_, rfl, q⟩
  rw [List.length_append]
  omega
/-- xs.extend(e) -/
theorem st_ext {i j : Nat} {a : Addr} {nw : Bool} {es ds' : List PyData} (hn : extO ds es = some ds') (hs : ρ[i]? = some (.adr a)) (h : RX K te ρ O (.list es) O1) (hj0 : ∃ e, O[j]? = some ⟨a, nw, e⟩) (hj : O1[j]? = some ⟨a, nw, ds⟩) (E : EnvR K F σ ρ) (S : Hx K F0 H0 D0 F O H)
    (k : ∀ F' H', Same F F' → EnvR K F' σ ρ → Hx K F0 H0 D0 F' (O1.set j ⟨a, nw, ds'⟩) H' → D.nx σ H') : tDrop (tBM K "list" (rExtR K) (tVar i) (tCons te tNil)) D σ H := by
  obtain ⟨e0, hj0⟩ := hj0
  obtain ⟨_, _, _, vs0, g0, _⟩ := S.get hj0
  refine ⟨_, E.adr hs, .inl ⟨rfl, _, .inl (.inl g0)⟩, h.go E S fun v F1 H1 f1 E1 S1 r1 => ?_⟩
  obtain ⟨g1, g2, g3, vs, g4, g5, g6⟩ := S1.get hj
  have g4 : H1 a = some (.lst vs) := g4
  have g6 : RpAll K F1 vs ds := g6
  cases r1 with
  | @lst b zs _ q1 q2 q3 =>
    unfold extO at hn
    split at hn
    · rename_i hc
      cases hn
      have hz : vs.length + zs.length ≤ sizeLine := by rw [g6.length, q3.length, sizeLine_eq]; exact hc
      exact ⟨a, b, vs, zs, rfl, rfl, g4, S1.fh.seq q1, hz, k F1 _ f1 E1 (S1.mut hj (by rw [List.length_append]; omega) (g6.append q3))⟩
    · cases hn
theorem st_expr (h : RX K te ρ O d O') (E : EnvR K F σ ρ) (S : Hx K F0 H0 D0 F O H) (k : ∀ F' H', Same F F' → EnvR K F' σ ρ → Hx K F0 H0 D0 F' O' H' → D.nx σ H') : tDrop te D σ H :=
  h.go E S fun v F' H' f E' S' r => k F' H' f E' S'
theorem st_ret (h : RX K te ρ O d O') (E : EnvR K F σ ρ) (S : Hx K F0 H0 D0 F O H) (k : ∀ v F' H', Same F F' → Hx K F0 H0 D0 F' O' H' → Rp K F' v d → D.rt v H') : tRet te D σ H :=
  h.go E S fun v F' H' f E' S' r => k v F' H' f S' r
theorem st_retO (h : RXo K te ρ O ds O') (E : EnvR K F σ ρ) (S : Hx K F0 H0 D0 F O H) (k : ∀ p F' H', Same F F' → Hx K F0 H0 D0 F' (⟨p, true, ds⟩ :: O') H' → D.rt (.ref p) H') : tRet te D σ H :=
  h.go E S fun v F' H' f E' S' => k v F' H' f S'
/-- return xs, xs an own list -/
theorem st_retA {i : Nat} {a : Addr} (hs : ρ[i]? = some (.adr a)) (E : EnvR K F σ ρ) (k : D.rt (.ref a) H) : tRet (tVar i) D σ H := ⟨_, E.adr hs, k⟩
/-- an own list is frozen -/
theorem frz_at {i j : Nat} {a : Addr} (hs : ρ[i]? = some (.adr a)) (hj : O[j]? = some ⟨a, true, ds⟩) (E : EnvR K F σ ρ) (S : Hx K F0 H0 D0 F O H) :
    ∃ F', Same F F' ∧ EnvR K F' σ (ρ.set i (.val (.list ds))) ∧ Hx K F0 H0 D0 F' (O.eraseIdx j) H := by
  obtain ⟨F', f, S', r⟩ := S.frz hj
  have q := E.adr hs
  have E2 := EnvR.setv (E.up f) r i
  have e : σ.set i (some (.ref a)) = σ := by
    apply List.ext_getElem?
    intro n
    by_cases e : i = n
    · subst e
      rw [List.getElem?_set_self (List.getElem?_eq_some_iff.mp q).1, q]
    · rw [List.getElem?_set_ne e]
  rw [e] at E2
  exact ⟨F', f, E2, S'⟩
theorem st_if {c : TT} {t u : TS} {b : Bool} (hc : RT K c ρ O b O') (E : EnvR K F σ ρ) (S : Hx K F0 H0 D0 F O H) (h1 : b = true → ∀ F' H', Same F F' → EnvR K F' σ ρ → Hx K F0 H0 D0 F' O' H' → t D σ H')
    (h0 : b = false → ∀ F' H', Same F F' → EnvR K F' σ ρ → Hx K F0 H0 D0 F' O' H' → u D σ H') : tIfS c t u D σ H := hc.go E S fun F' H' f E' S' => by
  cases b with
  | true => exact iteT (h1 rfl F' H' f E' S')
  | false => exact iteF (h0 rfl F' H' f E' S')
/-- both ways meet -/
theorem st_ifJ {c : TT} {t u : TS} {b : Bool} (ρ' : List Sl) (O2 : Os) (hc : RT K c ρ O b O') (E : EnvR K F σ ρ) (S : Hx K F0 H0 D0 F O H) (rest : ∀ σ' F' H', Same F F' → EnvR K F' σ' ρ' → Hx K F0 H0 D0 F' O2 H' → D.nx σ' H')
    (h1 : b = true → ∀ (F' H' : Hp), (∀ σ' F' H', Same F F' → EnvR K F' σ' ρ' → Hx K F0 H0 D0 F' O2 H' → D.nx σ' H') → Same F F' → EnvR K F' σ ρ → Hx K F0 H0 D0 F' O' H' → t D σ H')
    (h0 : b = false → ∀ (F' H' : Hp), (∀ σ' F' H', Same F F' → EnvR K F' σ' ρ' → Hx K F0 H0 D0 F' O2 H' → D.nx σ' H') → Same F F' → EnvR K F' σ ρ → Hx K F0 H0 D0 F' O' H' → u D σ H') : tIfS c t u D σ H := hc.go E S fun F' H' f E' S' => by
  cases b with
  | true => exact iteT (h1 rfl F' H' rest f E' S')
  | false => exact iteF (h0 rfl F' H' rest f E' S')
theorem st_aug {i : Nat} {op : Int → Int → Int} {x y : Int} (hx : ρ[i]? = some (.val (.int x))) (h : RX K te ρ O (.int y) O') (E : EnvR K F σ ρ) (S : Hx K F0 H0 D0 F O H) (k : ∀ σ' F' H', Same F F' → EnvR K F' σ' (ρ.set i (.val (.int (op x y)))) → Hx K F0 H0 D0 F' O' H' → D.nx σ' H') :
    tAug i te (ipI op) D σ H := by
  obtain ⟨v, h1, h2⟩ := E.val hx
  cases h2
  refine ⟨_, h1, h.go E S fun w F' H' f E' S' r => ?_⟩
  cases r
  exact ⟨x, y, rfl, rfl, k _ F' H' f (E'.setv (.int _) i) S'⟩
end
end TL

namespace TL
open PySem L2
open Enc
section
variable {K : Fg} {ρ : List Sl} {O : Os} {F0 H0 F H : Hp} {D0 : List Addr} {σ : L2.St} {D : Ends}
theorem walk_of {α : Type} {eα : α → PyData} {J : It} {xs : List α} {F1 : Hp} (w : WalkD K J (xs.map eα) F1) :
    Walk J xs.length (fun H => ∃ F O, Same F1 F ∧ Hx K F0 H0 D0 F O H) (fun i H x H' => ∀ F O, Same F1 F → Hx K F0 H0 D0 F O H → ∃ F' y, Same F F' ∧ Hx K F0 H0 D0 F' O H' ∧ xs[i]? = some y ∧ Rp K F' x (eα y)) := by
  have hl : (xs.map eα).length = xs.length := List.length_map _
  refine ⟨fun i H hi q => ?_, fun H q => ?_, fun i H x H' hi _ y F O f S => ?_⟩
  · obtain ⟨F, O, f, S⟩ := q
    exact w.go F0 H0 D0 F O H i (by rw [hl]; exact hi) f S
  · obtain ⟨F, O, f, S⟩ := q
    have := w.stop F0 H0 D0 F O H f S
    rw [hl] at this
    exact this
  · obtain ⟨F', y', f', S', e, r⟩ := w.yld F0 H0 D0 F O H i x H' (by rw [hl]; exact hi) f S y
    rw [List.getElem?_map] at e
    cases e2 : xs[i]? with
    | none => rw [e2] at e; cases e
    | some z =>
      rw [e2] at e
      have e3 : eα z = y' := Option.some.inj e
      subst e3
      exact ⟨F', z, f', S', rfl, r⟩
/-- a for over data, with ways out -/
theorem st_forF {α S R : Type} {eα : α → PyData} {wi : TI} {g : TG} {tb : TS} {xs : List α} {f : α → S → Option (Fl S R)} {s0 : S} {fl : Fl S R} (ρf : S → List Sl) (Of : S → Os) (E : EnvR K F σ ρ) (S0 : Hx K F0 H0 D0 F O H) (hI : RI K wi ρ O (xs.map eα) (Of s0)) (hf : forF f xs s0 = some fl) (hW : Wk ρ (ρf s0))
    (kn : ∀ s, fl = .nx s → ∀ σ' F' H', Same F F' → EnvR K F' σ' (ρf s) → Hx K F0 H0 D0 F' (Of s) H' → D.nx σ' H')
    (body : ∀ x ∈ xs, ∀ s out, f x s = some out → (∀ r, out = .rt r → fl = .rt r) → ∀ σ1 F1 H1 v, Same F F1 → EnvR K F1 σ1 (ρf s) → Hx K F0 H0 D0 F1 (Of s) H1 → Rp K F1 v (eα x) →
      ∀ (N B : L2.St → Hp → Prop), (∀ s', out = .nx s' → ∀ σ' F' H', Same F1 F' → EnvR K F' σ' (ρf s') → Hx K F0 H0 D0 F' (Of s') H' → N σ' H') →
      (∀ s', out = .bk s' → ∀ σ' F' H', Same F1 F' → EnvR K F' σ' (ρf s') → Hx K F0 H0 D0 F' (Of s') H' → B σ' H') → g v σ1 H1 fun σ2 H2 => tb { D with nx := N, ct := N, bk := B } σ2 H2) :
    tFor wi g tb D σ H := hI.go E S0 fun J F1 H1 f1 E1 S1 w => by
  refine for_it (walk_of w) (fun i σ H => ∃ s F2, Same F1 F2 ∧ EnvR K F2 σ (ρf s) ∧ Hx K F0 H0 D0 F2 (Of s) H ∧ forF f (xs.drop i) s = some fl) ⟨s0, F1, Same.refl _, E1.weak hW, S1, hf⟩
    (fun i σ H _ q => by obtain ⟨s, F2, q1, q2, q3, _⟩ := q; exact ⟨F2, _, q1, q3⟩) (fun i x σ H H' hi q y => ?_) (fun σ H q => ?_)
  · obtain ⟨s, F2, q1, q2, q3, q4⟩ := q
    obtain ⟨F3, z, f3, S3, ez, rz⟩ := y F2 _ q1 q3
    have hm : z ∈ xs := List.mem_of_getElem? ez
    have hi' : xs[i] = z := by
      rw [List.getElem?_eq_getElem hi] at ez
      exact Option.some.inj ez
    rw [List.drop_eq_getElem_cons hi, hi'] at q4
    obtain ⟨out, e1, q4⟩ := bindE q4
    refine body z hm s out e1 (fun r eo => ?_) σ F3 H' x ((f1.trans q1).trans f3) (q2.up f3) S3 rz _ _ (fun s' eo σ' F' H' ff E' S' => ?_) (fun s' eo σ' F' H' ff E' S' => ?_)
    · subst eo
      have q4 : (some (.rt r) : Option (Fl S R)) = some fl := q4
      exact (Option.some.inj q4).symm
    · subst eo
      exact ⟨s', F', (q1.trans f3).trans ff, E', S', q4⟩
    · subst eo
      have q4 : (some (.nx s') : Option (Fl S R)) = some fl := q4
      exact kn s' (Option.some.inj q4).symm σ' F' H' (((f1.trans q1).trans f3).trans ff) E' S'
  · obtain ⟨s, F2, q1, q2, q3, q4⟩ := q
    rw [List.drop_length] at q4
    exact kn s (Option.some.inj q4).symm σ F2 H (f1.trans q1) q2 q3
/-- .. without -/
theorem st_forS {α S : Type} {eα : α → PyData} {wi : TI} {g : TG} {tb : TS} {xs : List α} {f : α → S → Option S} {s0 s1 : S} (ρf : S → List Sl) (Of : S → Os) (E : EnvR K F σ ρ) (S0 : Hx K F0 H0 D0 F O H) (hI : RI K wi ρ O (xs.map eα) (Of s0)) (hf : forS f xs s0 = some s1) (hW : Wk ρ (ρf s0))
    (kn : ∀ σ' F' H', Same F F' → EnvR K F' σ' (ρf s1) → Hx K F0 H0 D0 F' (Of s1) H' → D.nx σ' H')
    (body : ∀ x ∈ xs, ∀ s s', f x s = some s' → ∀ σ1 F1 H1 v, Same F F1 → EnvR K F1 σ1 (ρf s) → Hx K F0 H0 D0 F1 (Of s) H1 → Rp K F1 v (eα x) →
      ∀ (N B : L2.St → Hp → Prop), (∀ σ' F' H', Same F1 F' → EnvR K F' σ' (ρf s') → Hx K F0 H0 D0 F' (Of s') H' → N σ' H') → g v σ1 H1 fun σ2 H2 => tb { D with nx := N, ct := N, bk := B } σ2 H2) :
    tFor wi g tb D σ H := by
  have e : ∀ (ys : List α) (s : S), forF (R := Empty) (fun x s => (f x s).bind fun s' => some (.nx s')) ys s = (forS f ys s).bind fun s' => some (.nx s') := by
    intro ys
    induction ys with
    | nil => intro s; rfl
    | cons y ys ih =>
      intro s
      unfold forF forS
      cases f y s with
      | none => rfl
      | some s' => exact ih s'
  refine st_forF (R := Empty) (fl := .nx s1) (f := fun x s => (f x s).bind fun s' => some (.nx s')) ρf Of E S0 hI (by rw [e, hf]; rfl) hW (fun s eq => ?_) fun x hx s out ho _ σ1 F1 H1 v g1 g2 g3 g4 N B hN hB => ?_
  · cases eq
    exact kn
  · obtain ⟨s', e1, e2⟩ := bindE ho
    exact body x hx s s' e1 σ1 F1 H1 v g1 g2 g3 g4 N B (hN s' (Option.some.inj e2).symm)
theorem st_whileF {S R : Type} {tc : TT} {tb : TS} {c : S → Option Bool} {f : S → Option (Fl S R)} {n : Nat} {s0 : S} {fl : Fl S R} (ρf : S → List Sl) (Of : S → Os) (E : EnvR K F σ ρ) (S0 : Hx K F0 H0 D0 F (Of s0) H) (hf : whileF c f n s0 = some fl) (ht : ∀ s b, c s = some b → RT K tc (ρf s) (Of s) b (Of s)) (hW : Wk ρ (ρf s0))
    (kn : ∀ s, fl = .nx s → ∀ σ' F' H', Same F F' → EnvR K F' σ' (ρf s) → Hx K F0 H0 D0 F' (Of s) H' → D.nx σ' H')
    (body : ∀ s out, c s = some true → f s = some out → (∀ r, out = .rt r → fl = .rt r) → ∀ σ1 F1 H1, Same F F1 → EnvR K F1 σ1 (ρf s) → Hx K F0 H0 D0 F1 (Of s) H1 →
      ∀ (N B : L2.St → Hp → Prop), (∀ s', out = .nx s' → ∀ σ' F' H', Same F1 F' → EnvR K F' σ' (ρf s') → Hx K F0 H0 D0 F' (Of s') H' → N σ' H') →
      (∀ s', out = .bk s' → ∀ σ' F' H', Same F1 F' → EnvR K F' σ' (ρf s') → Hx K F0 H0 D0 F' (Of s') H' → B σ' H') → tb { D with nx := N, ct := N, bk := B } σ1 H1) :
    tWhile tc tb D σ H := by
  refine ⟨fun m σ H => ∃ s F2, Same F F2 ∧ EnvR K F2 σ (ρf s) ∧ Hx K F0 H0 D0 F2 (Of s) H ∧ whileF c f m s = some fl, ⟨n, s0, F, Same.refl _, E.weak hW, S0, hf⟩, ?_⟩
  rintro m σ H ⟨s, F2, q1, q2, q3, q4⟩
  cases m with
  | zero => cases q4
  | succ m =>
    obtain ⟨b, e1, q4⟩ := bindE q4
    refine (ht s b e1).go q2 q3 fun F3 H3 f3 E3 S3 => ?_
    cases b with
    | false =>
      have q4 : (some (.nx s) : Option (Fl S R)) = some fl := q4
      exact iteF (kn s (Option.some.inj q4).symm σ F3 H3 (q1.trans f3) E3 S3)
    | true =>
      have q4 : ((f s).bind fun r => match r with
        | .nx s' => whileF c f m s'
        | .bk s' => some (.nx s')
        | .rt r => some (.rt r)) = some fl := q4
      obtain ⟨out, e2, q4⟩ := bindE q4
      refine iteT ⟨fun σ' H' => ∃ s' F4, Same F F4 ∧ EnvR K F4 σ' (ρf s') ∧ Hx K F0 H0 D0 F4 (Of s') H' ∧ whileF c f m s' = some fl, fun σ' H' q => ⟨m, Nat.lt_succ_self m, q⟩, ?_⟩
      refine body s out e1 e2 (fun r eo => ?_) σ F3 H3 (q1.trans f3) E3 S3 _ _ (fun s' eo σ' F' H' ff E' S' => ?_) (fun s' eo σ' F' H' ff E' S' => ?_)
      · subst eo
        have q4 : (some (.rt r) : Option (Fl S R)) = some fl := q4
        exact (Option.some.inj q4).symm
      · subst eo
        exact ⟨s', F', (q1.trans f3).trans ff, E', S', q4⟩
      · subst eo
        have q4 : (some (.nx s') : Option (Fl S R)) = some fl := q4
        exact kn s' (Option.some.inj q4).symm σ' F' H' ((q1.trans f3).trans ff) E' S'
theorem st_whileS {S : Type} {tc : TT} {tb : TS} {c : S → Option Bool} {f : S → Option S} {n : Nat} {s0 s1 : S} (ρf : S → List Sl) (Of : S → Os) (E : EnvR K F σ ρ) (S0 : Hx K F0 H0 D0 F (Of s0) H) (hf : whileS c f n s0 = some s1) (ht : ∀ s b, c s = some b → RT K tc (ρf s) (Of s) b (Of s)) (hW : Wk ρ (ρf s0))
    (kn : ∀ σ' F' H', Same F F' → EnvR K F' σ' (ρf s1) → Hx K F0 H0 D0 F' (Of s1) H' → D.nx σ' H')
    (body : ∀ s s', c s = some true → f s = some s' → ∀ σ1 F1 H1, Same F F1 → EnvR K F1 σ1 (ρf s) → Hx K F0 H0 D0 F1 (Of s) H1 →
      ∀ (N B : L2.St → Hp → Prop), (∀ σ' F' H', Same F1 F' → EnvR K F' σ' (ρf s') → Hx K F0 H0 D0 F' (Of s') H' → N σ' H') → tb { D with nx := N, ct := N, bk := B } σ1 H1) :
    tWhile tc tb D σ H := by
  have e : ∀ (n : Nat) (s : S), whileF (R := Empty) c (fun s => (f s).bind fun s' => some (.nx s')) n s = (whileS c f n s).bind fun s' => some (.nx s') := by
    intro n
    induction n with
    | zero => intro s; rfl
    | succ n ih =>
      intro s
      unfold whileF whileS
      cases c s with
      | none => rfl
      | some b =>
        cases b with
        | false => rfl
        | true =>
          simp only [Option.bind_some, if_true]
          cases f s with
          | none => rfl
          | some s' => exact ih s'
  refine st_whileF (R := Empty) (fl := .nx s1) (f := fun s => (f s).bind fun s' => some (.nx s')) ρf Of E S0 (by rw [e, hf]; rfl) ht hW (fun s eq => ?_) fun s out hc ho _ σ1 F1 H1 g1 g2 g3 N B hN hB => ?_
  · cases eq
    exact kn
  · obtain ⟨s', e1, e2⟩ := bindE ho
    exact body s s' hc e1 σ1 F1 H1 g1 g2 g3 N B (hN s' (Option.some.inj e2).symm)
end

/-! ### defs -/
section
variable {P : Program} {w : World} {K : Fg} {mg : Str → Option Value} {base : Heap}
/-- a def that is there and keeps its promise -/
def Cal (P : Program) (w : World) (K : Fg) (mg : Str → Option Value) (base : Heap) (k : Nat) (x : Str) (ps : List Str) (sp : Sp) : Prop :=
  ∃ f fd, FnOk P w K mg base CX0 k f fd ps sp ∧ mg x = some (.ref f) ∧ PySem.W.keepIn K (.ref f) = true ∧ Binds K fd ps []
/-- a def that is there -/
def Dfn (K : Fg) (mg : Str → Option Value) (x : Str) (st : Stmt) (ps : List Str) : Prop := ∃ f fd, Fun K x x st f fd ∧ mg x = some (.ref f) ∧ Binds K fd ps []
theorem Dfn.cal {x : Str} {st : Stmt} {N ps : List Str} {k : Nat} {sp : Sp} (h : Dfn K mg x st ps) (S : FnScope N ps (defScope st)) (len : ∀ vs H Q E, sp vs H Q E → vs.length = ps.length)
    (hbody : ∀ (f : Addr) (cdv : Value) (A : Around) (outer : List Env) (s : Shared) (H : Hp) (vs : List V) (Q : VK) (E : XK), Room k (A.deeper (PyProof.Rows.envOfC x (defScope st) s.heap.objs.size f cdv)) → sp vs H Q E →
      ∃ t, PSs (cxOf CX0 P w K mg base N x (defScope st) f cdv A outer s H E).nox (defBody st) t ∧ t { nx := fun _ H' => Q .non H', rt := Q } (start N vs) H) : Cal P w K mg base (k + 1) x ps sp := by
  obtain ⟨f, fd, F, hm, b⟩ := h
  exact ⟨f, fd, F.ok S len fun cdv A outer s H vs Q E hr hs => hbody f cdv A outer s H vs Q E hr hs, hm, F.kp, b⟩
theorem Cal.mono {j k : Nat} {x : Str} {ps : List Str} {sp : Sp} (h : Cal P w K mg base j x ps sp) (hk : j ≤ k) : Cal P w K mg base k x ps sp := by
  obtain ⟨f, fd, F, r⟩ := h
  exact ⟨f, fd, F.mono hk, r⟩
theorem Cal.imp {k : Nat} {x : Str} {ps : List Str} {sp sp' : Sp} (h : Cal P w K mg base k x ps sp) (hi : ∀ vs H Q E, sp' vs H Q E → sp vs H Q E) : Cal P w K mg base k x ps sp' := by
  obtain ⟨f, fd, F, r⟩ := h
  exact ⟨f, fd, F.imp hi, r⟩
theorem pe_cal {X : Cx} {j k : Nat} {x : Str} {ps : List Str} {sp : Sp} {p pos : Pos} {e : Expr} {es : List Expr} {t : TA} (C : Cal X.prog X.w X.K X.mg X.base j x ps sp) (hr : Room k X.A) (ha : PA X (e :: es) t) (hjk : j ≤ k := by decide) (hg : Gl X x := by rfl) (hdb : (x == ("__debug__" : Str)) = false := by decide)
    (he : starEach (e :: es) X.env = (false, eval e X.env) :: starEach es X.env := by rfl) (hpl : (backTo pos (starEach es X.env)).any (·.1) = false := by rfl) :
    PE X (.Call (.Name x p) (e :: es) [] pos) (tCall sp [] L2.E0 t) := by
  obtain ⟨f, fd, F, hm, kp, b⟩ := C
  exact pe_call F (hr.mono hjk) hg hm kp b .nil pass0 ha hdb he hpl
/-- the entry -/
theorem sp_len {R : List PyData → PyData → Prop} {n : Nat} (h : ∀ ds d, R ds d → ds.length = n) : ∀ vs H Q E, SpP K R vs H Q E → vs.length = n := fun vs H Q E ⟨F, ds, d, r, _, hR, _⟩ => r.length.trans (h ds d hR)
theorem sn_len {R : List PyData → List PyData → Prop} {n : Nat} (h : ∀ ds d, R ds d → ds.length = n) : ∀ vs H Q E, SpN K R vs H Q E → vs.length = n := fun vs H Q E ⟨F, ds, d, r, _, hR, _⟩ => r.length.trans (h ds d hR)
theorem spo_len {R : List PyData → List PyData → PyData → List PyData → Prop} {n : Nat} (h : ∀ c ds d c', R c ds d c' → ds.length + 1 = n) : ∀ vs H Q E, SpPo K R vs H Q E → vs.length = n := fun vs H Q E ⟨F, p, ws, xs, c, ds, d, c', e, r, _, _, _, _, _, hR, _⟩ => by
  subst e
  rw [List.length_cons, r.length]
  exact h c ds d c' hR
theorem sno_len {R : List PyData → List PyData → List PyData → List PyData → Prop} {n : Nat} (h : ∀ c ds d c', R c ds d c' → ds.length + 1 = n) : ∀ vs H Q E, SpNo K R vs H Q E → vs.length = n := fun vs H Q E ⟨F, p, ws, xs, c, ds, d, c', e, r, _, _, _, _, _, hR, _⟩ => by
  subst e
  rw [List.length_cons, r.length]
  exact h c ds d c' hR
theorem AsR.of_all {F : Hp} : ∀ {vs : List V} {ds : List PyData}, RpAll K F vs ds → AsR K F vs (ds.map .val)
  | _, _, .nil => .nil
  | _, _, .cons r t => .val r (AsR.of_all t)
end
end TL

namespace TL
open PySem L2
open Enc
def modO (i j : Int) : Option Int := if 0 < j then some (i % j) else none
def fdivO (i j : Int) : Option Int := if 0 < j ∧ j < 1073741824 then some (i / j) else none
def mulO (i j : Int) : Option Int := if (-18446744073709551616 < i ∧ i < 18446744073709551616) ∨ (-18446744073709551616 < j ∧ j < 18446744073709551616) then some (i * j) else none
def shlO (i j : Int) : Option Int := if 0 ≤ j ∧ j ≤ 1000000 ∧ -18446744073709551616 < i ∧ i < 18446744073709551616 then some (i * 2 ^ j.toNat) else none
def shrO (i j : Int) : Option Int := if 0 ≤ j then some (i / 2 ^ j.toNat) else none
def powO (i j : Int) : Option Int := if 0 ≤ j ∧ j ≤ 1000000 ∧ -18446744073709551616 < i ∧ i < 18446744073709551616 then some (i ^ j.toNat) else none
def repO {α : Type} (xs : List α) (i : Int) : Option (List α) := if xs.length * i.toNat ≤ 16777216 ∧ -9223372036854775808 ≤ i ∧ i < 9223372036854775808 then some (List.replicate i.toNat xs).flatten else none
def eqO {α : Type} [Enc α] [DecidableEq α] [EqD α] (x y : α) : Option Bool := if EqD.ok x = true ∧ EqD.ok y = true then some (decide (x = y)) else none
/-- kinds without texts -/
class EqT (α : Type) [Enc α] [DecidableEq α] [EqD α] : Prop where
  ok : ∀ x : α, EqD.ok x = true
instance : EqT Int := ⟨fun _ => rfl⟩
instance : EqT Bool := ⟨fun _ => rfl⟩
instance : EqT (Option Int) := ⟨fun _ => rfl⟩
instance {α : Type} [Enc α] [DecidableEq α] [EqD α] [EqT α] : EqT (List α) := ⟨fun x => List.all_eq_true.mpr fun y _ => EqT.ok y⟩
instance {α : Type} [Enc α] [DecidableEq α] [EqD α] [EqT α] : EqT (Tp α) := ⟨fun x => List.all_eq_true.mpr fun y _ => EqT.ok y⟩
instance {α β : Type} [Enc α] [DecidableEq α] [EqD α] [EqT α] [Enc β] [DecidableEq β] [EqD β] [EqT β] : EqT (α × β) := ⟨fun x => by
  show (EqD.ok x.1 && EqD.ok x.2) = true
  rw [EqT.ok, EqT.ok]; rfl⟩
section
variable {K : Fg} {ta tb te : TE} {ρ : List Sl} {O O1 O2 : Os} {i j r : Int}
theorem rx_as {α : Type} [Enc α] {x y : α} {O' : Os} (e : x = y) (h : RX K ta ρ O (enc x) O') : RX K ta ρ O (enc y) O' := e ▸ h
theorem rxo_as {α : Type} {f : α → PyData} {x y : List α} {O' : Os} (e : x = y) (h : RXo K ta ρ O (x.map f) O') : RXo K ta ρ O (y.map f) O' := e ▸ h
theorem rx_modO (h : modO i j = some r) (ha : RX K ta ρ O (.int i) O1) (hb : RX K tb ρ O1 (.int j) O2) : RX K (tOp (rI (fun _ j => 0 < j) fun i j => .int (i % j)) ta tb) ρ O (.int r) O2 := by
  unfold modO at h
  split at h
  · rename_i hc; cases h; exact rx_mod ha hb hc
  · cases h
theorem rx_fdivO (h : fdivO i j = some r) (ha : RX K ta ρ O (.int i) O1) (hb : RX K tb ρ O1 (.int j) O2) : RX K (tOp (rI CDiv fun i j => .int (i / j)) ta tb) ρ O (.int r) O2 := by
  unfold fdivO at h
  split at h
  · rename_i hc; cases h; exact rx_fdiv ha hb hc
  · cases h
theorem rx_mulO (h : mulO i j = some r) (ha : RX K ta ρ O (.int i) O1) (hb : RX K tb ρ O1 (.int j) O2) : RX K (tOp (rI CMul fun i j => .int (i * j)) ta tb) ρ O (.int r) O2 := by
  unfold mulO at h
  split at h
  · rename_i hc; cases h; exact rx_mul ha hb hc
  · cases h
theorem cpow_of {i j : Int} (h : 0 ≤ j ∧ j ≤ 1000000 ∧ -18446744073709551616 < i ∧ i < 18446744073709551616) : CPow i j := ⟨h.1, h.2.1, by
  have h1 := h.2.2.1
  have h2 := h.2.2.2
  omega⟩
theorem rx_shlO (h : shlO i j = some r) (ha : RX K ta ρ O (.int i) O1) (hb : RX K tb ρ O1 (.int j) O2) : RX K (tOp (rI CPow fun i j => .int (i * 2 ^ j.toNat)) ta tb) ρ O (.int r) O2 := by
  unfold shlO at h
  split at h
  · rename_i hc; cases h; exact rx_shl ha hb (cpow_of hc)
  · cases h
theorem rx_powO (h : powO i j = some r) (ha : RX K ta ρ O (.int i) O1) (hb : RX K tb ρ O1 (.int j) O2) : RX K (tOp (rI CPow fun i j => .int (i ^ j.toNat)) ta tb) ρ O (.int r) O2 := by
  unfold powO at h
  split at h
  · rename_i hc; cases h; exact rx_pow ha hb (cpow_of hc)
  · cases h
theorem rx_shrO (h : shrO i j = some r) (ha : RX K ta ρ O (.int i) O1) (hb : RX K tb ρ O1 (.int j) O2) : RX K (tOp (rI (fun _ j => 0 ≤ j) fun i j => .int (i / 2 ^ j.toNat)) ta tb) ρ O (.int r) O2 := by
  unfold shrO at h
  split at h
  · rename_i hc; cases h; exact rx_shr ha hb hc
  · cases h
theorem ext_len {α : Type} {xs ys zs : List α} (h : extO xs ys = some zs) : xs.length + ys.length ≤ sizeLine ∧ zs = xs ++ ys := by
  unfold extO at h
  split at h
  · rename_i hc; cases h; rw [sizeLine_eq]; exact ⟨hc, rfl⟩
  · cases h
theorem rxo_catO {α : Type} {f : α → PyData} {xs ys zs : List α} (h : extO xs ys = some zs) (ha : RXs K ta ρ O (xs.map f) O1) (hb : RXs K tb ρ O1 (ys.map f) O1) : RXo K (tOp (rCatR K) ta tb) ρ O (zs.map f) O1 := by
  obtain ⟨h1, rfl⟩ := ext_len h
  rw [List.map_append]
  exact rxo_cat ha hb (by rw [List.length_map, List.length_map]; exact h1)
theorem rxo_catOF {α : Type} {f : α → PyData} {xs ys zs : List α} (h : extO xs ys = some zs) (ha : RX K ta ρ O (.list (xs.map f)) O1) (hb : RX K tb ρ O1 (.list (ys.map f)) O2) : RXo K (tOp (rCatR K) ta tb) ρ O (zs.map f) O2 := by
  obtain ⟨h1, rfl⟩ := ext_len h
  rw [List.map_append]
  exact rxo_catF ha hb (by rw [List.length_map, List.length_map]; exact h1)
theorem rx_catTO {α : Type} {f : α → PyData} {xs ys zs : List α} (h : extO xs ys = some zs) (ha : RX K ta ρ O (.tuple (xs.map f)) O1) (hb : RX K tb ρ O1 (.tuple (ys.map f)) O2) : RX K (tOp (rCatA K) ta tb) ρ O (.tuple (zs.map f)) O2 := by
  obtain ⟨h1, rfl⟩ := ext_len h
  rw [List.map_append]
  exact rx_catT ha hb (by rw [List.length_map, List.length_map]; exact h1)
theorem rxo_repO {α : Type} {f : α → PyData} {xs zs : List α} (h : repO xs i = some zs) (ha : RXo K ta ρ O (xs.map f) O1) (hb : ∀ p, RX K tb ρ (⟨p, true, xs.map f⟩ :: O1) (.int i) (⟨p, true, xs.map f⟩ :: O1)) : RXo K (tOp rRep ta tb) ρ O (zs.map f) O1 := by
  unfold repO at h
  split at h
  · rename_i hc
    cases h
    have e : (List.replicate i.toNat xs).flatten.map f = (List.replicate i.toNat (xs.map f)).flatten := by rw [List.map_flatten, List.map_replicate]
    rw [e]
    exact rxo_rep ha hb (by rw [List.length_map, sizeLine_eq]; exact hc.1) ⟨by omega, by omega⟩
  · cases h
theorem rxo_sliceM {α : Type} {f : α → PyData} {xs : List α} {tl th : TO} {lo hi : Option Int} (ha : RXs K ta ρ O (xs.map f) O1) (hl : RO K tl ρ O1 lo O1) (hh : RO K th ρ O1 hi O1) : RXo K (tSl (rSlL K) ta tl th) ρ O ((cutL xs lo hi).map f) O1 := by
  rw [cutL_map]
  exact rxo_slice ha hl hh
theorem rxo_sliceFM {α : Type} {f : α → PyData} {xs : List α} {tl th : TO} {lo hi : Option Int} {O3 : Os} (ha : RX K ta ρ O (.list (xs.map f)) O1) (hl : RO K tl ρ O1 lo O2) (hh : RO K th ρ O2 hi O3) : RXo K (tSl (rSlL K) ta tl th) ρ O ((cutL xs lo hi).map f) O3 := by
  rw [cutL_map]
  exact rxo_sliceF ha hl hh
theorem rx_sliceTM {α : Type} {f : α → PyData} {xs : List α} {tl th : TO} {lo hi : Option Int} {O3 : Os} (ha : RX K ta ρ O (.tuple (xs.map f)) O1) (hl : RO K tl ρ O1 lo O2) (hh : RO K th ρ O2 hi O3) : RX K (tSl (rSlA K) ta tl th) ρ O (.tuple ((cutL xs lo hi).map f)) O3 := by
  rw [cutL_map]
  exact rx_sliceT ha hl hh
theorem rxo_revM {α : Type} {f : α → PyData} {xs : List α} (ha : RXs K ta ρ O (xs.map f) O1) : RXo K (tRevL K ta) ρ O (xs.reverse.map f) O1 := by
  rw [List.map_reverse]
  exact rxo_rev ha
theorem rx_eqO {α : Type} [Enc α] [DecidableEq α] [EqD α] {x y : α} {b : Bool} (h : eqO x y = some b) (ha : RXh K ta ρ O (enc x) O1) (hb : RXh K tb ρ O1 (enc y) O1) (hd : EqD.dp α ≤ 64 := by decide) : RX K (tOp (rEqD K) ta tb) ρ O (.bool b) O1 := by
  unfold eqO at h
  split at h
  · rename_i hc; cases h; exact rx_eqD ha hb hd hc.1 hc.2
  · cases h
theorem rx_neO {α : Type} [Enc α] [DecidableEq α] [EqD α] {x y : α} {b : Bool} (h : eqO x y = some b) (ha : RXh K ta ρ O (enc x) O1) (hb : RXh K tb ρ O1 (enc y) O1) (hd : EqD.dp α ≤ 64 := by decide) : RX K (tOp (rNeD K) ta tb) ρ O (.bool (!b)) O1 := by
  unfold eqO at h
  split at h
  · rename_i hc; cases h; exact rx_neD ha hb hd hc.1 hc.2
  · cases h
theorem rx_eqT {α : Type} [Enc α] [DecidableEq α] [EqD α] [EqT α] {x y : α} (ha : RXh K ta ρ O (enc x) O1) (hb : RXh K tb ρ O1 (enc y) O1) (hd : EqD.dp α ≤ 64 := by decide) : RX K (tOp (rEqD K) ta tb) ρ O (.bool (decide (x = y))) O1 :=
  rx_eqD ha hb hd (EqT.ok x) (EqT.ok y)
theorem rx_neT {α : Type} [Enc α] [DecidableEq α] [EqD α] [EqT α] {x y : α} (ha : RXh K ta ρ O (enc x) O1) (hb : RXh K tb ρ O1 (enc y) O1) (hd : EqD.dp α ≤ 64 := by decide) : RX K (tOp (rNeD K) ta tb) ρ O (.bool (!decide (x = y))) O1 :=
  rx_neD ha hb hd (EqT.ok x) (EqT.ok y)
theorem len_nat {α : Type} {f : α → PyData} {xs : List α} (ha : RXs K ta ρ O (xs.map f) O1) : RX K (tCB (rLenQ K) (tCons ta tNil)) ρ O (.int (xs.length : Nat)) O1 := by
  have := rx_len ha
  rw [List.length_map] at this
  exact this
theorem len_natT {α : Type} {f : α → PyData} {xs : List α} (ha : RX K ta ρ O (.tuple (xs.map f)) O1) : RX K (tCB (rLenQ K) (tCons ta tNil)) ρ O (.int (xs.length : Nat)) O1 := by
  have := rx_lenT ha
  rw [List.length_map] at this
  exact this
theorem ri_rangeLenM {α : Type} {f : α → PyData} {xs : List α} (ha : RXs K ta ρ O (xs.map f) O1) : RI K (iRng1 (tCons (tCB (rLenQ K) (tCons ta tNil)) tNil)) ρ O ((rngL 0 xs.length).map .int) O1 := by
  have := ri_rangeLen ha
  rw [List.length_map] at this
  exact this
theorem ri_rangeLenTM {α : Type} {f : α → PyData} {xs : List α} (ha : RX K ta ρ O (.tuple (xs.map f)) O1) : RI K (iRng1 (tCons (tCB (rLenQ K) (tCons ta tNil)) tNil)) ρ O ((rngL 0 xs.length).map .int) O1 := by
  have := ri_rangeLenT ha
  rw [List.length_map] at this
  exact this
/-- int(flag) -/
abbrev rInt1 : List V → Hp → VK → Prop := fun xs H Q => (∃ i, xs = [.int i] ∧ Q (.int i) H) ∨ ∃ b, xs = [.bl b] ∧ Q (.int (if b then 1 else 0)) H
end
/-- what comes behind a loop that may return -/
def flK {S R γ : Type} : Fl S R → (S → γ) → (R → γ) → γ
  | .nx s, f, _ => f s
  | .bk s, f, _ => f s
  | .rt r, _, g => g r
theorem letE {α β : Type} {x : α} {f : α → Option β} {r : β} (h : (some x).bind f = some r) : ∃ y, x = y ∧ f y = some r := ⟨x, rfl, h⟩
end TL
namespace TL
open PySem L2
open Enc
section
variable {K : Fg} {ta tb te : TE} {ρ : List Sl} {O O1 O2 : Os} {i j r : Int}
theorem rx_intB {b : Bool} (ha : RX K ta ρ O (.bool b) O1) : RX K (tCB rInt1 (tCons ta tNil)) ρ O (.int (b2n b)) O1 := rx_cb1 ha fun F H x Q f r k => by
  cases r
  exact .inr ⟨b, rfl, k _ (.int _)⟩
theorem rx_intI (ha : RX K ta ρ O (.int i) O1) : RX K (tCB rInt1 (tCons ta tNil)) ρ O (.int i) O1 := rx_cb1 ha fun F H x Q f r k => by
  cases r
  exact .inl ⟨i, rfl, k _ (.int _)⟩
def strI (i : Int) : Str := (toString i : String)
def strO (i : Int) : Option Str := if i.natAbs.log2 < 1920 then some (strI i) else none
theorem rx_strO {z : Str} (h : strO i = some z) (ha : RX K ta ρ O (.int i) O1) : RX K (tCB (fun xs H Q => ∃ i, xs = [.int i] ∧ i.natAbs.log2 < 1920 ∧ Q (.str (toString i)) H) (tCons ta tNil)) ρ O (.str z) O1 := rx_cb1 ha fun F H x Q f r k => by
  cases r
  unfold strO at h
  split at h
  · rename_i hc; cases h; exact ⟨i, rfl, hc, k _ (.str _)⟩
  · cases h
end
end TL

namespace TL
open PySem L2
theorem nxt {D : Ends} {σ : L2.St} {H : Hp} (h : D.nx σ H) : tNext D σ H := h
theorem nxD {f : L2.St → Hp → Prop} {a : VK} {b c : L2.St → Hp → Prop} {σ : L2.St} {H : Hp} (h : f σ H) : Ends.nx ⟨f, a, b, c⟩ σ H := h
/-- turns a while may take -/
def FUEL : Nat := 1000000
/-- calls of itself -/
def RF : Nat := 60
section
variable {X : Cx} (K : Fg)
theorem k_ix_list (hK : X.K = K := by rfl) : IxR X (rIxL K) := by subst hK; exact ix_list
theorem k_ix_tup (hK : X.K = K := by rfl) : IxR X (rIxT K) := by subst hK; exact ix_tup
theorem k_sum (hc : X.calm = true) (hK : X.K = K := by rfl) : CallR X (.builtin "sum") (rSum K) := by subst hK; exact cr_sum hc
theorem k_all (hc : X.calm = true) (hK : X.K = K := by rfl) : CallR X (.builtin "all") (rAll K) := by subst hK; exact cr_all hc
theorem k_any (hc : X.calm = true) (hK : X.K = K := by rfl) : CallR X (.builtin "any") (rAny K) := by subst hK; exact cr_any hc
theorem k_min (hc : X.calm = true) (hK : X.K = K := by rfl) : CallR X (.builtin "min") (rMin K) := by subst hK; exact cr_min hc
theorem k_max (hc : X.calm = true) (hK : X.K = K := by rfl) : CallR X (.builtin "max") (rMax K) := by subst hK; exact cr_max hc
theorem k_sorted (hK : X.K = K := by rfl) : CallR X (.builtin "sorted") (rSorted K) := by subst hK; exact cr_sorted
theorem k_eqD (hu : X.A.units + 64 < cLine) (hK : X.K = K := by rfl) : OpR X (compareOp .Eq) (rEqD K) := by subst hK; exact op_eqD hu
theorem k_neD (hu : X.A.units + 64 < cLine) (hK : X.K = K := by rfl) : OpR X (compareOp .NotEq) (rNeD K) := by subst hK; exact op_neD hu
theorem k_in_seq (hK : X.K = K := by rfl) : OpR X (compareOp .In) (rIn K false) := by subst hK; exact op_in_seq
theorem k_notIn_seq (hK : X.K = K := by rfl) : OpR X (compareOp .NotIn) (rIn K true) := by subst hK; exact op_notIn_seq
theorem k_catA (hK : X.K = K := by rfl) : OpR X (binaryOp .Add) (rCatA K) := by subst hK; exact op_catA
theorem k_catR (hK : X.K = K := by rfl) : OpR X (binaryOp .Add) (rCatR K) := by subst hK; exact op_catR
theorem k_sl_list (hK : X.K = K := by rfl) : L2.SlR X (rSlL K) := by subst hK; exact sl_list
theorem k_sl_tupA (hK : X.K = K := by rfl) : L2.SlR X (rSlA K) := by subst hK; exact sl_tupA
theorem k_len_seq (hK : X.K = K := by rfl) : CallR X (.builtin "len") (rLenQ K) := by subst hK; exact call_len_seq
theorem k_list_of (hK : X.K = K := by rfl) : CallR X (.type "list") (fun xs H Q => ∃ p ys, xs = [.ref p] ∧ (SqL K H p ys ∨ SqT K H p ys) ∧ ∀ l, H l = none → Q (.ref l) (upd H l (.lst ys))) := by subst hK; exact call_list_of
theorem k_tuple_of (hK : X.K = K := by rfl) : CallR X (.type "tuple") (fun xs H Q => ∃ p ys, xs = [.ref p] ∧ ((SqL K H p ys ∧ ∀ l, H l = none → Q (.ref l) (upd H l (.tup ys))) ∨ (SqT K H p ys ∧ Q (.ref p) H))) := by subst hK; exact call_tuple_of
theorem k_revL {e : Expr} {te : TE} {k : Nat} {p1 p2 p3 pos : Pos} (he : PE X e te) (hK : X.K = K := by rfl) : PE X (.Subscript e (.Slice none none (some (.UnaryOp .USub (.Constant (.int 1) k p1) p2)) p3) pos) (tRevL K te) := by subst hK; exact pe_revL he
theorem k_pi_list {tg l : Expr} {tl : TE} (hl : PE X l tl) (hK : X.K = K := by rfl) : PI X tg l (iList K tl) := by subst hK; exact pi_list hl
theorem k_pi_tup {tg l : Expr} {tl : TE} (hl : PE X l tl) (hK : X.K = K := by rfl) : PI X tg l (iTup K tl) := by subst hK; exact pi_tup hl
theorem k_pi_enum {e : Expr} {ta : TA} {p pos tpos : Pos} {elts : List Expr} {kk : Nat} (hg : Gl X "enumerate") (hm : X.mg "enumerate" = none) (ha : PA X [e] ta) (hs : starEach [e] X.env = [(false, eval e X.env)] := by rfl) (hK : X.K = K := by rfl) :
    PI X (.Tuple elts kk tpos) (.Call (.Name "enumerate" p) [e] [] pos) (iEnum K ta) := by subst hK; exact pi_enum hg hm ha hs
theorem k_pi_zip {e e2 : Expr} {ta : TA} {p pos tpos : Pos} {elts : List Expr} {kk : Nat} (hg : Gl X "zip") (hm : X.mg "zip" = none) (ha : PA X [e, e2] ta)
    (hs : starEach [e, e2] X.env = (false, eval e X.env) :: starEach [e2] X.env := by rfl) (hpl : (backTo pos (starEach [e2] X.env)).any (·.1) = false := by rfl) (hK : X.K = K := by rfl) :
    PI X (.Tuple elts kk tpos) (.Call (.Name "zip" p) [e, e2] [] pos) (iZip K ta) := by subst hK; exact pi_zip hg hm ha hs hpl
end
end TL

/-! TLk: lists of own lists, as _law_pots makes them -/
namespace TL
open PySem L2
open Enc
def potsL (ns : List Int) : List Int := if ns.length = 0 then [0] else cutL ns none (some 63)
/-- called with a list of whole numbers: a new list of new lists [n, 0] -/
def SpPots (K : Fg) : Sp := fun vs H Q _ => ∃ F ns, RpAll K F vs [.list (ns.map .int)] ∧ Same F H ∧ ∀ (L : Addr) (ps : List Addr) (H' : Hp), Same H H' → H L = none → L ∉ ps → (∀ p ∈ ps, H p = none) → ps.Nodup → ps.length = (potsL ns).length →
  H' L = some (.lst (ps.map .ref)) → (∀ (i : Nat) (p : Addr) (c : Int), ps[i]? = some p → (potsL ns)[i]? = some c → H' p = some (.lst [.int c, .int 0])) → Q (.ref L) H'
theorem spots_len {K : Fg} : ∀ vs H Q E, SpPots K vs H Q E → vs.length = 1 := fun vs H Q E ⟨F, ns, r, _⟩ => r.length
theorem Hx.same {K : Fg} {F0 H0 F H : Hp} {O : Os} (S : Hx K F0 H0 [] F O H) : Same H0 H := fun a o e => S.keep a o e (by simp)
theorem pots_one {σ : L2.St} {H : Hp} {Q : VK} (k : ∀ (L : Addr) (ps : List Addr) (H' : Hp), Same H H' → H L = none → L ∉ ps → (∀ p ∈ ps, H p = none) → ps.Nodup → ps.length = 1 → H' L = some (.lst (ps.map .ref)) →
    (∀ (i : Nat) (p : Addr) (c : Int), ps[i]? = some p → [(0 : Int)][i]? = some c → H' p = some (.lst [.int c, .int 0])) → Q (.ref L) H') :
    tLst (tCons (tLst (tCons (tC (.int 0)) (tCons (tC (.int 0)) tNil))) tNil) σ H Q := by
  refine ⟨by show (2 : Nat) ≤ sizeLine; decide, fun p hp => ⟨by show (1 : Nat) ≤ sizeLine; decide, fun L hL => ?_⟩⟩
  have hne : L ≠ p := fun e => by
    subst e
    rw [upd_same] at hL
    cases hL
  have hL' : H L = none := by
    rw [upd_ne hne] at hL
    exact hL
  refine k L [p] _ ((same_upd hp).trans (same_upd hL)) hL' (by simpa using hne) (by simpa using hp) (by simp) rfl upd_same fun i q c h1 h2 => ?_
  cases i with
  | zero =>
    cases h1
    cases h2
    rw [upd_ne (Ne.symm hne), upd_same]
  | succ i => cases h1
theorem EnvR.length {K : Fg} {F : Hp} {σ : L2.St} {ρ : List Sl} (h : EnvR K F σ ρ) : σ.length = ρ.length := by
  induction h with
  | nil => rfl
  | cons _ _ ih => rw [List.length_cons, List.length_cons, ih]
theorem wipe_len (σ : L2.St) : ∀ vs : List Nat, (L2.wipe σ vs).length = σ.length := fun vs => wipe_length σ vs
theorem get_snoc {α : Type} {xs : List α} {x y : α} {i : Nat} (h : (xs ++ [x])[i]? = some y) : xs[i]? = some y ∨ (i = xs.length ∧ y = x) := by
  rw [List.getElem?_append] at h
  split at h
  · exact .inl h
  · rename_i hlt
    cases e : i - xs.length with
    | zero =>
      rw [e] at h
      exact .inr ⟨by omega, (Option.some.inj h).symm⟩
    | succ n => rw [e] at h; simp at h
theorem ite_true_of {A B : Prop} (h : A) : (if true = true then A else B) := by rw [if_pos rfl]; exact h
theorem pots_lc {K : Fg} {ρ : List Sl} {te : TE} {cs : List Int} {j : Nat} {vs : List Nat} {F H : Hp} {σ : L2.St} {Q : VK} (hj : j ∈ vs) (hl : j < ρ.length) (ha : RX K te ρ [] (.list (cs.map .int)) []) (E : EnvR K F σ ρ) (hF : Same F H)
    (k : ∀ (L : Addr) (ps : List Addr) (H' : Hp), Same H H' → H L = none → L ∉ ps → (∀ p ∈ ps, H p = none) → ps.Nodup → ps.length = cs.length → H' L = some (.lst (ps.map .ref)) →
      (∀ (i : Nat) (p : Addr) (c : Int), ps[i]? = some p → cs[i]? = some c → H' p = some (.lst [.int c, .int 0])) → Q (.ref L) H') :
    tLc (iList K te) (gName j) tYes (tLst (tCons (tVar j) (tCons (tC (.int 0)) tNil))) vs σ H Q := ha.go E (Hx.start hF) fun x F1 H1 f1 E1 S1 r1 => by
  cases r1 with
  | @lst a xs _ q1 q2 q3 =>
  have hx := RpAll.ints q3
  subst hx
  refine ⟨a, rfl, ⟨_, S1.fh.seq q1⟩, fun D hD => ?_⟩
  have hD0 : H D = none := S1.noh0 hD
  have hσ : j < (L2.wipe σ vs).length := by rw [wipe_len, E1.length]; exact hl
  refine lc_it (walk_list (K := K) (a := a) (xs := cs.map V.int)) (fun i H2 => ∃ ps : List Addr, Same H1 H2 ∧ H2 D = some (.lst (ps.map .ref)) ∧ ps.length = i ∧ D ∉ ps ∧ (∀ p ∈ ps, H1 p = none) ∧ ps.Nodup ∧
    ∀ (i : Nat) (p : Addr) (c : Int), ps[i]? = some p → cs[i]? = some c → H2 p = some (.lst [.int c, .int 0])) ⟨[], same_upd hD, upd_same, rfl, by simp, by simp, by simp, fun i p c e => by simp at e⟩
    (fun i H2 _ q => by obtain ⟨ps, q1', _⟩ := q; exact (S1.fh.trans q1').seq q1) (fun i x H2 H3 hi q y => ?_) (fun H2 q => ?_)
  · obtain ⟨ps, p1, p2, p3, p4, p5, p6, p7⟩ := q
    obtain ⟨e, y⟩ := y
    subst e
    have hi' : i < cs.length := by simpa using hi
    have hx : x = V.int cs[i] := by
      rw [List.getElem?_map, List.getElem?_eq_getElem hi'] at y
      exact (Option.some.inj y).symm
    subst hx
    refine ⟨wipe_set (i := j) (L2.wipe σ vs) hj |>.trans (wipe_wipe σ vs), ?_⟩
    unfold tYes
    refine ite_true_of ?_
    refine ⟨_, List.getElem?_set_self hσ, by show (2 : Nat) ≤ sizeLine; decide, fun p hp => ?_⟩
    have hpD : D ≠ p := ne_of_none p2 hp
    have hpn : p ∉ ps := fun hm => by
      obtain ⟨n, hn, en⟩ := List.mem_iff_getElem.mp hm
      have := p7 n p (cs[n]'(by omega)) (by rw [List.getElem?_eq_getElem hn, en]) (List.getElem?_eq_getElem _)
      rw [hp] at this
      cases this
    have hp1 : H1 p = none := p1.free hp
    refine ⟨ps.map .ref, by rw [upd_ne hpD]; exact p2, ?_, ps ++ [p], ?_, ?_, by rw [List.length_append, List.length_singleton, p3], ?_, ?_, ?_, ?_⟩
    · rw [List.length_map] at q2 ⊢; omega
    · intro b o hb
      have hbD : b ≠ D := ne_of_none hb hD
      rw [upd_ne hbD, upd_ne (ne_of_none hb hp1)]
      exact p1 _ _ hb
    · rw [List.map_append]; exact upd_same
    · rw [List.mem_append, List.mem_singleton]
      rintro (h | h)
      · exact p4 h
      · exact hpD h
    · intro b hb
      rcases List.mem_append.mp hb with h | h
      · exact p5 b h
      · rw [List.mem_singleton.mp h]; exact hp1
    · rw [List.nodup_append]
      refine ⟨p6, by simp, fun b hb c hc e => ?_⟩
      rw [List.mem_singleton] at hc
      subst hc
      subst e
      exact hpn hb
    · intro n b c h1 h2
      rcases get_snoc h1 with h | ⟨h, hb⟩
      · have hbm : b ∈ ps := List.mem_of_getElem? h
        have e1 : b ≠ D := fun e => p4 (e ▸ hbm)
        have e2 : b ≠ p := fun e => hpn (e ▸ hbm)
        rw [upd_ne e1, upd_ne e2]
        exact p7 n b c h h2
      · subst hb
        have en : n = i := h.trans p3
        subst en
        rw [List.getElem?_eq_getElem hi'] at h2
        cases h2
        rw [upd_ne (Ne.symm hpD), upd_same]
  · obtain ⟨ps, p1, p2, p3, p4, p5, p6, p7⟩ := q
    refine k D ps H2 (S1.same.trans p1) hD0 p4 (fun p hp => S1.noh0 (p5 p hp)) p6 (by simpa using p3) p2 p7
def potsOs : List Addr → List Int → Os
  | p :: ps, c :: cs => ⟨p, true, [.int c, .int 0]⟩ :: potsOs ps cs
  | _, _ => []
theorem potsOs_mem : ∀ {ps : List Addr} {cs : List Int} {q : OE}, q ∈ potsOs ps cs → ∃ (i : Nat) (p : Addr) (c : Int), ps[i]? = some p ∧ cs[i]? = some c ∧ q = ⟨p, true, [.int c, .int 0]⟩
  | [], _, _, h => by simp [potsOs] at h
  | p :: ps, [], _, h => by simp [potsOs] at h
  | p :: ps, c :: cs, q, h => by
    rcases List.mem_cons.mp h with e | h
    · exact ⟨0, p, c, rfl, rfl, e⟩
    · obtain ⟨i, p', c', h1, h2, h3⟩ := potsOs_mem h
      exact ⟨i + 1, p', c', by simpa using h1, by simpa using h2, h3⟩
theorem potsOs_map : ∀ {ps : List Addr} {cs : List Int}, ps.length = cs.length → (potsOs ps cs).map OE.a = ps
  | [], [], _ => rfl
  | [], _ :: _, h => by simp at h
  | _ :: _, [], h => by simp at h
  | p :: ps, c :: cs, h => by
    unfold potsOs
    rw [List.map_cons, potsOs_map (by simpa using h)]
theorem Hx.pots {K : Fg} {F0 H0 F H H' : Hp} {D0 : List Addr} {O : Os} (S : Hx K F0 H0 D0 F O H) {L : Addr} {ps : List Addr} {cs : List Int} (h : Same H H') (hL : H L = none) (hn : L ∉ ps) (hp : ∀ p ∈ ps, H p = none) (nd : ps.Nodup) (hl : ps.length = cs.length)
    (hH : H' L = some (.lst (ps.map .ref))) (hc : ∀ (i : Nat) (p : Addr) (c : Int), ps[i]? = some p → cs[i]? = some c → H' p = some (.lst [.int c, .int 0])) : Hx K F0 H0 D0 (upd F L (.lst (ps.map .ref))) (potsOs ps cs ++ O) H' := by
  have hFL := S.nof hL
  have fu : Same F (upd F L (.lst (ps.map .ref))) := same_upd hFL
  refine ⟨S.f0.trans fu, fun a u e => ?_, fun a u e n => h _ _ (S.keep a u e n), fun a u e => ?_, fun a u e n => ?_, fun q hq => ?_, ?_⟩
  · by_cases ha : a = L
    · subst ha
      rw [upd_same] at e
      cases e
      exact hH
    · rw [upd_ne ha] at e
      exact h _ _ (S.fh _ _ e)
  · obtain ⟨u', e'⟩ := S.live a u e
    exact ⟨u', h _ _ e'⟩
  · obtain ⟨u', e'⟩ := S.live a u e
    rw [upd_ne (ne_of_none e' hL)]
    exact S.new a u e n
  · rcases List.mem_append.mp hq with hq | hq
    · obtain ⟨i, p, c, h1, h2, rfl⟩ := potsOs_mem hq
      have hm : p ∈ ps := List.mem_of_getElem? h1
      have hpn := hp p hm
      refine ⟨?_, fun _ => S.noh0 hpn, fun z => (Bool.false_ne_true z.symm).elim, _, hc i p c h1 h2, by show (2 : Nat) ≤ sizeLine; decide, .cons (.int c) (.cons (.int 0) .nil)⟩
      show upd F L _ p = none
      rw [upd_ne (fun e : p = L => hn (by rw [← e]; exact hm))]
      exact S.nof hpn
    · obtain ⟨h1, h2, h3, vs, h4, h5, h6⟩ := S.own q hq
      refine ⟨?_, h2, h3, vs, h _ _ h4, h5, h6.up fu⟩
      rw [upd_ne (ne_of_none h4 hL)]
      exact h1
  · rw [List.map_append, potsOs_map hl, List.nodup_append]
    refine ⟨nd, S.nd, fun a ha b hb e => ?_⟩
    obtain ⟨q, hq, eq⟩ := List.mem_map.mp hb
    obtain ⟨_, _, _, vs, h4, _⟩ := S.own q hq
    rw [eq, ← e, hp a ha] at h4
    cases h4
theorem Hx.sub {K : Fg} {F0 H0 F H : Hp} {D0 : List Addr} {O O' : Os} (S : Hx K F0 H0 D0 F O H) (h : O'.Sublist O) : Hx K F0 H0 D0 F O' H :=
  ⟨S.f0, S.fh, S.keep, S.live, S.new, fun p hp => S.own p (h.subset hp), S.nd.sublist (h.map OE.a)⟩
theorem drop_cons {α : Type} {xs : List α} {i : Nat} (h : i < xs.length) : xs.drop i = xs[i] :: xs.drop (i + 1) := List.drop_eq_getElem_cons h
/-- for pot in _law_pots(..) -/
theorem st_forP {K : Fg} {ρ : List Sl} {F0 H0 F H : Hp} {D0 : List Addr} {O : Os} {σ : L2.St} {D : Ends} {R : Type} {te : TE} {j : Nat} {tb : TS} {ns : List Int} {f : Int → Unit → Option (Fl Unit R)} {fl : Fl Unit R} {E0 : XK} (ρ1 : List Sl)
    (E : EnvR K F σ ρ) (S0 : Hx K F0 H0 D0 F O H) (ha : RX K te ρ O (.list (ns.map .int)) O) (hf : forF f (potsL ns) () = some fl) (hW : Wk ρ ρ1)
    (kn : ∀ s, fl = .nx s → ∀ σ' F' H', Same F F' → EnvR K F' σ' ρ1 → Hx K F0 H0 D0 F' O H' → D.nx σ' H')
    (body : ∀ c out, f c () = some out → (∀ r, out = .rt r → fl = .rt r) → ∀ σ1 F1 H1 p Or, Same F F1 → EnvR K F1 σ1 (ρ1.set j (.adr p)) → Hx K F0 H0 D0 F1 (⟨p, true, ([c, 0] : List Int).map enc⟩ :: Or) H1 →
      ∀ (N B : L2.St → Hp → Prop), (∀ s, out = .nx s → ∀ σ' F' H', Same F1 F' → EnvR K F' σ' ρ1 → Hx K F0 H0 D0 F' Or H' → N σ' H') → (∀ s, out = .bk s → ∀ σ' F' H', Same F1 F' → EnvR K F' σ' ρ1 → Hx K F0 H0 D0 F' Or H' → B σ' H') → tb { D with nx := N, ct := N, bk := B } σ1 H1) :
    tFor (iList K (tCall (SpPots K) [] E0 (tCons te tNil))) (gName j) tb D σ H := by
  refine ha.go E S0 fun x F1 H1 f1 E1 S1 r1 => ?_
  refine ⟨F1, ns, .cons r1 .nil, S1.fh, fun L ps H2 g1 g2 g3 g4 g5 g6 g7 g8 => ?_⟩
  have S2 := S1.pots g1 g2 g3 g4 g5 g6 g7 g8
  have fu : Same F1 (upd F1 L (.lst (ps.map .ref))) := same_upd (S1.nof g2)
  refine ⟨L, rfl, ⟨_, SqL.of g7⟩, ?_⟩
  have hlen : (ps.map V.ref).length = ps.length := List.length_map _
  refine for_it (walk_list (K := K) (a := L) (xs := ps.map V.ref)) (fun i σ H => ∃ F2, Same F F2 ∧ F2 L = some (.lst (ps.map .ref)) ∧ EnvR K F2 σ ρ1 ∧ Hx K F0 H0 D0 F2 (potsOs (ps.drop i) ((potsL ns).drop i) ++ O) H ∧ forF f ((potsL ns).drop i) () = some fl)
    ⟨_, f1.trans fu, upd_same, (E1.up fu).weak hW, S2, hf⟩ (fun i σ H _ q => by obtain ⟨F2, _, q2, _, q4, _⟩ := q; exact SqL.of (q4.fh _ _ q2)) (fun i x σ H H' hi q y => ?_) (fun σ H q => ?_)
  · obtain ⟨F2, q1, q2, q3, q4, q5⟩ := q
    obtain ⟨e, y⟩ := y
    subst e
    rw [hlen] at hi
    have hi2 : i < (potsL ns).length := by omega
    have hx : x = V.ref ps[i] := by
      rw [List.getElem?_map, List.getElem?_eq_getElem hi] at y
      exact (Option.some.inj y).symm
    subst hx
    rw [drop_cons hi2] at q4 q5
    rw [drop_cons hi] at q4
    obtain ⟨out, e1, q5⟩ := bindE q5
    refine body _ out e1 (fun r eo => ?_) _ F2 H' ps[i] (potsOs (ps.drop (i + 1)) ((potsL ns).drop (i + 1)) ++ O) q1 (q3.seta j) q4 _ _ (fun s eo σ' F' H2 ff E' S' => ?_) (fun s eo σ' F' H2 ff E' S' => ?_)
    · subst eo
      exact (Option.some.inj q5).symm
    · subst eo
      exact ⟨F', q1.trans ff, ff _ _ q2, E', S', q5⟩
    · subst eo
      exact kn s (Option.some.inj q5).symm σ' F' H2 (q1.trans ff) E' (S'.sub (List.sublist_append_right _ _))
  · obtain ⟨F2, q1, q2, q3, q4, q5⟩ := q
    rw [hlen, List.drop_length] at q4
    rw [hlen, g6, List.drop_length] at q5
    exact kn () (Option.some.inj q5).symm σ F2 H q1 q3 q4
end TL

/-! TLl: isinstance; likeness of data, as the laws' _law_same and _law_alike reckon it -/
namespace TL
open PySem L2
open Enc
open RZ
def tyN : PyData → String
  | .none => "NoneType"
  | .bool _ => "bool"
  | .int _ => "int"
  | .str _ => "str"
  | .list _ => "list"
  | .tuple _ => "tuple"
  | .dict _ => "dict"
theorem seqL_ty {K : Fg} {H : Hp} {a : Addr} {xs : List V} (h : SqL K H a xs) : TyX K H (.ref a) (.type "list") := by
  rcases h with (h | ⟨o, h⟩) | ⟨o, its, n, h1, h2, _⟩
  · exact .base (.lst h)
  · exact .base (.frz h)
  · exact .kList h1 h2
theorem seqT_ty {K : Fg} {H : Hp} {a : Addr} {xs : List V} (h : SqT K H a xs) : TyX K H (.ref a) (.type "tuple") := by
  rcases h with (h | ⟨o, h⟩) | ⟨o, its, n, h1, h2, _⟩
  · exact .base (.tup h)
  · exact .fTuple h
  · exact .kTuple h1 h2
theorem Rp.ty {K : Fg} {H : Hp} {v : V} {d : PyData} (h : Rp K H v d) : TyX K H v (.type (tyN d)) := by
  cases h with
  | non => exact .base .non
  | bl b => exact .base (.bl b)
  | int i => exact .base (.int i)
  | str x => exact .base (.str x)
  | lst h _ _ => exact seqL_ty h
  | tup h _ _ => exact seqT_ty h
section
variable {K : Fg} {ta tb te : TE} {ρ : List Sl} {O O1 O2 : Os} {d : PyData}
theorem rx_isi {c : String} {r : Bool} (ha : RX K ta ρ O d O1) (h : kitB (tyN d) c = some r) : RX K (tCB (rIsi K) (tCons ta (tCons (tC (.ty c)) tNil))) ρ O (.bool r) O1 := ⟨fun _ _ _ _ _ _ Q E S k => ha.go E S fun x F1 H1 f1 E1 S1 r1 =>
  ⟨x, .ty c, _, _, r, rfl, .ty c, (r1.up S1.fh).ty, kit_ty h, k _ F1 H1 f1 S1 (.bl r)⟩⟩
theorem rx_isiT2 {c c' : String} {r r' : Bool} (ha : RX K ta ρ O d O1) (h : kitB (tyN d) c = some r) (h' : kitB (tyN d) c' = some r') :
    RX K (tCB (rIsiT K) (tCons ta (tCons (tTup (tCons (tC (.ty c)) (tCons (tC (.ty c')) tNil))) tNil))) ρ O (.bool (r || r')) O1 := ⟨fun _ _ _ _ _ _ Q E S k => ha.go E S fun x F1 H1 f1 E1 S1 r1 => by
  refine ⟨by show (2 : Nat) ≤ sizeLine; decide, fun T hT => ?_⟩
  have S2 := S1.junk (o := .tup [.ty c, .ty c']) hT
  refine ⟨x, T, [.ty c, .ty c'], _, [.type c, .type c'], r || r', rfl, upd_same, .cons (.ty c) (.cons (.ty c') .nil), (r1.up S2.fh).ty, kitAny_cons (kit_ty h) (fun e => kitAny_cons (kit_ty h') (fun e' => ?_) fun e' => ?_) (fun e => by rw [e]; rfl), k _ F1 _ f1 S2 (.bl _)⟩
  · rw [e, e']; exact kitAny_nil
  · rw [e, e']; rfl⟩
theorem kit_at {d : PyData} {t c : String} {r : Bool} (ht : tyN d = t) (h : kitB t c = some r) : kitB (tyN d) c = some r := by rw [ht]; exact h
theorem k_isi {X : Cx} (K : Fg) (hK : X.K = K := by rfl) : CallR X (.builtin "isinstance") (rIsi K) := by subst hK; exact call_isi
theorem k_isiT {X : Cx} (K : Fg) (hK : X.K = K := by rfl) : CallR X (.builtin "isinstance") (rIsiT K) := by subst hK; exact call_isiT
theorem k_pi_zipA {X : Cx} (K : Fg) {e e2 : Expr} {ta : TA} {p pos tpos : Pos} {elts : List Expr} {kk : Nat} (hg : Gl X "zip") (hm : X.mg "zip" = none) (ha : PA X [e, e2] ta)
    (hs : starEach [e, e2] X.env = (false, eval e X.env) :: starEach [e2] X.env := by rfl) (hpl : (backTo pos (starEach [e2] X.env)).any (·.1) = false := by rfl) (hK : X.K = K := by rfl) :
    PI X (.Tuple elts kk tpos) (.Call (.Name "zip" p) [e, e2] [] pos) (iZipA K ta) := by subst hK; exact pi_zipA hg hm ha hs hpl
theorem pe_tyn {X : Cx} {x : Str} {c : String} {pos : Pos} (hg : Gl X x) (hm : X.mg x = none) (hv : bootBuiltins x = some (.type c)) (hn : x ≠ "__name__" := by decide) (hd : (x == ("__debug__" : Str)) = false := by decide) : PE X (.Name x pos) (tC (.ty c)) :=
  pe_bltn hg hm hv (show RelV (.ty c) (.type c) from rfl) hn hd
theorem ri_zipAL {ys zs : List PyData} (h : RX K ta ρ O (.list ys) O1) (h' : RX K tb ρ O1 (.list zs) O2) : RI K (iZipA K (tCons ta (tCons tb tNil))) ρ O (zipD ys zs) O2 := ⟨fun F0 H0 D0 σ F H R E S k =>
  (ri_zip h h').run F0 H0 D0 σ F H R E S k |> fun g => by
    refine h.go E S fun x F1 H1 f1 E1 S1 r1 => h'.go E1 S1 fun y F2 H2 f2 E2 S2 r2 => ?_
    have r1' := r1.up f2
    cases r1' with
    | @lst a xs _ q1 q2 q3 =>
      cases r2 with
      | @lst b ws _ p1 p2 p3 =>
        refine ⟨a, b, xs, ws, rfl, .inl ⟨S2.fh.seq q1, S2.fh.seq p1, ?_⟩⟩
        have hl : (zipD ys zs).length = min xs.length ws.length := by unfold zipD; rw [List.length_map, List.length_zip, q3.length, p3.length]
        refine k _ F2 H2 (f1.trans f2) S2 ⟨by omega, fun _ _ _ F O H i hi f S => ?_, fun _ _ _ F O H f S => ?_, fun _ _ _ F O H i x H' hi f S y => ?_⟩
        · have h1 : i < xs.length := by omega
          have h2 : i < ws.length := by omega
          exact ⟨xs, ws, xs[i], ws[i], (f.trans S.fh).seq q1, (f.trans S.fh).seq p1, by simp [h1], by simp [h2]⟩
        · exact ⟨xs, ws, (f.trans S.fh).seq q1, (f.trans S.fh).seq p1, by omega⟩
        · obtain ⟨T, u, v, rfl, hT, rfl, y1, y2⟩ := y
          obtain ⟨d, e, r⟩ := (q3.up f).getV (y1 xs ((f.trans S.fh).seq q1))
          obtain ⟨d', e', r'⟩ := (p3.up f).getV (y2 ws ((f.trans S.fh).seq p1))
          obtain ⟨F3, f3, S3, r3⟩ := pair_put S hT r r'
          refine ⟨F3, _, f3, S3, ?_, r3⟩
          unfold zipD
          have ez : (ys.zip zs)[i]? = some (d, d') := List.getElem?_zip_eq_some.mpr ⟨e, e'⟩
          rw [List.getElem?_map, ez]
          rfl⟩
theorem ri_zipAT {ys zs : List PyData} (h : RX K ta ρ O (.tuple ys) O1) (h' : RX K tb ρ O1 (.tuple zs) O2) : RI K (iZipA K (tCons ta (tCons tb tNil))) ρ O (zipD ys zs) O2 := ⟨fun F0 H0 D0 σ F H R E S k => by
    refine h.go E S fun x F1 H1 f1 E1 S1 r1 => h'.go E1 S1 fun y F2 H2 f2 E2 S2 r2 => ?_
    have r1' := r1.up f2
    cases r1' with
    | @tup a xs _ q1 q2 q3 =>
      cases r2 with
      | @tup b ws _ p1 p2 p3 =>
        refine ⟨a, b, xs, ws, rfl, .inr ⟨same_t S2.fh q1, same_t S2.fh p1, ?_⟩⟩
        have hl : (zipD ys zs).length = min xs.length ws.length := by unfold zipD; rw [List.length_map, List.length_zip, q3.length, p3.length]
        refine k _ F2 H2 (f1.trans f2) S2 ⟨by omega, fun _ _ _ F O H i hi f S => ?_, fun _ _ _ F O H f S => ?_, fun _ _ _ F O H i x H' hi f S y => ?_⟩
        · have h1 : i < xs.length := by omega
          have h2 : i < ws.length := by omega
          exact ⟨xs, ws, xs[i], ws[i], same_t (f.trans S.fh) q1, same_t (f.trans S.fh) p1, by simp [h1], by simp [h2]⟩
        · exact ⟨xs, ws, same_t (f.trans S.fh) q1, same_t (f.trans S.fh) p1, by omega⟩
        · obtain ⟨T, u, v, rfl, hT, rfl, y1, y2⟩ := y
          obtain ⟨d, e, r⟩ := (q3.up f).getV (y1 xs (same_t (f.trans S.fh) q1))
          obtain ⟨d', e', r'⟩ := (p3.up f).getV (y2 ws (same_t (f.trans S.fh) p1))
          obtain ⟨F3, f3, S3, r3⟩ := pair_put S hT r r'
          refine ⟨F3, _, f3, S3, ?_, r3⟩
          unfold zipD
          have ez : (ys.zip zs)[i]? = some (d, d') := List.getElem?_zip_eq_some.mpr ⟨e, e'⟩
          rw [List.getElem?_map, ez]
          rfl⟩
end

/-! ### likeness -/
mutual
inductive Sim : Nat → PyData → PyData → Bool → Prop
  | int {n : Nat} (i j : Int) : Sim n (.int i) (.int j) (decide (i = j))
  | bool {n : Nat} (i j : Bool) : Sim n (.bool i) (.bool j) (decide (i = j))
  | str {n : Nat} (i j : Str) : Sim n (.str i) (.str j) (decide (i = j))
  | list {n : Nat} {xs ys : List PyData} {b : Bool} (h : SimAll n xs ys b) : Sim (n + 1) (.list xs) (.list ys) (decide (xs.length = ys.length) && b)
  | tuple {n : Nat} {xs ys : List PyData} {b : Bool} (h : SimAll n xs ys b) : Sim (n + 1) (.tuple xs) (.tuple ys) (decide (xs.length = ys.length) && b)
inductive SimAll : Nat → List PyData → List PyData → Bool → Prop
  | nil {n : Nat} (ys : List PyData) : SimAll n [] ys true
  | nil' {n : Nat} (xs : List PyData) : SimAll n xs [] true
  | cons {n : Nat} {x y : PyData} {xs ys : List PyData} {b c : Bool} (h : Sim n x y b) (t : SimAll n xs ys c) : SimAll n (x :: xs) (y :: ys) (b && c)
end
mutual
theorem Sim.mono {n m : Nat} {x y : PyData} {b : Bool} (h : Sim n x y b) (e : n ≤ m) : Sim m x y b := by
  cases h with
  | int i j => exact .int i j
  | bool i j => exact .bool i j
  | str i j => exact .str i j
  | list h =>
    cases m with
    | zero => omega
    | succ m => exact .list (SimAll.mono h (by omega))
  | tuple h =>
    cases m with
    | zero => omega
    | succ m => exact .tuple (SimAll.mono h (by omega))
theorem SimAll.mono {n m : Nat} {xs ys : List PyData} {b : Bool} (h : SimAll n xs ys b) (e : n ≤ m) : SimAll m xs ys b := by
  cases h with
  | nil ys => exact .nil ys
  | nil' xs => exact .nil' xs
  | cons h t => exact .cons (Sim.mono h e) (SimAll.mono t e)
end
class SimT (α : Type) [Enc α] [DecidableEq α] where
  dp : Nat
  ok : ∀ x y : α, Sim dp (enc x) (enc y) (decide (x = y))
instance : SimT Int := ⟨0, fun x y => .int x y⟩
instance : SimT Bool := ⟨0, fun x y => .bool x y⟩
instance : SimT Str := ⟨0, fun x y => .str x y⟩
theorem simAll_map {α : Type} [Enc α] [DecidableEq α] [s : SimT α] : ∀ xs ys : List α, ∃ b, SimAll (SimT.dp α) (xs.map enc) (ys.map enc) b ∧ (decide (xs.length = ys.length) && b) = decide (xs = ys)
  | [], ys => ⟨true, .nil _, by cases ys <;> simp⟩
  | x :: xs, [] => ⟨true, .nil' _, by simp⟩
  | x :: xs, y :: ys => by
    obtain ⟨b, h, e⟩ := simAll_map xs ys
    refine ⟨_, .cons (SimT.ok x y) h, ?_⟩
    have e1 : decide (x :: xs = y :: ys) = (decide (x = y) && decide (xs = ys)) := by simp
    rw [e1, ← e]
    have e2 : decide ((x :: xs).length = (y :: ys).length) = decide (xs.length = ys.length) := by simp
    rw [e2]
    cases decide (x = y) <;> cases decide (xs.length = ys.length) <;> cases b <;> rfl
instance {α : Type} [Enc α] [DecidableEq α] [SimT α] : SimT (List α) := ⟨SimT.dp α + 1, fun xs ys => by
  obtain ⟨b, h, e⟩ := simAll_map xs ys
  have := Sim.list h
  rw [List.length_map, List.length_map, e] at this
  exact this⟩
instance {α : Type} [Enc α] [DecidableEq α] [SimT α] : SimT (Tp α) := ⟨SimT.dp α + 1, fun xs ys => by
  obtain ⟨xs⟩ := xs
  obtain ⟨ys⟩ := ys
  obtain ⟨b, h, e⟩ := simAll_map xs ys
  have := Sim.tuple h
  rw [List.length_map, List.length_map, e] at this
  have e2 : decide (Tp.mk xs = Tp.mk ys) = decide (xs = ys) := by simp
  rw [e2]
  exact this⟩
instance {α β : Type} [Enc α] [DecidableEq α] [SimT α] [Enc β] [DecidableEq β] [SimT β] : SimT (α × β) := ⟨SimT.dp α + SimT.dp β + 1, fun x y => by
  obtain ⟨a, b⟩ := x
  obtain ⟨c, d⟩ := y
  have := Sim.tuple (.cons ((SimT.ok a c).mono (Nat.le_add_right _ _)) (.cons ((SimT.ok b d).mono (Nat.le_add_left _ _)) (.nil [])))
  have e2 : decide ((a, b) = (c, d)) = (decide ([enc a, enc b].length = [enc c, enc d].length) && (decide (a = c) && (decide (b = d) && true))) := by simp [Bool.decide_and]
  rw [e2]
  exact this⟩
instance {α β γ : Type} [Enc α] [DecidableEq α] [SimT α] [Enc β] [DecidableEq β] [SimT β] [Enc γ] [DecidableEq γ] [SimT γ] : SimT (T3 α β γ) := ⟨SimT.dp α + SimT.dp β + SimT.dp γ + 1, fun x y => by
  obtain ⟨a, b, c⟩ := x
  obtain ⟨a', b', c'⟩ := y
  have := Sim.tuple (.cons ((SimT.ok a a').mono (by omega : SimT.dp α ≤ SimT.dp α + SimT.dp β + SimT.dp γ)) (.cons ((SimT.ok b b').mono (by omega)) (.cons ((SimT.ok c c').mono (by omega)) (.nil []))))
  have e2 : decide (T3.mk a b c = T3.mk a' b' c') = (decide ([enc a, enc b, enc c].length = [enc a', enc b', enc c'].length) && (decide (a = a') && (decide (b = b') && (decide (c = c') && true)))) := by simp [Bool.decide_and]
  rw [e2]
  exact this⟩
instance {α β γ δ : Type} [Enc α] [DecidableEq α] [SimT α] [Enc β] [DecidableEq β] [SimT β] [Enc γ] [DecidableEq γ] [SimT γ] [Enc δ] [DecidableEq δ] [SimT δ] : SimT (T4 α β γ δ) := ⟨SimT.dp α + SimT.dp β + SimT.dp γ + SimT.dp δ + 1, fun x y => by
  obtain ⟨a, b, c, d⟩ := x
  obtain ⟨a', b', c', d'⟩ := y
  have := Sim.tuple (.cons ((SimT.ok a a').mono (by omega : SimT.dp α ≤ SimT.dp α + SimT.dp β + SimT.dp γ + SimT.dp δ)) (.cons ((SimT.ok b b').mono (by omega)) (.cons ((SimT.ok c c').mono (by omega)) (.cons ((SimT.ok d d').mono (by omega)) (.nil [])))))
  have e2 : decide (T4.mk a b c d = T4.mk a' b' c' d') = (decide ([enc a, enc b, enc c, enc d].length = [enc a', enc b', enc c', enc d'].length) && (decide (a = a') && (decide (b = b') && (decide (c = c') && (decide (d = d') && true))))) := by simp [Bool.decide_and]
  rw [e2]
  exact this⟩
def SimR (n : Nat) : List PyData → PyData → Prop := fun ds d => ∃ x y b, ds = [x, y] ∧ Sim n x y b ∧ d = .bool b
theorem SimAll.all {n : Nat} {xs ys : List PyData} {b : Bool} (h : SimAll n xs ys b) : ∃ zs : List (PyData × PyData × Bool), zs.map (fun t => PyData.tuple [t.1, t.2.1]) = zipD xs ys ∧ (∀ t ∈ zs, Sim n t.1 t.2.1 t.2.2) ∧ (zs.map (·.2.2)).all id = b := by
  induction xs generalizing ys b with
  | nil => cases h; exact ⟨[], rfl, fun t e => by simp at e, rfl⟩; exact ⟨[], rfl, fun t e => by simp at e, rfl⟩
  | cons x xs ih =>
    cases h with
    | nil' => exact ⟨[], rfl, fun t e => by simp at e, rfl⟩
    | @cons _ _ y _ ys b c h t =>
      obtain ⟨zs, h1, h2, h3⟩ := ih t
      refine ⟨(x, y, b) :: zs, ?_, fun t ht => ?_, by rw [List.map_cons, List.all_cons, h3]; rfl⟩
      · rw [List.map_cons, h1]; rfl
      · rcases List.mem_cons.mp ht with e | ht
        · subst e; exact h
        · exact h2 t ht
theorem Cal.never {P : Program} {w : World} {K : Fg} {mg : Str → Option Value} {base : Heap} {x : Str} {st : Stmt} {N ps : List Str} (h : Dfn K mg x st ps) (S : FnScope N ps (defScope st)) : Cal P w K mg base 1 x ps (fun _ _ _ _ => False) :=
  h.cal S (fun _ _ _ _ h => h.elim) fun _ _ _ _ _ _ _ _ _ _ h => h.elim
end TL

namespace TL
open PySem L2
open Enc
/-! ### tuples of own lists -/
theorem perm_erase {α : Type} : ∀ (l : List α) (j : Nat) (x : α), l[j]? = some x → l.Perm (x :: l.eraseIdx j)
  | [], j, x, h => by simp at h
  | y :: l, 0, x, h => by
    simp at h
    subst h
    exact List.Perm.refl _
  | y :: l, j + 1, x, h => by
    rw [List.eraseIdx_cons_succ]
    exact ((perm_erase l j x (by simpa using h)).cons y).trans (List.Perm.swap x y _)
def towOs (ps : List Addr) (ess : List (List PyData)) : Os := List.zipWith (fun p es => ⟨p, true, es⟩) ps ess
inductive Tow (O : Os) : List Addr → List (List PyData) → Prop
  | nil : Tow O [] []
  | cons (j : Nat) {p : Addr} {nw : Bool} {es : List PyData} {ps : List Addr} {ess : List (List PyData)} (h : O[j]? = some ⟨p, nw, es⟩) : Tow O ps ess → Tow O (p :: ps) (es :: ess)
section
variable {K : Fg} {F0 H0 F H F' H' : Hp} {D0 : List Addr} {O O' O1 O2 : Os} {ρ : List Sl} {σ : L2.St} {ps : List Addr} {ess : List (List PyData)}
theorem EnvR.tow {i : Nat} (h : EnvR K F σ ρ) (e : ρ[i]? = some (.tow ps)) : ∃ t, σ[i]? = some (some (.ref t)) ∧ SqT K F t (ps.map .ref) := by
  obtain ⟨s, h1, t, rfl, h2⟩ := h.at e
  exact ⟨t, h1, h2⟩
theorem Tow.rp (S : Hx K F0 H0 D0 F O H) (t : Tow O ps ess) : RpAll K H (ps.map .ref) (ess.map .list) := by
  induction t with
  | nil => exact .nil
  | cons j h _ ih =>
    obtain ⟨_, _, _, vs, h4, h5, h6⟩ := S.get h
    exact .cons (.lst (SqL.of h4) h5 (h6.up S.fh)) ih
theorem Tow.lens (t : Tow O ps ess) : ps.length = ess.length := by
  induction t with
  | nil => rfl
  | cons j h _ ih => rw [List.length_cons, List.length_cons, ih]
theorem Hx.perm (S : Hx K F0 H0 D0 F O H) (h : O.Perm O') : Hx K F0 H0 D0 F O' H :=
  ⟨S.f0, S.fh, S.keep, S.live, S.new, fun p hp => S.own p (h.mem_iff.mpr hp), (h.map OE.a).nodup_iff.mp S.nd⟩
/-- a part of the own lists apart -/
theorem Hx.fr {X : Os} (S : Hx K F0 H0 D0 F (O ++ X) H) : ∃ H1 D1, Hx K F H1 D1 F O H ∧ ∀ F' O' H', Hx K F H1 D1 F' O' H' → Hx K F0 H0 D0 F' (O' ++ X) H' := by
  let nwA (a : Addr) : Bool := O.any fun e => e.nw && decide (e.a = a)
  let H1 : Hp := fun a => if nwA a = true then none else H a
  let D1 : List Addr := (O.filter fun e => !e.nw).map OE.a
  have h1s : ∀ a o, H1 a = some o → H a = some o := fun a o e => by
    show H a = some o
    have e : (if nwA a = true then none else H a) = some o := e
    split at e
    · cases e
    · exact e
  have h1of : ∀ a o, H a = some o → (∀ e ∈ O, e.a = a → e.nw = false) → H1 a = some o := fun a o e n => by
    show (if nwA a = true then none else H a) = some o
    rw [if_neg]
    · exact e
    · intro q
      obtain ⟨x, hx, q⟩ := List.any_eq_true.mp q
      rw [Bool.and_eq_true, decide_eq_true_eq] at q
      rw [n x hx q.2] at q
      exact Bool.false_ne_true q.1
  have inO : ∀ e ∈ O, e ∈ O ++ X := fun e h => List.mem_append_left _ h
  have inX : ∀ e ∈ X, e ∈ O ++ X := fun e h => List.mem_append_right _ h
  have dj : ∀ e ∈ O, ∀ x ∈ X, e.a ≠ x.a := fun e he x hx q => by
    have := S.nd
    rw [List.map_append, List.nodup_append] at this
    exact this.2.2 e.a (List.mem_map.mpr ⟨e, he, rfl⟩) x.a (List.mem_map.mpr ⟨x, hx, rfl⟩) q
  have d1 : ∀ a, a ∈ D1 → ∃ e ∈ O, e.a = a ∧ e.nw = false := fun a h => by
    obtain ⟨e, he, rfl⟩ := List.mem_map.mp h
    rw [List.mem_filter] at he
    exact ⟨e, he.1, rfl, by simpa using he.2⟩
  -- what stood at the entry is in H1
  have old : ∀ a o, H0 a = some o → ∀ e ∈ O, e.a = a → e.nw = false := fun a o e x hx q => by
    cases hw : x.nw with
    | false => rfl
    | true =>
      have := (S.own x (inO x hx)).2.1 hw
      rw [q, e] at this
      cases this
  refine ⟨H1, D1, ⟨Same.refl _, S.fh, fun a o e _ => h1s a o e, fun a o e => ⟨o, h1s a o e⟩, fun _ _ _ e => e, fun p hp => ?_, ?_⟩, fun F' O' H' S2 => ?_⟩
  · obtain ⟨g1, g2, g3, g4⟩ := S.own p (inO p hp)
    refine ⟨g1, fun hw => ?_, fun hw => List.mem_map.mpr ⟨p, List.mem_filter.mpr ⟨hp, by rw [hw]; rfl⟩, rfl⟩, g4⟩
    show (if nwA p.a = true then none else H p.a) = none
    rw [if_pos]
    exact List.any_eq_true.mpr ⟨p, hp, by rw [hw]; simp⟩
  · have := S.nd
    rw [List.map_append, List.nodup_append] at this
    exact this.1
  · refine ⟨S.f0.trans S2.f0, S2.fh, fun a o e n => ?_, fun a o e => ?_, fun a o e n => ?_, fun p hp => ?_, ?_⟩
    · refine S2.keep a o (h1of a o (S.keep a o e n) (old a o e)) fun hd => ?_
      obtain ⟨x, hx, q, hw⟩ := d1 a hd
      exact n (q ▸ (S.own x (inO x hx)).2.2.1 hw)
    · obtain ⟨o', e'⟩ := S.live a o e
      exact S2.live a o' (h1of a o' e' (old a o e))
    · obtain ⟨o', e'⟩ := S.live a o e
      exact S2.new a o' (h1of a o' e' (old a o e)) (S.new a o e n)
    · rcases List.mem_append.mp hp with hp | hp
      · obtain ⟨g1, g2, g3, g4⟩ := S2.own p hp
        refine ⟨g1, fun hw => ?_, fun hw => ?_, g4⟩
        · have g2 := g2 hw
          cases e : H0 p.a with
          | none => rfl
          | some o =>
            obtain ⟨o', e'⟩ := S.live p.a o e
            rw [h1of p.a o' e' (old p.a o e)] at g2
            cases g2
        · obtain ⟨x, hx, q, hw'⟩ := d1 _ (g3 hw)
          exact q ▸ (S.own x (inO x hx)).2.2.1 hw'
      · obtain ⟨g1, g2, g3, vs, g4, g5, g6⟩ := S.own p (inX p hp)
        have n : ∀ e ∈ O, e.a = p.a → e.nw = false := fun e he q => (dj e he p hp q).elim
        have k1 := h1of p.a _ g4 n
        refine ⟨S2.new _ _ k1 g1, g2, g3, vs, S2.keep _ _ k1 fun hd => ?_, g5, g6.up S2.f0⟩
        obtain ⟨x, hx, q, _⟩ := d1 _ hd
        exact dj x hx p hp q
    · rw [List.map_append, List.nodup_append]
      have := S.nd
      rw [List.map_append, List.nodup_append] at this
      refine ⟨S2.nd, this.2.1, fun a ha b hb q => ?_⟩
      subst q
      obtain ⟨e, he, rfl⟩ := List.mem_map.mp ha
      obtain ⟨x, hx, q⟩ := List.mem_map.mp hb
      obtain ⟨g1, g2, g3, vs, g4, g5, g6⟩ := S.own x (inX x hx)
      have n : ∀ e ∈ O, e.a = x.a → e.nw = false := fun e he q => (dj e he x hx q).elim
      have k1 := h1of x.a _ g4 n
      obtain ⟨k2, k3, k4, _⟩ := S2.own e he
      cases hw : e.nw with
      | true =>
        have := k3 hw
        rw [← q, k1] at this
        cases this
      | false =>
        obtain ⟨y, hy, q2, _⟩ := d1 _ (k4 hw)
        exact dj y hy x hx (q2.trans q.symm)
/-- arguments that are own lists, each by itself -/
structure RAo (K : Fg) (t : TA) (ρ : List Sl) (O : Os) (ess : List (List PyData)) (O' : Os) : Prop where
  run : ∀ (F0 H0 : Hp) (D0 : List Addr) (σ : L2.St) (F H : Hp) (Q : List V → Hp → Prop), EnvR K F σ ρ → Hx K F0 H0 D0 F O H →
    (∀ ps F' H', Same F F' → ps.length = ess.length → Hx K F0 H0 D0 F' (towOs ps ess ++ O') H' → Q (ps.map .ref) H') → t σ H Q
theorem rao_nil : RAo K tNil ρ O [] O := ⟨fun _ _ _ _ _ _ Q E S k => k [] _ _ (Same.refl _) rfl S⟩
theorem rao_cons {te : TE} {t : TA} {es : List PyData} (h : RXo K te ρ O es O1) (ht : RAo K t ρ O1 ess O2) : RAo K (tCons te t) ρ O (es :: ess) O2 := ⟨fun _ _ _ _ _ _ Q E S k =>
  h.go E S fun p F1 H1 f1 E1 S1 => by
    obtain ⟨H1', D1, Sf, back⟩ := Hx.fr (X := [⟨p, true, es⟩]) (S1.perm (List.perm_append_singleton (⟨p, true, es⟩ : OE) O1).symm)
    refine ht.run _ _ _ _ _ _ _ E1 Sf fun ps F2 H2 f2 hl S2 => k (p :: ps) F2 H2 (f1.trans f2) (by rw [List.length_cons, List.length_cons, hl]) ?_
    exact (back _ _ _ S2).perm (List.perm_append_singleton _ _)⟩
theorem rxo_own {i j : Nat} {p : Addr} {ds : List PyData} (hs : ρ[i]? = some (.adr p)) (ho : O[j]? = some ⟨p, true, ds⟩) : RXo K (tVar i) ρ O ds (O.eraseIdx j) := ⟨fun _ _ _ _ _ _ Q E S k => by
  exact ⟨_, E.adr hs, k p _ _ (Same.refl _) (S.perm (perm_erase _ _ _ ho))⟩⟩
theorem st_retT {t : TA} {D : Ends} (h : RAo K t ρ O ess O') (E : EnvR K F σ ρ) (S : Hx K F0 H0 D0 F O H)
    (k : ∀ (T : Addr) (ps : List Addr) (F' H' : Hp), Same F F' → ps.length = ess.length → SqT K F' T (ps.map .ref) → Hx K F0 H0 D0 F' (towOs ps ess ++ O') H' → D.rt (.ref T) H') (hz : ess.length ≤ 1000 := by exact Nat.le_of_ble_eq_true rfl) : tRet (tTup t) D σ H :=
  h.run _ _ _ _ _ _ _ E S fun ps F1 H1 f1 hl S1 => by
    refine ⟨by rw [List.length_map, hl]; exact Nat.le_trans hz (by decide), fun T hT => ?_⟩
    exact k T ps _ _ (f1.trans (same_upd (S1.nof hT))) hl (SqT.of upd_same) (S1.put hT)
/-- what a def promises that hands back a tuple of new lists -/
def SpT (K : Fg) (R : List PyData → List (List PyData) → Prop) : Sp := fun vs H Q _ => ∃ F ds ess, RpAll K F vs ds ∧ Same F H ∧ R ds ess ∧
  ∀ (T : Addr) (ps : List Addr) (F' H' : Hp), Stp [] F H F' H' → SqT K F' T (ps.map .ref) → ps.length = ess.length → ps.Nodup → (∀ (i : Nat) p es, ps[i]? = some p → ess[i]? = some es → H p = none ∧ F' p = none ∧ ∃ xs, H' p = some (.lst xs) ∧ xs.length ≤ sizeLine ∧ RpAll K F' xs es) → Q (.ref T) H'
theorem st_len {R : List PyData → List (List PyData) → Prop} {n : Nat} (h : ∀ ds d, R ds d → ds.length = n) : ∀ vs H Q E, SpT K R vs H Q E → vs.length = n := fun vs H Q E ⟨F, ds, d, r, _, hR, _⟩ => r.length.trans (h ds d hR)
theorem tow_map (hl : ps.length = ess.length) : (towOs ps ess).map OE.a = ps := by
  unfold towOs
  induction ps generalizing ess with
  | nil => rfl
  | cons p ps ih =>
    cases ess with
    | nil => cases hl
    | cons e ess => rw [List.zipWith_cons_cons, List.map_cons, ih (by simpa using hl)]
theorem tow_get {i : Nat} {p : Addr} {es : List PyData} (h : ps[i]? = some p) (h' : ess[i]? = some es) : (towOs ps ess)[i]? = some ⟨p, true, es⟩ := by
  unfold towOs
  rw [List.getElem?_zipWith, h, h']
theorem tow_of {e : OE} (h : e ∈ towOs ps ess) : ∃ i : Nat, ps[i]? = some e.a ∧ ess[i]? = some e.ds ∧ e.nw = true := by
  obtain ⟨i, q⟩ := List.mem_iff_getElem?.mp h
  unfold towOs at q
  rw [List.getElem?_zipWith] at q
  split at q
  · rename_i a b h1 h2
    cases q
    exact ⟨i, h1, h2, rfl⟩
  · cases q
/-- the end of such a def -/
theorem Hx.outT (S : Hx K F0 H0 D0 F (towOs ps ess ++ O) H) (hl : ps.length = ess.length) : ps.Nodup ∧ ∀ (i : Nat) p es, ps[i]? = some p → ess[i]? = some es → H0 p = none ∧ F p = none ∧ ∃ xs, H p = some (.lst xs) ∧ xs.length ≤ sizeLine ∧ RpAll K F xs es := by
  refine ⟨?_, fun i p es h h' => ?_⟩
  · have := S.nd
    rw [List.map_append, List.nodup_append, tow_map hl] at this
    exact this.1
  · obtain ⟨g1, g2, g3, g4⟩ := S.own _ (List.mem_append_left _ (List.mem_of_getElem? (tow_get h h')))
    exact ⟨g2 rfl, g1, g4⟩
/-- new own lists behind a call -/
theorem Hx.inT (S : Hx K F0 H0 D0 F O H) (st : Stp [] F H F' H') (hl : ps.length = ess.length) (nd : ps.Nodup) (h : ∀ (i : Nat) p es, ps[i]? = some p → ess[i]? = some es → H p = none ∧ F' p = none ∧ ∃ xs, H' p = some (.lst xs) ∧ xs.length ≤ sizeLine ∧ RpAll K F' xs es) :
    Hx K F0 H0 D0 F' (towOs ps ess ++ O) H' := by
  have S2 := S.call st
  refine ⟨S2.f0, S2.fh, S2.keep, S2.live, S2.new, fun e he => ?_, ?_⟩
  · rcases List.mem_append.mp he with he | he
    · obtain ⟨i, q1, q2, q3⟩ := tow_of he
      obtain ⟨g1, g2, g3⟩ := h i _ _ q1 q2
      exact ⟨g2, fun _ => S.noh0 g1, (fun z => by rw [q3] at z; cases z), g3⟩
    · exact S2.own e he
  · rw [List.map_append, List.nodup_append, tow_map hl]
    refine ⟨nd, S2.nd, fun a ha b hb q => ?_⟩
    subst q
    obtain ⟨e, he, rfl⟩ := List.mem_map.mp hb
    obtain ⟨_, _, _, vs, g4, _⟩ := S.own e he
    obtain ⟨i, q⟩ := List.mem_iff_getElem?.mp ha
    have hi : i < ess.length := by rw [← hl]; exact (List.getElem?_eq_some_iff.mp q).1
    obtain ⟨g1, _⟩ := h i _ _ q (List.getElem?_eq_getElem hi)
    rw [g1] at g4
    cases g4
variable {t : TA} {D : Ends} {R : List PyData → List (List PyData) → Prop} {ds : List PyData} {E0 : XK}
theorem st_setT {i : Nat} (hR : R ds ess) (ha : RA K t ρ O (ds.map .val) O1) (E : EnvR K F σ ρ) (S : Hx K F0 H0 D0 F O H)
    (k : ∀ (ps : List Addr) (σ' : L2.St) (F' H' : Hp), ps.length = ess.length → Same F F' → EnvR K F' σ' (ρ.set i (.tow ps)) → Hx K F0 H0 D0 F' (towOs ps ess ++ O1) H' → D.nx σ' H') : tAsg (tCall (SpT K R) [] E0 t) (gName i) D σ H :=
  ha.go E S fun vs F1 H1 f1 E1 S1 r1 => by
    show SpT K R (vs ++ []) H1 _ E0
    rw [List.append_nil]
    exact ⟨F1, ds, ess, r1.all, S1.fh, hR, fun T ps F' H' st q hl nd h => k ps _ F' H' hl (f1.trans st.ff) (EnvR.set (s := some (.ref T)) (r := .tow ps) ⟨T, rfl, q⟩ i (E1.up st.ff)) (S1.inT st hl nd h)⟩
theorem st_retCT (hR : R ds ess) (ha : RA K t ρ O (ds.map .val) O1) (E : EnvR K F σ ρ) (S : Hx K F0 H0 D0 F O H)
    (k : ∀ (T : Addr) (ps : List Addr) (F' H' : Hp), Same F F' → ps.length = ess.length → SqT K F' T (ps.map .ref) → Hx K F0 H0 D0 F' (towOs ps ess ++ O1) H' → D.rt (.ref T) H') : tRet (tCall (SpT K R) [] E0 t) D σ H :=
  ha.go E S fun vs F1 H1 f1 E1 S1 r1 => by
    show SpT K R (vs ++ []) H1 _ E0
    rw [List.append_nil]
    exact ⟨F1, ds, ess, r1.all, S1.fh, hR, fun T ps F' H' st q hl nd h => k T ps F' H' (f1.trans st.ff) hl q (S1.inT st hl nd h)⟩
theorem Hx.frzT (S : Hx K F0 H0 D0 F (towOs ps ess ++ O) H) (hl : ps.length = ess.length) : ∃ F', Same F F' ∧ Hx K F0 H0 D0 F' O H ∧ RpAll K F' (ps.map .ref) (ess.map .list) := by
  induction ps generalizing ess F with
  | nil =>
    cases ess with
    | nil => exact ⟨F, Same.refl _, S, .nil⟩
    | cons e ess => cases hl
  | cons p ps ih =>
    cases ess with
    | nil => cases hl
    | cons e ess =>
      obtain ⟨F1, f1, S1, r1⟩ := S.frz (j := 0) (l := p) (ds := e) rfl
      obtain ⟨F2, f2, S2, r2⟩ := ih (ess := ess) S1 (by simpa using hl)
      exact ⟨F2, f1.trans f2, S2, .cons (r1.up f2) r2⟩
theorem SpT.toP {R' : List PyData → PyData → Prop} (hi : ∀ ds d, R' ds d → ∃ ess, R ds ess ∧ d = .tuple (ess.map .list) ∧ ess.length ≤ 1000) : ∀ vs H Q E, SpP K R' vs H Q E → SpT K R vs H Q E := fun vs H Q E ⟨F, ds, d, r, fh, hR, k⟩ => by
  obtain ⟨ess, hR2, rfl, hz⟩ := hi ds d hR
  refine ⟨F, ds, ess, r, fh, hR2, fun T ps F' H' st q hl nd h => ?_⟩
  have S := (Hx.start (K := K) fh).inT st hl nd h
  obtain ⟨F2, f2, S2, r2⟩ := S.frzT hl
  exact k _ F2 H' S2.stp (.tup (same_t f2 q) (by rw [List.length_map, hl]; exact Nat.le_trans hz (by decide)) r2)
/-! ### how such a tuple is read -/
theorem rxh_tow {i : Nat} (hs : ρ[i]? = some (.tow ps)) (ht : Tow O ps ess) (hz : ess.length ≤ 1000 := by exact Nat.le_of_ble_eq_true rfl) : RXh K (tVar i) ρ O (.tuple (ess.map .list)) O := ⟨fun _ _ _ _ _ _ Q E S k => by
  obtain ⟨T, h1, h2⟩ := E.tow hs
  refine ⟨_, h1, k _ _ _ (Same.refl _) S fun F2 H2 f2 S2 => .tup (same_t (f2.trans S2.fh) h2) ?_ (ht.rp S2)⟩
  rw [List.length_map, ht.lens]
  exact Nat.le_trans hz (by decide)⟩
theorem rxs_tow {i j n : Nat} {p : Addr} {nw : Bool} {es : List PyData} (hs : ρ[i]? = some (.tow ps)) (hp : L2.atI (ps.map V.ref) (n : Int) = some (.ref p)) (ho : O[j]? = some ⟨p, nw, es⟩) : RXs K (tOp (rIxT K) (tVar i) (tC (.int n))) ρ O es O := ⟨fun _ _ _ _ _ _ Q E S k => by
  obtain ⟨T, h1, h2⟩ := E.tow hs
  refine ⟨_, h1, T, _, (n : Int), _, rfl, rfl, same_t S.fh h2, hp, k p _ _ (Same.refl _) S fun F2 H2 f2 S2 => ?_⟩
  obtain ⟨_, _, _, vs, h4, h5, h6⟩ := S2.get ho
  exact ⟨vs, SqL.of h4, h5, h6⟩⟩
variable {ta tb : TE}
theorem rx_isiH {c : String} {r : Bool} {d : PyData} (ha : RXh K ta ρ O d O1) (h : kitB (tyN d) c = some r) : RX K (tCB (rIsi K) (tCons ta (tCons (tC (.ty c)) tNil))) ρ O (.bool r) O1 := ⟨fun _ _ _ _ _ _ Q E S k => ha.go E S fun x F1 H1 f1 E1 S1 r1 =>
  ⟨x, .ty c, _, _, r, rfl, .ty c, (r1 F1 H1 (Same.refl _) S1).ty, kit_ty h, k _ F1 H1 f1 S1 (.bl r)⟩⟩
/-- a call that reads its two arguments, by the whole heap -/
theorem rx_callH {R : List PyData → PyData → Prop} {d e : PyData} {b : Bool} (hR : R [d, e] (.bool b)) (ha : RXh K ta ρ O d O1) (hb : RXh K tb ρ O1 e O1) : RX K (tCall (SpP K R) [] E0 (tCons ta (tCons tb tNil))) ρ O (.bool b) O1 := ⟨fun _ _ _ _ _ _ Q E S k =>
  ha.go E S fun x F1 H1 f1 E1 S1 r1 => hb.go E1 S1 fun y F2 H2 f2 E2 S2 r2 => by
    refine ⟨H2, [d, e], .bool b, .cons (r1 F2 H2 f2 S2) (.cons (r2 F2 H2 (Same.refl _) S2) .nil), Same.refl _, hR, fun v F' H' st r => ?_⟩
    have keep : Same H2 H' := fun a o q => st.keep a o q (by simp)
    cases r
    exact k _ F2 H' (f1.trans f2) (S2.call ⟨Same.refl _, S2.fh.trans keep, st.keep, st.live, fun _ _ _ q => q⟩) (.bl b)⟩
/-- an own list behind the others is moved to the front -/
theorem tow_move (A : Os) (p : Addr) (es : List PyData) (B : Os) : (A ++ ⟨p, true, es⟩ :: B).Perm (⟨p, true, es⟩ :: (A ++ B)) := List.perm_middle
/-- for part in t: .., which changes the part -/
theorem st_forT {i j : Nat} {tb : TS} {g : List PyData → List PyData} (ρ1 : List Sl) (hs : ρ[i]? = some (.tow ps)) (hl : ps.length = ess.length) (E : EnvR K F σ ρ) (S : Hx K F0 H0 D0 F (towOs ps ess ++ O) H) (hW : Wk ρ ρ1)
    (kn : ∀ σ' F' H', Same F F' → EnvR K F' σ' ρ1 → Hx K F0 H0 D0 F' (towOs ps (ess.map g) ++ O) H' → D.nx σ' H')
    (body : ∀ es ∈ ess, ∀ σ1 F1 H1 p Or, Same F F1 → EnvR K F1 σ1 (ρ1.set j (.adr p)) → Hx K F0 H0 D0 F1 (⟨p, true, es⟩ :: Or) H1 →
      ∀ (N B : L2.St → Hp → Prop), (∀ σ' F' H', Same F1 F' → EnvR K F' σ' ρ1 → Hx K F0 H0 D0 F' (⟨p, true, g es⟩ :: Or) H' → N σ' H') → tb { D with nx := N, ct := N, bk := B } σ1 H1) :
    tFor (iTup K (tVar i)) (gName j) tb D σ H := by
  obtain ⟨T, h1, h2⟩ := E.tow hs
  refine ⟨_, h1, T, rfl, ⟨_, same_t S.fh h2⟩, ?_⟩
  have hlen : (ps.map V.ref).length = ps.length := List.length_map _
  refine for_it (walk_tup (K := K) (a := T) (xs := ps.map V.ref)) (fun n σ H => ∃ F2, Same F F2 ∧ EnvR K F2 σ ρ1 ∧ Hx K F0 H0 D0 F2 (towOs (ps.take n) ((ess.map g).take n) ++ (towOs (ps.drop n) (ess.drop n) ++ O)) H)
    ⟨F, Same.refl _, E.weak hW, S⟩ (fun n σ H _ q => by obtain ⟨F2, q1, _, q4⟩ := q; exact same_t (q1.trans q4.fh) h2) (fun n x σ H H' hn q y => ?_) (fun σ H q => ?_)
  · obtain ⟨F2, q1, q3, q4⟩ := q
    obtain ⟨e, y⟩ := y
    subst e
    rw [hlen] at hn
    have hn2 : n < ess.length := by omega
    have hx : x = V.ref ps[n] := by
      rw [List.getElem?_map, List.getElem?_eq_getElem hn] at y
      exact (Option.some.inj y).symm
    subst hx
    rw [drop_cons hn2, drop_cons hn] at q4
    have q4 := q4.perm (tow_move _ _ _ _)
    refine body _ (List.getElem_mem hn2) _ F2 H' ps[n] _ q1 (q3.seta j) q4 _ _ (fun σ' F' H2 ff E' S' => ⟨F', q1.trans ff, E', ?_⟩)
    have S' := S'.perm (tow_move _ _ _ _).symm
    have t1 : towOs (ps.take (n + 1)) ((ess.map g).take (n + 1)) = towOs (ps.take n) ((ess.map g).take n) ++ [⟨ps[n], true, g ess[n]⟩] := by
      unfold towOs
      have hn3 : n < (ess.map g).length := by rw [List.length_map]; exact hn2
      rw [List.take_succ_eq_append_getElem hn, List.take_succ_eq_append_getElem hn3, List.zipWith_append (by rw [List.length_take, List.length_take, List.length_map, hl]), List.getElem_map]
      rfl
    rw [t1, List.append_assoc]
    exact S'
  · obtain ⟨F2, q1, q3, q4⟩ := q
    rw [hlen, List.take_length, hl, List.drop_length] at q4
    have e : (ess.map g).take ess.length = ess.map g := List.take_of_length_le (by rw [List.length_map]; exact Nat.le_refl _)
    have e2 : ps.drop ess.length = [] := by rw [← hl, List.drop_length]
    rw [e, e2] at q4
    exact kn σ F2 H q1 q3 q4
/-- .. is frozen -/
theorem frz_tow {i : Nat} (hs : ρ[i]? = some (.tow ps)) (hl : ps.length = ess.length) (E : EnvR K F σ ρ) (S : Hx K F0 H0 D0 F (towOs ps ess ++ O) H) (hz : ess.length ≤ 1000 := by exact Nat.le_of_ble_eq_true rfl) :
    ∃ F', Same F F' ∧ EnvR K F' σ (ρ.set i (.val (.tuple (ess.map .list)))) ∧ Hx K F0 H0 D0 F' O H := by
  obtain ⟨T, h1, h2⟩ := E.tow hs
  obtain ⟨F', f, S', r⟩ := S.frzT hl
  have E2 := EnvR.setv (E.up f) (v := .ref T) (.tup (same_t f h2) (by rw [List.length_map, hl]; exact Nat.le_trans hz (by decide)) r) i
  have e : σ.set i (some (.ref T)) = σ := by
    apply List.ext_getElem?
    intro n
    by_cases e : i = n
    · subst e
      rw [List.getElem?_set_self (List.getElem?_eq_some_iff.mp h1).1, h1]
    · rw [List.getElem?_set_ne e]
  rw [e] at E2
  exact ⟨F', f, E2, S'⟩
theorem len3 {α β : Type} {ps : List α} {a b c : β} (h : ps.length = [a, b, c].length) : ∃ p q r, ps = [p, q, r] := by
  match ps, h with
  | [p, q, r], _ => exact ⟨p, q, r, rfl⟩
/-- the slots as the whole heap shows them -/
inductive Vw (O : Os) : List Sl → List Sl → Prop
  | nil : Vw O [] []
  | same {r : Sl} {ρ ρ' : List Sl} (h : (∃ d, r = .val d) ∨ r = .un) : Vw O ρ ρ' → Vw O (r :: ρ) (r :: ρ')
  | adr (j : Nat) {a : Addr} {nw : Bool} {ds : List PyData} {ρ ρ' : List Sl} (h : O[j]? = some ⟨a, nw, ds⟩) : Vw O ρ ρ' → Vw O (.adr a :: ρ) (.val (.list ds) :: ρ')
  | tow {ps : List Addr} {ess : List (List PyData)} {ρ ρ' : List Sl} (h : Tow O ps ess) (hz : ess.length ≤ 1000) : Vw O ρ ρ' → Vw O (.tow ps :: ρ) (.val (.tuple (ess.map .list)) :: ρ')
theorem EnvR.whole {ρ' : List Sl} (w : Vw O ρ ρ') (S : Hx K F0 H0 D0 F O H) : ∀ {σ : L2.St}, EnvR K F σ ρ → EnvR K H σ ρ' := by
  induction w with
  | nil => intro σ E; cases E; exact .nil
  | same h _ ih =>
    intro σ E
    cases E with
    | cons r t => exact .cons (r.up S.fh) (ih t)
  | adr j h _ ih =>
    intro σ E
    cases E with
    | cons r t =>
      obtain ⟨_, _, _, vs, h4, h5, h6⟩ := S.get h
      exact .cons ⟨_, r, .lst (SqL.of h4) h5 (h6.up S.fh)⟩ (ih t)
  | tow h hz _ ih =>
    intro σ E
    cases E with
    | cons r t =>
      obtain ⟨T, h1, h2⟩ := r
      exact .cons ⟨_, h1, .tup (same_t S.fh h2) (by rw [List.length_map, h.lens]; exact Nat.le_trans hz (by decide)) (h.rp S)⟩ (ih t)
/-- a truth that is reckoned from what stands -/
theorem rx_whole {ρ' : List Sl} {b : Bool} (w : Vw O ρ ρ') (h : RX K ta ρ' [] (.bool b) []) : RX K ta ρ O (.bool b) O := ⟨fun _ _ _ _ F H Q E S k => by
  refine h.run _ _ _ _ _ _ Q (E.whole w S) (Hx.start (Same.refl H)) fun v F' H' f S' r => ?_
  have st := S'.stp
  have keep : Same H H' := fun a o q => st.keep a o q (by simp)
  cases r
  exact k _ F H' (Same.refl _) (S.call ⟨Same.refl _, S.fh.trans keep, st.keep, st.live, fun _ _ _ q => q⟩) (.bl b)⟩
end
end TL
namespace TL
open PySem L2
/-- a module's own number, text -/
theorem pe_gint {X : Cx} {x : Str} {i : Int} {pos : Pos} (h : ∃ t, X.mg x = some (.int i t)) (hg : Gl X x := by rfl) (hd : (x == ("__debug__" : Str)) = false := by decide) : PE X (.Name x pos) (tC (.int i)) := by
  obtain ⟨t, e⟩ := h
  exact pe_glob hg e ⟨t, rfl⟩ hd
theorem pe_gstr {X : Cx} {x z : Str} {pos : Pos} (h : ∃ t, X.mg x = some (.str z t)) (hg : Gl X x := by rfl) (hd : (x == ("__debug__" : Str)) = false := by decide) : PE X (.Name x pos) (tC (.str z)) := by
  obtain ⟨t, e⟩ := h
  exact pe_glob hg e ⟨t, rfl⟩ hd
end TL

namespace TL
open PySem L2
/-- it is told, and what is told is so -/
def Ok {α : Type} (m : Option α) (P : α → Prop) : Prop := ∃ r, m = some r ∧ P r
namespace Ok
variable {α β γ S R : Type}
theorem pure {P : α → Prop} {r : α} (h : P r) : Ok (some r) P := ⟨r, rfl, h⟩
theorem bind {m : Option α} {f : α → Option β} {P : α → Prop} {Q : β → Prop} (h : Ok m P) (k : ∀ r, P r → Ok (f r) Q) : Ok (m.bind f) Q := by
  obtain ⟨r, e, p⟩ := h
  subst e
  exact k r p
theorem bindE {m : Option α} {f : α → Option β} {P : α → Prop} {Q : β → Prop} (h : Ok m P) (k : ∀ r, m = some r → P r → Ok (f r) Q) : Ok (m.bind f) Q := by
  obtain ⟨r, e, p⟩ := h
  have := k r e p
  subst e
  exact this
theorem lt {x : α} {f : α → Option β} {Q : β → Prop} (k : Ok (f x) Q) : Ok ((some x).bind f) Q := k
theorem mono {m : Option α} {P Q : α → Prop} (h : Ok m P) (k : ∀ r, P r → Q r) : Ok m Q := by
  obtain ⟨r, e, p⟩ := h
  exact ⟨r, e, k r p⟩
theorem ite {c : Prop} [Decidable c] {a b : Option α} {Q : α → Prop} (h : c → Ok a Q) (k : ¬c → Ok b Q) : Ok (if c then a else b) Q := by
  split
  · exact h ‹_›
  · exact k ‹_›
theorem eqv {m : Option α} {P : α → Prop} {v : α} (h : Ok m P) (k : ∀ r, P r → r = v) : m = some v := by
  obtain ⟨r, e, p⟩ := h
  rw [e, k r p]
theorem forS {f : α → S → Option S} (I : S → Prop) : ∀ (xs : List α) (s : S), I s → (∀ x ∈ xs, ∀ s, I s → Ok (f x s) I) → Ok (forS f xs s) I
  | [], s, h, _ => ⟨s, rfl, h⟩
  | x :: xs, s, h, k => bind (k x (List.mem_cons_self ..) s h) fun s' h' => Ok.forS I xs s' h' fun y hy => k y (List.mem_cons_of_mem _ hy)
/-- the state by what was gone through -/
theorem forSd {f : α → S → Option S} (I : List α → S → Prop) : ∀ (xs ds : List α) (s : S), I ds s → (∀ x ds rs s, I ds s → ds ++ x :: rs = ds ++ xs.drop (ds.length - ds.length) ∨ True → x ∈ xs → Ok (f x s) (I (ds ++ [x]))) → Ok (TL.forS f xs s) (I (ds ++ xs))
  | [], ds, s, h, _ => ⟨s, rfl, by rw [List.append_nil]; exact h⟩
  | x :: xs, ds, s, h, k => bind (k x ds xs s h (.inr trivial) (List.mem_cons_self ..)) fun s' h' => by
      have := Ok.forSd I xs (ds ++ [x]) s' h' fun y ds' rs s q _ m => k y ds' rs s q (.inr trivial) (List.mem_cons_of_mem _ m)
      rw [List.append_assoc] at this
      exact this
/-- the state by how many were gone through -/
theorem forSi {f : α → S → Option S} (I : Nat → S → Prop) : ∀ (xs : List α) (n : Nat) (s : S), I n s → (∀ (i : Nat) (x : α) (s : S), xs[i]? = some x → I (n + i) s → Ok (f x s) (I (n + i + 1))) → Ok (TL.forS f xs s) (I (n + xs.length))
  | [], n, s, h, _ => ⟨s, rfl, h⟩
  | x :: xs, n, s, h, k => bind (k 0 x s rfl h) fun s' h' => by
      have := Ok.forSi I xs (n + 1) s' h' fun i y s e q => by
        have := k (i + 1) y s e (by rw [show n + (i + 1) = n + 1 + i by omega]; exact q)
        rw [show n + (i + 1) + 1 = n + 1 + i + 1 by omega] at this
        exact this
      rw [show n + 1 + xs.length = n + (x :: xs).length by simp; omega] at this
      exact this
/-- gone through whole -/
theorem forF {f : α → S → Option (Fl S R)} (I : S → Prop) : ∀ (xs : List α) (s : S), I s → (∀ x ∈ xs, ∀ s, I s → Ok (f x s) fun r => ∃ s', r = .nx s' ∧ I s') → Ok (forF f xs s) fun r => ∃ s', r = .nx s' ∧ I s'
  | [], s, h, _ => ⟨.nx s, rfl, s, rfl, h⟩
  | x :: xs, s, h, k => by
    obtain ⟨r, e, s', rfl, h'⟩ := k x (List.mem_cons_self ..) s h
    have := Ok.forF I xs s' h' fun y hy => k y (List.mem_cons_of_mem _ hy)
    unfold TL.forF
    rw [e]
    exact this
theorem mapO {f : α → Option β} {P : α → β → Prop} : ∀ (xs : List α), (∀ x ∈ xs, Ok (f x) (P x)) → Ok (mapO f xs) fun ys => ys.length = xs.length ∧ ∀ (i : Nat) x y, xs[i]? = some x → ys[i]? = some y → P x y
  | [], _ => ⟨[], rfl, rfl, fun i x y h => by simp at h⟩
  | x :: xs, h => bind (h x (List.mem_cons_self ..)) fun y hy => bind (Ok.mapO xs fun z hz => h z (List.mem_cons_of_mem _ hz)) fun ys hys => ⟨_, rfl, by simp [hys.1], fun i u v hu hv => by
    cases i with
    | zero => simp at hu hv; subst hu; subst hv; exact hy
    | succ i => exact hys.2 i u v hu hv⟩
theorem mapS {f : α → S → Option (β × S)} (P : α → β → Prop) (I : S → Prop) : ∀ (xs : List α) (s : S), I s → (∀ x ∈ xs, ∀ s, I s → Ok (f x s) fun r => P x r.1 ∧ I r.2) → Ok (mapS f xs s) fun r => I r.2 ∧ r.1.length = xs.length ∧ ∀ (i : Nat) x y, xs[i]? = some x → r.1[i]? = some y → P x y
  | [], s, h, _ => ⟨([], s), rfl, h, rfl, fun i x y h => by simp at h⟩
  | x :: xs, s, h, k => bind (k x (List.mem_cons_self ..) s h) fun r hr => bind (Ok.mapS P I xs r.2 hr.2 fun z hz => k z (List.mem_cons_of_mem _ hz)) fun ys hys => ⟨_, rfl, hys.1, by simp [hys.2.1], fun i u v hu hv => by
    cases i with
    | zero => simp at hu hv; subst hu; subst hv; exact hr.1
    | succ i => exact hys.2.2 i u v hu hv⟩
theorem atI {xs : List α} {i : Int} (h0 : 0 ≤ i) (h1 : i < xs.length) : Ok (atI xs i) fun x => xs[i.toNat]? = some x := by
  unfold L2.atI ixN
  rw [if_pos h0, if_pos h1]
  have : i.toNat < xs.length := by omega
  exact ⟨xs[i.toNat], by simp [this], by simp [this]⟩
theorem atIN {xs : List α} {i : Int} (h0 : i < 0) (h1 : 0 ≤ i + xs.length) : Ok (L2.atI xs i) fun x => xs[(i + xs.length).toNat]? = some x := by
  unfold L2.atI ixN
  rw [if_neg (by omega), if_pos (by omega)]
  have : (i + xs.length).toNat < xs.length := by omega
  exact ⟨xs[(i + xs.length).toNat], by simp [this], by simp [this]⟩
theorem setO {xs : List α} {i : Int} {x : α} (h0 : 0 ≤ i) (h1 : i < xs.length) : Ok (setO xs i x) fun r => r = xs.set i.toNat x := by
  unfold TL.setO ixN
  rw [if_pos h0, if_pos h1]
  exact ⟨_, rfl, rfl⟩
theorem appO {xs : List α} {x : α} (h : xs.length < 16777216) : Ok (appO xs x) fun r => r = xs ++ [x] := by
  unfold TL.appO
  rw [if_pos h]
  exact ⟨_, rfl, rfl⟩
theorem modO {i j : Int} (h : 0 < j) : Ok (modO i j) fun r => r = i % j ∧ 0 ≤ r ∧ r < j := by
  unfold TL.modO
  rw [if_pos h]
  exact ⟨_, rfl, rfl, Int.emod_nonneg _ (by omega), Int.emod_lt_of_pos _ h⟩
theorem fdivO {i j : Int} (h : 0 < j) (h1 : j < 1073741824) : Ok (fdivO i j) fun r => r = i / j := by
  unfold TL.fdivO
  rw [if_pos ⟨h, h1⟩]
  exact ⟨_, rfl, rfl⟩
theorem mulO {i j : Int} (h : -18446744073709551616 < i) (h1 : i < 18446744073709551616) : Ok (mulO i j) fun r => r = i * j := by
  unfold TL.mulO
  rw [if_pos (.inl ⟨h, h1⟩)]
  exact ⟨_, rfl, rfl⟩
theorem rngO {n : Int} (h : -4611686018427387904 ≤ n) (h1 : n ≤ 16777216) : Ok (rngO n) fun r => r = rngL 0 n.toNat := by
  unfold TL.rngO
  rw [if_pos ⟨h, h1⟩]
  exact ⟨_, rfl, rfl⟩
theorem repO1 {x : α} {i : Int} (h : -9223372036854775808 ≤ i) (h1 : i ≤ 16777216) : Ok (repO [x] i) fun r => r = List.replicate i.toNat x := by
  unfold TL.repO
  rw [if_pos ⟨by simp; omega, by omega, by omega⟩]
  refine ⟨_, rfl, ?_⟩
  generalize i.toNat = n
  induction n with
  | zero => rfl
  | succ n ih => rw [List.replicate_succ, List.replicate_succ, List.flatten_cons, ih]; rfl
theorem maxO {xs : List Int} (h : xs ≠ []) : Ok (maxO xs) fun m => m ∈ xs ∧ ∀ x ∈ xs, x ≤ m := by
  unfold TL.maxO
  cases e : xs.max? with
  | none => rw [List.max?_eq_none_iff] at e; exact absurd e h
  | some m =>
    rw [List.max?_eq_some_iff] at e
    exact ⟨m, rfl, e⟩
theorem eqO [Enc α] [DecidableEq α] [EqD α] {x y : α} (h : EqD.ok x = true) (h1 : EqD.ok y = true) : Ok (eqO x y) fun r => r = decide (x = y) := by
  unfold TL.eqO
  rw [if_pos ⟨h, h1⟩]
  exact ⟨_, rfl, rfl⟩
end Ok
theorem mem_rngL {x lo : Int} {n : Nat} : x ∈ rngL lo n ↔ lo ≤ x ∧ x < lo + n := by
  unfold rngL
  rw [List.mem_map]
  constructor
  · rintro ⟨i, hi, rfl⟩
    rw [List.mem_range] at hi
    omega
  · rintro ⟨h1, h2⟩
    exact ⟨(x - lo).toNat, List.mem_range.mpr (by omega), by omega⟩
theorem rngL_get {x lo : Int} {n i : Nat} (h : (rngL lo n)[i]? = some x) : i < n ∧ x = lo + i := by
  unfold rngL at h
  rw [List.getElem?_map] at h
  have hi : i < n := by
    rcases Nat.lt_or_ge i n with q | q
    · exact q
    · rw [List.getElem?_eq_none (by simp; exact q)] at h; cases h
  rw [List.getElem?_eq_getElem (by simp; exact hi)] at h
  simp at h
  exact ⟨hi, h.symm⟩
theorem mem_get {α : Type} {xs : List α} {x : α} (h : x ∈ xs) : ∃ i : Nat, xs[i]? = some x := List.mem_iff_getElem?.mp h
theorem get_mem {α : Type} {xs : List α} {x : α} {i : Nat} (h : xs[i]? = some x) : x ∈ xs := List.mem_iff_getElem?.mpr ⟨i, h⟩
theorem get_lt {α : Type} {xs : List α} {x : α} {i : Nat} (h : xs[i]? = some x) : i < xs.length := by
  rcases Nat.lt_or_ge i xs.length with q | q
  · exact q
  · rw [List.getElem?_eq_none q] at h; cases h
theorem lt_get {α : Type} {xs : List α} {i : Nat} (h : i < xs.length) : ∃ x, xs[i]? = some x := ⟨xs[i], List.getElem?_eq_getElem h⟩
theorem cutL_to {α : Type} (xs : List α) (n : Int) (h : 0 ≤ n) : cutL xs none (some n) = xs.take n.toNat := by
  unfold cutL HT.sIx
  simp only
  rw [if_neg (by omega)]
  simp only [List.drop_zero, Nat.sub_zero]
  rcases Nat.le_total n.toNat xs.length with q | q
  · rw [Nat.min_eq_left q]
  · rw [Nat.min_eq_right q, List.take_of_length_le (Nat.le_refl _), List.take_of_length_le q]
/-- each y of the told list belongs to an x -/
theorem all_of {α β : Type} {xs : List α} {ys : List β} {P : α → β → Prop} (hl : ys.length = xs.length) (h : ∀ (i : Nat) x y, xs[i]? = some x → ys[i]? = some y → P x y) : ∀ y ∈ ys, ∃ x ∈ xs, P x y := fun y hy => by
  obtain ⟨i, e⟩ := mem_get hy
  obtain ⟨x, ex⟩ := lt_get (xs := xs) (i := i) (by rw [← hl]; exact get_lt e)
  exact ⟨x, get_mem ex, h i x y ex e⟩
theorem all_to {α β : Type} {xs : List α} {ys : List β} {P : α → β → Prop} (hl : ys.length = xs.length) (h : ∀ (i : Nat) x y, xs[i]? = some x → ys[i]? = some y → P x y) : ∀ x ∈ xs, ∃ y ∈ ys, P x y := fun x hx => by
  obtain ⟨i, e⟩ := mem_get hx
  obtain ⟨y, ey⟩ := lt_get (xs := ys) (i := i) (by rw [hl]; exact get_lt e)
  exact ⟨y, get_mem ey, h i x y e ey⟩
end TL
namespace TL
theorem mem_dec {α : Type} (P : α → Prop) [DecidablePred P] {xs : List α} (h : xs.all (fun x => decide (P x)) = true) : ∀ x ∈ xs, P x := fun x hx => of_decide_eq_true (List.all_eq_true.mp h x hx)
end TL
namespace TL
open PySem L2
/-- an item of a list of whole numbers, 0 outside -/
def at0 (D : List Int) (i : Int) : Int := (D[i.toNat]?).getD 0
theorem at0_of {D : List Int} {i : Int} {x : Int} (h : D[i.toNat]? = some x) : at0 D i = x := by unfold at0; rw [h]; rfl
theorem at0_app (D : List Int) (x i : Int) (h0 : 0 ≤ i) : at0 (D ++ [x]) i = if i < D.length then at0 D i else if i = D.length then x else 0 := by
  unfold at0
  rw [List.getElem?_append]
  split
  · rw [if_pos (by omega)]
  · rw [if_neg (by omega)]
    split
    · rename_i h; rw [show i.toNat - D.length = 0 by omega]; rfl
    · rw [List.getElem?_eq_none (by simp; omega)]; rfl
theorem at0_set (D : List Int) (x i j : Int) (h0 : 0 ≤ i) (h1 : i < D.length) (h2 : 0 ≤ j) : at0 (D.set i.toNat x) j = if j = i then x else at0 D j := by
  unfold at0
  rw [List.getElem?_set]
  by_cases e : j = i
  · subst e; rw [if_pos rfl, if_pos rfl, if_pos (by omega)]; rfl
  · rw [if_neg (by omega), if_neg e]
theorem at0_rep (n : Nat) (x i : Int) (h0 : 0 ≤ i) (h1 : i < n) : at0 (List.replicate n x) i = x := by
  unfold at0
  rw [List.getElem?_replicate, if_pos (by omega)]; rfl
theorem Ok.at0 {xs : List Int} {i : Int} (h0 : 0 ≤ i) (h1 : i < xs.length) : Ok (L2.atI xs i) fun x => x = at0 xs i := (Ok.atI h0 h1).mono fun x h => (at0_of h).symm
theorem rngC_get {a c x : Int} {n i : Nat} (h : (rngC a c n)[i]? = some x) : i < n ∧ x = a + i * c := by
  unfold rngC at h
  rw [List.getElem?_map] at h
  have hi : i < n := by
    rcases Nat.lt_or_ge i n with q | q
    · exact q
    · rw [List.getElem?_eq_none (by simp; exact q)] at h; cases h
  rw [List.getElem?_eq_getElem (by simp; exact hi)] at h
  simp at h
  exact ⟨hi, h.symm⟩
theorem rngC_length (a c : Int) (n : Nat) : (rngC a c n).length = n := by unfold rngC; simp
theorem Ok.rngDownO {a b : Int} (h1 : -16777216 ≤ a) (h2 : a ≤ 16777216) (h3 : -16777216 ≤ b) (h4 : b ≤ 16777216) (h5 : a - b ≤ 16777216) : Ok (rngDownO a b) fun r => r = rngC a (-1) (a - b).toNat := by
  unfold TL.rngDownO
  rw [if_pos ⟨h1, h2, h3, h4, h5⟩]
  exact ⟨_, rfl, rfl⟩
end TL

namespace W
open PySem L2 TL
open Enc
def top (i : Nat) : Stmt := PySem.Challenge.pw_bearfaults_k27_threes_and_pairs.main.body.getD i (.Pass ⟨0, 0, 0, 0⟩)
structure Bi (mg : Str → Option Value) : Prop where
  triv : True
  all : mg "all" = none
  bool : mg "bool" = none
  c_MOST_GATES : ∃ t, mg "MOST_GATES" = some (.int 60 t)
  enumerate : mg "enumerate" = none
  int : mg "int" = none
  isinstance : mg "isinstance" = none
  len : mg "len" = none
  list : mg "list" = none
  min : mg "min" = none
  range : mg "range" = none
  str : mg "str" = none
  tuple : mg "tuple" = none
  zip : mg "zip" = none
def m_need_plain (v_net : (T3 (List (Str × Int)) (List (T3 Str (Tp Int) Bool)) (List (Str × (Tp Int))))) : Option (Unit) :=
(extO ((v_net.a.filter (fun (x2 : (Str × Int)) => (!decide (x2.2 = (1 : Int))))).map (fun (x2 : (Str × Int)) => (x2.1 : Str))) ((v_net.c.filter (fun (x6 : (Str × (Tp Int))) => (!decide ((x6.2.l.length : Int) = (1 : Int))))).map (fun (x6 : (Str × (Tp Int))) => (x6.1 : Str)))).bind fun t9 =>
(eqO (t9 : (List Str)) ([] : (List Str))).bind fun b11 =>
if (!b11) = true then (
none)
else (
some ())
def R_need_plain : List PyData → PyData → Prop := fun ds d => ∃ (v_net : (T3 (List (Str × Int)) (List (T3 Str (Tp Int) Bool)) (List (Str × (Tp Int))))) (r : Unit), ds = [enc (v_net : (T3 (List (Str × Int)) (List (T3 Str (Tp Int) Bool)) (List (Str × (Tp Int)))))] ∧ d = enc (r : Unit) ∧ m_need_plain v_net = some r
def m_copied (v_net : (T3 (List (Str × Int)) (List (T3 Str (Tp Int) Bool)) (List (Str × (Tp Int))))) (v_copies : Int) (v_votes : Bool) : Option ((T3 (List (Str × Int)) (List (T3 Str (Tp Int) Bool)) (List (Str × (Tp Int))))) :=
(m_need_plain v_net).bind fun r1 =>
(mulO v_copies ((1 : Int) + (b2n v_votes))).bind fun t3 =>
(mulO (v_net.b.length : Int) t3).bind fun t5 =>
if (decide ((60 : Int) < t5)) = true then (
none)
else (
(mulO (v_net.a.length : Int) v_copies).bind fun t7 =>
(mapO (fun (x10 : Int) => (mulO x10 v_copies).bind fun t15 => some (t15 : Int)) (rngL 0 v_net.a.length)).bind fun l17 =>
(mapO (fun (x20 : Int) => (mulO x20 t3).bind fun t27 => (mulO (b2n v_votes) v_copies).bind fun t29 => some (((t7 + t27) + t29) : Int)) (rngL 0 v_net.b.length)).bind fun l31 =>
(extO l17 l31).bind fun t33 =>
(some ([] : (List (T3 Str (Tp Int) Bool)))).bind fun v35 =>
(forS (S := List (T3 Str (Tp Int) Bool)) (fun (x40 : (Int × (T3 Str (Tp Int) Bool))) (s39 : List (T3 Str (Tp Int) Bool)) => (
(rngO v_copies).bind fun l44 =>
(mapO (fun (x47 : Int) => (mapO (fun (x61 : Int) => (atI t33 x61).bind fun t66 => some ((t66 + x47) : Int)) x40.2.b.l).bind fun l68 => some ((T3.mk x40.2.a (Tp.mk l68) x40.2.c) : (T3 Str (Tp Int) Bool))) l44).bind fun l70 =>
(extO s39 l70).bind fun u72 =>
(rngO v_copies).bind fun l74 =>
(mapO (fun (x77 : Int) => (mulO x40.1 t3).bind fun t82 => some (((t7 + t82) + x77) : Int)) l74).bind fun l84 =>
(some (Tp.mk l84)).bind fun v86 =>
(mulO v_copies (b2n v_votes)).bind fun t88 =>
(repO ([(T3.mk ("vote" : Str) v86 x40.2.c)] : (List (T3 Str (Tp Int) Bool))) t88).bind fun t90 =>
(extO u72 t90).bind fun u92 =>
some u92 : Option (List (T3 Str (Tp Int) Bool)))) (enumL v_net.b) v35).bind fun s94 =>
(mapO (fun (x96 : (Str × (Tp Int))) => (rngO v_copies).bind fun l115 => (mapO (fun (x118 : Int) => (atI x96.2.l (0 : Int)).bind fun t125 => (atI t33 t125).bind fun t127 => some ((t127 + x118) : Int)) l115).bind fun l129 => some ((x96.1, (Tp.mk l129)) : (Str × (Tp Int)))) v_net.c).bind fun l131 =>
some (T3.mk (v_net.a.map (fun (x135 : (Str × Int)) => ((x135.1, v_copies) : (Str × Int)))) s94 l131))
def RT_copied : List PyData → List (List PyData) → Prop := fun ds ess => ∃ (v_net : (T3 (List (Str × Int)) (List (T3 Str (Tp Int) Bool)) (List (Str × (Tp Int))))) (v_copies : Int) (v_votes : Bool) (r : (T3 (List (Str × Int)) (List (T3 Str (Tp Int) Bool)) (List (Str × (Tp Int))))), ds = [enc (v_net : (T3 (List (Str × Int)) (List (T3 Str (Tp Int) Bool)) (List (Str × (Tp Int))))), enc (v_copies : Int), enc (v_votes : Bool)] ∧ ess = [r.a.map enc, r.b.map enc, r.c.map enc] ∧ m_copied v_net v_copies v_votes = some r
def R_copied : List PyData → PyData → Prop := fun ds d => ∃ (v_net : (T3 (List (Str × Int)) (List (T3 Str (Tp Int) Bool)) (List (Str × (Tp Int))))) (v_copies : Int) (v_votes : Bool) (r : (T3 (List (Str × Int)) (List (T3 Str (Tp Int) Bool)) (List (Str × (Tp Int))))), ds = [enc (v_net : (T3 (List (Str × Int)) (List (T3 Str (Tp Int) Bool)) (List (Str × (Tp Int))))), enc (v_copies : Int), enc (v_votes : Bool)] ∧ d = enc (r : (T3 (List (Str × Int)) (List (T3 Str (Tp Int) Bool)) (List (Str × (Tp Int))))) ∧ m_copied v_net v_copies v_votes = some r
theorem RT_copied.to : ∀ ds d, R_copied ds d → ∃ ess, RT_copied ds ess ∧ d = .tuple (ess.map .list) ∧ ess.length ≤ 1000 := fun ds d h => by
  obtain ⟨v_net, v_copies, v_votes, r, h1, h2, h3⟩ := h
  exact ⟨_, ⟨v_net, v_copies, v_votes, r, h1, rfl, h3⟩, h2, by exact Nat.le_of_ble_eq_true rfl⟩
def m_in_threes (v_net : (T3 (List (Str × Int)) (List (T3 Str (Tp Int) Bool)) (List (Str × (Tp Int))))) : Option ((T3 (List (Str × Int)) (List (T3 Str (Tp Int) Bool)) (List (Str × (Tp Int))))) :=
(m_copied v_net (3 : Int) false).bind fun r1 =>
some r1
def RT_in_threes : List PyData → List (List PyData) → Prop := fun ds ess => ∃ (v_net : (T3 (List (Str × Int)) (List (T3 Str (Tp Int) Bool)) (List (Str × (Tp Int))))) (r : (T3 (List (Str × Int)) (List (T3 Str (Tp Int) Bool)) (List (Str × (Tp Int))))), ds = [enc (v_net : (T3 (List (Str × Int)) (List (T3 Str (Tp Int) Bool)) (List (Str × (Tp Int)))))] ∧ ess = [r.a.map enc, r.b.map enc, r.c.map enc] ∧ m_in_threes v_net = some r
def R_in_threes : List PyData → PyData → Prop := fun ds d => ∃ (v_net : (T3 (List (Str × Int)) (List (T3 Str (Tp Int) Bool)) (List (Str × (Tp Int))))) (r : (T3 (List (Str × Int)) (List (T3 Str (Tp Int) Bool)) (List (Str × (Tp Int))))), ds = [enc (v_net : (T3 (List (Str × Int)) (List (T3 Str (Tp Int) Bool)) (List (Str × (Tp Int)))))] ∧ d = enc (r : (T3 (List (Str × Int)) (List (T3 Str (Tp Int) Bool)) (List (Str × (Tp Int))))) ∧ m_in_threes v_net = some r
theorem RT_in_threes.to : ∀ ds d, R_in_threes ds d → ∃ ess, RT_in_threes ds ess ∧ d = .tuple (ess.map .list) ∧ ess.length ≤ 1000 := fun ds d h => by
  obtain ⟨v_net, r, h1, h2, h3⟩ := h
  exact ⟨_, ⟨v_net, r, h1, rfl, h3⟩, h2, by exact Nat.le_of_ble_eq_true rfl⟩
def m_in_pairs (v_net : (T3 (List (Str × Int)) (List (T3 Str (Tp Int) Bool)) (List (Str × (Tp Int))))) : Option ((T3 (List (Str × Int)) (List (T3 Str (Tp Int) Bool)) (List (Str × (Tp Int))))) :=
(m_copied v_net (2 : Int) false).bind fun r1 =>
some r1
def RT_in_pairs : List PyData → List (List PyData) → Prop := fun ds ess => ∃ (v_net : (T3 (List (Str × Int)) (List (T3 Str (Tp Int) Bool)) (List (Str × (Tp Int))))) (r : (T3 (List (Str × Int)) (List (T3 Str (Tp Int) Bool)) (List (Str × (Tp Int))))), ds = [enc (v_net : (T3 (List (Str × Int)) (List (T3 Str (Tp Int) Bool)) (List (Str × (Tp Int)))))] ∧ ess = [r.a.map enc, r.b.map enc, r.c.map enc] ∧ m_in_pairs v_net = some r
def R_in_pairs : List PyData → PyData → Prop := fun ds d => ∃ (v_net : (T3 (List (Str × Int)) (List (T3 Str (Tp Int) Bool)) (List (Str × (Tp Int))))) (r : (T3 (List (Str × Int)) (List (T3 Str (Tp Int) Bool)) (List (Str × (Tp Int))))), ds = [enc (v_net : (T3 (List (Str × Int)) (List (T3 Str (Tp Int) Bool)) (List (Str × (Tp Int)))))] ∧ d = enc (r : (T3 (List (Str × Int)) (List (T3 Str (Tp Int) Bool)) (List (Str × (Tp Int))))) ∧ m_in_pairs v_net = some r
theorem RT_in_pairs.to : ∀ ds d, R_in_pairs ds d → ∃ ess, RT_in_pairs ds ess ∧ d = .tuple (ess.map .list) ∧ ess.length ≤ 1000 := fun ds d h => by
  obtain ⟨v_net, r, h1, h2, h3⟩ := h
  exact ⟨_, ⟨v_net, r, h1, rfl, h3⟩, h2, by exact Nat.le_of_ble_eq_true rfl⟩
def m__law_next (v_pot : (List Int)) (v_many : Int) : Option (Int × List Int) :=
(atI v_pot (1 : Int)).bind fun t1 =>
(setO v_pot (1 : Int) (t1 + (1 : Int))).bind fun u3 =>
(atI u3 (0 : Int)).bind fun t5 =>
if (decide (((10 : Int) ^ (18 : Int).toNat) ≤ t5)) = true then (
(fdivO t5 v_many).bind fun t7 =>
(setO u3 (0 : Int) t7).bind fun u9 =>
(modO t5 v_many).bind fun t13 =>
some (t13, u9))
else (
(atI u3 (1 : Int)).bind fun t15 =>
(some ((((t5 * (69621 : Int)) + (t15 * (7919 : Int))) + (13 : Int)) % (2147483647 : Int))).bind fun v17 =>
(mulO v17 v17).bind fun t19 =>
(some (t19 % (2147483629 : Int))).bind fun v21 =>
(atI u3 (1 : Int)).bind fun t27 =>
(modO ((((v21 * (48271 : Int)) + (t27 * (40692 : Int))) % (2147483587 : Int)) / (8 : Int)) v_many).bind fun t29 =>
some (t29, u3))
def R__law_next : List PyData → List PyData → PyData → List PyData → Prop := fun c ds d c' => ∃ (v_pot : (List Int)) (v_many : Int) (r : Int × List Int), c = v_pot.map enc ∧ ds = [enc (v_many : Int)] ∧ d = enc (r.1 : Int) ∧ c' = r.2.map enc ∧ m__law_next v_pot v_many = some r

def m__law_plain (v_pot : (List Int)) (v_most : Int) (v_gates : Int) : Option ((T3 (List (Str × Int)) (List (T3 Str (Tp Int) Bool)) (List (Str × (Tp Int)))) × List Int) :=
(some ([("a" : Str), ("bb" : Str), ("signal" : Str), ("x" : Str), ("yes" : Str), ("abcdefgh" : Str)] : (List Str))).bind fun v1 =>
(m__law_next v_pot (6 : Int)).bind fun r3 =>
(m__law_next r3.2 v_most).bind fun r5 =>
(rngO ((1 : Int) + r5.1)).bind fun l7 =>
(mapO (fun (x10 : Int) => (atI v1 ((r3.1 + x10) % (6 : Int))).bind fun t15 => some ((t15, (1 : Int)) : (Str × Int))) l7).bind fun l17 =>
(some ([] : (List (T3 Str (Tp Int) Bool)))).bind fun v19 =>
(rngO v_gates).bind fun l22 =>
(forS (S := List Int × List (T3 Str (Tp Int) Bool)) (fun (x26 : Int) (s25 : List Int × List (T3 Str (Tp Int) Bool)) => (
(some ((l17.length : Int) + x26)).bind fun v30 =>
(m__law_next s25.1 (8 : Int)).bind fun r32 =>
(atI ([("not" : Str), ("and" : Str), ("or" : Str), ("xor" : Str), ("vote" : Str), ("and" : Str), ("or" : Str), ("xor" : Str)] : (List Str)) r32.1).bind fun t34 =>
(some ((dlit [(("not" : Str), (1 : Int)), (("vote" : Str), (3 : Int))] t34).getD (2 : Int))).bind fun v36 =>
(rngO v36).bind fun l38 =>
(mapS (fun (x41 : Int) (s48 : List Int) => (atI ([v30, (min2 v30 (4 : Int))] : (List Int)) (x41 % (2 : Int))).bind fun t49 => (m__law_next s48 t49).bind fun r51 => some ((((v30 - (1 : Int)) - r51.1) : Int), r51.2)) l38 r32.2).bind fun l53 =>
(m__law_next l53.2 (6 : Int)).bind fun r55 =>
(appO s25.2 (T3.mk t34 (Tp.mk l53.1) (decide (r55.1 = (0 : Int))))).bind fun u57 =>
some (r55.2, u57) : Option (List Int × List (T3 Str (Tp Int) Bool)))) l22 (r5.2, v19)).bind fun s59 =>
(some ([] : (List (Str × (Tp Int))))).bind fun v60 =>
(m__law_next s59.1 (6 : Int)).bind fun r63 =>
(rngO ((1 : Int) + r63.1)).bind fun l65 =>
(forS (S := List Int × List (Str × (Tp Int))) (fun (x69 : Int) (s68 : List Int × List (Str × (Tp Int))) => (
(some ((l17.length : Int) + (s59.2.length : Int))).bind fun v73 =>
(atI ([v73, (min2 v73 (4 : Int))] : (List Int)) (x69 % (2 : Int))).bind fun t75 =>
(m__law_next s68.1 t75).bind fun r77 =>
(some ((v73 - (1 : Int)) - r77.1)).bind fun v79 =>
(atI ([("p" : Str), ("ou" : Str), ("result" : Str), ("q" : Str), ("abcdefgh" : Str), ("z" : Str)] : (List Str)) x69).bind fun t81 =>
(appO s68.2 (t81, ((Tp.mk [v79]) : (Tp Int)))).bind fun u83 =>
some (r77.2, u83) : Option (List Int × List (Str × (Tp Int))))) l65 (r63.2, v60)).bind fun s85 =>
some ((T3.mk l17 s59.2 s85.2), s85.1)
def R__law_plain : List PyData → List PyData → PyData → List PyData → Prop := fun c ds d c' => ∃ (v_pot : (List Int)) (v_most : Int) (v_gates : Int) (r : (T3 (List (Str × Int)) (List (T3 Str (Tp Int) Bool)) (List (Str × (Tp Int)))) × List Int), c = v_pot.map enc ∧ ds = [enc (v_most : Int), enc (v_gates : Int)] ∧ d = enc (r.1 : (T3 (List (Str × Int)) (List (T3 Str (Tp Int) Bool)) (List (Str × (Tp Int))))) ∧ c' = r.2.map enc ∧ m__law_plain v_pot v_most v_gates = some r
def m__law_made (v_net : (T3 (List (Str × Int)) (List (T3 Str (Tp Int) Bool)) (List (Str × (Tp Int))))) (v_many : Int) (v_votes : Bool) : Option ((T3 (List (Str × Int)) (List (T3 Str (Tp Int) Bool)) (List (Str × (Tp Int))))) :=
(some ([] : (List (List Int)))).bind fun v1 =>
(forS (S := List (List Int)) (fun (x6 : Int) (s5 : List (List Int)) => (
(rngO v_many).bind fun l10 =>
(mapO (fun (x13 : Int) => (mulO x6 v_many).bind fun t18 => some ((t18 + x13) : Int)) l10).bind fun l20 =>
(appO s5 l20).bind fun u22 =>
some u22 : Option (List (List Int)))) (rngL 0 v_net.a.length) v1).bind fun s24 =>
(some ([] : (List (T3 Str (Tp Int) Bool)))).bind fun v25 =>
(mulO (v_net.a.length : Int) v_many).bind fun t28 =>
(forS (S := List (T3 Str (Tp Int) Bool) × List (List Int)) (fun (x32 : (T3 Str (Tp Int) Bool)) (s31 : List (T3 Str (Tp Int) Bool) × List (List Int)) => (
(rngO v_many).bind fun l36 =>
(some (l36.map (fun (x39 : Int) => (((t28 + (s31.1.length : Int)) + x39) : Int)))).bind fun v42 =>
(rngO v_many).bind fun l44 =>
(forS (S := List (T3 Str (Tp Int) Bool)) (fun (x48 : Int) (s47 : List (T3 Str (Tp Int) Bool)) => (
(mapO (fun (x53 : Int) => (atI s31.2 x53).bind fun t60 => (atI t60 x48).bind fun t62 => some (t62 : Int)) x32.b.l).bind fun l64 =>
(appO s47 (T3.mk x32.a (Tp.mk l64) x32.c)).bind fun u66 =>
some u66 : Option (List (T3 Str (Tp Int) Bool)))) l44 s31.1).bind fun s68 =>
(if v_votes = true then (
(rngO v_many).bind fun l71 =>
(appO s31.2 (l71.map (fun (x74 : Int) => (((t28 + (s68.length : Int)) + x74) : Int)))).bind fun u77 =>
(rngO v_many).bind fun l79 =>
(forS (S := List (T3 Str (Tp Int) Bool)) (fun (x83 : Int) (s82 : List (T3 Str (Tp Int) Bool)) => (
(appO s82 (T3.mk ("vote" : Str) (Tp.mk v42) x32.c)).bind fun u87 =>
some u87 : Option (List (T3 Str (Tp Int) Bool)))) l79 s68).bind fun s89 =>
some (u77, s89))
else (
(appO s31.2 v42).bind fun u90 =>
some (u90, s68)) : Option (List (List Int) × List (T3 Str (Tp Int) Bool))).bind fun j69 =>
some (j69.2, j69.1) : Option (List (T3 Str (Tp Int) Bool) × List (List Int)))) v_net.b (v25, s24)).bind fun s92 =>
(some ([] : (List (Str × (Tp Int))))).bind fun v93 =>
(forS (S := List (Str × (Tp Int))) (fun (x98 : (Str × (Tp Int))) (s97 : List (Str × (Tp Int))) => (
(atI x98.2.l (0 : Int)).bind fun t102 =>
(atI s92.2 t102).bind fun t104 =>
(appO s97 (x98.1, (Tp.mk t104))).bind fun u106 =>
some u106 : Option (List (Str × (Tp Int))))) v_net.c v93).bind fun s108 =>
some (T3.mk (v_net.a.map (fun (x114 : (Str × Int)) => ((x114.1, v_many) : (Str × Int)))) s92.1 s108)
def R__law_made : List PyData → PyData → Prop := fun ds d => ∃ (v_net : (T3 (List (Str × Int)) (List (T3 Str (Tp Int) Bool)) (List (Str × (Tp Int))))) (v_many : Int) (v_votes : Bool) (r : (T3 (List (Str × Int)) (List (T3 Str (Tp Int) Bool)) (List (Str × (Tp Int))))), ds = [enc (v_net : (T3 (List (Str × Int)) (List (T3 Str (Tp Int) Bool)) (List (Str × (Tp Int))))), enc (v_many : Int), enc (v_votes : Bool)] ∧ d = enc (r : (T3 (List (Str × Int)) (List (T3 Str (Tp Int) Bool)) (List (Str × (Tp Int))))) ∧ m__law_made v_net v_many v_votes = some r

def m__law_copy (v_net : (T3 (List (Str × Int)) (List (T3 Str (Tp Int) Bool)) (List (Str × (Tp Int))))) : Option ((T3 (List (Str × Int)) (List (T3 Str (Tp Int) Bool)) (List (Str × (Tp Int))))) :=
some (T3.mk v_net.a v_net.b v_net.c)
def R__law_copy : List PyData → PyData → Prop := fun ds d => ∃ (v_net : (T3 (List (Str × Int)) (List (T3 Str (Tp Int) Bool)) (List (Str × (Tp Int))))) (r : (T3 (List (Str × Int)) (List (T3 Str (Tp Int) Bool)) (List (Str × (Tp Int))))), ds = [enc (v_net : (T3 (List (Str × Int)) (List (T3 Str (Tp Int) Bool)) (List (Str × (Tp Int)))))] ∧ d = enc (r : (T3 (List (Str × Int)) (List (T3 Str (Tp Int) Bool)) (List (Str × (Tp Int))))) ∧ m__law_copy v_net = some r
def m__law_case (v_pot : (List Int)) (v_pairs : Bool) : Option (Bool × List Int) :=
if v_pairs = true then (
(m__law_next v_pot (31 : Int)).bind fun r1 =>
(m__law_plain r1.2 (6 : Int) r1.1).bind fun r3 =>
(m__law_copy r3.1).bind fun r5 =>
(m_in_pairs r5).bind fun r7 =>
(m__law_made r3.1 (2 : Int) false).bind fun r13 =>
(if (!(decide (((T3.mk r7.a r7.b r7.c) : (T3 (List (Str × Int)) (List (T3 Str (Tp Int) Bool)) (List (Str × (Tp Int))))) = r13))) = true then some true else ((eqO (r5 : (T3 (List (Str × Int)) (List (T3 Str (Tp Int) Bool)) (List (Str × (Tp Int))))) r3.1).bind fun b20 => some (!b20))).bind fun b22 =>
if b22 = true then (
some (false, r3.2))
else (
(if r7.a.length < 16777216 then some () else none).bind fun _ =>
(if r7.b.length < 16777216 then some () else none).bind fun _ =>
(if r7.c.length < 16777216 then some () else none).bind fun _ =>
if v_pairs = true then (
(eqO (r5 : (T3 (List (Str × Int)) (List (T3 Str (Tp Int) Bool)) (List (Str × (Tp Int))))) r3.1).bind fun b33 =>
(if b33 = true then ((m_in_pairs r5).bind fun r36 => some (decide ((r36 : (T3 (List (Str × Int)) (List (T3 Str (Tp Int) Bool)) (List (Str × (Tp Int))))) = r13))) else some false).bind fun b38 =>
some (b38, r3.2))
else (
(eqO (r5 : (T3 (List (Str × Int)) (List (T3 Str (Tp Int) Bool)) (List (Str × (Tp Int))))) r3.1).bind fun b45 =>
(if b45 = true then ((m_in_threes r5).bind fun r48 => some (decide ((r48 : (T3 (List (Str × Int)) (List (T3 Str (Tp Int) Bool)) (List (Str × (Tp Int))))) = r13))) else some false).bind fun b50 =>
some (b50, r3.2))))
else (
(m__law_next v_pot (21 : Int)).bind fun r51 =>
(m__law_plain r51.2 (6 : Int) r51.1).bind fun r53 =>
(m__law_copy r53.1).bind fun r55 =>
(m_in_threes r55).bind fun r57 =>
(m__law_made r53.1 (3 : Int) false).bind fun r63 =>
(if (!(decide (((T3.mk r57.a r57.b r57.c) : (T3 (List (Str × Int)) (List (T3 Str (Tp Int) Bool)) (List (Str × (Tp Int))))) = r63))) = true then some true else ((eqO (r55 : (T3 (List (Str × Int)) (List (T3 Str (Tp Int) Bool)) (List (Str × (Tp Int))))) r53.1).bind fun b70 => some (!b70))).bind fun b72 =>
if b72 = true then (
some (false, r53.2))
else (
(if r57.a.length < 16777216 then some () else none).bind fun _ =>
(if r57.b.length < 16777216 then some () else none).bind fun _ =>
(if r57.c.length < 16777216 then some () else none).bind fun _ =>
if v_pairs = true then (
(eqO (r55 : (T3 (List (Str × Int)) (List (T3 Str (Tp Int) Bool)) (List (Str × (Tp Int))))) r53.1).bind fun b83 =>
(if b83 = true then ((m_in_pairs r55).bind fun r86 => some (decide ((r86 : (T3 (List (Str × Int)) (List (T3 Str (Tp Int) Bool)) (List (Str × (Tp Int))))) = r63))) else some false).bind fun b88 =>
some (b88, r53.2))
else (
(eqO (r55 : (T3 (List (Str × Int)) (List (T3 Str (Tp Int) Bool)) (List (Str × (Tp Int))))) r53.1).bind fun b95 =>
(if b95 = true then ((m_in_threes r55).bind fun r98 => some (decide ((r98 : (T3 (List (Str × Int)) (List (T3 Str (Tp Int) Bool)) (List (Str × (Tp Int))))) = r63))) else some false).bind fun b100 =>
some (b100, r53.2))))
def R__law_case : List PyData → List PyData → PyData → List PyData → Prop := fun c ds d c' => ∃ (v_pot : (List Int)) (v_pairs : Bool) (r : Bool × List Int), c = v_pot.map enc ∧ ds = [enc (v_pairs : Bool)] ∧ d = enc (r.1 : Bool) ∧ c' = r.2.map enc ∧ m__law_case v_pot v_pairs = some r
def m_law (v_script : (List Int)) : Option (Bool) :=
(forF (S := Unit) (R := Bool) (fun (c2 : Int) (_ : Unit) => (
(m__law_case ([c2, 0] : List Int) false).bind fun r8 =>
(if (!r8.1) = true then some (true, r8.2) else ((m__law_case r8.2 true).bind fun r11 => some ((!r11.1), r11.2))).bind fun b13 =>
if b13.1 = true then (
some (.rt false))
else (
some (.nx ())) : Option (Fl Unit (Bool)))) (potsL (cutL v_script none (some (10 : Int)))) ()).bind fun fl3 =>
flK fl3 (fun _ =>
some true) some
def R_law : List PyData → PyData → Prop := fun ds d => ∃ (v_script : (List Int)) (r : Bool), ds = [enc (v_script : (List Int))] ∧ d = enc (r : Bool) ∧ m_law v_script = some r
section
variable {P : Program} {w : World} {K : Fg} {mg : Str → Option Value} {base : Heap}
theorem sc_need_plain : FnScope ["net", "ins", "gates", "outs", "name", "width", "wires"] ["net"] (defScope (top 6)) := ⟨rfl, rfl, rfl, by decide +kernel, rfl, by decide +kernel, by decide +kernel⟩
theorem ok_need_plain (B : Bi mg) (D : Dfn K mg "need_plain" (top 6) ["net"]) : Cal P w K mg base 1 "need_plain" ["net"] (SpP K R_need_plain) := by
  refine D.cal sc_need_plain (sp_len fun ds d h => by obtain ⟨_, _, rfl, _⟩ := h; rfl) fun f cdv A outer s H vs Q E hr h => ?_
  refine ⟨_, (pss_cons (ps_asg (pv 0) (pg_tup rfl (pgs_cons (pg_name (i := 1) sc_need_plain.nd rfl (Or.inl rfl)) (pgs_cons (pg_name (i := 2) sc_need_plain.nd rfl (Or.inl rfl)) (pgs_cons (pg_name (i := 3) sc_need_plain.nd rfl (Or.inl rfl)) pgs_nil))))) (pss_one (ps_if (pt_cmpR (k_neD K hr.units) (pe_op (k_catR K) (pe_lc (own := [(("name" : Str), 4), (("width" : Str), 5)]) (g := (gTup K 2 (gCons (gName 4) (gCons (gName 5) gNil)))) rfl sc_need_plain.nd (k_pi_list K (pv 1)) (blkOk_by (by kernel_rfl)) (fun _ _ _ _ _ => (pg_tup rfl (pgs_cons (pg_name (i := 4) sc_need_plain.nd rfl (Or.inl rfl)) (pgs_cons (pg_name (i := 5) sc_need_plain.nd rfl (Or.inl rfl)) pgs_nil)))) (fun _ _ _ _ _ => (pts_one (pt_cmpR op_ne (pv 5) pe_int (nomark _)))) (fun _ _ _ _ _ => (pv 4))) (pe_lc (own := [(("name" : Str), 4), (("wires" : Str), 6)]) (g := (gTup K 2 (gCons (gName 4) (gCons (gName 6) gNil)))) rfl sc_need_plain.nd (k_pi_list K (pv 3)) (blkOk_by (by kernel_rfl)) (fun _ _ _ _ _ => (pg_tup rfl (pgs_cons (pg_name (i := 4) sc_need_plain.nd rfl (Or.inl rfl)) (pgs_cons (pg_name (i := 6) sc_need_plain.nd rfl (Or.inl rfl)) pgs_nil)))) (fun _ _ _ _ _ => (pts_one (pt_cmpR op_ne (pe_callB (k_len_seq K) (by rfl) B.len PySem.boot_len (pa_cons (pv 6) pa_nil)) pe_int (nomark _)))) (fun _ _ _ _ _ => (pv 4)))) (pe_lst pa_nil) (nomark _)) (pss_one L2.ps_never) pss_nil))), ?_⟩
  obtain ⟨F, ds, d, hw, hF, ⟨v_net, rr, rfl, rfl, hm0⟩, k⟩ := h
  have E : EnvR K F _ [.val (enc (v_net : (T3 (List (Str × Int)) (List (T3 Str (Tp Int) Bool)) (List (Str × (Tp Int)))))), .un, .un, .un, .un, .un, .un] := EnvR.start (N := ["net", "ins", "gates", "outs", "name", "width", "wires"]) (AsR.of_all hw)
  have S := Hx.start (K := K) hF
  have fc : Same F F := Same.refl F
  unfold m_need_plain at hm0
  try (with_reducible refine nxD ?_)
  with_reducible refine sq ?_
  refine st_unp (d := enc (v_net : (T3 (List (Str × Int)) (List (T3 Str (Tp Int) Bool)) (List (Str × (Tp Int)))))) (rx_var (d := enc (v_net : (T3 (List (Str × Int)) (List (T3 Str (Tp Int) Bool)) (List (Str × (Tp Int)))))) rfl) (rg_tup (ds := [enc (v_net.a : (List (Str × Int))), enc (v_net.b : (List (T3 Str (Tp Int) Bool))), enc (v_net.c : (List (Str × (Tp Int))))]) (RGs.cons (rg_name (i := 1) (d := enc (v_net.a : (List (Str × Int))))) (RGs.cons (rg_name (i := 2) (d := enc (v_net.b : (List (T3 Str (Tp Int) Bool))))) (RGs.cons (rg_name (i := 3) (d := enc (v_net.c : (List (Str × (Tp Int)))))) RGs.nil)))) E S fun σ F H f E S => ?_
  replace fc := fc.trans f
  have E : EnvR K _ _ [.val (enc (v_net : (T3 (List (Str × Int)) (List (T3 Str (Tp Int) Bool)) (List (Str × (Tp Int)))))), .val (enc (v_net.a : (List (Str × Int)))), .val (enc (v_net.b : (List (T3 Str (Tp Int) Bool)))), .val (enc (v_net.c : (List (Str × (Tp Int))))), .un, .un, .un] := E
  have S : Hx K _ _ _ _ [] _ := S
  obtain ⟨t9, h10, hm0⟩ := bindE hm0
  obtain ⟨b11, h12, hm0⟩ := bindE hm0
  try (with_reducible refine nxD ?_)
  refine (st_if (b := (!b11)) (rt_val (rx_neO h12 (RX.h (RXo.frz (rxo_catO (f := enc) h10 (RXo.s (rxo_filt (eα := enc) (eβ := enc) (p := (fun (x2 : (Str × Int)) => (!decide (x2.2 = (1 : Int))))) (f := (fun (x2 : (Str × Int)) => (x2.1 : Str))) (fun x2 => [.val (enc (v_net : (T3 (List (Str × Int)) (List (T3 Str (Tp Int) Bool)) (List (Str × (Tp Int)))))), .val (enc (v_net.a : (List (Str × Int)))), .val (enc (v_net.b : (List (T3 Str (Tp Int) Bool)))), .val (enc (v_net.c : (List (Str × (Tp Int))))), .val (enc (x2.1 : Str)), .val (enc (x2.2 : Int)), .un]) [4, 5] (ri_list (ys := v_net.a.map enc) (rx_var (d := enc (v_net.a : (List (Str × Int)))) rfl)) (by decide) (fun x2 _ => (rg_tup (ds := [enc (x2.1 : Str), enc (x2.2 : Int)]) (RGs.cons (rg_name (i := 4) (d := enc (x2.1 : Str))) (RGs.cons (rg_name (i := 5) (d := enc (x2.2 : Int))) RGs.nil)))) (fun x2 _ D3 acc4 => (rt_val (rx_nei (rx_var (d := enc (x2.2 : Int)) rfl) rx_int))) (fun x2 _ D3 acc4 => (rx_var (d := enc (x2.1 : Str)) rfl)))) (RXo.s (rxo_filt (eα := enc) (eβ := enc) (p := (fun (x6 : (Str × (Tp Int))) => (!decide ((x6.2.l.length : Int) = (1 : Int))))) (f := (fun (x6 : (Str × (Tp Int))) => (x6.1 : Str))) (fun x6 => [.val (enc (v_net : (T3 (List (Str × Int)) (List (T3 Str (Tp Int) Bool)) (List (Str × (Tp Int)))))), .val (enc (v_net.a : (List (Str × Int)))), .val (enc (v_net.b : (List (T3 Str (Tp Int) Bool)))), .val (enc (v_net.c : (List (Str × (Tp Int))))), .val (enc (x6.1 : Str)), .un, .val (enc (x6.2 : (Tp Int)))]) [4, 6] (ri_list (ys := v_net.c.map enc) (rx_var (d := enc (v_net.c : (List (Str × (Tp Int))))) rfl)) (by decide) (fun x6 _ => (rg_tup (ds := [enc (x6.1 : Str), enc (x6.2 : (Tp Int))]) (RGs.cons (rg_name (i := 4) (d := enc (x6.1 : Str))) (RGs.cons (rg_name (i := 6) (d := enc (x6.2 : (Tp Int)))) RGs.nil)))) (fun x6 _ D7 acc8 => (rt_val (rx_nei (len_natT (f := enc) (rx_var (d := enc (x6.2 : (Tp Int))) rfl)) rx_int))) (fun x6 _ D7 acc8 => (rx_var (d := enc (x6.1 : Str)) rfl))))))) (RX.h (RXo.frz (rxo_lst (ds := []) ra_nil))))) E S (fun hc F H f E S => ?_) (fun hc F H f E S => ?_))
  · rw [if_pos hc] at hm0
    replace fc := fc.trans f
    cases hm0
  · rw [if_neg (by rw [hc]; decide)] at hm0
    replace fc := fc.trans f
    refine nxt ?_
    obtain rfl := Option.some.inj hm0
    try (with_reducible refine nxD ?_)
    exact k .non _ _ S.stp .non
theorem sc_copied : FnScope ["net", "copies", "votes", "ins", "gates", "outs", "stride", "first", "read", "told", "place", "kind", "wires", "sure", "own", "some", "wire", "name", "width", "k"] ["net", "copies", "votes"] (defScope (top 7)) := ⟨rfl, rfl, rfl, by decide +kernel, rfl, by decide +kernel, by decide +kernel⟩
theorem ok_copied (B : Bi mg) (D : Dfn K mg "copied" (top 7) ["net", "copies", "votes"]) (C_need_plain : Cal P w K mg base 1 "need_plain" ["net"] (SpP K R_need_plain)) : Cal P w K mg base 2 "copied" ["net", "copies", "votes"] (SpT K RT_copied) := by
  refine D.cal sc_copied (st_len fun ds d h => by obtain ⟨_, _, _, _, rfl, _⟩ := h; rfl) fun f cdv A outer s H vs Q E hr h => ?_
  refine ⟨_, (pss_cons (ps_expr (pe_cal C_need_plain hr (pa_cons (pv 0) pa_nil))) (pss_cons (ps_asg (pv 0) (pg_tup rfl (pgs_cons (pg_name (i := 3) sc_copied.nd rfl (Or.inl rfl)) (pgs_cons (pg_name (i := 4) sc_copied.nd rfl (Or.inl rfl)) (pgs_cons (pg_name (i := 5) sc_copied.nd rfl (Or.inl rfl)) pgs_nil))))) (pss_cons (ps_set (i := 6) sc_copied.nd rfl (Or.inr rfl) (pe_op op_mul (pv 1) (pe_op op_add pe_int (pe_callTy call_int1 (by rfl) B.int (by decide +kernel) (pa_cons (pv 2) pa_nil))))) (pss_cons (ps_if (pt_cmpR op_gt (pe_op op_mul (pe_callB (k_len_seq K) (by rfl) B.len PySem.boot_len (pa_cons (pv 4) pa_nil)) (pv 6)) (pe_gint B.c_MOST_GATES) (nomark _)) (pss_one L2.ps_never) pss_nil) (pss_cons (ps_set (i := 7) sc_copied.nd rfl (Or.inr rfl) (pe_op op_mul (pe_callB (k_len_seq K) (by rfl) B.len PySem.boot_len (pa_cons (pv 3) pa_nil)) (pv 1))) (pss_cons (ps_set (i := 8) sc_copied.nd rfl (Or.inr rfl) (pe_lc (own := [(("wire" : Str), 16)]) (g := (gName 16)) (tt := tYes) rfl sc_copied.nd (pi_range1 rfl B.range (pa_cons (pe_callB (k_len_seq K) (by rfl) B.len PySem.boot_len (pa_cons (pv 3) pa_nil)) pa_nil)) (blkOk_by (by kernel_rfl)) (fun _ _ _ _ _ => (pg_name (i := 16) sc_copied.nd rfl (Or.inl rfl))) (fun _ _ _ _ _ => pts_nil) (fun _ _ _ _ _ => (pe_op op_mul (pv 16) (pv 1))))) (pss_cons (ps_set (i := 8) sc_copied.nd rfl (Or.inr rfl) (pe_op (k_catR K) (pv 8) (pe_lc (own := [(("place" : Str), 10)]) (g := (gName 10)) (tt := tYes) rfl sc_copied.nd (pi_range1 rfl B.range (pa_cons (pe_callB (k_len_seq K) (by rfl) B.len PySem.boot_len (pa_cons (pv 4) pa_nil)) pa_nil)) (blkOk_by (by kernel_rfl)) (fun _ _ _ _ _ => (pg_name (i := 10) sc_copied.nd rfl (Or.inl rfl))) (fun _ _ _ _ _ => pts_nil) (fun _ _ _ _ _ => (pe_op op_add (pe_op op_add (pv 7) (pe_op op_mul (pv 10) (pv 6))) (pe_op op_mul (pe_callTy call_int1 (by rfl) B.int (by decide +kernel) (pa_cons (pv 2) pa_nil)) (pv 1))))))) (pss_cons (ps_set (i := 9) sc_copied.nd rfl (Or.inl rfl) (pe_lst pa_nil)) (pss_cons (ps_for PassesOwn.never rfl (k_pi_enum K (by rfl) B.enumerate (pa_cons (pv 4) pa_nil)) (pg_tup rfl (pgs_cons (pg_name (i := 10) sc_copied.nd rfl (Or.inr rfl)) (pgs_cons (pg_tup rfl (pgs_cons (pg_name (i := 11) sc_copied.nd rfl (Or.inr rfl)) (pgs_cons (pg_name (i := 12) sc_copied.nd rfl (Or.inr rfl)) (pgs_cons (pg_name (i := 13) sc_copied.nd rfl (Or.inr rfl)) pgs_nil)))) pgs_nil))) (pss_cons (ps_expr (pe_bm PySem.F.plainAttrs_list PySem.F.slot_list_extend PySem.F.type_list_extend mt_extR (pv 9) (pa_cons (pe_lc (own := [(("k" : Str), 19)]) (g := (gName 19)) (tt := tYes) rfl sc_copied.nd (pi_range1 rfl B.range (pa_cons (pv 1) pa_nil)) (blkOk_by (by kernel_rfl)) (fun _ _ _ _ _ => (pg_name (i := 19) sc_copied.nd rfl (Or.inr rfl))) (fun _ _ _ _ _ => pts_nil) (fun _ _ _ _ _ => (pe_tup (pa_cons (pv 11) (pa_cons (pe_callTy (k_tuple_of K) (by rfl) B.tuple (by decide +kernel) (pa_cons (pe_lc (own := [(("wire" : Str), 16)]) (g := (gName 16)) (tt := tYes) rfl sc_copied.nd (k_pi_tup K (pv 12)) (blkOk_by (by kernel_rfl)) (fun _ _ _ _ _ => (pg_name (i := 16) sc_copied.nd rfl (Or.inl rfl))) (fun _ _ _ _ _ => pts_nil) (fun _ _ _ _ _ => (pe_op op_add (pe_ix (k_ix_list K) (pv 8) (pv 16) (fun _ _ => rfl)) (pv 19)))) pa_nil)) (pa_cons (pv 13) pa_nil)))))) pa_nil))) (pss_cons (ps_set (i := 14) sc_copied.nd rfl (Or.inl rfl) (pe_callTy (k_tuple_of K) (by rfl) B.tuple (by decide +kernel) (pa_cons (pe_lc (own := [(("k" : Str), 19)]) (g := (gName 19)) (tt := tYes) rfl sc_copied.nd (pi_range1 rfl B.range (pa_cons (pv 1) pa_nil)) (blkOk_by (by kernel_rfl)) (fun _ _ _ _ _ => (pg_name (i := 19) sc_copied.nd rfl (Or.inl rfl))) (fun _ _ _ _ _ => pts_nil) (fun _ _ _ _ _ => (pe_op op_add (pe_op op_add (pv 7) (pe_op op_mul (pv 10) (pv 6))) (pv 19)))) pa_nil))) (pss_one (ps_expr (pe_bm PySem.F.plainAttrs_list PySem.F.slot_list_extend PySem.F.type_list_extend mt_extR (pv 9) (pa_cons (pe_op op_rep (pe_lst (pa_cons (pe_tup (pa_cons pe_str (pa_cons (pv 14) (pa_cons (pv 13) pa_nil)))) pa_nil)) (pe_op op_mul (pv 1) (pe_callTy call_int1 (by rfl) B.int (by decide +kernel) (pa_cons (pv 2) pa_nil)))) pa_nil))))))) (pss_cons (ps_setLc (i := 15) (own := [(("name" : Str), 17), (("wires" : Str), 12)]) (g := (gTup K 2 (gCons (gName 17) (gCons (gName 12) gNil)))) (tt := tYes) rfl sc_copied.nd rfl rfl (sw_true rfl rfl rfl (by decide +kernel)) (k_pi_list K (pv 5)) (blkOk_by (by kernel_rfl)) (fun _ _ _ _ _ => (pg_tup rfl (pgs_cons (pg_name (i := 17) sc_copied.nd rfl (Or.inl rfl)) (pgs_cons (pg_name (i := 12) sc_copied.nd rfl (Or.inr rfl)) pgs_nil)))) (fun _ _ _ _ _ => pts_nil) (fun _ _ _ _ _ => (pe_tup (pa_cons (pv 17) (pa_cons (pe_callTy (k_tuple_of K) (by rfl) B.tuple (by decide +kernel) (pa_cons (pe_lc (own := [(("k" : Str), 19)]) (g := (gName 19)) (tt := tYes) rfl sc_copied.nd (pi_range1 rfl B.range (pa_cons (pv 1) pa_nil)) (blkOk_by (by kernel_rfl)) (fun _ _ _ _ _ => (pg_name (i := 19) sc_copied.nd rfl (Or.inl rfl))) (fun _ _ _ _ _ => pts_nil) (fun _ _ _ _ _ => (pe_op op_add (pe_ix (k_ix_list K) (pv 8) (pe_ix (k_ix_tup K) (pv 12) pe_int (fun _ _ => rfl)) (fun _ _ => rfl)) (pv 19)))) pa_nil)) pa_nil))))) (pss_one (ps_ret (pe_tup (pa_cons (pe_lc (own := [(("name" : Str), 17), (("width" : Str), 18)]) (g := (gTup K 2 (gCons (gName 17) (gCons (gName 18) gNil)))) (tt := tYes) rfl sc_copied.nd (k_pi_list K (pv 3)) (blkOk_by (by kernel_rfl)) (fun _ _ _ _ _ => (pg_tup rfl (pgs_cons (pg_name (i := 17) sc_copied.nd rfl (Or.inl rfl)) (pgs_cons (pg_name (i := 18) sc_copied.nd rfl (Or.inl rfl)) pgs_nil)))) (fun _ _ _ _ _ => pts_nil) (fun _ _ _ _ _ => (pe_tup (pa_cons (pv 17) (pa_cons (pv 1) pa_nil))))) (pa_cons (pv 9) (pa_cons (pv 15) pa_nil)))))))))))))))), ?_⟩
  obtain ⟨F, ds, ess, hw, hF, ⟨v_net, v_copies, v_votes, rr, rfl, rfl, hm0⟩, k⟩ := h
  have E : EnvR K F _ [.val (enc (v_net : (T3 (List (Str × Int)) (List (T3 Str (Tp Int) Bool)) (List (Str × (Tp Int)))))), .val (enc (v_copies : Int)), .val (enc (v_votes : Bool)), .un, .un, .un, .un, .un, .un, .un, .un, .un, .un, .un, .un, .un, .un, .un, .un, .un] := EnvR.start (N := ["net", "copies", "votes", "ins", "gates", "outs", "stride", "first", "read", "told", "place", "kind", "wires", "sure", "own", "some", "wire", "name", "width", "k"]) (AsR.of_all hw)
  have S := Hx.start (K := K) hF
  have fc : Same F F := Same.refl F
  unfold m_copied at hm0
  obtain ⟨r1, h2, hm0⟩ := bindE hm0
  try (with_reducible refine nxD ?_)
  with_reducible refine sq ?_
  refine st_expr (rx_call (ds := [enc (v_net : (T3 (List (Str × Int)) (List (T3 Str (Tp Int) Bool)) (List (Str × (Tp Int)))))]) (d := enc (r1 : Unit)) ⟨_, r1, rfl, rfl, h2⟩ (ra_cons (rx_var (d := enc (v_net : (T3 (List (Str × Int)) (List (T3 Str (Tp Int) Bool)) (List (Str × (Tp Int)))))) rfl) ra_nil)) E S fun F H f E S => ?_
  replace fc := fc.trans f
  have E : EnvR K _ _ [.val (enc (v_net : (T3 (List (Str × Int)) (List (T3 Str (Tp Int) Bool)) (List (Str × (Tp Int)))))), .val (enc (v_copies : Int)), .val (enc (v_votes : Bool)), .un, .un, .un, .un, .un, .un, .un, .un, .un, .un, .un, .un, .un, .un, .un, .un, .un] := E
  have S : Hx K _ _ _ _ [] _ := S
  try (with_reducible refine nxD ?_)
  with_reducible refine sq ?_
  refine st_unp (d := enc (v_net : (T3 (List (Str × Int)) (List (T3 Str (Tp Int) Bool)) (List (Str × (Tp Int)))))) (rx_var (d := enc (v_net : (T3 (List (Str × Int)) (List (T3 Str (Tp Int) Bool)) (List (Str × (Tp Int)))))) rfl) (rg_tup (ds := [enc (v_net.a : (List (Str × Int))), enc (v_net.b : (List (T3 Str (Tp Int) Bool))), enc (v_net.c : (List (Str × (Tp Int))))]) (RGs.cons (rg_name (i := 3) (d := enc (v_net.a : (List (Str × Int))))) (RGs.cons (rg_name (i := 4) (d := enc (v_net.b : (List (T3 Str (Tp Int) Bool))))) (RGs.cons (rg_name (i := 5) (d := enc (v_net.c : (List (Str × (Tp Int)))))) RGs.nil)))) E S fun σ F H f E S => ?_
  replace fc := fc.trans f
  have E : EnvR K _ _ [.val (enc (v_net : (T3 (List (Str × Int)) (List (T3 Str (Tp Int) Bool)) (List (Str × (Tp Int)))))), .val (enc (v_copies : Int)), .val (enc (v_votes : Bool)), .val (enc (v_net.a : (List (Str × Int)))), .val (enc (v_net.b : (List (T3 Str (Tp Int) Bool)))), .val (enc (v_net.c : (List (Str × (Tp Int))))), .un, .un, .un, .un, .un, .un, .un, .un, .un, .un, .un, .un, .un, .un] := E
  have S : Hx K _ _ _ _ [] _ := S
  obtain ⟨t3, h4, hm0⟩ := bindE hm0
  try (with_reducible refine nxD ?_)
  with_reducible refine sq ?_
  refine st_set (i := 6) (d := enc (t3 : Int)) (rx_mulO h4 (rx_var (d := enc (v_copies : Int)) rfl) (rx_add rx_int (rx_intB (rx_var (d := enc (v_votes : Bool)) rfl)))) E S fun σ F H f E S => ?_
  replace fc := fc.trans f
  have E : EnvR K _ _ [.val (enc (v_net : (T3 (List (Str × Int)) (List (T3 Str (Tp Int) Bool)) (List (Str × (Tp Int)))))), .val (enc (v_copies : Int)), .val (enc (v_votes : Bool)), .val (enc (v_net.a : (List (Str × Int)))), .val (enc (v_net.b : (List (T3 Str (Tp Int) Bool)))), .val (enc (v_net.c : (List (Str × (Tp Int))))), .val (enc (t3 : Int)), .un, .un, .un, .un, .un, .un, .un, .un, .un, .un, .un, .un, .un] := E
  have S : Hx K _ _ _ _ [] _ := S
  obtain ⟨t5, h6, hm0⟩ := bindE hm0
  try (with_reducible refine nxD ?_)
  with_reducible refine sq ?_
  refine st_if (b := (decide ((60 : Int) < t5))) (rt_val (rx_gt (rx_mulO h6 (len_nat (f := enc) (RX.s (rx_var (d := enc (v_net.b : (List (T3 Str (Tp Int) Bool)))) rfl))) (rx_var (d := enc (t3 : Int)) rfl)) rx_int)) E S (fun hc F H f E S => ?_) (fun hc F H f E S => ?_)
  · rw [if_pos hc] at hm0
    replace fc := fc.trans f
    cases hm0
  · rw [if_neg (by rw [hc]; decide)] at hm0
    replace fc := fc.trans f
    refine nxt ?_
    obtain ⟨t7, h8, hm0⟩ := bindE hm0
    try (with_reducible refine nxD ?_)
    with_reducible refine sq ?_
    refine st_set (i := 7) (d := enc (t7 : Int)) (rx_mulO h8 (len_nat (f := enc) (RX.s (rx_var (d := enc (v_net.a : (List (Str × Int)))) rfl))) (rx_var (d := enc (v_copies : Int)) rfl)) E S fun σ F H f E S => ?_
    replace fc := fc.trans f
    have E : EnvR K _ _ [.val (enc (v_net : (T3 (List (Str × Int)) (List (T3 Str (Tp Int) Bool)) (List (Str × (Tp Int)))))), .val (enc (v_copies : Int)), .val (enc (v_votes : Bool)), .val (enc (v_net.a : (List (Str × Int)))), .val (enc (v_net.b : (List (T3 Str (Tp Int) Bool)))), .val (enc (v_net.c : (List (Str × (Tp Int))))), .val (enc (t3 : Int)), .val (enc (t7 : Int)), .un, .un, .un, .un, .un, .un, .un, .un, .un, .un, .un, .un] := E
    have S : Hx K _ _ _ _ [] _ := S
    obtain ⟨l17, h18, hm0⟩ := bindE hm0
    try (with_reducible refine nxD ?_)
    with_reducible refine sq ?_
    refine st_set (i := 8) (d := enc (l17 : (List Int))) (RXo.frz (rxo_mapO (eα := enc) (eβ := enc) (fun x10 => [.val (enc (v_net : (T3 (List (Str × Int)) (List (T3 Str (Tp Int) Bool)) (List (Str × (Tp Int)))))), .val (enc (v_copies : Int)), .val (enc (v_votes : Bool)), .val (enc (v_net.a : (List (Str × Int)))), .val (enc (v_net.b : (List (T3 Str (Tp Int) Bool)))), .val (enc (v_net.c : (List (Str × (Tp Int))))), .val (enc (t3 : Int)), .val (enc (t7 : Int)), .un, .un, .un, .un, .un, .un, .un, .un, .val (enc (x10 : Int)), .un, .un, .un]) [16] (ri_rangeLenM (f := enc) (RX.s (rx_var (d := enc (v_net.a : (List (Str × Int)))) rfl))) h18 (by decide) (fun x10 _ => (rg_name (i := 16) (d := enc (x10 : Int)))) (fun x10 _ y h9 D11 acc12 => by obtain ⟨t15, h16, h9⟩ := bindE h9; obtain rfl := Option.some.inj h9; exact (rx_mulO h16 (rx_var (d := enc (x10 : Int)) rfl) (rx_var (d := enc (v_copies : Int)) rfl))))) E S fun σ F H f E S => ?_
    replace fc := fc.trans f
    have E : EnvR K _ _ [.val (enc (v_net : (T3 (List (Str × Int)) (List (T3 Str (Tp Int) Bool)) (List (Str × (Tp Int)))))), .val (enc (v_copies : Int)), .val (enc (v_votes : Bool)), .val (enc (v_net.a : (List (Str × Int)))), .val (enc (v_net.b : (List (T3 Str (Tp Int) Bool)))), .val (enc (v_net.c : (List (Str × (Tp Int))))), .val (enc (t3 : Int)), .val (enc (t7 : Int)), .val (enc (l17 : (List Int))), .un, .un, .un, .un, .un, .un, .un, .un, .un, .un, .un] := E
    have S : Hx K _ _ _ _ [] _ := S
    obtain ⟨l31, h32, hm0⟩ := bindE hm0
    obtain ⟨t33, h34, hm0⟩ := bindE hm0
    try (with_reducible refine nxD ?_)
    with_reducible refine sq ?_
    refine st_set (i := 8) (d := enc (t33 : (List Int))) (RXo.frz (rxo_catO (f := enc) h34 (RX.s (rx_var (d := enc (l17 : (List Int))) rfl)) (RXo.s (rxo_mapO (eα := enc) (eβ := enc) (fun x20 => [.val (enc (v_net : (T3 (List (Str × Int)) (List (T3 Str (Tp Int) Bool)) (List (Str × (Tp Int)))))), .val (enc (v_copies : Int)), .val (enc (v_votes : Bool)), .val (enc (v_net.a : (List (Str × Int)))), .val (enc (v_net.b : (List (T3 Str (Tp Int) Bool)))), .val (enc (v_net.c : (List (Str × (Tp Int))))), .val (enc (t3 : Int)), .val (enc (t7 : Int)), .val (enc (l17 : (List Int))), .un, .val (enc (x20 : Int)), .un, .un, .un, .un, .un, .un, .un, .un, .un]) [10] (ri_rangeLenM (f := enc) (RX.s (rx_var (d := enc (v_net.b : (List (T3 Str (Tp Int) Bool)))) rfl))) h32 (by decide) (fun x20 _ => (rg_name (i := 10) (d := enc (x20 : Int)))) (fun x20 _ y h19 D21 acc22 => by obtain ⟨t27, h28, h19⟩ := bindE h19; obtain ⟨t29, h30, h19⟩ := bindE h19; obtain rfl := Option.some.inj h19; exact (rx_add (rx_add (rx_var (d := enc (t7 : Int)) rfl) (rx_mulO h28 (rx_var (d := enc (x20 : Int)) rfl) (rx_var (d := enc (t3 : Int)) rfl))) (rx_mulO h30 (rx_intB (rx_var (d := enc (v_votes : Bool)) rfl)) (rx_var (d := enc (v_copies : Int)) rfl)))))))) E S fun σ F H f E S => ?_
    replace fc := fc.trans f
    have E : EnvR K _ _ [.val (enc (v_net : (T3 (List (Str × Int)) (List (T3 Str (Tp Int) Bool)) (List (Str × (Tp Int)))))), .val (enc (v_copies : Int)), .val (enc (v_votes : Bool)), .val (enc (v_net.a : (List (Str × Int)))), .val (enc (v_net.b : (List (T3 Str (Tp Int) Bool)))), .val (enc (v_net.c : (List (Str × (Tp Int))))), .val (enc (t3 : Int)), .val (enc (t7 : Int)), .val (enc (t33 : (List Int))), .un, .un, .un, .un, .un, .un, .un, .un, .un, .un, .un] := E
    have S : Hx K _ _ _ _ [] _ := S
    obtain ⟨v35, h36, hm0⟩ := letE hm0
    try (with_reducible refine nxD ?_)
    with_reducible refine sq ?_
    refine st_setO (i := 9) (ds := v35.map enc) (rxo_as (f := enc) h36 (rxo_lst (ds := []) ra_nil)) E S fun p_told37 σ F H f E S => ?_
    replace fc := fc.trans f
    have E : EnvR K _ _ [.val (enc (v_net : (T3 (List (Str × Int)) (List (T3 Str (Tp Int) Bool)) (List (Str × (Tp Int)))))), .val (enc (v_copies : Int)), .val (enc (v_votes : Bool)), .val (enc (v_net.a : (List (Str × Int)))), .val (enc (v_net.b : (List (T3 Str (Tp Int) Bool)))), .val (enc (v_net.c : (List (Str × (Tp Int))))), .val (enc (t3 : Int)), .val (enc (t7 : Int)), .val (enc (t33 : (List Int))), .adr p_told37, .un, .un, .un, .un, .un, .un, .un, .un, .un, .un] := E
    have S : Hx K _ _ _ _ [⟨p_told37, true, v35.map enc⟩] _ := S
    obtain ⟨s94, h42, hm0⟩ := bindE hm0
    try (with_reducible refine nxD ?_)
    with_reducible refine sq ?_
    refine st_forS (eα := enc) (fun s39 => [.val (enc (v_net : (T3 (List (Str × Int)) (List (T3 Str (Tp Int) Bool)) (List (Str × (Tp Int)))))), .val (enc (v_copies : Int)), .val (enc (v_votes : Bool)), .val (enc (v_net.a : (List (Str × Int)))), .val (enc (v_net.b : (List (T3 Str (Tp Int) Bool)))), .val (enc (v_net.c : (List (Str × (Tp Int))))), .val (enc (t3 : Int)), .val (enc (t7 : Int)), .val (enc (t33 : (List Int))), .adr p_told37, .un, .un, .un, .un, .un, .un, .un, .un, .un, .un]) (fun s39 => [⟨p_told37, true, s39.map enc⟩]) E S (ri_enumT (rx_var (d := enc (v_net.b : (List (T3 Str (Tp Int) Bool)))) rfl)) h42 ⟨.inl rfl, .inl rfl, .inl rfl, .inl rfl, .inl rfl, .inl rfl, .inl rfl, .inl rfl, .inl rfl, .inl rfl, .inr rfl, .inr rfl, .inr rfl, .inr rfl, .inr rfl, .inr rfl, .inr rfl, .inr rfl, .inr rfl, .inr rfl, trivial⟩ (fun σ F H f E S => ?_) (fun x40 _ s39 s' h38 σ F H v _ E S r N B hN => ?_)
    · replace fc := fc.trans f
      have E : EnvR K _ _ [.val (enc (v_net : (T3 (List (Str × Int)) (List (T3 Str (Tp Int) Bool)) (List (Str × (Tp Int)))))), .val (enc (v_copies : Int)), .val (enc (v_votes : Bool)), .val (enc (v_net.a : (List (Str × Int)))), .val (enc (v_net.b : (List (T3 Str (Tp Int) Bool)))), .val (enc (v_net.c : (List (Str × (Tp Int))))), .val (enc (t3 : Int)), .val (enc (t7 : Int)), .val (enc (t33 : (List Int))), .adr p_told37, .un, .un, .un, .un, .un, .un, .un, .un, .un, .un] := E
      have S : Hx K _ _ _ _ [⟨p_told37, true, s94.map enc⟩] _ := S
      obtain ⟨l131, h132, hm0⟩ := bindE hm0
      try (with_reducible refine nxD ?_)
      with_reducible refine sq ?_
      refine st_setO (i := 15) (ds := l131.map enc) (rxo_mapO (eα := enc) (eβ := enc) (fun x96 => [.val (enc (v_net : (T3 (List (Str × Int)) (List (T3 Str (Tp Int) Bool)) (List (Str × (Tp Int)))))), .val (enc (v_copies : Int)), .val (enc (v_votes : Bool)), .val (enc (v_net.a : (List (Str × Int)))), .val (enc (v_net.b : (List (T3 Str (Tp Int) Bool)))), .val (enc (v_net.c : (List (Str × (Tp Int))))), .val (enc (t3 : Int)), .val (enc (t7 : Int)), .val (enc (t33 : (List Int))), .adr p_told37, .un, .un, .val (enc (x96.2 : (Tp Int))), .un, .un, .un, .un, .val (enc (x96.1 : Str)), .un, .un]) [17, 12] (ri_list (ys := v_net.c.map enc) (rx_var (d := enc (v_net.c : (List (Str × (Tp Int))))) rfl)) h132 (by decide) (fun x96 _ => (rg_tup (ds := [enc (x96.1 : Str), enc (x96.2 : (Tp Int))]) (RGs.cons (rg_name (i := 17) (d := enc (x96.1 : Str))) (RGs.cons (rg_name (i := 12) (d := enc (x96.2 : (Tp Int)))) RGs.nil)))) (fun x96 _ y h95 D97 acc98 => by obtain ⟨l115, h116, h95⟩ := bindE h95; obtain ⟨l129, h130, h95⟩ := bindE h95; obtain rfl := Option.some.inj h95; exact (rx_tup (ds := [enc (x96.1 : Str), enc ((Tp.mk l129) : (Tp Int))]) (ra_cons (rx_var (d := enc (x96.1 : Str)) rfl) (ra_cons (rx_tuple (RXo.s (rxo_mapO (eα := enc) (eβ := enc) (fun x118 => [.val (enc (v_net : (T3 (List (Str × Int)) (List (T3 Str (Tp Int) Bool)) (List (Str × (Tp Int)))))), .val (enc (v_copies : Int)), .val (enc (v_votes : Bool)), .val (enc (v_net.a : (List (Str × Int)))), .val (enc (v_net.b : (List (T3 Str (Tp Int) Bool)))), .val (enc (v_net.c : (List (Str × (Tp Int))))), .val (enc (t3 : Int)), .val (enc (t7 : Int)), .val (enc (t33 : (List Int))), .adr p_told37, .un, .un, .val (enc (x96.2 : (Tp Int))), .un, .un, .un, .un, .val (enc (x96.1 : Str)), .un, .val (enc (x118 : Int))]) [19] (ri_range h116 (rx_var (d := enc (v_copies : Int)) rfl)) h130 (by decide) (fun x118 _ => (rg_name (i := 19) (d := enc (x118 : Int)))) (fun x118 _ y h117 D119 acc120 => by obtain ⟨t125, h126, h117⟩ := bindE h117; obtain ⟨t127, h128, h117⟩ := bindE h117; obtain rfl := Option.some.inj h117; exact (rx_add (rx_ix (atI_map enc h128) (RX.s (rx_var (d := enc (t33 : (List Int))) rfl)) (rx_ixT (atI_map enc h126) (rx_var (d := enc (x96.2 : (Tp Int))) rfl) rx_int)) (rx_var (d := enc (x118 : Int)) rfl)))))) ra_nil))))) E S fun p_some133 σ F H f E S => ?_
      replace fc := fc.trans f
      have E : EnvR K _ _ [.val (enc (v_net : (T3 (List (Str × Int)) (List (T3 Str (Tp Int) Bool)) (List (Str × (Tp Int)))))), .val (enc (v_copies : Int)), .val (enc (v_votes : Bool)), .val (enc (v_net.a : (List (Str × Int)))), .val (enc (v_net.b : (List (T3 Str (Tp Int) Bool)))), .val (enc (v_net.c : (List (Str × (Tp Int))))), .val (enc (t3 : Int)), .val (enc (t7 : Int)), .val (enc (t33 : (List Int))), .adr p_told37, .un, .un, .un, .un, .un, .adr p_some133, .un, .un, .un, .un] := E
      have S : Hx K _ _ _ _ [⟨p_some133, true, l131.map enc⟩, ⟨p_told37, true, s94.map enc⟩] _ := S
      obtain rfl := Option.some.inj hm0
      -- return
      try (with_reducible refine nxD ?_)
      refine st_retT (ess := [(v_net.a.map (fun (x135 : (Str × Int)) => ((x135.1, v_copies) : (Str × Int)))).map enc, s94.map enc, l131.map enc]) (rao_cons (es := (v_net.a.map (fun (x135 : (Str × Int)) => ((x135.1, v_copies) : (Str × Int)))).map enc) (rxo_map (eα := enc) (eβ := enc) (f := (fun (x135 : (Str × Int)) => ((x135.1, v_copies) : (Str × Int)))) (fun x135 => [.val (enc (v_net : (T3 (List (Str × Int)) (List (T3 Str (Tp Int) Bool)) (List (Str × (Tp Int)))))), .val (enc (v_copies : Int)), .val (enc (v_votes : Bool)), .val (enc (v_net.a : (List (Str × Int)))), .val (enc (v_net.b : (List (T3 Str (Tp Int) Bool)))), .val (enc (v_net.c : (List (Str × (Tp Int))))), .val (enc (t3 : Int)), .val (enc (t7 : Int)), .val (enc (t33 : (List Int))), .adr p_told37, .un, .un, .un, .un, .un, .adr p_some133, .un, .val (enc (x135.1 : Str)), .val (enc (x135.2 : Int)), .un]) [17, 18] (ri_list (ys := v_net.a.map enc) (rx_var (d := enc (v_net.a : (List (Str × Int)))) rfl)) (by decide) (fun x135 _ => (rg_tup (ds := [enc (x135.1 : Str), enc (x135.2 : Int)]) (RGs.cons (rg_name (i := 17) (d := enc (x135.1 : Str))) (RGs.cons (rg_name (i := 18) (d := enc (x135.2 : Int))) RGs.nil)))) (fun x135 _ D136 acc137 => (rx_tup (ds := [enc (x135.1 : Str), enc (v_copies : Int)]) (ra_cons (rx_var (d := enc (x135.1 : Str)) rfl) (ra_cons (rx_var (d := enc (v_copies : Int)) rfl) ra_nil))))) (rao_cons (es := s94.map enc) (rxo_own (j := 1) (p := p_told37) (ds := s94.map enc) rfl rfl) (rao_cons (es := l131.map enc) (rxo_own (j := 0) (p := p_some133) (ds := l131.map enc) rfl rfl) rao_nil))) E S (fun T ps F H f hl hT S => ?_)
      obtain ⟨nd, hq⟩ := S.outT hl
      exact k T ps F H S.stp hT hl nd hq
    · refine ((rg_tup (ds := [enc (x40.1 : Int), enc (x40.2 : (T3 Str (Tp Int) Bool))]) (RGs.cons (rg_name (i := 10) (d := enc (x40.1 : Int))) (RGs.cons (rg_tup (ds := [enc (x40.2.a : Str), enc (x40.2.b : (Tp Int)), enc (x40.2.c : Bool)]) (RGs.cons (rg_name (i := 11) (d := enc (x40.2.a : Str))) (RGs.cons (rg_name (i := 12) (d := enc (x40.2.b : (Tp Int)))) (RGs.cons (rg_name (i := 13) (d := enc (x40.2.c : Bool))) RGs.nil)))) RGs.nil)))).run _ _ _ _ _ E r S.fh fun σ E _ => ?_
      have E : EnvR K _ _ [.val (enc (v_net : (T3 (List (Str × Int)) (List (T3 Str (Tp Int) Bool)) (List (Str × (Tp Int)))))), .val (enc (v_copies : Int)), .val (enc (v_votes : Bool)), .val (enc (v_net.a : (List (Str × Int)))), .val (enc (v_net.b : (List (T3 Str (Tp Int) Bool)))), .val (enc (v_net.c : (List (Str × (Tp Int))))), .val (enc (t3 : Int)), .val (enc (t7 : Int)), .val (enc (t33 : (List Int))), .adr p_told37, .val (enc (x40.1 : Int)), .val (enc (x40.2.a : Str)), .val (enc (x40.2.b : (Tp Int))), .val (enc (x40.2.c : Bool)), .un, .un, .un, .un, .un, .un] := E
      have S : Hx K _ _ _ _ [⟨p_told37, true, s39.map enc⟩] _ := S
      have fc : Same F F := Same.refl F
      obtain ⟨l44, h45, h38⟩ := bindE h38
      obtain ⟨l70, h71, h38⟩ := bindE h38
      obtain ⟨u72, h73, h38⟩ := bindE h38
      try (with_reducible refine nxD ?_)
      with_reducible refine sq ?_
      refine st_ext (j := 0) (ds := s39.map enc) (es := l70.map enc) (extO_map enc h73) rfl (RXo.frz (rxo_mapO (eα := enc) (eβ := enc) (fun x47 => [.val (enc (v_net : (T3 (List (Str × Int)) (List (T3 Str (Tp Int) Bool)) (List (Str × (Tp Int)))))), .val (enc (v_copies : Int)), .val (enc (v_votes : Bool)), .val (enc (v_net.a : (List (Str × Int)))), .val (enc (v_net.b : (List (T3 Str (Tp Int) Bool)))), .val (enc (v_net.c : (List (Str × (Tp Int))))), .val (enc (t3 : Int)), .val (enc (t7 : Int)), .val (enc (t33 : (List Int))), .adr p_told37, .val (enc (x40.1 : Int)), .val (enc (x40.2.a : Str)), .val (enc (x40.2.b : (Tp Int))), .val (enc (x40.2.c : Bool)), .un, .un, .un, .un, .un, .val (enc (x47 : Int))]) [19] (ri_range h45 (rx_var (d := enc (v_copies : Int)) rfl)) h71 (by decide) (fun x47 _ => (rg_name (i := 19) (d := enc (x47 : Int)))) (fun x47 _ y h46 D48 acc49 => by obtain ⟨l68, h69, h46⟩ := bindE h46; obtain rfl := Option.some.inj h46; exact (rx_tup (ds := [enc (x40.2.a : Str), enc ((Tp.mk l68) : (Tp Int)), enc (x40.2.c : Bool)]) (ra_cons (rx_var (d := enc (x40.2.a : Str)) rfl) (ra_cons (rx_tuple (RXo.s (rxo_mapO (eα := enc) (eβ := enc) (fun x61 => [.val (enc (v_net : (T3 (List (Str × Int)) (List (T3 Str (Tp Int) Bool)) (List (Str × (Tp Int)))))), .val (enc (v_copies : Int)), .val (enc (v_votes : Bool)), .val (enc (v_net.a : (List (Str × Int)))), .val (enc (v_net.b : (List (T3 Str (Tp Int) Bool)))), .val (enc (v_net.c : (List (Str × (Tp Int))))), .val (enc (t3 : Int)), .val (enc (t7 : Int)), .val (enc (t33 : (List Int))), .adr p_told37, .val (enc (x40.1 : Int)), .val (enc (x40.2.a : Str)), .val (enc (x40.2.b : (Tp Int))), .val (enc (x40.2.c : Bool)), .un, .un, .val (enc (x61 : Int)), .un, .un, .val (enc (x47 : Int))]) [16] (ri_tup (ys := x40.2.b.l.map enc) (rx_var (d := enc (x40.2.b : (Tp Int))) rfl)) h69 (by decide) (fun x61 _ => (rg_name (i := 16) (d := enc (x61 : Int)))) (fun x61 _ y h60 D62 acc63 => by obtain ⟨t66, h67, h60⟩ := bindE h60; obtain rfl := Option.some.inj h60; exact (rx_add (rx_ix (atI_map enc h67) (RX.s (rx_var (d := enc (t33 : (List Int))) rfl)) (rx_var (d := enc (x61 : Int)) rfl)) (rx_var (d := enc (x47 : Int)) rfl)))))) (ra_cons (rx_var (d := enc (x40.2.c : Bool)) rfl) ra_nil))))))) ⟨_, rfl⟩ rfl E S fun F H f E S => ?_
      replace fc := fc.trans f
      have E : EnvR K _ _ [.val (enc (v_net : (T3 (List (Str × Int)) (List (T3 Str (Tp Int) Bool)) (List (Str × (Tp Int)))))), .val (enc (v_copies : Int)), .val (enc (v_votes : Bool)), .val (enc (v_net.a : (List (Str × Int)))), .val (enc (v_net.b : (List (T3 Str (Tp Int) Bool)))), .val (enc (v_net.c : (List (Str × (Tp Int))))), .val (enc (t3 : Int)), .val (enc (t7 : Int)), .val (enc (t33 : (List Int))), .adr p_told37, .val (enc (x40.1 : Int)), .val (enc (x40.2.a : Str)), .val (enc (x40.2.b : (Tp Int))), .val (enc (x40.2.c : Bool)), .un, .un, .un, .un, .un, .un] := E
      have S : Hx K _ _ _ _ [⟨p_told37, true, u72.map enc⟩] _ := S
      obtain ⟨l74, h75, h38⟩ := bindE h38
      obtain ⟨l84, h85, h38⟩ := bindE h38
      obtain ⟨v86, h87, h38⟩ := letE h38
      try (with_reducible refine nxD ?_)
      with_reducible refine sq ?_
      refine st_set (i := 14) (d := enc (v86 : (Tp Int))) (rx_as (x := ((Tp.mk l84) : (Tp Int))) h87 (rx_tuple (RXo.s (rxo_mapO (eα := enc) (eβ := enc) (fun x77 => [.val (enc (v_net : (T3 (List (Str × Int)) (List (T3 Str (Tp Int) Bool)) (List (Str × (Tp Int)))))), .val (enc (v_copies : Int)), .val (enc (v_votes : Bool)), .val (enc (v_net.a : (List (Str × Int)))), .val (enc (v_net.b : (List (T3 Str (Tp Int) Bool)))), .val (enc (v_net.c : (List (Str × (Tp Int))))), .val (enc (t3 : Int)), .val (enc (t7 : Int)), .val (enc (t33 : (List Int))), .adr p_told37, .val (enc (x40.1 : Int)), .val (enc (x40.2.a : Str)), .val (enc (x40.2.b : (Tp Int))), .val (enc (x40.2.c : Bool)), .un, .un, .un, .un, .un, .val (enc (x77 : Int))]) [19] (ri_range h75 (rx_var (d := enc (v_copies : Int)) rfl)) h85 (by decide) (fun x77 _ => (rg_name (i := 19) (d := enc (x77 : Int)))) (fun x77 _ y h76 D78 acc79 => by obtain ⟨t82, h83, h76⟩ := bindE h76; obtain rfl := Option.some.inj h76; exact (rx_add (rx_add (rx_var (d := enc (t7 : Int)) rfl) (rx_mulO h83 (rx_var (d := enc (x40.1 : Int)) rfl) (rx_var (d := enc (t3 : Int)) rfl))) (rx_var (d := enc (x77 : Int)) rfl))))))) E S fun σ F H f E S => ?_
      replace fc := fc.trans f
      have E : EnvR K _ _ [.val (enc (v_net : (T3 (List (Str × Int)) (List (T3 Str (Tp Int) Bool)) (List (Str × (Tp Int)))))), .val (enc (v_copies : Int)), .val (enc (v_votes : Bool)), .val (enc (v_net.a : (List (Str × Int)))), .val (enc (v_net.b : (List (T3 Str (Tp Int) Bool)))), .val (enc (v_net.c : (List (Str × (Tp Int))))), .val (enc (t3 : Int)), .val (enc (t7 : Int)), .val (enc (t33 : (List Int))), .adr p_told37, .val (enc (x40.1 : Int)), .val (enc (x40.2.a : Str)), .val (enc (x40.2.b : (Tp Int))), .val (enc (x40.2.c : Bool)), .val (enc (v86 : (Tp Int))), .un, .un, .un, .un, .un] := E
      have S : Hx K _ _ _ _ [⟨p_told37, true, u72.map enc⟩] _ := S
      obtain ⟨t88, h89, h38⟩ := bindE h38
      obtain ⟨t90, h91, h38⟩ := bindE h38
      obtain ⟨u92, h93, h38⟩ := bindE h38
      try (with_reducible refine nxD ?_)
      refine (st_ext (j := 0) (ds := u72.map enc) (es := t90.map enc) (extO_map enc h93) rfl (RXo.frz (rxo_repO (f := enc) h91 (rxo_lst (ds := [enc ((T3.mk ("vote" : Str) v86 x40.2.c) : (T3 Str (Tp Int) Bool))]) (ra_cons (rx_tup (ds := [enc (("vote" : Str) : Str), enc (v86 : (Tp Int)), enc (x40.2.c : Bool)]) (ra_cons (rx_str (x := ("vote" : Str))) (ra_cons (rx_var (d := enc (v86 : (Tp Int))) rfl) (ra_cons (rx_var (d := enc (x40.2.c : Bool)) rfl) ra_nil)))) ra_nil)) (fun _ => (rx_mulO h89 (rx_var (d := enc (v_copies : Int)) rfl) (rx_intB (rx_var (d := enc (v_votes : Bool)) rfl)))))) ⟨_, rfl⟩ rfl E S fun F H f E S => ?_)
      replace fc := fc.trans f
      have E : EnvR K _ _ [.val (enc (v_net : (T3 (List (Str × Int)) (List (T3 Str (Tp Int) Bool)) (List (Str × (Tp Int)))))), .val (enc (v_copies : Int)), .val (enc (v_votes : Bool)), .val (enc (v_net.a : (List (Str × Int)))), .val (enc (v_net.b : (List (T3 Str (Tp Int) Bool)))), .val (enc (v_net.c : (List (Str × (Tp Int))))), .val (enc (t3 : Int)), .val (enc (t7 : Int)), .val (enc (t33 : (List Int))), .adr p_told37, .val (enc (x40.1 : Int)), .val (enc (x40.2.a : Str)), .val (enc (x40.2.b : (Tp Int))), .val (enc (x40.2.c : Bool)), .val (enc (v86 : (Tp Int))), .un, .un, .un, .un, .un] := E
      have S : Hx K _ _ _ _ [⟨p_told37, true, u92.map enc⟩] _ := S
      obtain rfl := Option.some.inj h38
      exact hN _ _ _ fc (E.weak ⟨.inl rfl, .inl rfl, .inl rfl, .inl rfl, .inl rfl, .inl rfl, .inl rfl, .inl rfl, .inl rfl, .inl rfl, .inr rfl, .inr rfl, .inr rfl, .inr rfl, .inr rfl, .inr rfl, .inr rfl, .inr rfl, .inr rfl, .inr rfl, trivial⟩) S
theorem sc_in_threes : FnScope ["net"] ["net"] (defScope (top 8)) := ⟨rfl, rfl, rfl, by decide +kernel, rfl, by decide +kernel, by decide +kernel⟩
theorem ok_in_threes (D : Dfn K mg "in_threes" (top 8) ["net"]) (CT_copied : Cal P w K mg base 2 "copied" ["net", "copies", "votes"] (SpT K RT_copied)) : Cal P w K mg base 3 "in_threes" ["net"] (SpT K RT_in_threes) := by
  refine D.cal sc_in_threes (st_len fun ds d h => by obtain ⟨_, _, rfl, _⟩ := h; rfl) fun f cdv A outer s H vs Q E hr h => ?_
  refine ⟨_, (pss_one (ps_ret (pe_cal CT_copied hr (pa_cons (pv 0) (pa_cons pe_int (pa_cons pe_bl pa_nil)))))), ?_⟩
  obtain ⟨F, ds, ess, hw, hF, ⟨v_net, rr, rfl, rfl, hm0⟩, k⟩ := h
  have E : EnvR K F _ [.val (enc (v_net : (T3 (List (Str × Int)) (List (T3 Str (Tp Int) Bool)) (List (Str × (Tp Int))))))] := EnvR.start (N := ["net"]) (AsR.of_all hw)
  have S := Hx.start (K := K) hF
  have fc : Same F F := Same.refl F
  unfold m_in_threes at hm0
  obtain ⟨r1, h2, hm0⟩ := bindE hm0
  obtain rfl := Option.some.inj hm0
  -- return
  try (with_reducible refine nxD ?_)
  refine st_retCT (R := RT_copied) (ds := [enc (v_net : (T3 (List (Str × Int)) (List (T3 Str (Tp Int) Bool)) (List (Str × (Tp Int))))), enc ((3 : Int) : Int), enc (false : Bool)]) (ess := [r1.a.map enc, r1.b.map enc, r1.c.map enc]) ⟨_, _, _, r1, rfl, rfl, h2⟩ (ra_cons (rx_var (d := enc (v_net : (T3 (List (Str × Int)) (List (T3 Str (Tp Int) Bool)) (List (Str × (Tp Int)))))) rfl) (ra_cons rx_int (ra_cons rx_bl ra_nil))) E S fun T ps F H f hl hT S => ?_
  obtain ⟨nd, hq⟩ := S.outT hl
  exact k T ps F H S.stp hT hl nd hq
theorem sc_in_pairs : FnScope ["net"] ["net"] (defScope (top 9)) := ⟨rfl, rfl, rfl, by decide +kernel, rfl, by decide +kernel, by decide +kernel⟩
theorem ok_in_pairs (D : Dfn K mg "in_pairs" (top 9) ["net"]) (CT_copied : Cal P w K mg base 2 "copied" ["net", "copies", "votes"] (SpT K RT_copied)) : Cal P w K mg base 3 "in_pairs" ["net"] (SpT K RT_in_pairs) := by
  refine D.cal sc_in_pairs (st_len fun ds d h => by obtain ⟨_, _, rfl, _⟩ := h; rfl) fun f cdv A outer s H vs Q E hr h => ?_
  refine ⟨_, (pss_one (ps_ret (pe_cal CT_copied hr (pa_cons (pv 0) (pa_cons pe_int (pa_cons pe_bl pa_nil)))))), ?_⟩
  obtain ⟨F, ds, ess, hw, hF, ⟨v_net, rr, rfl, rfl, hm0⟩, k⟩ := h
  have E : EnvR K F _ [.val (enc (v_net : (T3 (List (Str × Int)) (List (T3 Str (Tp Int) Bool)) (List (Str × (Tp Int))))))] := EnvR.start (N := ["net"]) (AsR.of_all hw)
  have S := Hx.start (K := K) hF
  have fc : Same F F := Same.refl F
  unfold m_in_pairs at hm0
  obtain ⟨r1, h2, hm0⟩ := bindE hm0
  obtain rfl := Option.some.inj hm0
  -- return
  try (with_reducible refine nxD ?_)
  refine st_retCT (R := RT_copied) (ds := [enc (v_net : (T3 (List (Str × Int)) (List (T3 Str (Tp Int) Bool)) (List (Str × (Tp Int))))), enc ((2 : Int) : Int), enc (false : Bool)]) (ess := [r1.a.map enc, r1.b.map enc, r1.c.map enc]) ⟨_, _, _, r1, rfl, rfl, h2⟩ (ra_cons (rx_var (d := enc (v_net : (T3 (List (Str × Int)) (List (T3 Str (Tp Int) Bool)) (List (Str × (Tp Int)))))) rfl) (ra_cons rx_int (ra_cons rx_bl ra_nil))) E S fun T ps F H f hl hT S => ?_
  obtain ⟨nd, hq⟩ := S.outT hl
  exact k T ps F H S.stp hT hl nd hq
theorem sc__law_next : FnScope ["pot", "many", "cell", "stir"] ["pot", "many"] (defScope (top 11)) := ⟨rfl, rfl, rfl, by decide +kernel, rfl, by decide +kernel, by decide +kernel⟩
theorem ok__law_next (D : Dfn K mg "_law_next" (top 11) ["pot", "many"]) : Cal P w K mg base 1 "_law_next" ["pot", "many"] (SpPo K R__law_next) := by
  refine D.cal sc__law_next (spo_len fun c ds d c' h => by obtain ⟨_, _, _, _, rfl, _⟩ := h; rfl) fun f cdv A outer s H vs Q E hr h => ?_
  refine ⟨_, (pss_cons (ps_asg (pe_op op_add (pe_ix (k_ix_list K) (pv 0) pe_int (fun _ _ => rfl)) pe_int) (pg_sub (pv 0) pe_int set_list)) (pss_cons (ps_set (i := 2) sc__law_next.nd rfl (Or.inl rfl) (pe_ix (k_ix_list K) (pv 0) pe_int (fun _ _ => rfl))) (pss_cons (ps_if (pt_cmpR op_ge (pv 2) (pe_op op_pow pe_int pe_int) (nomark _)) (pss_cons (ps_asg (pe_op op_fdiv (pv 2) (pv 1)) (pg_sub (pv 0) pe_int set_list)) (pss_one (ps_ret (pe_op op_mod (pv 2) (pv 1))))) pss_nil) (pss_cons (ps_set (i := 3) sc__law_next.nd rfl (Or.inl rfl) (pe_op op_mod (pe_op op_add (pe_op op_add (pe_op op_mul (pv 2) pe_int) (pe_op op_mul (pe_ix (k_ix_list K) (pv 0) pe_int (fun _ _ => rfl)) pe_int)) pe_int) pe_int)) (pss_cons (ps_set (i := 3) sc__law_next.nd rfl (Or.inl rfl) (pe_op op_mod (pe_op op_mul (pv 3) (pv 3)) pe_int)) (pss_one (ps_ret (pe_op op_mod (pe_op op_fdiv (pe_op op_mod (pe_op op_add (pe_op op_mul (pv 3) pe_int) (pe_op op_mul (pe_ix (k_ix_list K) (pv 0) pe_int (fun _ _ => rfl)) pe_int)) pe_int) pe_int) (pv 1))))))))), ?_⟩
  obtain ⟨F, p_pot, ws, xs, c, ds, d, c', rfl, hw, hF, hp, hH, hz, hc, ⟨v_pot, v_many, rr, rfl, rfl, rfl, rfl, hm0⟩, k⟩ := h
  have E : EnvR K F _ [.adr p_pot, .val (enc (v_many : Int)), .un, .un] := EnvR.start (N := ["pot", "many", "cell", "stir"]) (AsR.adr (AsR.of_all hw))
  have S := Hx.start1 hF hp hH hz hc
  have fc : Same F F := Same.refl F
  unfold m__law_next at hm0
  obtain ⟨t1, h2, hm0⟩ := bindE hm0
  obtain ⟨u3, h4, hm0⟩ := bindE hm0
  try (with_reducible refine nxD ?_)
  with_reducible refine sq ?_
  refine st_put (j := 0) (ds := v_pot.map enc) (d := enc ((t1 + (1 : Int)) : Int)) (setO_map enc h4) (rx_add (rx_ix (atI_map enc h2) (rxs_own (j := 0) (ds := v_pot.map enc) rfl rfl) rx_int) rx_int) rfl rx_int rfl E S fun F H f E S => ?_
  replace fc := fc.trans f
  have E : EnvR K _ _ [.adr p_pot, .val (enc (v_many : Int)), .un, .un] := E
  have S : Hx K _ _ _ _ [⟨p_pot, false, u3.map enc⟩] _ := S
  obtain ⟨t5, h6, hm0⟩ := bindE hm0
  try (with_reducible refine nxD ?_)
  with_reducible refine sq ?_
  refine st_set (i := 2) (d := enc (t5 : Int)) (rx_ix (atI_map enc h6) (rxs_own (j := 0) (ds := u3.map enc) rfl rfl) rx_int) E S fun σ F H f E S => ?_
  replace fc := fc.trans f
  have E : EnvR K _ _ [.adr p_pot, .val (enc (v_many : Int)), .val (enc (t5 : Int)), .un] := E
  have S : Hx K _ _ _ _ [⟨p_pot, false, u3.map enc⟩] _ := S
  try (with_reducible refine nxD ?_)
  with_reducible refine sq ?_
  refine st_if (b := (decide (((10 : Int) ^ (18 : Int).toNat) ≤ t5))) (rt_val (rx_ge (rx_var (d := enc (t5 : Int)) rfl) (rx_pow rx_int rx_int ⟨by decide, by decide, by decide⟩))) E S (fun hc F H f E S => ?_) (fun hc F H f E S => ?_)
  · rw [if_pos hc] at hm0
    replace fc := fc.trans f
    obtain ⟨t7, h8, hm0⟩ := bindE hm0
    obtain ⟨u9, h10, hm0⟩ := bindE hm0
    try (with_reducible refine nxD ?_)
    with_reducible refine sq ?_
    refine st_put (j := 0) (ds := u3.map enc) (d := enc (t7 : Int)) (setO_map enc h10) (rx_fdivO h8 (rx_var (d := enc (t5 : Int)) rfl) (rx_var (d := enc (v_many : Int)) rfl)) rfl rx_int rfl E S fun F H f E S => ?_
    replace fc := fc.trans f
    have E : EnvR K _ _ [.adr p_pot, .val (enc (v_many : Int)), .val (enc (t5 : Int)), .un] := E
    have S : Hx K _ _ _ _ [⟨p_pot, false, u9.map enc⟩] _ := S
    obtain ⟨t13, h14, hm0⟩ := bindE hm0
    obtain rfl := Option.some.inj hm0
    -- return
    try (with_reducible refine nxD ?_)
    refine st_ret (d := enc (t13 : Int)) (rx_modO h14 (rx_var (d := enc (t5 : Int)) rfl) (rx_var (d := enc (v_many : Int)) rfl)) E S fun v F H f S r => ?_
    obtain ⟨g1, g2, g3, ys, g4, g5, g6⟩ := S.get (j := 0) rfl
    exact k v F H ys S.stp g1 g4 g5 g6 r
  · rw [if_neg (by rw [hc]; decide)] at hm0
    replace fc := fc.trans f
    refine nxt ?_
    obtain ⟨t15, h16, hm0⟩ := bindE hm0
    obtain ⟨v17, h18, hm0⟩ := letE hm0
    try (with_reducible refine nxD ?_)
    with_reducible refine sq ?_
    refine st_set (i := 3) (d := enc (v17 : Int)) (rx_as (x := (((((t5 * (69621 : Int)) + (t15 * (7919 : Int))) + (13 : Int)) % (2147483647 : Int)) : Int)) h18 (rx_mod (rx_add (rx_add (rx_mul (rx_var (d := enc (t5 : Int)) rfl) rx_int (.inr (by decide))) (rx_mul (rx_ix (atI_map enc h16) (rxs_own (j := 0) (ds := u3.map enc) rfl rfl) rx_int) rx_int (.inr (by decide)))) rx_int) rx_int (by decide))) E S fun σ F H f E S => ?_
    replace fc := fc.trans f
    have E : EnvR K _ _ [.adr p_pot, .val (enc (v_many : Int)), .val (enc (t5 : Int)), .val (enc (v17 : Int))] := E
    have S : Hx K _ _ _ _ [⟨p_pot, false, u3.map enc⟩] _ := S
    obtain ⟨t19, h20, hm0⟩ := bindE hm0
    obtain ⟨v21, h22, hm0⟩ := letE hm0
    try (with_reducible refine nxD ?_)
    with_reducible refine sq ?_
    refine st_set (i := 3) (d := enc (v21 : Int)) (rx_as (x := ((t19 % (2147483629 : Int)) : Int)) h22 (rx_mod (rx_mulO h20 (rx_var (d := enc (v17 : Int)) rfl) (rx_var (d := enc (v17 : Int)) rfl)) rx_int (by decide))) E S fun σ F H f E S => ?_
    replace fc := fc.trans f
    have E : EnvR K _ _ [.adr p_pot, .val (enc (v_many : Int)), .val (enc (t5 : Int)), .val (enc (v21 : Int))] := E
    have S : Hx K _ _ _ _ [⟨p_pot, false, u3.map enc⟩] _ := S
    obtain ⟨t27, h28, hm0⟩ := bindE hm0
    obtain ⟨t29, h30, hm0⟩ := bindE hm0
    obtain rfl := Option.some.inj hm0
    -- return
    try (with_reducible refine nxD ?_)
    refine st_ret (d := enc (t29 : Int)) (rx_modO h30 (rx_fdiv (rx_mod (rx_add (rx_mul (rx_var (d := enc (v21 : Int)) rfl) rx_int (.inr (by decide))) (rx_mul (rx_ix (atI_map enc h28) (rxs_own (j := 0) (ds := u3.map enc) rfl rfl) rx_int) rx_int (.inr (by decide)))) rx_int (by decide)) rx_int ⟨by decide, by decide⟩) (rx_var (d := enc (v_many : Int)) rfl)) E S fun v F H f S r => ?_
    obtain ⟨g1, g2, g3, ys, g4, g5, g6⟩ := S.get (j := 0) rfl
    exact k v F H ys S.stp g1 g4 g5 g6 r
theorem sc__law_pots : FnScope ["script", "cell"] ["script"] (defScope (top 12)) := ⟨rfl, rfl, rfl, by decide +kernel, rfl, by decide +kernel, by decide +kernel⟩
theorem ok__law_pots (B : Bi mg) (D : Dfn K mg "_law_pots" (top 12) ["script"]) : Cal P w K mg base 1 "_law_pots" ["script"] (SpPots K) := by
  refine D.cal sc__law_pots spots_len fun f cdv A outer s H vs Q E hr h => ?_
  refine ⟨_, (pss_cons (ps_if (pt_cmpR op_eq (pe_callB (k_len_seq K) (by rfl) B.len PySem.boot_len (pa_cons (pv 0) pa_nil)) pe_int (nomark _)) (pss_one (ps_ret (pe_lst (pa_cons (pe_lst (pa_cons pe_int (pa_cons pe_int pa_nil))) pa_nil)))) pss_nil) (pss_one (ps_ret (pe_lc (own := [(("cell" : Str), 1)]) (g := (gName 1)) (tt := tYes) rfl sc__law_pots.nd (k_pi_list K (pe_slice (k_sl_list K) (pv 0) po_none (po_some pe_int))) (blkOk_by (by kernel_rfl)) (fun _ _ _ _ _ => (pg_name (i := 1) sc__law_pots.nd rfl (Or.inl rfl))) (fun _ _ _ _ _ => pts_nil) (fun _ _ _ _ _ => (pe_lst (pa_cons (pv 1) (pa_cons pe_int pa_nil)))))))), ?_⟩
  obtain ⟨F, v_script, hw, hF, k⟩ := h
  have E : EnvR K F _ [.val (enc (v_script : (List Int))), .un] := EnvR.start (N := ["script", "cell"]) (AsR.of_all hw)
  have S := Hx.start (K := K) hF
  with_reducible refine sq ?_
  try (with_reducible refine nxD ?_)
  refine st_if (b := (decide ((v_script.length : Int) = (0 : Int)))) (rt_val (rx_eqi (len_nat (f := enc) (RX.s (rx_var (d := enc (v_script : (List Int))) rfl))) rx_int)) E S (fun hc F H f E S => ?_) (fun hc F H f E S => ?_)
  · have hp : potsL v_script = [0] := if_pos (Int.ofNat_eq_zero.mp (of_decide_eq_true hc))
    exact pots_one fun L ps H' a b c d e f g h => k L ps H' (S.same.trans a) (S.noh0 b) c (fun p hp => S.noh0 (d p hp)) e (by rw [hp]; exact f) g (by rw [hp]; exact h)
  · refine nxt ?_
    try (with_reducible refine nxD ?_)
    have hp : potsL v_script = cutL v_script none (some 63) := if_neg (fun z => of_decide_eq_false hc (Int.ofNat_eq_zero.mpr z))
    exact pots_lc (cs := cutL v_script none (some 63)) (by decide) (by exact Nat.lt_succ_self 1) (RXo.frz (rxo_sliceM (f := enc) (RX.s (rx_var (d := enc (v_script : (List Int))) rfl)) ro_none (ro_some rx_int))) E S.fh fun L ps H' a b c d e f g h => k L ps H' (S.same.trans a) (S.noh0 b) c (fun p hp => S.noh0 (d p hp)) e (by rw [hp]; exact f) g (by rw [hp]; exact h)
theorem sc__law_plain : FnScope ["pot", "most", "gates", "names", "turn", "ins", "heard", "k", "many", "kind", "count", "wires", "outs", "wire", "j"] ["pot", "most", "gates"] (defScope (top 13)) := ⟨rfl, rfl, rfl, by decide +kernel, rfl, by decide +kernel, by decide +kernel⟩
theorem ok__law_plain (B : Bi mg) (D : Dfn K mg "_law_plain" (top 13) ["pot", "most", "gates"]) (C__law_next : Cal P w K mg base 1 "_law_next" ["pot", "many"] (SpPo K R__law_next)) : Cal P w K mg base 2 "_law_plain" ["pot", "most", "gates"] (SpPo K R__law_plain) := by
  refine D.cal sc__law_plain (spo_len fun c ds d c' h => by obtain ⟨_, _, _, _, _, rfl, _⟩ := h; rfl) fun f cdv A outer s H vs Q E hr h => ?_
  refine ⟨_, (pss_cons (ps_set (i := 3) sc__law_plain.nd rfl (Or.inr rfl) (pe_lst (pa_cons pe_str (pa_cons pe_str (pa_cons pe_str (pa_cons pe_str (pa_cons pe_str (pa_cons pe_str pa_nil)))))))) (pss_cons (ps_set (i := 4) sc__law_plain.nd rfl (Or.inr rfl) (pe_cal C__law_next hr (pa_cons (pv 0) (pa_cons pe_int pa_nil)))) (pss_cons (ps_setLc (i := 5) (own := [(("k" : Str), 7)]) (g := (gName 7)) (tt := tYes) rfl sc__law_plain.nd rfl rfl (sw_true rfl rfl rfl (by decide +kernel)) (pi_range1 rfl B.range (pa_cons (pe_op op_add pe_int (pe_cal C__law_next hr (pa_cons (pv 0) (pa_cons (pv 1) pa_nil)))) pa_nil)) (blkOk_by (by kernel_rfl)) (fun _ _ _ _ _ => (pg_name (i := 7) sc__law_plain.nd rfl (Or.inl rfl))) (fun _ _ _ _ _ => pts_nil) (fun _ _ _ _ _ => (pe_tup (pa_cons (pe_ix (k_ix_list K) (pv 3) (pe_op op_mod (pe_op op_add (pv 4) (pv 7)) pe_int) (fun _ _ => rfl)) (pa_cons pe_int pa_nil))))) (pss_cons (ps_set (i := 6) sc__law_plain.nd rfl (Or.inl rfl) (pe_lst pa_nil)) (pss_cons (ps_for PassesOwn.never rfl (pi_range1 rfl B.range (pa_cons (pv 2) pa_nil)) (pg_name (i := 7) sc__law_plain.nd rfl (Or.inl rfl)) (pss_cons (ps_set (i := 8) sc__law_plain.nd rfl (Or.inr rfl) (pe_op op_add (pe_callB (k_len_seq K) (by rfl) B.len PySem.boot_len (pa_cons (pv 5) pa_nil)) (pv 7))) (pss_cons (ps_set (i := 9) sc__law_plain.nd rfl (Or.inl rfl) (pe_ix (k_ix_list K) (pe_lst (pa_cons pe_str (pa_cons pe_str (pa_cons pe_str (pa_cons pe_str (pa_cons pe_str (pa_cons pe_str (pa_cons pe_str (pa_cons pe_str pa_nil))))))))) (pe_cal C__law_next hr (pa_cons (pv 0) (pa_cons pe_int pa_nil))) (fun _ _ => rfl))) (pss_cons (ps_set (i := 10) sc__law_plain.nd rfl (Or.inl rfl) (pe_dget2 (hu_of hr) (pe_disp (pps_cons pe_str pe_int (pps_cons pe_str pe_int pps_nil)) (by rfl) (by rfl) (fun z => by cases z) (by decide)) (pv 9) pe_int ⟨by rfl, by rfl, by rfl, by rfl⟩)) (pss_cons (ps_setLc (i := 11) (own := [(("j" : Str), 14)]) (g := (gName 14)) (tt := tYes) rfl sc__law_plain.nd rfl rfl (sw_true rfl rfl rfl (by decide +kernel)) (pi_range1 rfl B.range (pa_cons (pv 10) pa_nil)) (blkOk_by (by kernel_rfl)) (fun _ _ _ _ _ => (pg_name (i := 14) sc__law_plain.nd rfl (Or.inl rfl))) (fun _ _ _ _ _ => pts_nil) (fun _ _ _ _ _ => (pe_op op_sub (pe_op op_sub (pv 8) pe_int) (pe_cal C__law_next hr (pa_cons (pv 0) (pa_cons (pe_ix (k_ix_list K) (pe_lst (pa_cons (pv 8) (pa_cons (pe_callB (call_min2 rfl) (by rfl) B.min (by decide +kernel) (pa_cons (pv 8) (pa_cons pe_int pa_nil))) pa_nil))) (pe_op op_mod (pv 14) pe_int) (fun _ _ => rfl)) pa_nil)))))) (pss_one (ps_expr (pe_bm PySem.F.plainAttrs_list PySem.F.slot_list_append PySem.F.type_list_append mt_append (pv 6) (pa_cons (pe_tup (pa_cons (pv 9) (pa_cons (pe_callTy (k_tuple_of K) (by rfl) B.tuple (by decide +kernel) (pa_cons (pv 11) pa_nil)) (pa_cons (pe_cmpR op_eq (pe_cal C__law_next hr (pa_cons (pv 0) (pa_cons pe_int pa_nil))) pe_int (nomark _)) pa_nil)))) pa_nil))))))))) (pss_cons (ps_set (i := 12) sc__law_plain.nd rfl (Or.inl rfl) (pe_lst pa_nil)) (pss_cons (ps_for PassesOwn.never rfl (pi_range1 rfl B.range (pa_cons (pe_op op_add pe_int (pe_cal C__law_next hr (pa_cons (pv 0) (pa_cons pe_int pa_nil)))) pa_nil)) (pg_name (i := 7) sc__law_plain.nd rfl (Or.inl rfl)) (pss_cons (ps_set (i := 8) sc__law_plain.nd rfl (Or.inr rfl) (pe_op op_add (pe_callB (k_len_seq K) (by rfl) B.len PySem.boot_len (pa_cons (pv 5) pa_nil)) (pe_callB (k_len_seq K) (by rfl) B.len PySem.boot_len (pa_cons (pv 6) pa_nil)))) (pss_cons (ps_set (i := 13) sc__law_plain.nd rfl (Or.inl rfl) (pe_op op_sub (pe_op op_sub (pv 8) pe_int) (pe_cal C__law_next hr (pa_cons (pv 0) (pa_cons (pe_ix (k_ix_list K) (pe_lst (pa_cons (pv 8) (pa_cons (pe_callB (call_min2 rfl) (by rfl) B.min (by decide +kernel) (pa_cons (pv 8) (pa_cons pe_int pa_nil))) pa_nil))) (pe_op op_mod (pv 7) pe_int) (fun _ _ => rfl)) pa_nil))))) (pss_one (ps_expr (pe_bm PySem.F.plainAttrs_list PySem.F.slot_list_append PySem.F.type_list_append mt_append (pv 12) (pa_cons (pe_tup (pa_cons (pe_ix (k_ix_list K) (pe_lst (pa_cons pe_str (pa_cons pe_str (pa_cons pe_str (pa_cons pe_str (pa_cons pe_str (pa_cons pe_str pa_nil))))))) (pv 7) (fun _ _ => rfl)) (pa_cons (pe_tup (pa_cons (pv 13) pa_nil)) pa_nil))) pa_nil))))))) (pss_one (ps_ret (pe_tup (pa_cons (pv 5) (pa_cons (pv 6) (pa_cons (pv 12) pa_nil))))))))))))), ?_⟩
  obtain ⟨F, p_pot, ws, xs, c, ds, d, c', rfl, hw, hF, hp, hH, hz, hc, ⟨v_pot, v_most, v_gates, rr, rfl, rfl, rfl, rfl, hm0⟩, k⟩ := h
  have E : EnvR K F _ [.adr p_pot, .val (enc (v_most : Int)), .val (enc (v_gates : Int)), .un, .un, .un, .un, .un, .un, .un, .un, .un, .un, .un, .un] := EnvR.start (N := ["pot", "most", "gates", "names", "turn", "ins", "heard", "k", "many", "kind", "count", "wires", "outs", "wire", "j"]) (AsR.adr (AsR.of_all hw))
  have S := Hx.start1 hF hp hH hz hc
  have fc : Same F F := Same.refl F
  unfold m__law_plain at hm0
  obtain ⟨v1, h2, hm0⟩ := letE hm0
  try (with_reducible refine nxD ?_)
  with_reducible refine sq ?_
  refine st_set (i := 3) (d := enc (v1 : (List Str))) (rx_as (x := (([("a" : Str), ("bb" : Str), ("signal" : Str), ("x" : Str), ("yes" : Str), ("abcdefgh" : Str)] : (List Str)) : (List Str))) h2 (RXo.frz (rxo_lst (ds := [enc (("a" : Str) : Str), enc (("bb" : Str) : Str), enc (("signal" : Str) : Str), enc (("x" : Str) : Str), enc (("yes" : Str) : Str), enc (("abcdefgh" : Str) : Str)]) (ra_cons (rx_str (x := ("a" : Str))) (ra_cons (rx_str (x := ("bb" : Str))) (ra_cons (rx_str (x := ("signal" : Str))) (ra_cons (rx_str (x := ("x" : Str))) (ra_cons (rx_str (x := ("yes" : Str))) (ra_cons (rx_str (x := ("abcdefgh" : Str))) ra_nil))))))))) E S fun σ F H f E S => ?_
  replace fc := fc.trans f
  have E : EnvR K _ _ [.adr p_pot, .val (enc (v_most : Int)), .val (enc (v_gates : Int)), .val (enc (v1 : (List Str))), .un, .un, .un, .un, .un, .un, .un, .un, .un, .un, .un] := E
  have S : Hx K _ _ _ _ [⟨p_pot, false, v_pot.map enc⟩] _ := S
  obtain ⟨r3, h4, hm0⟩ := bindE hm0
  try (with_reducible refine nxD ?_)
  with_reducible refine sq ?_
  refine st_set (i := 4) (d := enc (r3.1 : Int)) (rx_callo (j := 0) (ds := [enc ((6 : Int) : Int)]) (c := v_pot.map enc) (c' := r3.2.map enc) (d := enc (r3.1 : Int)) (ra_own rfl (ra_cons rx_int ra_nil)) rfl ⟨_, _, r3, rfl, rfl, rfl, rfl, h4⟩) E S fun σ F H f E S => ?_
  replace fc := fc.trans f
  have E : EnvR K _ _ [.adr p_pot, .val (enc (v_most : Int)), .val (enc (v_gates : Int)), .val (enc (v1 : (List Str))), .val (enc (r3.1 : Int)), .un, .un, .un, .un, .un, .un, .un, .un, .un, .un] := E
  have S : Hx K _ _ _ _ [⟨p_pot, false, r3.2.map enc⟩] _ := S
  obtain ⟨r5, h6, hm0⟩ := bindE hm0
  obtain ⟨l7, h8, hm0⟩ := bindE hm0
  obtain ⟨l17, h18, hm0⟩ := bindE hm0
  try (with_reducible refine nxD ?_)
  with_reducible refine sq ?_
  refine st_set (i := 5) (d := enc (l17 : (List (Str × Int)))) (RXo.frz (rxo_mapO (eα := enc) (eβ := enc) (fun x10 => [.adr p_pot, .val (enc (v_most : Int)), .val (enc (v_gates : Int)), .val (enc (v1 : (List Str))), .val (enc (r3.1 : Int)), .un, .un, .val (enc (x10 : Int)), .un, .un, .un, .un, .un, .un, .un]) [7] (ri_range h8 (rx_add rx_int (rx_callo (j := 0) (ds := [enc (v_most : Int)]) (c := r3.2.map enc) (c' := r5.2.map enc) (d := enc (r5.1 : Int)) (ra_own rfl (ra_cons (rx_var (d := enc (v_most : Int)) rfl) ra_nil)) rfl ⟨_, _, r5, rfl, rfl, rfl, rfl, h6⟩))) h18 (by decide) (fun x10 _ => (rg_name (i := 7) (d := enc (x10 : Int)))) (fun x10 _ y h9 D11 acc12 => by obtain ⟨t15, h16, h9⟩ := bindE h9; obtain rfl := Option.some.inj h9; exact (rx_tup (ds := [enc (t15 : Str), enc ((1 : Int) : Int)]) (ra_cons (rx_ix (atI_map enc h16) (RX.s (rx_var (d := enc (v1 : (List Str))) rfl)) (rx_mod (rx_add (rx_var (d := enc (r3.1 : Int)) rfl) (rx_var (d := enc (x10 : Int)) rfl)) rx_int (by decide))) (ra_cons rx_int ra_nil)))))) E S fun σ F H f E S => ?_
  replace fc := fc.trans f
  have E : EnvR K _ _ [.adr p_pot, .val (enc (v_most : Int)), .val (enc (v_gates : Int)), .val (enc (v1 : (List Str))), .val (enc (r3.1 : Int)), .val (enc (l17 : (List (Str × Int)))), .un, .un, .un, .un, .un, .un, .un, .un, .un] := E
  have S : Hx K _ _ _ _ [⟨p_pot, false, r5.2.map enc⟩] _ := S
  obtain ⟨v19, h20, hm0⟩ := letE hm0
  try (with_reducible refine nxD ?_)
  with_reducible refine sq ?_
  refine st_setO (i := 6) (ds := v19.map enc) (rxo_as (f := enc) h20 (rxo_lst (ds := []) ra_nil)) E S fun p_heard21 σ F H f E S => ?_
  replace fc := fc.trans f
  have E : EnvR K _ _ [.adr p_pot, .val (enc (v_most : Int)), .val (enc (v_gates : Int)), .val (enc (v1 : (List Str))), .val (enc (r3.1 : Int)), .val (enc (l17 : (List (Str × Int)))), .adr p_heard21, .un, .un, .un, .un, .un, .un, .un, .un] := E
  have S : Hx K _ _ _ _ [⟨p_heard21, true, v19.map enc⟩, ⟨p_pot, false, r5.2.map enc⟩] _ := S
  obtain ⟨l22, h23, hm0⟩ := bindE hm0
  obtain ⟨s59, h28, hm0⟩ := bindE hm0
  try (with_reducible refine nxD ?_)
  with_reducible refine sq ?_
  refine st_forS (eα := enc) (fun s25 => [.adr p_pot, .val (enc (v_most : Int)), .val (enc (v_gates : Int)), .val (enc (v1 : (List Str))), .val (enc (r3.1 : Int)), .val (enc (l17 : (List (Str × Int)))), .adr p_heard21, .un, .un, .un, .un, .un, .un, .un, .un]) (fun s25 => [⟨p_heard21, true, s25.2.map enc⟩, ⟨p_pot, false, s25.1.map enc⟩]) E S (ri_range h23 (rx_var (d := enc (v_gates : Int)) rfl)) h28 ⟨.inl rfl, .inl rfl, .inl rfl, .inl rfl, .inl rfl, .inl rfl, .inl rfl, .inr rfl, .inr rfl, .inr rfl, .inr rfl, .inr rfl, .inr rfl, .inr rfl, .inr rfl, trivial⟩ (fun σ F H f E S => ?_) (fun x26 _ s25 s' h24 σ F H v _ E S r N B hN => ?_)
  · replace fc := fc.trans f
    have E : EnvR K _ _ [.adr p_pot, .val (enc (v_most : Int)), .val (enc (v_gates : Int)), .val (enc (v1 : (List Str))), .val (enc (r3.1 : Int)), .val (enc (l17 : (List (Str × Int)))), .adr p_heard21, .un, .un, .un, .un, .un, .un, .un, .un] := E
    have S : Hx K _ _ _ _ [⟨p_heard21, true, s59.2.map enc⟩, ⟨p_pot, false, s59.1.map enc⟩] _ := S
    obtain ⟨v60, h61, hm0⟩ := letE hm0
    try (with_reducible refine nxD ?_)
    with_reducible refine sq ?_
    refine st_setO (i := 12) (ds := v60.map enc) (rxo_as (f := enc) h61 (rxo_lst (ds := []) ra_nil)) E S fun p_outs62 σ F H f E S => ?_
    replace fc := fc.trans f
    have E : EnvR K _ _ [.adr p_pot, .val (enc (v_most : Int)), .val (enc (v_gates : Int)), .val (enc (v1 : (List Str))), .val (enc (r3.1 : Int)), .val (enc (l17 : (List (Str × Int)))), .adr p_heard21, .un, .un, .un, .un, .un, .adr p_outs62, .un, .un] := E
    have S : Hx K _ _ _ _ [⟨p_outs62, true, v60.map enc⟩, ⟨p_heard21, true, s59.2.map enc⟩, ⟨p_pot, false, s59.1.map enc⟩] _ := S
    obtain ⟨r63, h64, hm0⟩ := bindE hm0
    obtain ⟨l65, h66, hm0⟩ := bindE hm0
    obtain ⟨s85, h71, hm0⟩ := bindE hm0
    try (with_reducible refine nxD ?_)
    with_reducible refine sq ?_
    refine st_forS (eα := enc) (fun s68 => [.adr p_pot, .val (enc (v_most : Int)), .val (enc (v_gates : Int)), .val (enc (v1 : (List Str))), .val (enc (r3.1 : Int)), .val (enc (l17 : (List (Str × Int)))), .adr p_heard21, .un, .un, .un, .un, .un, .adr p_outs62, .un, .un]) (fun s68 => [⟨p_outs62, true, s68.2.map enc⟩, ⟨p_heard21, true, s59.2.map enc⟩, ⟨p_pot, false, s68.1.map enc⟩]) E S (ri_range h66 (rx_add rx_int (rx_callo (j := 2) (ds := [enc ((6 : Int) : Int)]) (c := s59.1.map enc) (c' := r63.2.map enc) (d := enc (r63.1 : Int)) (ra_own rfl (ra_cons rx_int ra_nil)) rfl ⟨_, _, r63, rfl, rfl, rfl, rfl, h64⟩))) h71 ⟨.inl rfl, .inl rfl, .inl rfl, .inl rfl, .inl rfl, .inl rfl, .inl rfl, .inr rfl, .inr rfl, .inr rfl, .inr rfl, .inr rfl, .inl rfl, .inr rfl, .inr rfl, trivial⟩ (fun σ F H f E S => ?_) (fun x69 _ s68 s' h67 σ F H v _ E S r N B hN => ?_)
    · replace fc := fc.trans f
      have E : EnvR K _ _ [.adr p_pot, .val (enc (v_most : Int)), .val (enc (v_gates : Int)), .val (enc (v1 : (List Str))), .val (enc (r3.1 : Int)), .val (enc (l17 : (List (Str × Int)))), .adr p_heard21, .un, .un, .un, .un, .un, .adr p_outs62, .un, .un] := E
      have S : Hx K _ _ _ _ [⟨p_outs62, true, s85.2.map enc⟩, ⟨p_heard21, true, s59.2.map enc⟩, ⟨p_pot, false, s85.1.map enc⟩] _ := S
      obtain ⟨F, f, E, S⟩ := frz_at (i := 6) (j := 1) rfl rfl E S
      have E : EnvR K F _ [.adr p_pot, .val (enc (v_most : Int)), .val (enc (v_gates : Int)), .val (enc (v1 : (List Str))), .val (enc (r3.1 : Int)), .val (enc (l17 : (List (Str × Int)))), .val (enc (s59.2 : (List (T3 Str (Tp Int) Bool)))), .un, .un, .un, .un, .un, .adr p_outs62, .un, .un] := E
      have S : Hx K _ _ _ F [⟨p_outs62, true, s85.2.map enc⟩, ⟨p_pot, false, s85.1.map enc⟩] _ := S
      replace fc := fc.trans f
      obtain ⟨F, f, E, S⟩ := frz_at (i := 12) (j := 0) rfl rfl E S
      have E : EnvR K F _ [.adr p_pot, .val (enc (v_most : Int)), .val (enc (v_gates : Int)), .val (enc (v1 : (List Str))), .val (enc (r3.1 : Int)), .val (enc (l17 : (List (Str × Int)))), .val (enc (s59.2 : (List (T3 Str (Tp Int) Bool)))), .un, .un, .un, .un, .un, .val (enc (s85.2 : (List (Str × (Tp Int))))), .un, .un] := E
      have S : Hx K _ _ _ F [⟨p_pot, false, s85.1.map enc⟩] _ := S
      replace fc := fc.trans f
      obtain rfl := Option.some.inj hm0
      -- return
      try (with_reducible refine nxD ?_)
      refine st_ret (d := enc ((T3.mk l17 s59.2 s85.2) : (T3 (List (Str × Int)) (List (T3 Str (Tp Int) Bool)) (List (Str × (Tp Int)))))) (rx_tup (ds := [enc (l17 : (List (Str × Int))), enc (s59.2 : (List (T3 Str (Tp Int) Bool))), enc (s85.2 : (List (Str × (Tp Int))))]) (ra_cons (rx_var (d := enc (l17 : (List (Str × Int)))) rfl) (ra_cons (rx_var (d := enc (s59.2 : (List (T3 Str (Tp Int) Bool)))) rfl) (ra_cons (rx_var (d := enc (s85.2 : (List (Str × (Tp Int))))) rfl) ra_nil)))) E S fun v F H f S r => ?_
      obtain ⟨g1, g2, g3, ys, g4, g5, g6⟩ := S.get (j := 0) rfl
      exact k v F H ys S.stp g1 g4 g5 g6 r
    · refine ((rg_name (i := 7) (d := enc (x69 : Int)))).run _ _ _ _ _ E r S.fh fun σ E _ => ?_
      have E : EnvR K _ _ [.adr p_pot, .val (enc (v_most : Int)), .val (enc (v_gates : Int)), .val (enc (v1 : (List Str))), .val (enc (r3.1 : Int)), .val (enc (l17 : (List (Str × Int)))), .adr p_heard21, .val (enc (x69 : Int)), .un, .un, .un, .un, .adr p_outs62, .un, .un] := E
      have S : Hx K _ _ _ _ [⟨p_outs62, true, s68.2.map enc⟩, ⟨p_heard21, true, s59.2.map enc⟩, ⟨p_pot, false, s68.1.map enc⟩] _ := S
      have fc : Same F F := Same.refl F
      obtain ⟨v73, h74, h67⟩ := letE h67
      try (with_reducible refine nxD ?_)
      with_reducible refine sq ?_
      refine st_set (i := 8) (d := enc (v73 : Int)) (rx_as (x := (((l17.length : Int) + (s59.2.length : Int)) : Int)) h74 (rx_add (len_nat (f := enc) (RX.s (rx_var (d := enc (l17 : (List (Str × Int)))) rfl))) (len_nat (f := enc) (rxs_own (j := 1) (ds := s59.2.map enc) rfl rfl)))) E S fun σ F H f E S => ?_
      replace fc := fc.trans f
      have E : EnvR K _ _ [.adr p_pot, .val (enc (v_most : Int)), .val (enc (v_gates : Int)), .val (enc (v1 : (List Str))), .val (enc (r3.1 : Int)), .val (enc (l17 : (List (Str × Int)))), .adr p_heard21, .val (enc (x69 : Int)), .val (enc (v73 : Int)), .un, .un, .un, .adr p_outs62, .un, .un] := E
      have S : Hx K _ _ _ _ [⟨p_outs62, true, s68.2.map enc⟩, ⟨p_heard21, true, s59.2.map enc⟩, ⟨p_pot, false, s68.1.map enc⟩] _ := S
      obtain ⟨t75, h76, h67⟩ := bindE h67
      obtain ⟨r77, h78, h67⟩ := bindE h67
      obtain ⟨v79, h80, h67⟩ := letE h67
      try (with_reducible refine nxD ?_)
      with_reducible refine sq ?_
      refine st_set (i := 13) (d := enc (v79 : Int)) (rx_as (x := (((v73 - (1 : Int)) - r77.1) : Int)) h80 (rx_sub (rx_sub (rx_var (d := enc (v73 : Int)) rfl) rx_int) (rx_callo (j := 2) (ds := [enc (t75 : Int)]) (c := s68.1.map enc) (c' := r77.2.map enc) (d := enc (r77.1 : Int)) (ra_own rfl (ra_cons (rx_ix (atI_map enc h76) (RXo.s (rxo_lst (ds := [enc (v73 : Int), enc ((min2 v73 (4 : Int)) : Int)]) (ra_cons (rx_var (d := enc (v73 : Int)) rfl) (ra_cons (rx_min2 (rx_var (d := enc (v73 : Int)) rfl) rx_int) ra_nil)))) (rx_mod (rx_var (d := enc (x69 : Int)) rfl) rx_int (by decide))) ra_nil)) rfl ⟨_, _, r77, rfl, rfl, rfl, rfl, h78⟩))) E S fun σ F H f E S => ?_
      replace fc := fc.trans f
      have E : EnvR K _ _ [.adr p_pot, .val (enc (v_most : Int)), .val (enc (v_gates : Int)), .val (enc (v1 : (List Str))), .val (enc (r3.1 : Int)), .val (enc (l17 : (List (Str × Int)))), .adr p_heard21, .val (enc (x69 : Int)), .val (enc (v73 : Int)), .un, .un, .un, .adr p_outs62, .val (enc (v79 : Int)), .un] := E
      have S : Hx K _ _ _ _ [⟨p_outs62, true, s68.2.map enc⟩, ⟨p_heard21, true, s59.2.map enc⟩, ⟨p_pot, false, r77.2.map enc⟩] _ := S
      obtain ⟨t81, h82, h67⟩ := bindE h67
      obtain ⟨u83, h84, h67⟩ := bindE h67
      try (with_reducible refine nxD ?_)
      refine (st_app (j := 0) (ds := s68.2.map enc) (d := enc ((t81, ((Tp.mk [v79]) : (Tp Int))) : (Str × (Tp Int)))) (appO_map enc h84) rfl (rx_tup (ds := [enc (t81 : Str), enc (((Tp.mk [v79]) : (Tp Int)) : (Tp Int))]) (ra_cons (rx_ix (atI_map enc h82) (RXo.s (rxo_lst (ds := [enc (("p" : Str) : Str), enc (("ou" : Str) : Str), enc (("result" : Str) : Str), enc (("q" : Str) : Str), enc (("abcdefgh" : Str) : Str), enc (("z" : Str) : Str)]) (ra_cons (rx_str (x := ("p" : Str))) (ra_cons (rx_str (x := ("ou" : Str))) (ra_cons (rx_str (x := ("result" : Str))) (ra_cons (rx_str (x := ("q" : Str))) (ra_cons (rx_str (x := ("abcdefgh" : Str))) (ra_cons (rx_str (x := ("z" : Str))) ra_nil)))))))) (rx_var (d := enc (x69 : Int)) rfl)) (ra_cons (rx_tup (ds := [enc (v79 : Int)]) (ra_cons (rx_var (d := enc (v79 : Int)) rfl) ra_nil)) ra_nil))) ⟨_, rfl⟩ rfl E S fun F H f E S => ?_)
      replace fc := fc.trans f
      have E : EnvR K _ _ [.adr p_pot, .val (enc (v_most : Int)), .val (enc (v_gates : Int)), .val (enc (v1 : (List Str))), .val (enc (r3.1 : Int)), .val (enc (l17 : (List (Str × Int)))), .adr p_heard21, .val (enc (x69 : Int)), .val (enc (v73 : Int)), .un, .un, .un, .adr p_outs62, .val (enc (v79 : Int)), .un] := E
      have S : Hx K _ _ _ _ [⟨p_outs62, true, u83.map enc⟩, ⟨p_heard21, true, s59.2.map enc⟩, ⟨p_pot, false, r77.2.map enc⟩] _ := S
      obtain rfl := Option.some.inj h67
      exact hN _ _ _ fc (E.weak ⟨.inl rfl, .inl rfl, .inl rfl, .inl rfl, .inl rfl, .inl rfl, .inl rfl, .inr rfl, .inr rfl, .inr rfl, .inr rfl, .inr rfl, .inl rfl, .inr rfl, .inr rfl, trivial⟩) S
  · refine ((rg_name (i := 7) (d := enc (x26 : Int)))).run _ _ _ _ _ E r S.fh fun σ E _ => ?_
    have E : EnvR K _ _ [.adr p_pot, .val (enc (v_most : Int)), .val (enc (v_gates : Int)), .val (enc (v1 : (List Str))), .val (enc (r3.1 : Int)), .val (enc (l17 : (List (Str × Int)))), .adr p_heard21, .val (enc (x26 : Int)), .un, .un, .un, .un, .un, .un, .un] := E
    have S : Hx K _ _ _ _ [⟨p_heard21, true, s25.2.map enc⟩, ⟨p_pot, false, s25.1.map enc⟩] _ := S
    have fc : Same F F := Same.refl F
    obtain ⟨v30, h31, h24⟩ := letE h24
    try (with_reducible refine nxD ?_)
    with_reducible refine sq ?_
    refine st_set (i := 8) (d := enc (v30 : Int)) (rx_as (x := (((l17.length : Int) + x26) : Int)) h31 (rx_add (len_nat (f := enc) (RX.s (rx_var (d := enc (l17 : (List (Str × Int)))) rfl))) (rx_var (d := enc (x26 : Int)) rfl))) E S fun σ F H f E S => ?_
    replace fc := fc.trans f
    have E : EnvR K _ _ [.adr p_pot, .val (enc (v_most : Int)), .val (enc (v_gates : Int)), .val (enc (v1 : (List Str))), .val (enc (r3.1 : Int)), .val (enc (l17 : (List (Str × Int)))), .adr p_heard21, .val (enc (x26 : Int)), .val (enc (v30 : Int)), .un, .un, .un, .un, .un, .un] := E
    have S : Hx K _ _ _ _ [⟨p_heard21, true, s25.2.map enc⟩, ⟨p_pot, false, s25.1.map enc⟩] _ := S
    obtain ⟨r32, h33, h24⟩ := bindE h24
    obtain ⟨t34, h35, h24⟩ := bindE h24
    try (with_reducible refine nxD ?_)
    with_reducible refine sq ?_
    refine st_set (i := 9) (d := enc (t34 : Str)) (rx_ixF (atI_map enc h35) (RXo.frz (rxo_lst (ds := [enc (("not" : Str) : Str), enc (("and" : Str) : Str), enc (("or" : Str) : Str), enc (("xor" : Str) : Str), enc (("vote" : Str) : Str), enc (("and" : Str) : Str), enc (("or" : Str) : Str), enc (("xor" : Str) : Str)]) (ra_cons (rx_str (x := ("not" : Str))) (ra_cons (rx_str (x := ("and" : Str))) (ra_cons (rx_str (x := ("or" : Str))) (ra_cons (rx_str (x := ("xor" : Str))) (ra_cons (rx_str (x := ("vote" : Str))) (ra_cons (rx_str (x := ("and" : Str))) (ra_cons (rx_str (x := ("or" : Str))) (ra_cons (rx_str (x := ("xor" : Str))) ra_nil)))))))))) (rx_callo (j := 1) (ds := [enc ((8 : Int) : Int)]) (c := s25.1.map enc) (c' := r32.2.map enc) (d := enc (r32.1 : Int)) (ra_own rfl (ra_cons rx_int ra_nil)) rfl ⟨_, _, r32, rfl, rfl, rfl, rfl, h33⟩)) E S fun σ F H f E S => ?_
    replace fc := fc.trans f
    have E : EnvR K _ _ [.adr p_pot, .val (enc (v_most : Int)), .val (enc (v_gates : Int)), .val (enc (v1 : (List Str))), .val (enc (r3.1 : Int)), .val (enc (l17 : (List (Str × Int)))), .adr p_heard21, .val (enc (x26 : Int)), .val (enc (v30 : Int)), .val (enc (t34 : Str)), .un, .un, .un, .un, .un] := E
    have S : Hx K _ _ _ _ [⟨p_heard21, true, s25.2.map enc⟩, ⟨p_pot, false, r32.2.map enc⟩] _ := S
    obtain ⟨v36, h37, h24⟩ := letE h24
    try (with_reducible refine nxD ?_)
    with_reducible refine sq ?_
    refine st_set (i := 10) (d := enc (v36 : Int)) (rx_as (x := (((dlit [(("not" : Str), (1 : Int)), (("vote" : Str), (3 : Int))] t34).getD (2 : Int)) : Int)) h37 (rx_lget (kvs := [(("not" : Str), (1 : Int)), (("vote" : Str), (3 : Int))]) (by decide) (by decide +kernel) (rx_var (d := enc (t34 : Str)) rfl) rx_int)) E S fun σ F H f E S => ?_
    replace fc := fc.trans f
    have E : EnvR K _ _ [.adr p_pot, .val (enc (v_most : Int)), .val (enc (v_gates : Int)), .val (enc (v1 : (List Str))), .val (enc (r3.1 : Int)), .val (enc (l17 : (List (Str × Int)))), .adr p_heard21, .val (enc (x26 : Int)), .val (enc (v30 : Int)), .val (enc (t34 : Str)), .val (enc (v36 : Int)), .un, .un, .un, .un] := E
    have S : Hx K _ _ _ _ [⟨p_heard21, true, s25.2.map enc⟩, ⟨p_pot, false, r32.2.map enc⟩] _ := S
    obtain ⟨l38, h39, h24⟩ := bindE h24
    obtain ⟨l53, h54, h24⟩ := bindE h24
    try (with_reducible refine nxD ?_)
    with_reducible refine sq ?_
    refine st_set (i := 11) (d := enc (l53.1 : (List Int))) (RXo.frz (rxo_mapS (eα := enc) (eβ := enc) (s1 := l53.2) (zs := l53.1) (f := (fun (x41 : Int) (s48 : List Int) => (atI ([v30, (min2 v30 (4 : Int))] : (List Int)) (x41 % (2 : Int))).bind fun t49 => (m__law_next s48 t49).bind fun r51 => some ((((v30 - (1 : Int)) - r51.1) : Int), r51.2))) (Of := fun (s48 : List Int) => [⟨p_heard21, true, s25.2.map enc⟩, ⟨p_pot, false, s48.map enc⟩]) (s0 := r32.2) (fun x41 => [.adr p_pot, .val (enc (v_most : Int)), .val (enc (v_gates : Int)), .val (enc (v1 : (List Str))), .val (enc (r3.1 : Int)), .val (enc (l17 : (List (Str × Int)))), .adr p_heard21, .val (enc (x26 : Int)), .val (enc (v30 : Int)), .val (enc (t34 : Str)), .val (enc (v36 : Int)), .un, .un, .un, .val (enc (x41 : Int))]) [14] (ri_range h39 (rx_var (d := enc (v36 : Int)) rfl)) h54 (by decide) (fun x41 _ => (rg_name (i := 14) (d := enc (x41 : Int)))) (fun x41 _ s48 y s' h40 D42 acc43 => by obtain ⟨t49, h50, h40⟩ := bindE h40; obtain ⟨r51, h52, h40⟩ := bindE h40; obtain ⟨rfl, rfl⟩ := Prod.mk.inj (Option.some.inj h40); exact (rx_sub (rx_sub (rx_var (d := enc (v30 : Int)) rfl) rx_int) (rx_callo (j := 2) (ds := [enc (t49 : Int)]) (c := s48.map enc) (c' := r51.2.map enc) (d := enc (r51.1 : Int)) (ra_own rfl (ra_cons (rx_ix (atI_map enc h50) (RXo.s (rxo_lst (ds := [enc (v30 : Int), enc ((min2 v30 (4 : Int)) : Int)]) (ra_cons (rx_var (d := enc (v30 : Int)) rfl) (ra_cons (rx_min2 (rx_var (d := enc (v30 : Int)) rfl) rx_int) ra_nil)))) (rx_mod (rx_var (d := enc (x41 : Int)) rfl) rx_int (by decide))) ra_nil)) rfl ⟨_, _, r51, rfl, rfl, rfl, rfl, h52⟩))))) E S fun σ F H f E S => ?_
    replace fc := fc.trans f
    have E : EnvR K _ _ [.adr p_pot, .val (enc (v_most : Int)), .val (enc (v_gates : Int)), .val (enc (v1 : (List Str))), .val (enc (r3.1 : Int)), .val (enc (l17 : (List (Str × Int)))), .adr p_heard21, .val (enc (x26 : Int)), .val (enc (v30 : Int)), .val (enc (t34 : Str)), .val (enc (v36 : Int)), .val (enc (l53.1 : (List Int))), .un, .un, .un] := E
    have S : Hx K _ _ _ _ [⟨p_heard21, true, s25.2.map enc⟩, ⟨p_pot, false, l53.2.map enc⟩] _ := S
    obtain ⟨r55, h56, h24⟩ := bindE h24
    obtain ⟨u57, h58, h24⟩ := bindE h24
    try (with_reducible refine nxD ?_)
    refine (st_app (j := 0) (ds := s25.2.map enc) (d := enc ((T3.mk t34 (Tp.mk l53.1) (decide (r55.1 = (0 : Int)))) : (T3 Str (Tp Int) Bool))) (appO_map enc h58) rfl (rx_tup (ds := [enc (t34 : Str), enc ((Tp.mk l53.1) : (Tp Int)), enc ((decide (r55.1 = (0 : Int))) : Bool)]) (ra_cons (rx_var (d := enc (t34 : Str)) rfl) (ra_cons (rx_tuple (RX.s (rx_var (d := enc (l53.1 : (List Int))) rfl))) (ra_cons (rx_eqi (rx_callo (j := 1) (ds := [enc ((6 : Int) : Int)]) (c := l53.2.map enc) (c' := r55.2.map enc) (d := enc (r55.1 : Int)) (ra_own rfl (ra_cons rx_int ra_nil)) rfl ⟨_, _, r55, rfl, rfl, rfl, rfl, h56⟩) rx_int) ra_nil)))) ⟨_, rfl⟩ rfl E S fun F H f E S => ?_)
    replace fc := fc.trans f
    have E : EnvR K _ _ [.adr p_pot, .val (enc (v_most : Int)), .val (enc (v_gates : Int)), .val (enc (v1 : (List Str))), .val (enc (r3.1 : Int)), .val (enc (l17 : (List (Str × Int)))), .adr p_heard21, .val (enc (x26 : Int)), .val (enc (v30 : Int)), .val (enc (t34 : Str)), .val (enc (v36 : Int)), .val (enc (l53.1 : (List Int))), .un, .un, .un] := E
    have S : Hx K _ _ _ _ [⟨p_heard21, true, u57.map enc⟩, ⟨p_pot, false, r55.2.map enc⟩] _ := S
    obtain rfl := Option.some.inj h24
    exact hN _ _ _ fc (E.weak ⟨.inl rfl, .inl rfl, .inl rfl, .inl rfl, .inl rfl, .inl rfl, .inl rfl, .inr rfl, .inr rfl, .inr rfl, .inr rfl, .inr rfl, .inr rfl, .inr rfl, .inr rfl, trivial⟩) S
theorem sc__law_made : FnScope ["net", "many", "votes", "ins", "gates", "outs", "reads", "k", "found", "first", "kind", "wires", "sure", "own", "j", "some", "name", "width", "wire"] ["net", "many", "votes"] (defScope (top 14)) := ⟨rfl, rfl, rfl, by decide +kernel, rfl, by decide +kernel, by decide +kernel⟩
theorem ok__law_made (B : Bi mg) (D : Dfn K mg "_law_made" (top 14) ["net", "many", "votes"]) : Cal P w K mg base 1 "_law_made" ["net", "many", "votes"] (SpP K R__law_made) := by
  refine D.cal sc__law_made (sp_len fun ds d h => by obtain ⟨_, _, _, _, rfl, _⟩ := h; rfl) fun f cdv A outer s H vs Q E hr h => ?_
  refine ⟨_, (pss_cons (ps_asg (pv 0) (pg_tup rfl (pgs_cons (pg_name (i := 3) sc__law_made.nd rfl (Or.inl rfl)) (pgs_cons (pg_name (i := 4) sc__law_made.nd rfl (Or.inl rfl)) (pgs_cons (pg_name (i := 5) sc__law_made.nd rfl (Or.inl rfl)) pgs_nil))))) (pss_cons (ps_set (i := 6) sc__law_made.nd rfl (Or.inr rfl) (pe_lst pa_nil)) (pss_cons (ps_for PassesOwn.never rfl (pi_range1 rfl B.range (pa_cons (pe_callB (k_len_seq K) (by rfl) B.len PySem.boot_len (pa_cons (pv 3) pa_nil)) pa_nil)) (pg_name (i := 7) sc__law_made.nd rfl (Or.inr rfl)) (pss_one (ps_expr (pe_bm PySem.F.plainAttrs_list PySem.F.slot_list_append PySem.F.type_list_append mt_append (pv 6) (pa_cons (pe_lc (own := [(("j" : Str), 14)]) (g := (gName 14)) (tt := tYes) rfl sc__law_made.nd (pi_range1 rfl B.range (pa_cons (pv 1) pa_nil)) (blkOk_by (by kernel_rfl)) (fun _ _ _ _ _ => (pg_name (i := 14) sc__law_made.nd rfl (Or.inl rfl))) (fun _ _ _ _ _ => pts_nil) (fun _ _ _ _ _ => (pe_op op_add (pe_op op_mul (pv 7) (pv 1)) (pv 14)))) pa_nil))))) (pss_cons (ps_set (i := 8) sc__law_made.nd rfl (Or.inr rfl) (pe_lst pa_nil)) (pss_cons (ps_set (i := 9) sc__law_made.nd rfl (Or.inr rfl) (pe_op op_mul (pe_callB (k_len_seq K) (by rfl) B.len PySem.boot_len (pa_cons (pv 3) pa_nil)) (pv 1))) (pss_cons (ps_for PassesOwn.never rfl (k_pi_list K (pv 4)) (pg_tup rfl (pgs_cons (pg_name (i := 10) sc__law_made.nd rfl (Or.inl rfl)) (pgs_cons (pg_name (i := 11) sc__law_made.nd rfl (Or.inl rfl)) (pgs_cons (pg_name (i := 12) sc__law_made.nd rfl (Or.inl rfl)) pgs_nil)))) (pss_cons (ps_setLc (i := 13) (own := [(("j" : Str), 14)]) (g := (gName 14)) (tt := tYes) rfl sc__law_made.nd rfl rfl (sw_true rfl rfl rfl (by decide +kernel)) (pi_range1 rfl B.range (pa_cons (pv 1) pa_nil)) (blkOk_by (by kernel_rfl)) (fun _ _ _ _ _ => (pg_name (i := 14) sc__law_made.nd rfl (Or.inl rfl))) (fun _ _ _ _ _ => pts_nil) (fun _ _ _ _ _ => (pe_op op_add (pe_op op_add (pv 9) (pe_callB (k_len_seq K) (by rfl) B.len PySem.boot_len (pa_cons (pv 8) pa_nil))) (pv 14)))) (pss_cons (ps_for PassesOwn.never rfl (pi_range1 rfl B.range (pa_cons (pv 1) pa_nil)) (pg_name (i := 14) sc__law_made.nd rfl (Or.inr rfl)) (pss_one (ps_expr (pe_bm PySem.F.plainAttrs_list PySem.F.slot_list_append PySem.F.type_list_append mt_append (pv 8) (pa_cons (pe_tup (pa_cons (pv 10) (pa_cons (pe_callTy (k_tuple_of K) (by rfl) B.tuple (by decide +kernel) (pa_cons (pe_lc (own := [(("wire" : Str), 18)]) (g := (gName 18)) (tt := tYes) rfl sc__law_made.nd (k_pi_tup K (pv 11)) (blkOk_by (by kernel_rfl)) (fun _ _ _ _ _ => (pg_name (i := 18) sc__law_made.nd rfl (Or.inl rfl))) (fun _ _ _ _ _ => pts_nil) (fun _ _ _ _ _ => (pe_ix (k_ix_list K) (pe_ix (k_ix_list K) (pv 6) (pv 18) (fun _ _ => rfl)) (pv 14) (fun _ _ => rfl)))) pa_nil)) (pa_cons (pv 12) pa_nil)))) pa_nil))))) (pss_one (ps_if (pt_val (pv 2)) (pss_cons (ps_expr (pe_bm PySem.F.plainAttrs_list PySem.F.slot_list_append PySem.F.type_list_append mt_append (pv 6) (pa_cons (pe_lc (own := [(("j" : Str), 14)]) (g := (gName 14)) (tt := tYes) rfl sc__law_made.nd (pi_range1 rfl B.range (pa_cons (pv 1) pa_nil)) (blkOk_by (by kernel_rfl)) (fun _ _ _ _ _ => (pg_name (i := 14) sc__law_made.nd rfl (Or.inl rfl))) (fun _ _ _ _ _ => pts_nil) (fun _ _ _ _ _ => (pe_op op_add (pe_op op_add (pv 9) (pe_callB (k_len_seq K) (by rfl) B.len PySem.boot_len (pa_cons (pv 8) pa_nil))) (pv 14)))) pa_nil))) (pss_one (ps_for PassesOwn.never rfl (pi_range1 rfl B.range (pa_cons (pv 1) pa_nil)) (pg_name (i := 14) sc__law_made.nd rfl (Or.inr rfl)) (pss_one (ps_expr (pe_bm PySem.F.plainAttrs_list PySem.F.slot_list_append PySem.F.type_list_append mt_append (pv 8) (pa_cons (pe_tup (pa_cons pe_str (pa_cons (pe_callTy (k_tuple_of K) (by rfl) B.tuple (by decide +kernel) (pa_cons (pv 13) pa_nil)) (pa_cons (pv 12) pa_nil)))) pa_nil))))))) (pss_one (ps_expr (pe_bm PySem.F.plainAttrs_list PySem.F.slot_list_append PySem.F.type_list_append mt_append (pv 6) (pa_cons (pv 13) pa_nil))))))))) (pss_cons (ps_set (i := 15) sc__law_made.nd rfl (Or.inl rfl) (pe_lst pa_nil)) (pss_cons (ps_for PassesOwn.never rfl (k_pi_list K (pv 5)) (pg_tup rfl (pgs_cons (pg_name (i := 16) sc__law_made.nd rfl (Or.inl rfl)) (pgs_cons (pg_name (i := 11) sc__law_made.nd rfl (Or.inl rfl)) pgs_nil))) (pss_one (ps_expr (pe_bm PySem.F.plainAttrs_list PySem.F.slot_list_append PySem.F.type_list_append mt_append (pv 15) (pa_cons (pe_tup (pa_cons (pv 16) (pa_cons (pe_callTy (k_tuple_of K) (by rfl) B.tuple (by decide +kernel) (pa_cons (pe_ix (k_ix_list K) (pv 6) (pe_ix (k_ix_tup K) (pv 11) pe_int (fun _ _ => rfl)) (fun _ _ => rfl)) pa_nil)) pa_nil))) pa_nil))))) (pss_one (ps_ret (pe_tup (pa_cons (pe_lc (own := [(("name" : Str), 16), (("width" : Str), 17)]) (g := (gTup K 2 (gCons (gName 16) (gCons (gName 17) gNil)))) (tt := tYes) rfl sc__law_made.nd (k_pi_list K (pv 3)) (blkOk_by (by kernel_rfl)) (fun _ _ _ _ _ => (pg_tup rfl (pgs_cons (pg_name (i := 16) sc__law_made.nd rfl (Or.inl rfl)) (pgs_cons (pg_name (i := 17) sc__law_made.nd rfl (Or.inl rfl)) pgs_nil)))) (fun _ _ _ _ _ => pts_nil) (fun _ _ _ _ _ => (pe_tup (pa_cons (pv 16) (pa_cons (pv 1) pa_nil))))) (pa_cons (pv 8) (pa_cons (pv 15) pa_nil)))))))))))))), ?_⟩
  obtain ⟨F, ds, d, hw, hF, ⟨v_net, v_many, v_votes, rr, rfl, rfl, hm0⟩, k⟩ := h
  have E : EnvR K F _ [.val (enc (v_net : (T3 (List (Str × Int)) (List (T3 Str (Tp Int) Bool)) (List (Str × (Tp Int)))))), .val (enc (v_many : Int)), .val (enc (v_votes : Bool)), .un, .un, .un, .un, .un, .un, .un, .un, .un, .un, .un, .un, .un, .un, .un, .un] := EnvR.start (N := ["net", "many", "votes", "ins", "gates", "outs", "reads", "k", "found", "first", "kind", "wires", "sure", "own", "j", "some", "name", "width", "wire"]) (AsR.of_all hw)
  have S := Hx.start (K := K) hF
  have fc : Same F F := Same.refl F
  unfold m__law_made at hm0
  try (with_reducible refine nxD ?_)
  with_reducible refine sq ?_
  refine st_unp (d := enc (v_net : (T3 (List (Str × Int)) (List (T3 Str (Tp Int) Bool)) (List (Str × (Tp Int)))))) (rx_var (d := enc (v_net : (T3 (List (Str × Int)) (List (T3 Str (Tp Int) Bool)) (List (Str × (Tp Int)))))) rfl) (rg_tup (ds := [enc (v_net.a : (List (Str × Int))), enc (v_net.b : (List (T3 Str (Tp Int) Bool))), enc (v_net.c : (List (Str × (Tp Int))))]) (RGs.cons (rg_name (i := 3) (d := enc (v_net.a : (List (Str × Int))))) (RGs.cons (rg_name (i := 4) (d := enc (v_net.b : (List (T3 Str (Tp Int) Bool))))) (RGs.cons (rg_name (i := 5) (d := enc (v_net.c : (List (Str × (Tp Int)))))) RGs.nil)))) E S fun σ F H f E S => ?_
  replace fc := fc.trans f
  have E : EnvR K _ _ [.val (enc (v_net : (T3 (List (Str × Int)) (List (T3 Str (Tp Int) Bool)) (List (Str × (Tp Int)))))), .val (enc (v_many : Int)), .val (enc (v_votes : Bool)), .val (enc (v_net.a : (List (Str × Int)))), .val (enc (v_net.b : (List (T3 Str (Tp Int) Bool)))), .val (enc (v_net.c : (List (Str × (Tp Int))))), .un, .un, .un, .un, .un, .un, .un, .un, .un, .un, .un, .un, .un] := E
  have S : Hx K _ _ _ _ [] _ := S
  obtain ⟨v1, h2, hm0⟩ := letE hm0
  try (with_reducible refine nxD ?_)
  with_reducible refine sq ?_
  refine st_setO (i := 6) (ds := v1.map enc) (rxo_as (f := enc) h2 (rxo_lst (ds := []) ra_nil)) E S fun p_reads3 σ F H f E S => ?_
  replace fc := fc.trans f
  have E : EnvR K _ _ [.val (enc (v_net : (T3 (List (Str × Int)) (List (T3 Str (Tp Int) Bool)) (List (Str × (Tp Int)))))), .val (enc (v_many : Int)), .val (enc (v_votes : Bool)), .val (enc (v_net.a : (List (Str × Int)))), .val (enc (v_net.b : (List (T3 Str (Tp Int) Bool)))), .val (enc (v_net.c : (List (Str × (Tp Int))))), .adr p_reads3, .un, .un, .un, .un, .un, .un, .un, .un, .un, .un, .un, .un] := E
  have S : Hx K _ _ _ _ [⟨p_reads3, true, v1.map enc⟩] _ := S
  obtain ⟨s24, h8, hm0⟩ := bindE hm0
  try (with_reducible refine nxD ?_)
  with_reducible refine sq ?_
  refine st_forS (eα := enc) (fun s5 => [.val (enc (v_net : (T3 (List (Str × Int)) (List (T3 Str (Tp Int) Bool)) (List (Str × (Tp Int)))))), .val (enc (v_many : Int)), .val (enc (v_votes : Bool)), .val (enc (v_net.a : (List (Str × Int)))), .val (enc (v_net.b : (List (T3 Str (Tp Int) Bool)))), .val (enc (v_net.c : (List (Str × (Tp Int))))), .adr p_reads3, .un, .un, .un, .un, .un, .un, .un, .un, .un, .un, .un, .un]) (fun s5 => [⟨p_reads3, true, s5.map enc⟩]) E S (ri_rangeLenM (f := enc) (RX.s (rx_var (d := enc (v_net.a : (List (Str × Int)))) rfl))) h8 ⟨.inl rfl, .inl rfl, .inl rfl, .inl rfl, .inl rfl, .inl rfl, .inl rfl, .inr rfl, .inr rfl, .inr rfl, .inr rfl, .inr rfl, .inr rfl, .inr rfl, .inr rfl, .inr rfl, .inr rfl, .inr rfl, .inr rfl, trivial⟩ (fun σ F H f E S => ?_) (fun x6 _ s5 s' h4 σ F H v _ E S r N B hN => ?_)
  · replace fc := fc.trans f
    have E : EnvR K _ _ [.val (enc (v_net : (T3 (List (Str × Int)) (List (T3 Str (Tp Int) Bool)) (List (Str × (Tp Int)))))), .val (enc (v_many : Int)), .val (enc (v_votes : Bool)), .val (enc (v_net.a : (List (Str × Int)))), .val (enc (v_net.b : (List (T3 Str (Tp Int) Bool)))), .val (enc (v_net.c : (List (Str × (Tp Int))))), .adr p_reads3, .un, .un, .un, .un, .un, .un, .un, .un, .un, .un, .un, .un] := E
    have S : Hx K _ _ _ _ [⟨p_reads3, true, s24.map enc⟩] _ := S
    obtain ⟨v25, h26, hm0⟩ := letE hm0
    try (with_reducible refine nxD ?_)
    with_reducible refine sq ?_
    refine st_setO (i := 8) (ds := v25.map enc) (rxo_as (f := enc) h26 (rxo_lst (ds := []) ra_nil)) E S fun p_found27 σ F H f E S => ?_
    replace fc := fc.trans f
    have E : EnvR K _ _ [.val (enc (v_net : (T3 (List (Str × Int)) (List (T3 Str (Tp Int) Bool)) (List (Str × (Tp Int)))))), .val (enc (v_many : Int)), .val (enc (v_votes : Bool)), .val (enc (v_net.a : (List (Str × Int)))), .val (enc (v_net.b : (List (T3 Str (Tp Int) Bool)))), .val (enc (v_net.c : (List (Str × (Tp Int))))), .adr p_reads3, .un, .adr p_found27, .un, .un, .un, .un, .un, .un, .un, .un, .un, .un] := E
    have S : Hx K _ _ _ _ [⟨p_found27, true, v25.map enc⟩, ⟨p_reads3, true, s24.map enc⟩] _ := S
    obtain ⟨t28, h29, hm0⟩ := bindE hm0
    try (with_reducible refine nxD ?_)
    with_reducible refine sq ?_
    refine st_set (i := 9) (d := enc (t28 : Int)) (rx_mulO h29 (len_nat (f := enc) (RX.s (rx_var (d := enc (v_net.a : (List (Str × Int)))) rfl))) (rx_var (d := enc (v_many : Int)) rfl)) E S fun σ F H f E S => ?_
    replace fc := fc.trans f
    have E : EnvR K _ _ [.val (enc (v_net : (T3 (List (Str × Int)) (List (T3 Str (Tp Int) Bool)) (List (Str × (Tp Int)))))), .val (enc (v_many : Int)), .val (enc (v_votes : Bool)), .val (enc (v_net.a : (List (Str × Int)))), .val (enc (v_net.b : (List (T3 Str (Tp Int) Bool)))), .val (enc (v_net.c : (List (Str × (Tp Int))))), .adr p_reads3, .un, .adr p_found27, .val (enc (t28 : Int)), .un, .un, .un, .un, .un, .un, .un, .un, .un] := E
    have S : Hx K _ _ _ _ [⟨p_found27, true, v25.map enc⟩, ⟨p_reads3, true, s24.map enc⟩] _ := S
    obtain ⟨s92, h34, hm0⟩ := bindE hm0
    try (with_reducible refine nxD ?_)
    with_reducible refine sq ?_
    refine st_forS (eα := enc) (fun s31 => [.val (enc (v_net : (T3 (List (Str × Int)) (List (T3 Str (Tp Int) Bool)) (List (Str × (Tp Int)))))), .val (enc (v_many : Int)), .val (enc (v_votes : Bool)), .val (enc (v_net.a : (List (Str × Int)))), .val (enc (v_net.b : (List (T3 Str (Tp Int) Bool)))), .val (enc (v_net.c : (List (Str × (Tp Int))))), .adr p_reads3, .un, .adr p_found27, .val (enc (t28 : Int)), .un, .un, .un, .un, .un, .un, .un, .un, .un]) (fun s31 => [⟨p_found27, true, s31.1.map enc⟩, ⟨p_reads3, true, s31.2.map enc⟩]) E S (ri_list (ys := v_net.b.map enc) (rx_var (d := enc (v_net.b : (List (T3 Str (Tp Int) Bool)))) rfl)) h34 ⟨.inl rfl, .inl rfl, .inl rfl, .inl rfl, .inl rfl, .inl rfl, .inl rfl, .inr rfl, .inl rfl, .inl rfl, .inr rfl, .inr rfl, .inr rfl, .inr rfl, .inr rfl, .inr rfl, .inr rfl, .inr rfl, .inr rfl, trivial⟩ (fun σ F H f E S => ?_) (fun x32 _ s31 s' h30 σ F H v _ E S r N B hN => ?_)
    · replace fc := fc.trans f
      have E : EnvR K _ _ [.val (enc (v_net : (T3 (List (Str × Int)) (List (T3 Str (Tp Int) Bool)) (List (Str × (Tp Int)))))), .val (enc (v_many : Int)), .val (enc (v_votes : Bool)), .val (enc (v_net.a : (List (Str × Int)))), .val (enc (v_net.b : (List (T3 Str (Tp Int) Bool)))), .val (enc (v_net.c : (List (Str × (Tp Int))))), .adr p_reads3, .un, .adr p_found27, .val (enc (t28 : Int)), .un, .un, .un, .un, .un, .un, .un, .un, .un] := E
      have S : Hx K _ _ _ _ [⟨p_found27, true, s92.1.map enc⟩, ⟨p_reads3, true, s92.2.map enc⟩] _ := S
      obtain ⟨v93, h94, hm0⟩ := letE hm0
      try (with_reducible refine nxD ?_)
      with_reducible refine sq ?_
      refine st_setO (i := 15) (ds := v93.map enc) (rxo_as (f := enc) h94 (rxo_lst (ds := []) ra_nil)) E S fun p_some95 σ F H f E S => ?_
      replace fc := fc.trans f
      have E : EnvR K _ _ [.val (enc (v_net : (T3 (List (Str × Int)) (List (T3 Str (Tp Int) Bool)) (List (Str × (Tp Int)))))), .val (enc (v_many : Int)), .val (enc (v_votes : Bool)), .val (enc (v_net.a : (List (Str × Int)))), .val (enc (v_net.b : (List (T3 Str (Tp Int) Bool)))), .val (enc (v_net.c : (List (Str × (Tp Int))))), .adr p_reads3, .un, .adr p_found27, .val (enc (t28 : Int)), .un, .un, .un, .un, .un, .adr p_some95, .un, .un, .un] := E
      have S : Hx K _ _ _ _ [⟨p_some95, true, v93.map enc⟩, ⟨p_found27, true, s92.1.map enc⟩, ⟨p_reads3, true, s92.2.map enc⟩] _ := S
      obtain ⟨s108, h100, hm0⟩ := bindE hm0
      try (with_reducible refine nxD ?_)
      with_reducible refine sq ?_
      refine st_forS (eα := enc) (fun s97 => [.val (enc (v_net : (T3 (List (Str × Int)) (List (T3 Str (Tp Int) Bool)) (List (Str × (Tp Int)))))), .val (enc (v_many : Int)), .val (enc (v_votes : Bool)), .val (enc (v_net.a : (List (Str × Int)))), .val (enc (v_net.b : (List (T3 Str (Tp Int) Bool)))), .val (enc (v_net.c : (List (Str × (Tp Int))))), .adr p_reads3, .un, .adr p_found27, .val (enc (t28 : Int)), .un, .un, .un, .un, .un, .adr p_some95, .un, .un, .un]) (fun s97 => [⟨p_some95, true, s97.map enc⟩, ⟨p_found27, true, s92.1.map enc⟩, ⟨p_reads3, true, s92.2.map enc⟩]) E S (ri_list (ys := v_net.c.map enc) (rx_var (d := enc (v_net.c : (List (Str × (Tp Int))))) rfl)) h100 ⟨.inl rfl, .inl rfl, .inl rfl, .inl rfl, .inl rfl, .inl rfl, .inl rfl, .inr rfl, .inl rfl, .inl rfl, .inr rfl, .inr rfl, .inr rfl, .inr rfl, .inr rfl, .inl rfl, .inr rfl, .inr rfl, .inr rfl, trivial⟩ (fun σ F H f E S => ?_) (fun x98 _ s97 s' h96 σ F H v _ E S r N B hN => ?_)
      · replace fc := fc.trans f
        have E : EnvR K _ _ [.val (enc (v_net : (T3 (List (Str × Int)) (List (T3 Str (Tp Int) Bool)) (List (Str × (Tp Int)))))), .val (enc (v_many : Int)), .val (enc (v_votes : Bool)), .val (enc (v_net.a : (List (Str × Int)))), .val (enc (v_net.b : (List (T3 Str (Tp Int) Bool)))), .val (enc (v_net.c : (List (Str × (Tp Int))))), .adr p_reads3, .un, .adr p_found27, .val (enc (t28 : Int)), .un, .un, .un, .un, .un, .adr p_some95, .un, .un, .un] := E
        have S : Hx K _ _ _ _ [⟨p_some95, true, s108.map enc⟩, ⟨p_found27, true, s92.1.map enc⟩, ⟨p_reads3, true, s92.2.map enc⟩] _ := S
        obtain ⟨F, f, E, S⟩ := frz_at (i := 8) (j := 1) rfl rfl E S
        have E : EnvR K F _ [.val (enc (v_net : (T3 (List (Str × Int)) (List (T3 Str (Tp Int) Bool)) (List (Str × (Tp Int)))))), .val (enc (v_many : Int)), .val (enc (v_votes : Bool)), .val (enc (v_net.a : (List (Str × Int)))), .val (enc (v_net.b : (List (T3 Str (Tp Int) Bool)))), .val (enc (v_net.c : (List (Str × (Tp Int))))), .adr p_reads3, .un, .val (enc (s92.1 : (List (T3 Str (Tp Int) Bool)))), .val (enc (t28 : Int)), .un, .un, .un, .un, .un, .adr p_some95, .un, .un, .un] := E
        have S : Hx K _ _ _ F [⟨p_some95, true, s108.map enc⟩, ⟨p_reads3, true, s92.2.map enc⟩] _ := S
        replace fc := fc.trans f
        obtain ⟨F, f, E, S⟩ := frz_at (i := 15) (j := 0) rfl rfl E S
        have E : EnvR K F _ [.val (enc (v_net : (T3 (List (Str × Int)) (List (T3 Str (Tp Int) Bool)) (List (Str × (Tp Int)))))), .val (enc (v_many : Int)), .val (enc (v_votes : Bool)), .val (enc (v_net.a : (List (Str × Int)))), .val (enc (v_net.b : (List (T3 Str (Tp Int) Bool)))), .val (enc (v_net.c : (List (Str × (Tp Int))))), .adr p_reads3, .un, .val (enc (s92.1 : (List (T3 Str (Tp Int) Bool)))), .val (enc (t28 : Int)), .un, .un, .un, .un, .un, .val (enc (s108 : (List (Str × (Tp Int))))), .un, .un, .un] := E
        have S : Hx K _ _ _ F [⟨p_reads3, true, s92.2.map enc⟩] _ := S
        replace fc := fc.trans f
        obtain rfl := Option.some.inj hm0
        -- return
        try (with_reducible refine nxD ?_)
        refine st_ret (d := enc ((T3.mk (v_net.a.map (fun (x114 : (Str × Int)) => ((x114.1, v_many) : (Str × Int)))) s92.1 s108) : (T3 (List (Str × Int)) (List (T3 Str (Tp Int) Bool)) (List (Str × (Tp Int)))))) (rx_tup (ds := [enc ((v_net.a.map (fun (x114 : (Str × Int)) => ((x114.1, v_many) : (Str × Int)))) : (List (Str × Int))), enc (s92.1 : (List (T3 Str (Tp Int) Bool))), enc (s108 : (List (Str × (Tp Int))))]) (ra_cons (RXo.frz (rxo_map (eα := enc) (eβ := enc) (f := (fun (x114 : (Str × Int)) => ((x114.1, v_many) : (Str × Int)))) (fun x114 => [.val (enc (v_net : (T3 (List (Str × Int)) (List (T3 Str (Tp Int) Bool)) (List (Str × (Tp Int)))))), .val (enc (v_many : Int)), .val (enc (v_votes : Bool)), .val (enc (v_net.a : (List (Str × Int)))), .val (enc (v_net.b : (List (T3 Str (Tp Int) Bool)))), .val (enc (v_net.c : (List (Str × (Tp Int))))), .adr p_reads3, .un, .val (enc (s92.1 : (List (T3 Str (Tp Int) Bool)))), .val (enc (t28 : Int)), .un, .un, .un, .un, .un, .val (enc (s108 : (List (Str × (Tp Int))))), .val (enc (x114.1 : Str)), .val (enc (x114.2 : Int)), .un]) [16, 17] (ri_list (ys := v_net.a.map enc) (rx_var (d := enc (v_net.a : (List (Str × Int)))) rfl)) (by decide) (fun x114 _ => (rg_tup (ds := [enc (x114.1 : Str), enc (x114.2 : Int)]) (RGs.cons (rg_name (i := 16) (d := enc (x114.1 : Str))) (RGs.cons (rg_name (i := 17) (d := enc (x114.2 : Int))) RGs.nil)))) (fun x114 _ D115 acc116 => (rx_tup (ds := [enc (x114.1 : Str), enc (v_many : Int)]) (ra_cons (rx_var (d := enc (x114.1 : Str)) rfl) (ra_cons (rx_var (d := enc (v_many : Int)) rfl) ra_nil)))))) (ra_cons (rx_var (d := enc (s92.1 : (List (T3 Str (Tp Int) Bool)))) rfl) (ra_cons (rx_var (d := enc (s108 : (List (Str × (Tp Int))))) rfl) ra_nil)))) E S fun v F H f S r => ?_
        exact k v F H S.stp r
      · refine ((rg_tup (ds := [enc (x98.1 : Str), enc (x98.2 : (Tp Int))]) (RGs.cons (rg_name (i := 16) (d := enc (x98.1 : Str))) (RGs.cons (rg_name (i := 11) (d := enc (x98.2 : (Tp Int)))) RGs.nil)))).run _ _ _ _ _ E r S.fh fun σ E _ => ?_
        have E : EnvR K _ _ [.val (enc (v_net : (T3 (List (Str × Int)) (List (T3 Str (Tp Int) Bool)) (List (Str × (Tp Int)))))), .val (enc (v_many : Int)), .val (enc (v_votes : Bool)), .val (enc (v_net.a : (List (Str × Int)))), .val (enc (v_net.b : (List (T3 Str (Tp Int) Bool)))), .val (enc (v_net.c : (List (Str × (Tp Int))))), .adr p_reads3, .un, .adr p_found27, .val (enc (t28 : Int)), .un, .val (enc (x98.2 : (Tp Int))), .un, .un, .un, .adr p_some95, .val (enc (x98.1 : Str)), .un, .un] := E
        have S : Hx K _ _ _ _ [⟨p_some95, true, s97.map enc⟩, ⟨p_found27, true, s92.1.map enc⟩, ⟨p_reads3, true, s92.2.map enc⟩] _ := S
        have fc : Same F F := Same.refl F
        obtain ⟨t102, h103, h96⟩ := bindE h96
        obtain ⟨t104, h105, h96⟩ := bindE h96
        obtain ⟨u106, h107, h96⟩ := bindE h96
        try (with_reducible refine nxD ?_)
        refine (st_app (j := 0) (ds := s97.map enc) (d := enc ((x98.1, (Tp.mk t104)) : (Str × (Tp Int)))) (appO_map enc h107) rfl (rx_tup (ds := [enc (x98.1 : Str), enc ((Tp.mk t104) : (Tp Int))]) (ra_cons (rx_var (d := enc (x98.1 : Str)) rfl) (ra_cons (rx_tuple (RX.s (rx_ix (atI_map enc h105) (rxs_own (j := 2) (ds := s92.2.map enc) rfl rfl) (rx_ixT (atI_map enc h103) (rx_var (d := enc (x98.2 : (Tp Int))) rfl) rx_int)))) ra_nil))) ⟨_, rfl⟩ rfl E S fun F H f E S => ?_)
        replace fc := fc.trans f
        have E : EnvR K _ _ [.val (enc (v_net : (T3 (List (Str × Int)) (List (T3 Str (Tp Int) Bool)) (List (Str × (Tp Int)))))), .val (enc (v_many : Int)), .val (enc (v_votes : Bool)), .val (enc (v_net.a : (List (Str × Int)))), .val (enc (v_net.b : (List (T3 Str (Tp Int) Bool)))), .val (enc (v_net.c : (List (Str × (Tp Int))))), .adr p_reads3, .un, .adr p_found27, .val (enc (t28 : Int)), .un, .val (enc (x98.2 : (Tp Int))), .un, .un, .un, .adr p_some95, .val (enc (x98.1 : Str)), .un, .un] := E
        have S : Hx K _ _ _ _ [⟨p_some95, true, u106.map enc⟩, ⟨p_found27, true, s92.1.map enc⟩, ⟨p_reads3, true, s92.2.map enc⟩] _ := S
        obtain rfl := Option.some.inj h96
        exact hN _ _ _ fc (E.weak ⟨.inl rfl, .inl rfl, .inl rfl, .inl rfl, .inl rfl, .inl rfl, .inl rfl, .inr rfl, .inl rfl, .inl rfl, .inr rfl, .inr rfl, .inr rfl, .inr rfl, .inr rfl, .inl rfl, .inr rfl, .inr rfl, .inr rfl, trivial⟩) S
    · refine ((rg_tup (ds := [enc (x32.a : Str), enc (x32.b : (Tp Int)), enc (x32.c : Bool)]) (RGs.cons (rg_name (i := 10) (d := enc (x32.a : Str))) (RGs.cons (rg_name (i := 11) (d := enc (x32.b : (Tp Int)))) (RGs.cons (rg_name (i := 12) (d := enc (x32.c : Bool))) RGs.nil))))).run _ _ _ _ _ E r S.fh fun σ E _ => ?_
      have E : EnvR K _ _ [.val (enc (v_net : (T3 (List (Str × Int)) (List (T3 Str (Tp Int) Bool)) (List (Str × (Tp Int)))))), .val (enc (v_many : Int)), .val (enc (v_votes : Bool)), .val (enc (v_net.a : (List (Str × Int)))), .val (enc (v_net.b : (List (T3 Str (Tp Int) Bool)))), .val (enc (v_net.c : (List (Str × (Tp Int))))), .adr p_reads3, .un, .adr p_found27, .val (enc (t28 : Int)), .val (enc (x32.a : Str)), .val (enc (x32.b : (Tp Int))), .val (enc (x32.c : Bool)), .un, .un, .un, .un, .un, .un] := E
      have S : Hx K _ _ _ _ [⟨p_found27, true, s31.1.map enc⟩, ⟨p_reads3, true, s31.2.map enc⟩] _ := S
      have fc : Same F F := Same.refl F
      obtain ⟨l36, h37, h30⟩ := bindE h30
      obtain ⟨v42, h43, h30⟩ := letE h30
      try (with_reducible refine nxD ?_)
      with_reducible refine sq ?_
      refine st_set (i := 13) (d := enc (v42 : (List Int))) (rx_as (x := ((l36.map (fun (x39 : Int) => (((t28 + (s31.1.length : Int)) + x39) : Int))) : (List Int))) h43 (RXo.frz (rxo_map (eα := enc) (eβ := enc) (f := (fun (x39 : Int) => (((t28 + (s31.1.length : Int)) + x39) : Int))) (fun x39 => [.val (enc (v_net : (T3 (List (Str × Int)) (List (T3 Str (Tp Int) Bool)) (List (Str × (Tp Int)))))), .val (enc (v_many : Int)), .val (enc (v_votes : Bool)), .val (enc (v_net.a : (List (Str × Int)))), .val (enc (v_net.b : (List (T3 Str (Tp Int) Bool)))), .val (enc (v_net.c : (List (Str × (Tp Int))))), .adr p_reads3, .un, .adr p_found27, .val (enc (t28 : Int)), .val (enc (x32.a : Str)), .val (enc (x32.b : (Tp Int))), .val (enc (x32.c : Bool)), .un, .val (enc (x39 : Int)), .un, .un, .un, .un]) [14] (ri_range h37 (rx_var (d := enc (v_many : Int)) rfl)) (by decide) (fun x39 _ => (rg_name (i := 14) (d := enc (x39 : Int)))) (fun x39 _ D40 acc41 => (rx_add (rx_add (rx_var (d := enc (t28 : Int)) rfl) (len_nat (f := enc) (rxs_own (j := 1) (ds := s31.1.map enc) rfl rfl))) (rx_var (d := enc (x39 : Int)) rfl)))))) E S fun σ F H f E S => ?_
      replace fc := fc.trans f
      have E : EnvR K _ _ [.val (enc (v_net : (T3 (List (Str × Int)) (List (T3 Str (Tp Int) Bool)) (List (Str × (Tp Int)))))), .val (enc (v_many : Int)), .val (enc (v_votes : Bool)), .val (enc (v_net.a : (List (Str × Int)))), .val (enc (v_net.b : (List (T3 Str (Tp Int) Bool)))), .val (enc (v_net.c : (List (Str × (Tp Int))))), .adr p_reads3, .un, .adr p_found27, .val (enc (t28 : Int)), .val (enc (x32.a : Str)), .val (enc (x32.b : (Tp Int))), .val (enc (x32.c : Bool)), .val (enc (v42 : (List Int))), .un, .un, .un, .un, .un] := E
      have S : Hx K _ _ _ _ [⟨p_found27, true, s31.1.map enc⟩, ⟨p_reads3, true, s31.2.map enc⟩] _ := S
      obtain ⟨l44, h45, h30⟩ := bindE h30
      obtain ⟨s68, h50, h30⟩ := bindE h30
      try (with_reducible refine nxD ?_)
      with_reducible refine sq ?_
      refine st_forS (eα := enc) (fun s47 => [.val (enc (v_net : (T3 (List (Str × Int)) (List (T3 Str (Tp Int) Bool)) (List (Str × (Tp Int)))))), .val (enc (v_many : Int)), .val (enc (v_votes : Bool)), .val (enc (v_net.a : (List (Str × Int)))), .val (enc (v_net.b : (List (T3 Str (Tp Int) Bool)))), .val (enc (v_net.c : (List (Str × (Tp Int))))), .adr p_reads3, .un, .adr p_found27, .val (enc (t28 : Int)), .val (enc (x32.a : Str)), .val (enc (x32.b : (Tp Int))), .val (enc (x32.c : Bool)), .val (enc (v42 : (List Int))), .un, .un, .un, .un, .un]) (fun s47 => [⟨p_found27, true, s47.map enc⟩, ⟨p_reads3, true, s31.2.map enc⟩]) E S (ri_range h45 (rx_var (d := enc (v_many : Int)) rfl)) h50 ⟨.inl rfl, .inl rfl, .inl rfl, .inl rfl, .inl rfl, .inl rfl, .inl rfl, .inr rfl, .inl rfl, .inl rfl, .inl rfl, .inl rfl, .inl rfl, .inl rfl, .inr rfl, .inr rfl, .inr rfl, .inr rfl, .inr rfl, trivial⟩ (fun σ F H f E S => ?_) (fun x48 _ s47 s' h46 σ F H v _ E S r N B hN => ?_)
      · replace fc := fc.trans f
        have E : EnvR K _ _ [.val (enc (v_net : (T3 (List (Str × Int)) (List (T3 Str (Tp Int) Bool)) (List (Str × (Tp Int)))))), .val (enc (v_many : Int)), .val (enc (v_votes : Bool)), .val (enc (v_net.a : (List (Str × Int)))), .val (enc (v_net.b : (List (T3 Str (Tp Int) Bool)))), .val (enc (v_net.c : (List (Str × (Tp Int))))), .adr p_reads3, .un, .adr p_found27, .val (enc (t28 : Int)), .val (enc (x32.a : Str)), .val (enc (x32.b : (Tp Int))), .val (enc (x32.c : Bool)), .val (enc (v42 : (List Int))), .un, .un, .un, .un, .un] := E
        have S : Hx K _ _ _ _ [⟨p_found27, true, s68.map enc⟩, ⟨p_reads3, true, s31.2.map enc⟩] _ := S
        obtain ⟨j69, h70, h30⟩ := bindE h30
        try (with_reducible refine nxD ?_)
        refine (st_ifJ (b := v_votes) [.val (enc (v_net : (T3 (List (Str × Int)) (List (T3 Str (Tp Int) Bool)) (List (Str × (Tp Int)))))), .val (enc (v_many : Int)), .val (enc (v_votes : Bool)), .val (enc (v_net.a : (List (Str × Int)))), .val (enc (v_net.b : (List (T3 Str (Tp Int) Bool)))), .val (enc (v_net.c : (List (Str × (Tp Int))))), .adr p_reads3, .un, .adr p_found27, .val (enc (t28 : Int)), .val (enc (x32.a : Str)), .val (enc (x32.b : (Tp Int))), .val (enc (x32.c : Bool)), .val (enc (v42 : (List Int))), .un, .un, .un, .un, .un] [⟨p_found27, true, j69.2.map enc⟩, ⟨p_reads3, true, j69.1.map enc⟩] (rt_b (rx_var (d := enc (v_votes : Bool)) rfl)) E S (fun σ F H f E S => ?_) (fun hc F H rest f E S => ?_) (fun hc F H rest f E S => ?_))
        · replace fc := fc.trans f
          obtain rfl := Option.some.inj h30
          exact hN _ _ _ fc (E.weak ⟨.inl rfl, .inl rfl, .inl rfl, .inl rfl, .inl rfl, .inl rfl, .inl rfl, .inr rfl, .inl rfl, .inl rfl, .inr rfl, .inr rfl, .inr rfl, .inr rfl, .inr rfl, .inr rfl, .inr rfl, .inr rfl, .inr rfl, trivial⟩) S
        · rw [if_pos hc] at h70
          have fc := f
          obtain ⟨l71, h72, h70⟩ := bindE h70
          obtain ⟨u77, h78, h70⟩ := bindE h70
          try (with_reducible refine nxD ?_)
          with_reducible refine sq ?_
          refine st_app (j := 1) (ds := s31.2.map enc) (d := enc ((l71.map (fun (x74 : Int) => (((t28 + (s68.length : Int)) + x74) : Int))) : (List Int))) (appO_map enc h78) rfl (RXo.frz (rxo_map (eα := enc) (eβ := enc) (f := (fun (x74 : Int) => (((t28 + (s68.length : Int)) + x74) : Int))) (fun x74 => [.val (enc (v_net : (T3 (List (Str × Int)) (List (T3 Str (Tp Int) Bool)) (List (Str × (Tp Int)))))), .val (enc (v_many : Int)), .val (enc (v_votes : Bool)), .val (enc (v_net.a : (List (Str × Int)))), .val (enc (v_net.b : (List (T3 Str (Tp Int) Bool)))), .val (enc (v_net.c : (List (Str × (Tp Int))))), .adr p_reads3, .un, .adr p_found27, .val (enc (t28 : Int)), .val (enc (x32.a : Str)), .val (enc (x32.b : (Tp Int))), .val (enc (x32.c : Bool)), .val (enc (v42 : (List Int))), .val (enc (x74 : Int)), .un, .un, .un, .un]) [14] (ri_range h72 (rx_var (d := enc (v_many : Int)) rfl)) (by decide) (fun x74 _ => (rg_name (i := 14) (d := enc (x74 : Int)))) (fun x74 _ D75 acc76 => (rx_add (rx_add (rx_var (d := enc (t28 : Int)) rfl) (len_nat (f := enc) (rxs_own (j := 1) (ds := s68.map enc) rfl rfl))) (rx_var (d := enc (x74 : Int)) rfl))))) ⟨_, rfl⟩ rfl E S fun F H f E S => ?_
          replace fc := fc.trans f
          have E : EnvR K _ _ [.val (enc (v_net : (T3 (List (Str × Int)) (List (T3 Str (Tp Int) Bool)) (List (Str × (Tp Int)))))), .val (enc (v_many : Int)), .val (enc (v_votes : Bool)), .val (enc (v_net.a : (List (Str × Int)))), .val (enc (v_net.b : (List (T3 Str (Tp Int) Bool)))), .val (enc (v_net.c : (List (Str × (Tp Int))))), .adr p_reads3, .un, .adr p_found27, .val (enc (t28 : Int)), .val (enc (x32.a : Str)), .val (enc (x32.b : (Tp Int))), .val (enc (x32.c : Bool)), .val (enc (v42 : (List Int))), .un, .un, .un, .un, .un] := E
          have S : Hx K _ _ _ _ [⟨p_found27, true, s68.map enc⟩, ⟨p_reads3, true, u77.map enc⟩] _ := S
          obtain ⟨l79, h80, h70⟩ := bindE h70
          obtain ⟨s89, h85, h70⟩ := bindE h70
          try (with_reducible refine nxD ?_)
          refine (st_forS (eα := enc) (fun s82 => [.val (enc (v_net : (T3 (List (Str × Int)) (List (T3 Str (Tp Int) Bool)) (List (Str × (Tp Int)))))), .val (enc (v_many : Int)), .val (enc (v_votes : Bool)), .val (enc (v_net.a : (List (Str × Int)))), .val (enc (v_net.b : (List (T3 Str (Tp Int) Bool)))), .val (enc (v_net.c : (List (Str × (Tp Int))))), .adr p_reads3, .un, .adr p_found27, .val (enc (t28 : Int)), .val (enc (x32.a : Str)), .val (enc (x32.b : (Tp Int))), .val (enc (x32.c : Bool)), .val (enc (v42 : (List Int))), .un, .un, .un, .un, .un]) (fun s82 => [⟨p_found27, true, s82.map enc⟩, ⟨p_reads3, true, u77.map enc⟩]) E S (ri_range h80 (rx_var (d := enc (v_many : Int)) rfl)) h85 ⟨.inl rfl, .inl rfl, .inl rfl, .inl rfl, .inl rfl, .inl rfl, .inl rfl, .inr rfl, .inl rfl, .inl rfl, .inl rfl, .inl rfl, .inl rfl, .inl rfl, .inr rfl, .inr rfl, .inr rfl, .inr rfl, .inr rfl, trivial⟩ (fun σ F H f E S => ?_) (fun x83 _ s82 s' h81 σ F H v _ E S r N B hN => ?_))
          · replace fc := fc.trans f
            have E : EnvR K _ _ [.val (enc (v_net : (T3 (List (Str × Int)) (List (T3 Str (Tp Int) Bool)) (List (Str × (Tp Int)))))), .val (enc (v_many : Int)), .val (enc (v_votes : Bool)), .val (enc (v_net.a : (List (Str × Int)))), .val (enc (v_net.b : (List (T3 Str (Tp Int) Bool)))), .val (enc (v_net.c : (List (Str × (Tp Int))))), .adr p_reads3, .un, .adr p_found27, .val (enc (t28 : Int)), .val (enc (x32.a : Str)), .val (enc (x32.b : (Tp Int))), .val (enc (x32.c : Bool)), .val (enc (v42 : (List Int))), .un, .un, .un, .un, .un] := E
            have S : Hx K _ _ _ _ [⟨p_found27, true, s89.map enc⟩, ⟨p_reads3, true, u77.map enc⟩] _ := S
            obtain rfl := Option.some.inj h70
            exact rest _ _ _ fc (E.weak ⟨.inl rfl, .inl rfl, .inl rfl, .inl rfl, .inl rfl, .inl rfl, .inl rfl, .inr rfl, .inl rfl, .inl rfl, .inl rfl, .inl rfl, .inl rfl, .inl rfl, .inr rfl, .inr rfl, .inr rfl, .inr rfl, .inr rfl, trivial⟩) S
          · refine ((rg_name (i := 14) (d := enc (x83 : Int)))).run _ _ _ _ _ E r S.fh fun σ E _ => ?_
            have E : EnvR K _ _ [.val (enc (v_net : (T3 (List (Str × Int)) (List (T3 Str (Tp Int) Bool)) (List (Str × (Tp Int)))))), .val (enc (v_many : Int)), .val (enc (v_votes : Bool)), .val (enc (v_net.a : (List (Str × Int)))), .val (enc (v_net.b : (List (T3 Str (Tp Int) Bool)))), .val (enc (v_net.c : (List (Str × (Tp Int))))), .adr p_reads3, .un, .adr p_found27, .val (enc (t28 : Int)), .val (enc (x32.a : Str)), .val (enc (x32.b : (Tp Int))), .val (enc (x32.c : Bool)), .val (enc (v42 : (List Int))), .val (enc (x83 : Int)), .un, .un, .un, .un] := E
            have S : Hx K _ _ _ _ [⟨p_found27, true, s82.map enc⟩, ⟨p_reads3, true, u77.map enc⟩] _ := S
            have fc : Same F F := Same.refl F
            obtain ⟨u87, h88, h81⟩ := bindE h81
            try (with_reducible refine nxD ?_)
            refine (st_app (j := 0) (ds := s82.map enc) (d := enc ((T3.mk ("vote" : Str) (Tp.mk v42) x32.c) : (T3 Str (Tp Int) Bool))) (appO_map enc h88) rfl (rx_tup (ds := [enc (("vote" : Str) : Str), enc ((Tp.mk v42) : (Tp Int)), enc (x32.c : Bool)]) (ra_cons (rx_str (x := ("vote" : Str))) (ra_cons (rx_tuple (RX.s (rx_var (d := enc (v42 : (List Int))) rfl))) (ra_cons (rx_var (d := enc (x32.c : Bool)) rfl) ra_nil)))) ⟨_, rfl⟩ rfl E S fun F H f E S => ?_)
            replace fc := fc.trans f
            have E : EnvR K _ _ [.val (enc (v_net : (T3 (List (Str × Int)) (List (T3 Str (Tp Int) Bool)) (List (Str × (Tp Int)))))), .val (enc (v_many : Int)), .val (enc (v_votes : Bool)), .val (enc (v_net.a : (List (Str × Int)))), .val (enc (v_net.b : (List (T3 Str (Tp Int) Bool)))), .val (enc (v_net.c : (List (Str × (Tp Int))))), .adr p_reads3, .un, .adr p_found27, .val (enc (t28 : Int)), .val (enc (x32.a : Str)), .val (enc (x32.b : (Tp Int))), .val (enc (x32.c : Bool)), .val (enc (v42 : (List Int))), .val (enc (x83 : Int)), .un, .un, .un, .un] := E
            have S : Hx K _ _ _ _ [⟨p_found27, true, u87.map enc⟩, ⟨p_reads3, true, u77.map enc⟩] _ := S
            obtain rfl := Option.some.inj h81
            exact hN _ _ _ fc (E.weak ⟨.inl rfl, .inl rfl, .inl rfl, .inl rfl, .inl rfl, .inl rfl, .inl rfl, .inr rfl, .inl rfl, .inl rfl, .inl rfl, .inl rfl, .inl rfl, .inl rfl, .inr rfl, .inr rfl, .inr rfl, .inr rfl, .inr rfl, trivial⟩) S
        · rw [if_neg (by rw [hc]; decide)] at h70
          have fc := f
          obtain ⟨u90, h91, h70⟩ := bindE h70
          try (with_reducible refine nxD ?_)
          refine (st_app (j := 1) (ds := s31.2.map enc) (d := enc (v42 : (List Int))) (appO_map enc h91) rfl (rx_var (d := enc (v42 : (List Int))) rfl) ⟨_, rfl⟩ rfl E S fun F H f E S => ?_)
          replace fc := fc.trans f
          have E : EnvR K _ _ [.val (enc (v_net : (T3 (List (Str × Int)) (List (T3 Str (Tp Int) Bool)) (List (Str × (Tp Int)))))), .val (enc (v_many : Int)), .val (enc (v_votes : Bool)), .val (enc (v_net.a : (List (Str × Int)))), .val (enc (v_net.b : (List (T3 Str (Tp Int) Bool)))), .val (enc (v_net.c : (List (Str × (Tp Int))))), .adr p_reads3, .un, .adr p_found27, .val (enc (t28 : Int)), .val (enc (x32.a : Str)), .val (enc (x32.b : (Tp Int))), .val (enc (x32.c : Bool)), .val (enc (v42 : (List Int))), .un, .un, .un, .un, .un] := E
          have S : Hx K _ _ _ _ [⟨p_found27, true, s68.map enc⟩, ⟨p_reads3, true, u90.map enc⟩] _ := S
          obtain rfl := Option.some.inj h70
          exact rest _ _ _ fc (E.weak ⟨.inl rfl, .inl rfl, .inl rfl, .inl rfl, .inl rfl, .inl rfl, .inl rfl, .inr rfl, .inl rfl, .inl rfl, .inl rfl, .inl rfl, .inl rfl, .inl rfl, .inr rfl, .inr rfl, .inr rfl, .inr rfl, .inr rfl, trivial⟩) S
      · refine ((rg_name (i := 14) (d := enc (x48 : Int)))).run _ _ _ _ _ E r S.fh fun σ E _ => ?_
        have E : EnvR K _ _ [.val (enc (v_net : (T3 (List (Str × Int)) (List (T3 Str (Tp Int) Bool)) (List (Str × (Tp Int)))))), .val (enc (v_many : Int)), .val (enc (v_votes : Bool)), .val (enc (v_net.a : (List (Str × Int)))), .val (enc (v_net.b : (List (T3 Str (Tp Int) Bool)))), .val (enc (v_net.c : (List (Str × (Tp Int))))), .adr p_reads3, .un, .adr p_found27, .val (enc (t28 : Int)), .val (enc (x32.a : Str)), .val (enc (x32.b : (Tp Int))), .val (enc (x32.c : Bool)), .val (enc (v42 : (List Int))), .val (enc (x48 : Int)), .un, .un, .un, .un] := E
        have S : Hx K _ _ _ _ [⟨p_found27, true, s47.map enc⟩, ⟨p_reads3, true, s31.2.map enc⟩] _ := S
        have fc : Same F F := Same.refl F
        obtain ⟨l64, h65, h46⟩ := bindE h46
        obtain ⟨u66, h67, h46⟩ := bindE h46
        try (with_reducible refine nxD ?_)
        refine (st_app (j := 0) (ds := s47.map enc) (d := enc ((T3.mk x32.a (Tp.mk l64) x32.c) : (T3 Str (Tp Int) Bool))) (appO_map enc h67) rfl (rx_tup (ds := [enc (x32.a : Str), enc ((Tp.mk l64) : (Tp Int)), enc (x32.c : Bool)]) (ra_cons (rx_var (d := enc (x32.a : Str)) rfl) (ra_cons (rx_tuple (RXo.s (rxo_mapO (eα := enc) (eβ := enc) (fun x53 => [.val (enc (v_net : (T3 (List (Str × Int)) (List (T3 Str (Tp Int) Bool)) (List (Str × (Tp Int)))))), .val (enc (v_many : Int)), .val (enc (v_votes : Bool)), .val (enc (v_net.a : (List (Str × Int)))), .val (enc (v_net.b : (List (T3 Str (Tp Int) Bool)))), .val (enc (v_net.c : (List (Str × (Tp Int))))), .adr p_reads3, .un, .adr p_found27, .val (enc (t28 : Int)), .val (enc (x32.a : Str)), .val (enc (x32.b : (Tp Int))), .val (enc (x32.c : Bool)), .val (enc (v42 : (List Int))), .val (enc (x48 : Int)), .un, .un, .un, .val (enc (x53 : Int))]) [18] (ri_tup (ys := x32.b.l.map enc) (rx_var (d := enc (x32.b : (Tp Int))) rfl)) h65 (by decide) (fun x53 _ => (rg_name (i := 18) (d := enc (x53 : Int)))) (fun x53 _ y h52 D54 acc55 => by obtain ⟨t60, h61, h52⟩ := bindE h52; obtain ⟨t62, h63, h52⟩ := bindE h52; obtain rfl := Option.some.inj h52; exact (rx_ix (atI_map enc h63) (RX.s (rx_ix (atI_map enc h61) (rxs_own (j := 2) (ds := s31.2.map enc) rfl rfl) (rx_var (d := enc (x53 : Int)) rfl))) (rx_var (d := enc (x48 : Int)) rfl)))))) (ra_cons (rx_var (d := enc (x32.c : Bool)) rfl) ra_nil)))) ⟨_, rfl⟩ rfl E S fun F H f E S => ?_)
        replace fc := fc.trans f
        have E : EnvR K _ _ [.val (enc (v_net : (T3 (List (Str × Int)) (List (T3 Str (Tp Int) Bool)) (List (Str × (Tp Int)))))), .val (enc (v_many : Int)), .val (enc (v_votes : Bool)), .val (enc (v_net.a : (List (Str × Int)))), .val (enc (v_net.b : (List (T3 Str (Tp Int) Bool)))), .val (enc (v_net.c : (List (Str × (Tp Int))))), .adr p_reads3, .un, .adr p_found27, .val (enc (t28 : Int)), .val (enc (x32.a : Str)), .val (enc (x32.b : (Tp Int))), .val (enc (x32.c : Bool)), .val (enc (v42 : (List Int))), .val (enc (x48 : Int)), .un, .un, .un, .un] := E
        have S : Hx K _ _ _ _ [⟨p_found27, true, u66.map enc⟩, ⟨p_reads3, true, s31.2.map enc⟩] _ := S
        obtain rfl := Option.some.inj h46
        exact hN _ _ _ fc (E.weak ⟨.inl rfl, .inl rfl, .inl rfl, .inl rfl, .inl rfl, .inl rfl, .inl rfl, .inr rfl, .inl rfl, .inl rfl, .inl rfl, .inl rfl, .inl rfl, .inl rfl, .inr rfl, .inr rfl, .inr rfl, .inr rfl, .inr rfl, trivial⟩) S
  · refine ((rg_name (i := 7) (d := enc (x6 : Int)))).run _ _ _ _ _ E r S.fh fun σ E _ => ?_
    have E : EnvR K _ _ [.val (enc (v_net : (T3 (List (Str × Int)) (List (T3 Str (Tp Int) Bool)) (List (Str × (Tp Int)))))), .val (enc (v_many : Int)), .val (enc (v_votes : Bool)), .val (enc (v_net.a : (List (Str × Int)))), .val (enc (v_net.b : (List (T3 Str (Tp Int) Bool)))), .val (enc (v_net.c : (List (Str × (Tp Int))))), .adr p_reads3, .val (enc (x6 : Int)), .un, .un, .un, .un, .un, .un, .un, .un, .un, .un, .un] := E
    have S : Hx K _ _ _ _ [⟨p_reads3, true, s5.map enc⟩] _ := S
    have fc : Same F F := Same.refl F
    obtain ⟨l10, h11, h4⟩ := bindE h4
    obtain ⟨l20, h21, h4⟩ := bindE h4
    obtain ⟨u22, h23, h4⟩ := bindE h4
    try (with_reducible refine nxD ?_)
    refine (st_app (j := 0) (ds := s5.map enc) (d := enc (l20 : (List Int))) (appO_map enc h23) rfl (RXo.frz (rxo_mapO (eα := enc) (eβ := enc) (fun x13 => [.val (enc (v_net : (T3 (List (Str × Int)) (List (T3 Str (Tp Int) Bool)) (List (Str × (Tp Int)))))), .val (enc (v_many : Int)), .val (enc (v_votes : Bool)), .val (enc (v_net.a : (List (Str × Int)))), .val (enc (v_net.b : (List (T3 Str (Tp Int) Bool)))), .val (enc (v_net.c : (List (Str × (Tp Int))))), .adr p_reads3, .val (enc (x6 : Int)), .un, .un, .un, .un, .un, .un, .val (enc (x13 : Int)), .un, .un, .un, .un]) [14] (ri_range h11 (rx_var (d := enc (v_many : Int)) rfl)) h21 (by decide) (fun x13 _ => (rg_name (i := 14) (d := enc (x13 : Int)))) (fun x13 _ y h12 D14 acc15 => by obtain ⟨t18, h19, h12⟩ := bindE h12; obtain rfl := Option.some.inj h12; exact (rx_add (rx_mulO h19 (rx_var (d := enc (x6 : Int)) rfl) (rx_var (d := enc (v_many : Int)) rfl)) (rx_var (d := enc (x13 : Int)) rfl))))) ⟨_, rfl⟩ rfl E S fun F H f E S => ?_)
    replace fc := fc.trans f
    have E : EnvR K _ _ [.val (enc (v_net : (T3 (List (Str × Int)) (List (T3 Str (Tp Int) Bool)) (List (Str × (Tp Int)))))), .val (enc (v_many : Int)), .val (enc (v_votes : Bool)), .val (enc (v_net.a : (List (Str × Int)))), .val (enc (v_net.b : (List (T3 Str (Tp Int) Bool)))), .val (enc (v_net.c : (List (Str × (Tp Int))))), .adr p_reads3, .val (enc (x6 : Int)), .un, .un, .un, .un, .un, .un, .un, .un, .un, .un, .un] := E
    have S : Hx K _ _ _ _ [⟨p_reads3, true, u22.map enc⟩] _ := S
    obtain rfl := Option.some.inj h4
    exact hN _ _ _ fc (E.weak ⟨.inl rfl, .inl rfl, .inl rfl, .inl rfl, .inl rfl, .inl rfl, .inl rfl, .inr rfl, .inr rfl, .inr rfl, .inr rfl, .inr rfl, .inr rfl, .inr rfl, .inr rfl, .inr rfl, .inr rfl, .inr rfl, .inr rfl, trivial⟩) S
theorem sc__law_same : FnScope ["heard", "due", "one", "other"] ["heard", "due"] (defScope (top 15)) := ⟨rfl, rfl, rfl, by decide +kernel, rfl, by decide +kernel, by decide +kernel⟩
theorem ok__law_same_step (B : Bi mg) (D : Dfn K mg "_law_same" (top 15) ["heard", "due"]) (n : Nat) (sp : Sp) (C__law_same : Cal P w K mg base (n + 1) "_law_same" ["heard", "due"] sp) (hC : ∀ m, n = m + 1 → sp = SpP K (SimR m)) : Cal P w K mg base (n + 2) "_law_same" ["heard", "due"] (SpP K (SimR n)) := by
  refine D.cal sc__law_same (sp_len fun ds d h => by obtain ⟨_, _, _, rfl, _⟩ := h; rfl) fun f cdv A outer s H vs Q E hr h => ?_
  refine ⟨_, (pss_cons (ps_if (pt_val (pe_callB (k_isiT K) (by rfl) B.isinstance (by decide +kernel) (pa_cons (pv 1) (pa_cons (pe_tup (pa_cons (pe_tyn (c := "tuple") (by rfl) B.tuple (by decide +kernel)) (pa_cons (pe_tyn (c := "list") (by rfl) B.list (by decide +kernel)) pa_nil))) pa_nil))))
      (pss_cons (ps_if (PW.pt (pw_or (pt_cmpR op_ne (pe_callB (k_isi K) (by rfl) B.isinstance (by decide +kernel) (pa_cons (pv 1) (pa_cons (pe_tyn (c := "tuple") (by rfl) B.tuple (by decide +kernel)) pa_nil))) (pe_callB (k_isi K) (by rfl) B.isinstance (by decide +kernel) (pa_cons (pv 0) (pa_cons (pe_tyn (c := "tuple") (by rfl) B.tuple (by decide +kernel)) pa_nil))) (nomark _))
          (pw_or1 (pt_not (pt_val (pe_callB (k_isiT K) (by rfl) B.isinstance (by decide +kernel) (pa_cons (pv 0) (pa_cons (pe_tup (pa_cons (pe_tyn (c := "tuple") (by rfl) B.tuple (by decide +kernel)) (pa_cons (pe_tyn (c := "list") (by rfl) B.list (by decide +kernel)) pa_nil))) pa_nil)))))))) (pss_one (ps_ret pe_bl)) pss_nil)
        (pss_one (ps_ret (pe_and (pe_cmpR op_eq (pe_callB (k_len_seq K) (by rfl) B.len PySem.boot_len (pa_cons (pv 0) pa_nil)) (pe_callB (k_len_seq K) (by rfl) B.len PySem.boot_len (pa_cons (pv 1) pa_nil)) (nomark _))
          (pe_one (pe_callB (k_all K rfl) (by rfl) B.all (by decide +kernel) (pa_cons (pe_lc (own := [(("one" : Str), 2), (("other" : Str), 3)]) (g := (gTup K 2 (gCons (gName 2) (gCons (gName 3) gNil)))) (tt := tYes) rfl sc__law_same.nd (k_pi_zipA K (by rfl) B.zip (pa_cons (pv 0) (pa_cons (pv 1) pa_nil))) (blkOk_by (by kernel_rfl))
            (fun _ _ _ _ _ => (pg_tup rfl (pgs_cons (pg_name (i := 2) sc__law_same.nd rfl (Or.inl rfl)) (pgs_cons (pg_name (i := 3) sc__law_same.nd rfl (Or.inl rfl)) pgs_nil)))) (fun _ _ _ _ _ => pts_nil) (fun _ _ _ _ _ => (pe_cal C__law_same hr (pa_cons (pv 2) (pa_cons (pv 3) pa_nil)) (Nat.le_refl _)))) pa_nil)))))))
      pss_nil)
    (pss_cons (ps_if (pt_val (pe_callB (k_isi K) (by rfl) B.isinstance (by decide +kernel) (pa_cons (pv 1) (pa_cons (pe_tyn (c := "str") (by rfl) B.str (by decide +kernel)) pa_nil)))) (pss_one (ps_ret (pe_and (pe_callB (k_isi K) (by rfl) B.isinstance (by decide +kernel) (pa_cons (pv 0) (pa_cons (pe_tyn (c := "str") (by rfl) B.str (by decide +kernel)) pa_nil))) (pe_one (pe_cmpR op_eq (pv 0) (pv 1) (nomark _)))))) pss_nil)
      (pss_one (ps_ret (pe_and (pe_cmpR op_eq (pe_callB (k_isi K) (by rfl) B.isinstance (by decide +kernel) (pa_cons (pv 0) (pa_cons (pe_tyn (c := "bool") (by rfl) B.bool (by decide +kernel)) pa_nil))) (pe_callB (k_isi K) (by rfl) B.isinstance (by decide +kernel) (pa_cons (pv 1) (pa_cons (pe_tyn (c := "bool") (by rfl) B.bool (by decide +kernel)) pa_nil))) (nomark _))
        (pe_and (pe_callB (k_isi K) (by rfl) B.isinstance (by decide +kernel) (pa_cons (pv 0) (pa_cons (pe_tyn (c := "int") (by rfl) B.int (by decide +kernel)) pa_nil))) (pe_one (pe_cmpR op_eq (pv 0) (pv 1) (nomark _))))))))), ?_⟩
  obtain ⟨F, ds, d, hw, hF, ⟨x, y, b, rfl, hS, rfl⟩, k⟩ := h
  have E : EnvR K F _ [.val x, .val y, .un, .un] := EnvR.start (N := ["heard", "due", "one", "other"]) (AsR.of_all hw)
  have S := Hx.start (K := K) hF
  with_reducible refine sq ?_
  cases hS with
  | int i j =>
    refine st_if (b := (false || false)) (rt_b (rx_isiT2 (rx_var (d := .int j) rfl) (kit_at (t := "int") rfl (by decide +kernel)) (kit_at (t := "int") rfl (by decide +kernel)))) E S (fun hc => by cases hc) (fun _ F H f E S => ?_)
    refine nxt ?_
    try (with_reducible refine nxD ?_)
    with_reducible refine sq ?_
    refine st_if (b := false) (rt_b (rx_isi (rx_var (d := .int j) rfl) (kit_at (t := "int") rfl (by decide +kernel)))) E S (fun hc => by cases hc) (fun _ F H f E S => ?_)
    refine nxt ?_
    try (with_reducible refine nxD ?_)
    refine st_ret (d := .bool (decide (false = false) && (true && decide (i = j)))) (rx_and2 (rx_eqb (rx_isi (rx_var (d := .int i) rfl) (kit_at (t := "int") rfl (by decide +kernel))) (rx_isi (rx_var (d := .int j) rfl) (kit_at (t := "int") rfl (by decide +kernel)))) (rx_and2 (rx_isi (rx_var (d := .int i) rfl) (kit_at (t := "int") rfl (by decide +kernel))) (rx_eqi (rx_var (d := .int i) rfl) (rx_var (d := .int j) rfl)))) E S fun v F H f S r => ?_
    exact k v F H S.stp (by simpa using r)
  | bool i j =>
    refine st_if (b := (false || false)) (rt_b (rx_isiT2 (rx_var (d := .bool j) rfl) (kit_at (t := "bool") rfl (by decide +kernel)) (kit_at (t := "bool") rfl (by decide +kernel)))) E S (fun hc => by cases hc) (fun _ F H f E S => ?_)
    refine nxt ?_
    try (with_reducible refine nxD ?_)
    with_reducible refine sq ?_
    refine st_if (b := false) (rt_b (rx_isi (rx_var (d := .bool j) rfl) (kit_at (t := "bool") rfl (by decide +kernel)))) E S (fun hc => by cases hc) (fun _ F H f E S => ?_)
    refine nxt ?_
    try (with_reducible refine nxD ?_)
    refine st_ret (d := .bool (decide (true = true) && (true && decide (i = j)))) (rx_and2 (rx_eqb (rx_isi (rx_var (d := .bool i) rfl) (kit_at (t := "bool") rfl (by decide +kernel))) (rx_isi (rx_var (d := .bool j) rfl) (kit_at (t := "bool") rfl (by decide +kernel)))) (rx_and2 (rx_isi (rx_var (d := .bool i) rfl) (kit_at (t := "bool") rfl (by decide +kernel))) (rx_eqb (rx_var (d := .bool i) rfl) (rx_var (d := .bool j) rfl)))) E S fun v F H f S r => ?_
    exact k v F H S.stp (by simpa using r)
  | str i j =>
    refine st_if (b := (false || false)) (rt_b (rx_isiT2 (rx_var (d := .str j) rfl) (kit_at (t := "str") rfl (by decide +kernel)) (kit_at (t := "str") rfl (by decide +kernel)))) E S (fun hc => by cases hc) (fun _ F H f E S => ?_)
    refine nxt ?_
    try (with_reducible refine nxD ?_)
    with_reducible refine sq ?_
    refine st_if (b := true) (rt_b (rx_isi (rx_var (d := .str j) rfl) (kit_at (t := "str") rfl (by decide +kernel)))) E S (fun _ F H f E S => ?_) (fun hc => by cases hc)
    refine st_ret (d := .bool (true && decide (i = j))) (rx_and2 (rx_isi (rx_var (d := .str i) rfl) (kit_at (t := "str") rfl (by decide +kernel))) (rx_eqs (rx_var (d := .str i) rfl) (rx_var (d := .str j) rfl))) E S fun v F H f S r => ?_
    exact k v F H S.stp (by simpa using r)
  | @list n xs ys b hA =>
    obtain ⟨zs, z1, z2, z3⟩ := hA.all
    subst z3
    obtain rfl := hC n rfl
    refine st_if (b := (false || true)) (rt_b (rx_isiT2 (rx_var (d := .list ys) rfl) (kit_at (t := "list") rfl (by decide +kernel)) (kit_at (t := "list") rfl (by decide +kernel)))) E S (fun _ F H f E S => ?_) (fun hc => by cases hc)
    with_reducible refine sq ?_
    refine st_if (b := ((!decide (false = false)) || !(false || true))) (rt_or2 (rt_val (rx_neb (rx_isi (rx_var (d := .list ys) rfl) (kit_at (t := "list") rfl (by decide +kernel))) (rx_isi (rx_var (d := .list xs) rfl) (kit_at (t := "list") rfl (by decide +kernel))))) (rt_not (rt_b (rx_isiT2 (rx_var (d := .list xs) rfl) (kit_at (t := "list") rfl (by decide +kernel)) (kit_at (t := "list") rfl (by decide +kernel)))))) E S (fun hc => by cases hc) (fun _ F H f E S => ?_)
    refine nxt ?_
    try (with_reducible refine nxD ?_)
    refine st_ret (d := .bool (decide ((xs.length : Int) = (ys.length : Int)) && (zs.map (·.2.2)).all id)) (rx_and2 (rx_eqi (rx_len (RX.s (rx_var (d := .list xs) rfl))) (rx_len (RX.s (rx_var (d := .list ys) rfl)))) (rx_all (RXo.s (rxo_map (eα := fun t : PyData × PyData × Bool => PyData.tuple [t.1, t.2.1]) (eβ := PyData.bool) (f := fun t => t.2.2) (fun t => [.val (.list xs), .val (.list ys), .val t.1, .val t.2.1]) [2, 3] (z1 ▸ ri_zipAL (rx_var (d := .list xs) rfl) (rx_var (d := .list ys) rfl)) (by decide) (fun t _ => rg_tup (ds := [t.1, t.2.1]) (RGs.cons (rg_name (i := 2) (d := t.1)) (RGs.cons (rg_name (i := 3) (d := t.2.1)) RGs.nil)))
      (fun t ht D acc => rx_call (ds := [t.1, t.2.1]) (d := .bool t.2.2) ⟨_, _, _, rfl, z2 t ht, rfl⟩ (ra_cons (rx_var (d := t.1) rfl) (ra_cons (rx_var (d := t.2.1) rfl) ra_nil))))))) E S fun v F H f S r => ?_
    have e : decide ((xs.length : Int) = (ys.length : Int)) = decide (xs.length = ys.length) := decide_eq_decide.mpr (by omega)
    rw [e] at r
    exact k v F H S.stp r
  | @tuple n xs ys b hA =>
    obtain ⟨zs, z1, z2, z3⟩ := hA.all
    subst z3
    obtain rfl := hC n rfl
    refine st_if (b := (true || false)) (rt_b (rx_isiT2 (rx_var (d := .tuple ys) rfl) (kit_at (t := "tuple") rfl (by decide +kernel)) (kit_at (t := "tuple") rfl (by decide +kernel)))) E S (fun _ F H f E S => ?_) (fun hc => by cases hc)
    with_reducible refine sq ?_
    refine st_if (b := ((!decide (true = true)) || !(true || false))) (rt_or2 (rt_val (rx_neb (rx_isi (rx_var (d := .tuple ys) rfl) (kit_at (t := "tuple") rfl (by decide +kernel))) (rx_isi (rx_var (d := .tuple xs) rfl) (kit_at (t := "tuple") rfl (by decide +kernel))))) (rt_not (rt_b (rx_isiT2 (rx_var (d := .tuple xs) rfl) (kit_at (t := "tuple") rfl (by decide +kernel)) (kit_at (t := "tuple") rfl (by decide +kernel)))))) E S (fun hc => by cases hc) (fun _ F H f E S => ?_)
    refine nxt ?_
    try (with_reducible refine nxD ?_)
    refine st_ret (d := .bool (decide ((xs.length : Int) = (ys.length : Int)) && (zs.map (·.2.2)).all id)) (rx_and2 (rx_eqi (rx_lenT (rx_var (d := .tuple xs) rfl)) (rx_lenT (rx_var (d := .tuple ys) rfl))) (rx_all (RXo.s (rxo_map (eα := fun t : PyData × PyData × Bool => PyData.tuple [t.1, t.2.1]) (eβ := PyData.bool) (f := fun t => t.2.2) (fun t => [.val (.tuple xs), .val (.tuple ys), .val t.1, .val t.2.1]) [2, 3] (z1 ▸ ri_zipAT (rx_var (d := .tuple xs) rfl) (rx_var (d := .tuple ys) rfl)) (by decide) (fun t _ => rg_tup (ds := [t.1, t.2.1]) (RGs.cons (rg_name (i := 2) (d := t.1)) (RGs.cons (rg_name (i := 3) (d := t.2.1)) RGs.nil)))
      (fun t ht D acc => rx_call (ds := [t.1, t.2.1]) (d := .bool t.2.2) ⟨_, _, _, rfl, z2 t ht, rfl⟩ (ra_cons (rx_var (d := t.1) rfl) (ra_cons (rx_var (d := t.2.1) rfl) ra_nil))))))) E S fun v F H f S r => ?_
    have e : decide ((xs.length : Int) = (ys.length : Int)) = decide (xs.length = ys.length) := decide_eq_decide.mpr (by omega)
    rw [e] at r
    exact k v F H S.stp r
theorem ok__law_same (B : Bi mg) (D : Dfn K mg "_law_same" (top 15) ["heard", "due"]) : ∀ n, Cal P w K mg base (n + 2) "_law_same" ["heard", "due"] (SpP K (SimR n))
  | 0 => ok__law_same_step B D 0 _ (Cal.never D sc__law_same) (fun m e => by cases e)
  | n + 1 => ok__law_same_step B D (n + 1) _ (ok__law_same B D n) (fun m e => by cases e; rfl)
theorem sc__law_copy : FnScope ["net", "ins", "gates", "outs"] ["net"] (defScope (top 16)) := ⟨rfl, rfl, rfl, by decide +kernel, rfl, by decide +kernel, by decide +kernel⟩
theorem ok__law_copy (B : Bi mg) (D : Dfn K mg "_law_copy" (top 16) ["net"]) : Cal P w K mg base 1 "_law_copy" ["net"] (SpP K R__law_copy) := by
  refine D.cal sc__law_copy (sp_len fun ds d h => by obtain ⟨_, _, rfl, _⟩ := h; rfl) fun f cdv A outer s H vs Q E hr h => ?_
  refine ⟨_, (pss_cons (ps_asg (pv 0) (pg_tup rfl (pgs_cons (pg_name (i := 1) sc__law_copy.nd rfl (Or.inl rfl)) (pgs_cons (pg_name (i := 2) sc__law_copy.nd rfl (Or.inl rfl)) (pgs_cons (pg_name (i := 3) sc__law_copy.nd rfl (Or.inl rfl)) pgs_nil))))) (pss_one (ps_ret (pe_tup (pa_cons (pe_callTy (k_list_of K) (by rfl) B.list (by decide +kernel) (pa_cons (pv 1) pa_nil)) (pa_cons (pe_callTy (k_list_of K) (by rfl) B.list (by decide +kernel) (pa_cons (pv 2) pa_nil)) (pa_cons (pe_callTy (k_list_of K) (by rfl) B.list (by decide +kernel) (pa_cons (pv 3) pa_nil)) pa_nil))))))), ?_⟩
  obtain ⟨F, ds, d, hw, hF, ⟨v_net, rr, rfl, rfl, hm0⟩, k⟩ := h
  have E : EnvR K F _ [.val (enc (v_net : (T3 (List (Str × Int)) (List (T3 Str (Tp Int) Bool)) (List (Str × (Tp Int)))))), .un, .un, .un] := EnvR.start (N := ["net", "ins", "gates", "outs"]) (AsR.of_all hw)
  have S := Hx.start (K := K) hF
  have fc : Same F F := Same.refl F
  unfold m__law_copy at hm0
  try (with_reducible refine nxD ?_)
  with_reducible refine sq ?_
  refine st_unp (d := enc (v_net : (T3 (List (Str × Int)) (List (T3 Str (Tp Int) Bool)) (List (Str × (Tp Int)))))) (rx_var (d := enc (v_net : (T3 (List (Str × Int)) (List (T3 Str (Tp Int) Bool)) (List (Str × (Tp Int)))))) rfl) (rg_tup (ds := [enc (v_net.a : (List (Str × Int))), enc (v_net.b : (List (T3 Str (Tp Int) Bool))), enc (v_net.c : (List (Str × (Tp Int))))]) (RGs.cons (rg_name (i := 1) (d := enc (v_net.a : (List (Str × Int))))) (RGs.cons (rg_name (i := 2) (d := enc (v_net.b : (List (T3 Str (Tp Int) Bool))))) (RGs.cons (rg_name (i := 3) (d := enc (v_net.c : (List (Str × (Tp Int)))))) RGs.nil)))) E S fun σ F H f E S => ?_
  replace fc := fc.trans f
  have E : EnvR K _ _ [.val (enc (v_net : (T3 (List (Str × Int)) (List (T3 Str (Tp Int) Bool)) (List (Str × (Tp Int)))))), .val (enc (v_net.a : (List (Str × Int)))), .val (enc (v_net.b : (List (T3 Str (Tp Int) Bool)))), .val (enc (v_net.c : (List (Str × (Tp Int)))))] := E
  have S : Hx K _ _ _ _ [] _ := S
  obtain rfl := Option.some.inj hm0
  -- return
  try (with_reducible refine nxD ?_)
  refine st_ret (d := enc ((T3.mk v_net.a v_net.b v_net.c) : (T3 (List (Str × Int)) (List (T3 Str (Tp Int) Bool)) (List (Str × (Tp Int)))))) (rx_tup (ds := [enc (v_net.a : (List (Str × Int))), enc (v_net.b : (List (T3 Str (Tp Int) Bool))), enc (v_net.c : (List (Str × (Tp Int))))]) (ra_cons (RXo.frz (rxo_list (RX.s (rx_var (d := enc (v_net.a : (List (Str × Int)))) rfl)))) (ra_cons (RXo.frz (rxo_list (RX.s (rx_var (d := enc (v_net.b : (List (T3 Str (Tp Int) Bool)))) rfl)))) (ra_cons (RXo.frz (rxo_list (RX.s (rx_var (d := enc (v_net.c : (List (Str × (Tp Int))))) rfl)))) ra_nil)))) E S fun v F H f S r => ?_
  exact k v F H S.stp r
theorem sc__law_case : FnScope ["pot", "pairs", "net", "given", "heard", "due", "part"] ["pot", "pairs"] (defScope (top 17)) := ⟨rfl, rfl, rfl, by decide +kernel, rfl, by decide +kernel, by decide +kernel⟩
theorem ok__law_case (D : Dfn K mg "_law_case" (top 17) ["pot", "pairs"]) (CT_in_pairs : Cal P w K mg base 3 "in_pairs" ["net"] (SpT K RT_in_pairs)) (CT_in_threes : Cal P w K mg base 3 "in_threes" ["net"] (SpT K RT_in_threes)) (C__law_copy : Cal P w K mg base 1 "_law_copy" ["net"] (SpP K R__law_copy)) (C__law_made : Cal P w K mg base 1 "_law_made" ["net", "many", "votes"] (SpP K R__law_made)) (C__law_next : Cal P w K mg base 1 "_law_next" ["pot", "many"] (SpPo K R__law_next)) (C__law_plain : Cal P w K mg base 2 "_law_plain" ["pot", "most", "gates"] (SpPo K R__law_plain)) (C__law_same : Cal P w K mg base 14 "_law_same" ["heard", "due"] (SpP K (SimR 12))) (C_in_pairs : Cal P w K mg base 3 "in_pairs" ["net"] (SpP K R_in_pairs)) (C_in_threes : Cal P w K mg base 3 "in_threes" ["net"] (SpP K R_in_threes)) : Cal P w K mg base 15 "_law_case" ["pot", "pairs"] (SpPo K R__law_case) := by
  refine D.cal sc__law_case (spo_len fun c ds d c' h => by obtain ⟨_, _, _, _, rfl, _⟩ := h; rfl) fun f cdv A outer s H vs Q E hr h => ?_
  refine ⟨_, (pss_cons (ps_if (pt_val (pv 1)) (pss_cons (ps_set (i := 2) sc__law_case.nd rfl (Or.inl rfl) (pe_cal C__law_plain hr (pa_cons (pv 0) (pa_cons pe_int (pa_cons (pe_cal C__law_next hr (pa_cons (pv 0) (pa_cons pe_int pa_nil))) pa_nil))))) (pss_cons (ps_set (i := 3) sc__law_case.nd rfl (Or.inl rfl) (pe_cal C__law_copy hr (pa_cons (pv 2) pa_nil))) (pss_cons (ps_set (i := 4) sc__law_case.nd rfl (Or.inl rfl) (pe_cal CT_in_pairs hr (pa_cons (pv 3) pa_nil))) (pss_one (ps_set (i := 5) sc__law_case.nd rfl (Or.inl rfl) (pe_cal C__law_made hr (pa_cons (pv 2) (pa_cons pe_int (pa_cons pe_bl pa_nil))))))))) (pss_cons (ps_set (i := 2) sc__law_case.nd rfl (Or.inl rfl) (pe_cal C__law_plain hr (pa_cons (pv 0) (pa_cons pe_int (pa_cons (pe_cal C__law_next hr (pa_cons (pv 0) (pa_cons pe_int pa_nil))) pa_nil))))) (pss_cons (ps_set (i := 3) sc__law_case.nd rfl (Or.inl rfl) (pe_cal C__law_copy hr (pa_cons (pv 2) pa_nil))) (pss_cons (ps_set (i := 4) sc__law_case.nd rfl (Or.inl rfl) (pe_cal CT_in_threes hr (pa_cons (pv 3) pa_nil))) (pss_one (ps_set (i := 5) sc__law_case.nd rfl (Or.inl rfl) (pe_cal C__law_made hr (pa_cons (pv 2) (pa_cons pe_int (pa_cons pe_bl pa_nil)))))))))) (pss_cons (ps_if (PW.pt (pw_or (pt_not (pt_val (pe_cal C__law_same hr (pa_cons (pv 4) (pa_cons (pv 5) pa_nil))))) (pw_or1 (pt_cmpR (k_neD K hr.units) (pv 3) (pv 2) (nomark _))))) (pss_one (ps_ret pe_bl)) pss_nil) (pss_cons (ps_for PassesOwn.never rfl (k_pi_tup K (pv 4)) (pg_name (i := 6) sc__law_case.nd rfl (Or.inl rfl)) (pss_one (ps_expr (pe_bm PySem.F.plainAttrs_list PySem.F.slot_list_append PySem.F.type_list_append mt_append (pv 6) (pa_cons pe_non pa_nil))))) (pss_cons (ps_if (pt_val (pv 1)) (pss_one (ps_ret (pe_and (pe_cmpR (k_eqD K hr.units) (pv 3) (pv 2) (nomark _)) (pe_one (pe_cal C__law_same hr (pa_cons (pe_cal C_in_pairs hr (pa_cons (pv 3) pa_nil)) (pa_cons (pv 5) pa_nil))))))) pss_nil) (pss_one (ps_ret (pe_and (pe_cmpR (k_eqD K hr.units) (pv 3) (pv 2) (nomark _)) (pe_one (pe_cal C__law_same hr (pa_cons (pe_cal C_in_threes hr (pa_cons (pv 3) pa_nil)) (pa_cons (pv 5) pa_nil))))))))))), ?_⟩
  obtain ⟨F, p_pot, ws, xs, c, ds, d, c', rfl, hw, hF, hp, hH, hz, hc, ⟨v_pot, v_pairs, rr, rfl, rfl, rfl, rfl, hm0⟩, k⟩ := h
  have E : EnvR K F _ [.adr p_pot, .val (enc (v_pairs : Bool)), .un, .un, .un, .un, .un] := EnvR.start (N := ["pot", "pairs", "net", "given", "heard", "due", "part"]) (AsR.adr (AsR.of_all hw))
  have S := Hx.start1 hF hp hH hz hc
  have fc : Same F F := Same.refl F
  unfold m__law_case at hm0
  try (with_reducible refine nxD ?_)
  with_reducible refine sq ?_
  refine st_if (b := v_pairs) (rt_b (rx_var (d := enc (v_pairs : Bool)) rfl)) E S (fun hc F H f E S => ?_) (fun hc F H f E S => ?_)
  · rw [if_pos hc] at hm0
    replace fc := fc.trans f
    obtain ⟨r1, h2, hm0⟩ := bindE hm0
    obtain ⟨r3, h4, hm0⟩ := bindE hm0
    try (with_reducible refine nxD ?_)
    with_reducible refine sq ?_
    refine st_set (i := 2) (d := enc (r3.1 : (T3 (List (Str × Int)) (List (T3 Str (Tp Int) Bool)) (List (Str × (Tp Int)))))) (rx_callo (j := 0) (ds := [enc ((6 : Int) : Int), enc (r1.1 : Int)]) (c := r1.2.map enc) (c' := r3.2.map enc) (d := enc (r3.1 : (T3 (List (Str × Int)) (List (T3 Str (Tp Int) Bool)) (List (Str × (Tp Int)))))) (ra_own rfl (ra_cons rx_int (ra_cons (rx_callo (j := 0) (ds := [enc ((31 : Int) : Int)]) (c := v_pot.map enc) (c' := r1.2.map enc) (d := enc (r1.1 : Int)) (ra_own rfl (ra_cons rx_int ra_nil)) rfl ⟨_, _, r1, rfl, rfl, rfl, rfl, h2⟩) ra_nil))) rfl ⟨_, _, _, r3, rfl, rfl, rfl, rfl, h4⟩) E S fun σ F H f E S => ?_
    replace fc := fc.trans f
    have E : EnvR K _ _ [.adr p_pot, .val (enc (v_pairs : Bool)), .val (enc (r3.1 : (T3 (List (Str × Int)) (List (T3 Str (Tp Int) Bool)) (List (Str × (Tp Int)))))), .un, .un, .un, .un] := E
    have S : Hx K _ _ _ _ [⟨p_pot, false, r3.2.map enc⟩] _ := S
    obtain ⟨r5, h6, hm0⟩ := bindE hm0
    try (with_reducible refine nxD ?_)
    with_reducible refine sq ?_
    refine st_set (i := 3) (d := enc (r5 : (T3 (List (Str × Int)) (List (T3 Str (Tp Int) Bool)) (List (Str × (Tp Int)))))) (rx_call (ds := [enc (r3.1 : (T3 (List (Str × Int)) (List (T3 Str (Tp Int) Bool)) (List (Str × (Tp Int)))))]) (d := enc (r5 : (T3 (List (Str × Int)) (List (T3 Str (Tp Int) Bool)) (List (Str × (Tp Int)))))) ⟨_, r5, rfl, rfl, h6⟩ (ra_cons (rx_var (d := enc (r3.1 : (T3 (List (Str × Int)) (List (T3 Str (Tp Int) Bool)) (List (Str × (Tp Int)))))) rfl) ra_nil)) E S fun σ F H f E S => ?_
    replace fc := fc.trans f
    have E : EnvR K _ _ [.adr p_pot, .val (enc (v_pairs : Bool)), .val (enc (r3.1 : (T3 (List (Str × Int)) (List (T3 Str (Tp Int) Bool)) (List (Str × (Tp Int)))))), .val (enc (r5 : (T3 (List (Str × Int)) (List (T3 Str (Tp Int) Bool)) (List (Str × (Tp Int)))))), .un, .un, .un] := E
    have S : Hx K _ _ _ _ [⟨p_pot, false, r3.2.map enc⟩] _ := S
    obtain ⟨r7, h8, hm0⟩ := bindE hm0
    try (with_reducible refine nxD ?_)
    with_reducible refine sq ?_
    refine st_setT (i := 4) (R := RT_in_pairs) (ds := [enc (r5 : (T3 (List (Str × Int)) (List (T3 Str (Tp Int) Bool)) (List (Str × (Tp Int)))))]) (ess := [r7.a.map enc, r7.b.map enc, r7.c.map enc]) ⟨_, r7, rfl, rfl, h8⟩ (ra_cons (rx_var (d := enc (r5 : (T3 (List (Str × Int)) (List (T3 Str (Tp Int) Bool)) (List (Str × (Tp Int)))))) rfl) ra_nil) E S fun ps σ F H hl9 f E S => ?_
    obtain ⟨p_heard10, p_heard11, p_heard12, rfl⟩ := len3 hl9
    replace fc := fc.trans f
    have E : EnvR K _ _ [.adr p_pot, .val (enc (v_pairs : Bool)), .val (enc (r3.1 : (T3 (List (Str × Int)) (List (T3 Str (Tp Int) Bool)) (List (Str × (Tp Int)))))), .val (enc (r5 : (T3 (List (Str × Int)) (List (T3 Str (Tp Int) Bool)) (List (Str × (Tp Int)))))), .tow [p_heard10, p_heard11, p_heard12], .un, .un] := E
    have S : Hx K _ _ _ _ [⟨p_heard10, true, r7.a.map enc⟩, ⟨p_heard11, true, r7.b.map enc⟩, ⟨p_heard12, true, r7.c.map enc⟩, ⟨p_pot, false, r3.2.map enc⟩] _ := S
    obtain ⟨r13, h14, hm0⟩ := bindE hm0
    try (with_reducible refine nxD ?_)
    refine (st_set (i := 5) (d := enc (r13 : (T3 (List (Str × Int)) (List (T3 Str (Tp Int) Bool)) (List (Str × (Tp Int)))))) (rx_call (ds := [enc (r3.1 : (T3 (List (Str × Int)) (List (T3 Str (Tp Int) Bool)) (List (Str × (Tp Int))))), enc ((2 : Int) : Int), enc (false : Bool)]) (d := enc (r13 : (T3 (List (Str × Int)) (List (T3 Str (Tp Int) Bool)) (List (Str × (Tp Int)))))) ⟨_, _, _, r13, rfl, rfl, h14⟩ (ra_cons (rx_var (d := enc (r3.1 : (T3 (List (Str × Int)) (List (T3 Str (Tp Int) Bool)) (List (Str × (Tp Int)))))) rfl) (ra_cons rx_int (ra_cons rx_bl ra_nil)))) E S fun σ F H f E S => ?_)
    replace fc := fc.trans f
    have E : EnvR K _ _ [.adr p_pot, .val (enc (v_pairs : Bool)), .val (enc (r3.1 : (T3 (List (Str × Int)) (List (T3 Str (Tp Int) Bool)) (List (Str × (Tp Int)))))), .val (enc (r5 : (T3 (List (Str × Int)) (List (T3 Str (Tp Int) Bool)) (List (Str × (Tp Int)))))), .tow [p_heard10, p_heard11, p_heard12], .val (enc (r13 : (T3 (List (Str × Int)) (List (T3 Str (Tp Int) Bool)) (List (Str × (Tp Int)))))), .un] := E
    have S : Hx K _ _ _ _ [⟨p_heard10, true, r7.a.map enc⟩, ⟨p_heard11, true, r7.b.map enc⟩, ⟨p_heard12, true, r7.c.map enc⟩, ⟨p_pot, false, r3.2.map enc⟩] _ := S
    obtain ⟨b22, h19, hm0⟩ := bindE hm0
    try (with_reducible refine nxD ?_)
    with_reducible refine sq ?_
    refine st_if (b := b22) (rt_or (rt_not (rt_b (rx_callH (d := enc ((T3.mk r7.a r7.b r7.c) : (T3 (List (Str × Int)) (List (T3 Str (Tp Int) Bool)) (List (Str × (Tp Int)))))) (e := enc (r13 : (T3 (List (Str × Int)) (List (T3 Str (Tp Int) Bool)) (List (Str × (Tp Int)))))) (b := (decide (((T3.mk r7.a r7.b r7.c) : (T3 (List (Str × Int)) (List (T3 Str (Tp Int) Bool)) (List (Str × (Tp Int))))) = r13))) ⟨_, _, _, rfl, (SimT.ok (α := (T3 (List (Str × Int)) (List (T3 Str (Tp Int) Bool)) (List (Str × (Tp Int))))) _ _).mono (by decide), rfl⟩ (rxh_tow (ps := [p_heard10, p_heard11, p_heard12]) (ess := [r7.a.map enc, r7.b.map enc, r7.c.map enc]) rfl (.cons 0 rfl (.cons 1 rfl (.cons 2 rfl .nil)))) (RX.h (rx_var (d := enc (r13 : (T3 (List (Str × Int)) (List (T3 Str (Tp Int) Bool)) (List (Str × (Tp Int)))))) rfl))))) (fun ha => by rw [if_neg (by rw [ha]; decide)] at h19; obtain ⟨b20, h21, h19⟩ := bindE h19; obtain rfl := Option.some.inj h19; exact (rt_val (rx_neO h21 (RX.h (rx_var (d := enc (r5 : (T3 (List (Str × Int)) (List (T3 Str (Tp Int) Bool)) (List (Str × (Tp Int)))))) rfl)) (RX.h (rx_var (d := enc (r3.1 : (T3 (List (Str × Int)) (List (T3 Str (Tp Int) Bool)) (List (Str × (Tp Int)))))) rfl))))) (fun ha => by rw [if_pos ha] at h19; obtain rfl := Option.some.inj h19; exact ⟨rfl, rfl⟩)) E S (fun hc F H f E S => ?_) (fun hc F H f E S => ?_)
    · rw [if_pos hc] at hm0
      replace fc := fc.trans f
      obtain rfl := Option.some.inj hm0
      -- return
      try (with_reducible refine nxD ?_)
      refine st_ret (d := enc (false : Bool)) rx_bl E S fun v F H f S r => ?_
      obtain ⟨g1, g2, g3, ys, g4, g5, g6⟩ := S.get (j := 3) rfl
      exact k v F H ys S.stp g1 g4 g5 g6 r
    · rw [if_neg (by rw [hc]; decide)] at hm0
      replace fc := fc.trans f
      refine nxt ?_
      obtain ⟨_, hz23, hm0⟩ := bindE hm0
      have hz23l : r7.a.length < 16777216 := by by_cases q : r7.a.length < 16777216; exact q; rw [if_neg q] at hz23; cases hz23
      obtain ⟨_, hz24, hm0⟩ := bindE hm0
      have hz24l : r7.b.length < 16777216 := by by_cases q : r7.b.length < 16777216; exact q; rw [if_neg q] at hz24; cases hz24
      obtain ⟨_, hz25, hm0⟩ := bindE hm0
      have hz25l : r7.c.length < 16777216 := by by_cases q : r7.c.length < 16777216; exact q; rw [if_neg q] at hz25; cases hz25
      have hz26 : ∀ es ∈ [r7.a.map enc, r7.b.map enc, r7.c.map enc], es.length < 16777216 := by simp only [List.mem_cons, List.not_mem_nil, or_false, List.length_map, forall_eq_or_imp, forall_eq, List.length_map]; exact ⟨hz23l, hz24l, hz25l⟩
      try (with_reducible refine nxD ?_)
      with_reducible refine sq ?_
      refine st_forT (i := 4) (j := 6) (ps := [p_heard10, p_heard11, p_heard12]) (ess := [r7.a.map enc, r7.b.map enc, r7.c.map enc]) (g := (fun es => es ++ [enc (() : Unit)])) [.adr p_pot, .val (enc (v_pairs : Bool)), .val (enc (r3.1 : (T3 (List (Str × Int)) (List (T3 Str (Tp Int) Bool)) (List (Str × (Tp Int)))))), .val (enc (r5 : (T3 (List (Str × Int)) (List (T3 Str (Tp Int) Bool)) (List (Str × (Tp Int)))))), .tow [p_heard10, p_heard11, p_heard12], .val (enc (r13 : (T3 (List (Str × Int)) (List (T3 Str (Tp Int) Bool)) (List (Str × (Tp Int)))))), .un] rfl rfl E S ⟨.inl rfl, .inl rfl, .inl rfl, .inl rfl, .inl rfl, .inl rfl, .inr rfl, trivial⟩ (fun σ F H f E S => ?_) (fun es hes σ F H p_part Or_ f E S N B hN => ?_)
      · replace fc := fc.trans f
        have E : EnvR K _ _ [.adr p_pot, .val (enc (v_pairs : Bool)), .val (enc (r3.1 : (T3 (List (Str × Int)) (List (T3 Str (Tp Int) Bool)) (List (Str × (Tp Int)))))), .val (enc (r5 : (T3 (List (Str × Int)) (List (T3 Str (Tp Int) Bool)) (List (Str × (Tp Int)))))), .tow [p_heard10, p_heard11, p_heard12], .val (enc (r13 : (T3 (List (Str × Int)) (List (T3 Str (Tp Int) Bool)) (List (Str × (Tp Int)))))), .un] := E
        have S : Hx K _ _ _ _ [⟨p_heard10, true, r7.a.map enc ++ [enc (() : Unit)]⟩, ⟨p_heard11, true, r7.b.map enc ++ [enc (() : Unit)]⟩, ⟨p_heard12, true, r7.c.map enc ++ [enc (() : Unit)]⟩, ⟨p_pot, false, r3.2.map enc⟩] _ := S
        try (with_reducible refine nxD ?_)
        with_reducible refine sq ?_
        refine st_if (b := v_pairs) (rt_b (rx_var (d := enc (v_pairs : Bool)) rfl)) E S (fun hc F H f E S => ?_) (fun hc F H f E S => ?_)
        · rw [if_pos hc] at hm0
          replace fc := fc.trans f
          obtain ⟨b33, h34, hm0⟩ := bindE hm0
          obtain ⟨b38, h35, hm0⟩ := bindE hm0
          obtain rfl := Option.some.inj hm0
          -- return
          try (with_reducible refine nxD ?_)
          refine st_ret (d := enc (b38 : Bool)) (rx_and (rx_eqO h34 (RX.h (rx_var (d := enc (r5 : (T3 (List (Str × Int)) (List (T3 Str (Tp Int) Bool)) (List (Str × (Tp Int)))))) rfl)) (RX.h (rx_var (d := enc (r3.1 : (T3 (List (Str × Int)) (List (T3 Str (Tp Int) Bool)) (List (Str × (Tp Int)))))) rfl))) (fun ha => by rw [if_pos ha] at h35; obtain ⟨r36, h37, h35⟩ := bindE h35; obtain rfl := Option.some.inj h35; exact (rx_call (ds := [enc (r36 : (T3 (List (Str × Int)) (List (T3 Str (Tp Int) Bool)) (List (Str × (Tp Int))))), enc (r13 : (T3 (List (Str × Int)) (List (T3 Str (Tp Int) Bool)) (List (Str × (Tp Int)))))]) (d := .bool (decide ((r36 : (T3 (List (Str × Int)) (List (T3 Str (Tp Int) Bool)) (List (Str × (Tp Int))))) = r13))) ⟨_, _, _, rfl, (SimT.ok (α := (T3 (List (Str × Int)) (List (T3 Str (Tp Int) Bool)) (List (Str × (Tp Int))))) _ _).mono (by decide), rfl⟩ (ra_cons (rx_call (ds := [enc (r5 : (T3 (List (Str × Int)) (List (T3 Str (Tp Int) Bool)) (List (Str × (Tp Int)))))]) (d := enc (r36 : (T3 (List (Str × Int)) (List (T3 Str (Tp Int) Bool)) (List (Str × (Tp Int)))))) ⟨_, r36, rfl, rfl, h37⟩ (ra_cons (rx_var (d := enc (r5 : (T3 (List (Str × Int)) (List (T3 Str (Tp Int) Bool)) (List (Str × (Tp Int)))))) rfl) ra_nil)) (ra_cons (rx_var (d := enc (r13 : (T3 (List (Str × Int)) (List (T3 Str (Tp Int) Bool)) (List (Str × (Tp Int)))))) rfl) ra_nil)))) (fun ha => by rw [if_neg (by rw [ha]; decide)] at h35; obtain rfl := Option.some.inj h35; exact ⟨rfl, rfl⟩)) E S fun v F H f S r => ?_
          obtain ⟨g1, g2, g3, ys, g4, g5, g6⟩ := S.get (j := 3) rfl
          exact k v F H ys S.stp g1 g4 g5 g6 r
        · rw [if_neg (by rw [hc]; decide)] at hm0
          replace fc := fc.trans f
          refine nxt ?_
          obtain ⟨b45, h46, hm0⟩ := bindE hm0
          obtain ⟨b50, h47, hm0⟩ := bindE hm0
          obtain rfl := Option.some.inj hm0
          -- return
          try (with_reducible refine nxD ?_)
          refine st_ret (d := enc (b50 : Bool)) (rx_and (rx_eqO h46 (RX.h (rx_var (d := enc (r5 : (T3 (List (Str × Int)) (List (T3 Str (Tp Int) Bool)) (List (Str × (Tp Int)))))) rfl)) (RX.h (rx_var (d := enc (r3.1 : (T3 (List (Str × Int)) (List (T3 Str (Tp Int) Bool)) (List (Str × (Tp Int)))))) rfl))) (fun ha => by rw [if_pos ha] at h47; obtain ⟨r48, h49, h47⟩ := bindE h47; obtain rfl := Option.some.inj h47; exact (rx_call (ds := [enc (r48 : (T3 (List (Str × Int)) (List (T3 Str (Tp Int) Bool)) (List (Str × (Tp Int))))), enc (r13 : (T3 (List (Str × Int)) (List (T3 Str (Tp Int) Bool)) (List (Str × (Tp Int)))))]) (d := .bool (decide ((r48 : (T3 (List (Str × Int)) (List (T3 Str (Tp Int) Bool)) (List (Str × (Tp Int))))) = r13))) ⟨_, _, _, rfl, (SimT.ok (α := (T3 (List (Str × Int)) (List (T3 Str (Tp Int) Bool)) (List (Str × (Tp Int))))) _ _).mono (by decide), rfl⟩ (ra_cons (rx_call (ds := [enc (r5 : (T3 (List (Str × Int)) (List (T3 Str (Tp Int) Bool)) (List (Str × (Tp Int)))))]) (d := enc (r48 : (T3 (List (Str × Int)) (List (T3 Str (Tp Int) Bool)) (List (Str × (Tp Int)))))) ⟨_, r48, rfl, rfl, h49⟩ (ra_cons (rx_var (d := enc (r5 : (T3 (List (Str × Int)) (List (T3 Str (Tp Int) Bool)) (List (Str × (Tp Int)))))) rfl) ra_nil)) (ra_cons (rx_var (d := enc (r13 : (T3 (List (Str × Int)) (List (T3 Str (Tp Int) Bool)) (List (Str × (Tp Int)))))) rfl) ra_nil)))) (fun ha => by rw [if_neg (by rw [ha]; decide)] at h47; obtain rfl := Option.some.inj h47; exact ⟨rfl, rfl⟩)) E S fun v F H f S r => ?_
          obtain ⟨g1, g2, g3, ys, g4, g5, g6⟩ := S.get (j := 3) rfl
          exact k v F H ys S.stp g1 g4 g5 g6 r
      · have E : EnvR K _ _ [.adr p_pot, .val (enc (v_pairs : Bool)), .val (enc (r3.1 : (T3 (List (Str × Int)) (List (T3 Str (Tp Int) Bool)) (List (Str × (Tp Int)))))), .val (enc (r5 : (T3 (List (Str × Int)) (List (T3 Str (Tp Int) Bool)) (List (Str × (Tp Int)))))), .tow [p_heard10, p_heard11, p_heard12], .val (enc (r13 : (T3 (List (Str × Int)) (List (T3 Str (Tp Int) Bool)) (List (Str × (Tp Int)))))), .adr p_part] := E
        have S : Hx K _ _ _ _ (⟨p_part, true, es⟩ :: Or_) _ := S
        have hn : appO es (enc (() : Unit)) = some (es ++ [enc (() : Unit)]) := by unfold appO; rw [if_pos (hz26 es hes)]
        try (with_reducible refine nxD ?_)
        refine st_app (j := 0) (ds := es) (d := enc (() : Unit)) hn rfl rx_non ⟨_, rfl⟩ rfl E S fun F H f3 E S => ?_
        exact hN _ _ _ (f3) (E.weak ⟨.inl rfl, .inl rfl, .inl rfl, .inl rfl, .inl rfl, .inl rfl, .inr rfl, trivial⟩) S
  · rw [if_neg (by rw [hc]; decide)] at hm0
    replace fc := fc.trans f
    obtain ⟨r51, h52, hm0⟩ := bindE hm0
    obtain ⟨r53, h54, hm0⟩ := bindE hm0
    try (with_reducible refine nxD ?_)
    with_reducible refine sq ?_
    refine st_set (i := 2) (d := enc (r53.1 : (T3 (List (Str × Int)) (List (T3 Str (Tp Int) Bool)) (List (Str × (Tp Int)))))) (rx_callo (j := 0) (ds := [enc ((6 : Int) : Int), enc (r51.1 : Int)]) (c := r51.2.map enc) (c' := r53.2.map enc) (d := enc (r53.1 : (T3 (List (Str × Int)) (List (T3 Str (Tp Int) Bool)) (List (Str × (Tp Int)))))) (ra_own rfl (ra_cons rx_int (ra_cons (rx_callo (j := 0) (ds := [enc ((21 : Int) : Int)]) (c := v_pot.map enc) (c' := r51.2.map enc) (d := enc (r51.1 : Int)) (ra_own rfl (ra_cons rx_int ra_nil)) rfl ⟨_, _, r51, rfl, rfl, rfl, rfl, h52⟩) ra_nil))) rfl ⟨_, _, _, r53, rfl, rfl, rfl, rfl, h54⟩) E S fun σ F H f E S => ?_
    replace fc := fc.trans f
    have E : EnvR K _ _ [.adr p_pot, .val (enc (v_pairs : Bool)), .val (enc (r53.1 : (T3 (List (Str × Int)) (List (T3 Str (Tp Int) Bool)) (List (Str × (Tp Int)))))), .un, .un, .un, .un] := E
    have S : Hx K _ _ _ _ [⟨p_pot, false, r53.2.map enc⟩] _ := S
    obtain ⟨r55, h56, hm0⟩ := bindE hm0
    try (with_reducible refine nxD ?_)
    with_reducible refine sq ?_
    refine st_set (i := 3) (d := enc (r55 : (T3 (List (Str × Int)) (List (T3 Str (Tp Int) Bool)) (List (Str × (Tp Int)))))) (rx_call (ds := [enc (r53.1 : (T3 (List (Str × Int)) (List (T3 Str (Tp Int) Bool)) (List (Str × (Tp Int)))))]) (d := enc (r55 : (T3 (List (Str × Int)) (List (T3 Str (Tp Int) Bool)) (List (Str × (Tp Int)))))) ⟨_, r55, rfl, rfl, h56⟩ (ra_cons (rx_var (d := enc (r53.1 : (T3 (List (Str × Int)) (List (T3 Str (Tp Int) Bool)) (List (Str × (Tp Int)))))) rfl) ra_nil)) E S fun σ F H f E S => ?_
    replace fc := fc.trans f
    have E : EnvR K _ _ [.adr p_pot, .val (enc (v_pairs : Bool)), .val (enc (r53.1 : (T3 (List (Str × Int)) (List (T3 Str (Tp Int) Bool)) (List (Str × (Tp Int)))))), .val (enc (r55 : (T3 (List (Str × Int)) (List (T3 Str (Tp Int) Bool)) (List (Str × (Tp Int)))))), .un, .un, .un] := E
    have S : Hx K _ _ _ _ [⟨p_pot, false, r53.2.map enc⟩] _ := S
    obtain ⟨r57, h58, hm0⟩ := bindE hm0
    try (with_reducible refine nxD ?_)
    with_reducible refine sq ?_
    refine st_setT (i := 4) (R := RT_in_threes) (ds := [enc (r55 : (T3 (List (Str × Int)) (List (T3 Str (Tp Int) Bool)) (List (Str × (Tp Int)))))]) (ess := [r57.a.map enc, r57.b.map enc, r57.c.map enc]) ⟨_, r57, rfl, rfl, h58⟩ (ra_cons (rx_var (d := enc (r55 : (T3 (List (Str × Int)) (List (T3 Str (Tp Int) Bool)) (List (Str × (Tp Int)))))) rfl) ra_nil) E S fun ps σ F H hl59 f E S => ?_
    obtain ⟨p_heard60, p_heard61, p_heard62, rfl⟩ := len3 hl59
    replace fc := fc.trans f
    have E : EnvR K _ _ [.adr p_pot, .val (enc (v_pairs : Bool)), .val (enc (r53.1 : (T3 (List (Str × Int)) (List (T3 Str (Tp Int) Bool)) (List (Str × (Tp Int)))))), .val (enc (r55 : (T3 (List (Str × Int)) (List (T3 Str (Tp Int) Bool)) (List (Str × (Tp Int)))))), .tow [p_heard60, p_heard61, p_heard62], .un, .un] := E
    have S : Hx K _ _ _ _ [⟨p_heard60, true, r57.a.map enc⟩, ⟨p_heard61, true, r57.b.map enc⟩, ⟨p_heard62, true, r57.c.map enc⟩, ⟨p_pot, false, r53.2.map enc⟩] _ := S
    obtain ⟨r63, h64, hm0⟩ := bindE hm0
    try (with_reducible refine nxD ?_)
    refine (st_set (i := 5) (d := enc (r63 : (T3 (List (Str × Int)) (List (T3 Str (Tp Int) Bool)) (List (Str × (Tp Int)))))) (rx_call (ds := [enc (r53.1 : (T3 (List (Str × Int)) (List (T3 Str (Tp Int) Bool)) (List (Str × (Tp Int))))), enc ((3 : Int) : Int), enc (false : Bool)]) (d := enc (r63 : (T3 (List (Str × Int)) (List (T3 Str (Tp Int) Bool)) (List (Str × (Tp Int)))))) ⟨_, _, _, r63, rfl, rfl, h64⟩ (ra_cons (rx_var (d := enc (r53.1 : (T3 (List (Str × Int)) (List (T3 Str (Tp Int) Bool)) (List (Str × (Tp Int)))))) rfl) (ra_cons rx_int (ra_cons rx_bl ra_nil)))) E S fun σ F H f E S => ?_)
    replace fc := fc.trans f
    have E : EnvR K _ _ [.adr p_pot, .val (enc (v_pairs : Bool)), .val (enc (r53.1 : (T3 (List (Str × Int)) (List (T3 Str (Tp Int) Bool)) (List (Str × (Tp Int)))))), .val (enc (r55 : (T3 (List (Str × Int)) (List (T3 Str (Tp Int) Bool)) (List (Str × (Tp Int)))))), .tow [p_heard60, p_heard61, p_heard62], .val (enc (r63 : (T3 (List (Str × Int)) (List (T3 Str (Tp Int) Bool)) (List (Str × (Tp Int)))))), .un] := E
    have S : Hx K _ _ _ _ [⟨p_heard60, true, r57.a.map enc⟩, ⟨p_heard61, true, r57.b.map enc⟩, ⟨p_heard62, true, r57.c.map enc⟩, ⟨p_pot, false, r53.2.map enc⟩] _ := S
    obtain ⟨b72, h69, hm0⟩ := bindE hm0
    try (with_reducible refine nxD ?_)
    with_reducible refine sq ?_
    refine st_if (b := b72) (rt_or (rt_not (rt_b (rx_callH (d := enc ((T3.mk r57.a r57.b r57.c) : (T3 (List (Str × Int)) (List (T3 Str (Tp Int) Bool)) (List (Str × (Tp Int)))))) (e := enc (r63 : (T3 (List (Str × Int)) (List (T3 Str (Tp Int) Bool)) (List (Str × (Tp Int)))))) (b := (decide (((T3.mk r57.a r57.b r57.c) : (T3 (List (Str × Int)) (List (T3 Str (Tp Int) Bool)) (List (Str × (Tp Int))))) = r63))) ⟨_, _, _, rfl, (SimT.ok (α := (T3 (List (Str × Int)) (List (T3 Str (Tp Int) Bool)) (List (Str × (Tp Int))))) _ _).mono (by decide), rfl⟩ (rxh_tow (ps := [p_heard60, p_heard61, p_heard62]) (ess := [r57.a.map enc, r57.b.map enc, r57.c.map enc]) rfl (.cons 0 rfl (.cons 1 rfl (.cons 2 rfl .nil)))) (RX.h (rx_var (d := enc (r63 : (T3 (List (Str × Int)) (List (T3 Str (Tp Int) Bool)) (List (Str × (Tp Int)))))) rfl))))) (fun ha => by rw [if_neg (by rw [ha]; decide)] at h69; obtain ⟨b70, h71, h69⟩ := bindE h69; obtain rfl := Option.some.inj h69; exact (rt_val (rx_neO h71 (RX.h (rx_var (d := enc (r55 : (T3 (List (Str × Int)) (List (T3 Str (Tp Int) Bool)) (List (Str × (Tp Int)))))) rfl)) (RX.h (rx_var (d := enc (r53.1 : (T3 (List (Str × Int)) (List (T3 Str (Tp Int) Bool)) (List (Str × (Tp Int)))))) rfl))))) (fun ha => by rw [if_pos ha] at h69; obtain rfl := Option.some.inj h69; exact ⟨rfl, rfl⟩)) E S (fun hc F H f E S => ?_) (fun hc F H f E S => ?_)
    · rw [if_pos hc] at hm0
      replace fc := fc.trans f
      obtain rfl := Option.some.inj hm0
      -- return
      try (with_reducible refine nxD ?_)
      refine st_ret (d := enc (false : Bool)) rx_bl E S fun v F H f S r => ?_
      obtain ⟨g1, g2, g3, ys, g4, g5, g6⟩ := S.get (j := 3) rfl
      exact k v F H ys S.stp g1 g4 g5 g6 r
    · rw [if_neg (by rw [hc]; decide)] at hm0
      replace fc := fc.trans f
      refine nxt ?_
      obtain ⟨_, hz73, hm0⟩ := bindE hm0
      have hz73l : r57.a.length < 16777216 := by by_cases q : r57.a.length < 16777216; exact q; rw [if_neg q] at hz73; cases hz73
      obtain ⟨_, hz74, hm0⟩ := bindE hm0
      have hz74l : r57.b.length < 16777216 := by by_cases q : r57.b.length < 16777216; exact q; rw [if_neg q] at hz74; cases hz74
      obtain ⟨_, hz75, hm0⟩ := bindE hm0
      have hz75l : r57.c.length < 16777216 := by by_cases q : r57.c.length < 16777216; exact q; rw [if_neg q] at hz75; cases hz75
      have hz76 : ∀ es ∈ [r57.a.map enc, r57.b.map enc, r57.c.map enc], es.length < 16777216 := by simp only [List.mem_cons, List.not_mem_nil, or_false, List.length_map, forall_eq_or_imp, forall_eq, List.length_map]; exact ⟨hz73l, hz74l, hz75l⟩
      try (with_reducible refine nxD ?_)
      with_reducible refine sq ?_
      refine st_forT (i := 4) (j := 6) (ps := [p_heard60, p_heard61, p_heard62]) (ess := [r57.a.map enc, r57.b.map enc, r57.c.map enc]) (g := (fun es => es ++ [enc (() : Unit)])) [.adr p_pot, .val (enc (v_pairs : Bool)), .val (enc (r53.1 : (T3 (List (Str × Int)) (List (T3 Str (Tp Int) Bool)) (List (Str × (Tp Int)))))), .val (enc (r55 : (T3 (List (Str × Int)) (List (T3 Str (Tp Int) Bool)) (List (Str × (Tp Int)))))), .tow [p_heard60, p_heard61, p_heard62], .val (enc (r63 : (T3 (List (Str × Int)) (List (T3 Str (Tp Int) Bool)) (List (Str × (Tp Int)))))), .un] rfl rfl E S ⟨.inl rfl, .inl rfl, .inl rfl, .inl rfl, .inl rfl, .inl rfl, .inr rfl, trivial⟩ (fun σ F H f E S => ?_) (fun es hes σ F H p_part Or_ f E S N B hN => ?_)
      · replace fc := fc.trans f
        have E : EnvR K _ _ [.adr p_pot, .val (enc (v_pairs : Bool)), .val (enc (r53.1 : (T3 (List (Str × Int)) (List (T3 Str (Tp Int) Bool)) (List (Str × (Tp Int)))))), .val (enc (r55 : (T3 (List (Str × Int)) (List (T3 Str (Tp Int) Bool)) (List (Str × (Tp Int)))))), .tow [p_heard60, p_heard61, p_heard62], .val (enc (r63 : (T3 (List (Str × Int)) (List (T3 Str (Tp Int) Bool)) (List (Str × (Tp Int)))))), .un] := E
        have S : Hx K _ _ _ _ [⟨p_heard60, true, r57.a.map enc ++ [enc (() : Unit)]⟩, ⟨p_heard61, true, r57.b.map enc ++ [enc (() : Unit)]⟩, ⟨p_heard62, true, r57.c.map enc ++ [enc (() : Unit)]⟩, ⟨p_pot, false, r53.2.map enc⟩] _ := S
        try (with_reducible refine nxD ?_)
        with_reducible refine sq ?_
        refine st_if (b := v_pairs) (rt_b (rx_var (d := enc (v_pairs : Bool)) rfl)) E S (fun hc F H f E S => ?_) (fun hc F H f E S => ?_)
        · rw [if_pos hc] at hm0
          replace fc := fc.trans f
          obtain ⟨b83, h84, hm0⟩ := bindE hm0
          obtain ⟨b88, h85, hm0⟩ := bindE hm0
          obtain rfl := Option.some.inj hm0
          -- return
          try (with_reducible refine nxD ?_)
          refine st_ret (d := enc (b88 : Bool)) (rx_and (rx_eqO h84 (RX.h (rx_var (d := enc (r55 : (T3 (List (Str × Int)) (List (T3 Str (Tp Int) Bool)) (List (Str × (Tp Int)))))) rfl)) (RX.h (rx_var (d := enc (r53.1 : (T3 (List (Str × Int)) (List (T3 Str (Tp Int) Bool)) (List (Str × (Tp Int)))))) rfl))) (fun ha => by rw [if_pos ha] at h85; obtain ⟨r86, h87, h85⟩ := bindE h85; obtain rfl := Option.some.inj h85; exact (rx_call (ds := [enc (r86 : (T3 (List (Str × Int)) (List (T3 Str (Tp Int) Bool)) (List (Str × (Tp Int))))), enc (r63 : (T3 (List (Str × Int)) (List (T3 Str (Tp Int) Bool)) (List (Str × (Tp Int)))))]) (d := .bool (decide ((r86 : (T3 (List (Str × Int)) (List (T3 Str (Tp Int) Bool)) (List (Str × (Tp Int))))) = r63))) ⟨_, _, _, rfl, (SimT.ok (α := (T3 (List (Str × Int)) (List (T3 Str (Tp Int) Bool)) (List (Str × (Tp Int))))) _ _).mono (by decide), rfl⟩ (ra_cons (rx_call (ds := [enc (r55 : (T3 (List (Str × Int)) (List (T3 Str (Tp Int) Bool)) (List (Str × (Tp Int)))))]) (d := enc (r86 : (T3 (List (Str × Int)) (List (T3 Str (Tp Int) Bool)) (List (Str × (Tp Int)))))) ⟨_, r86, rfl, rfl, h87⟩ (ra_cons (rx_var (d := enc (r55 : (T3 (List (Str × Int)) (List (T3 Str (Tp Int) Bool)) (List (Str × (Tp Int)))))) rfl) ra_nil)) (ra_cons (rx_var (d := enc (r63 : (T3 (List (Str × Int)) (List (T3 Str (Tp Int) Bool)) (List (Str × (Tp Int)))))) rfl) ra_nil)))) (fun ha => by rw [if_neg (by rw [ha]; decide)] at h85; obtain rfl := Option.some.inj h85; exact ⟨rfl, rfl⟩)) E S fun v F H f S r => ?_
          obtain ⟨g1, g2, g3, ys, g4, g5, g6⟩ := S.get (j := 3) rfl
          exact k v F H ys S.stp g1 g4 g5 g6 r
        · rw [if_neg (by rw [hc]; decide)] at hm0
          replace fc := fc.trans f
          refine nxt ?_
          obtain ⟨b95, h96, hm0⟩ := bindE hm0
          obtain ⟨b100, h97, hm0⟩ := bindE hm0
          obtain rfl := Option.some.inj hm0
          -- return
          try (with_reducible refine nxD ?_)
          refine st_ret (d := enc (b100 : Bool)) (rx_and (rx_eqO h96 (RX.h (rx_var (d := enc (r55 : (T3 (List (Str × Int)) (List (T3 Str (Tp Int) Bool)) (List (Str × (Tp Int)))))) rfl)) (RX.h (rx_var (d := enc (r53.1 : (T3 (List (Str × Int)) (List (T3 Str (Tp Int) Bool)) (List (Str × (Tp Int)))))) rfl))) (fun ha => by rw [if_pos ha] at h97; obtain ⟨r98, h99, h97⟩ := bindE h97; obtain rfl := Option.some.inj h97; exact (rx_call (ds := [enc (r98 : (T3 (List (Str × Int)) (List (T3 Str (Tp Int) Bool)) (List (Str × (Tp Int))))), enc (r63 : (T3 (List (Str × Int)) (List (T3 Str (Tp Int) Bool)) (List (Str × (Tp Int)))))]) (d := .bool (decide ((r98 : (T3 (List (Str × Int)) (List (T3 Str (Tp Int) Bool)) (List (Str × (Tp Int))))) = r63))) ⟨_, _, _, rfl, (SimT.ok (α := (T3 (List (Str × Int)) (List (T3 Str (Tp Int) Bool)) (List (Str × (Tp Int))))) _ _).mono (by decide), rfl⟩ (ra_cons (rx_call (ds := [enc (r55 : (T3 (List (Str × Int)) (List (T3 Str (Tp Int) Bool)) (List (Str × (Tp Int)))))]) (d := enc (r98 : (T3 (List (Str × Int)) (List (T3 Str (Tp Int) Bool)) (List (Str × (Tp Int)))))) ⟨_, r98, rfl, rfl, h99⟩ (ra_cons (rx_var (d := enc (r55 : (T3 (List (Str × Int)) (List (T3 Str (Tp Int) Bool)) (List (Str × (Tp Int)))))) rfl) ra_nil)) (ra_cons (rx_var (d := enc (r63 : (T3 (List (Str × Int)) (List (T3 Str (Tp Int) Bool)) (List (Str × (Tp Int)))))) rfl) ra_nil)))) (fun ha => by rw [if_neg (by rw [ha]; decide)] at h97; obtain rfl := Option.some.inj h97; exact ⟨rfl, rfl⟩)) E S fun v F H f S r => ?_
          obtain ⟨g1, g2, g3, ys, g4, g5, g6⟩ := S.get (j := 3) rfl
          exact k v F H ys S.stp g1 g4 g5 g6 r
      · have E : EnvR K _ _ [.adr p_pot, .val (enc (v_pairs : Bool)), .val (enc (r53.1 : (T3 (List (Str × Int)) (List (T3 Str (Tp Int) Bool)) (List (Str × (Tp Int)))))), .val (enc (r55 : (T3 (List (Str × Int)) (List (T3 Str (Tp Int) Bool)) (List (Str × (Tp Int)))))), .tow [p_heard60, p_heard61, p_heard62], .val (enc (r63 : (T3 (List (Str × Int)) (List (T3 Str (Tp Int) Bool)) (List (Str × (Tp Int)))))), .adr p_part] := E
        have S : Hx K _ _ _ _ (⟨p_part, true, es⟩ :: Or_) _ := S
        have hn : appO es (enc (() : Unit)) = some (es ++ [enc (() : Unit)]) := by unfold appO; rw [if_pos (hz76 es hes)]
        try (with_reducible refine nxD ?_)
        refine st_app (j := 0) (ds := es) (d := enc (() : Unit)) hn rfl rx_non ⟨_, rfl⟩ rfl E S fun F H f3 E S => ?_
        exact hN _ _ _ (f3) (E.weak ⟨.inl rfl, .inl rfl, .inl rfl, .inl rfl, .inl rfl, .inl rfl, .inr rfl, trivial⟩) S
theorem sc_law : FnScope ["script", "pot"] ["script"] (defScope (top 18)) := ⟨rfl, rfl, rfl, by decide +kernel, rfl, by decide +kernel, by decide +kernel⟩
theorem ok_law {f_ : Addr} {fd_ : FuncData} (D : Fun K "law" "law" (top 18) f_ fd_) (C__law_case : Cal P w K mg base 15 "_law_case" ["pot", "pairs"] (SpPo K R__law_case)) (C__law_pots : Cal P w K mg base 1 "_law_pots" ["script"] (SpPots K)) : FnOk P w K mg base CX0 16 f_ fd_ ["script"] (SpP K R_law) := by
  refine D.ok sc_law (sp_len fun ds d h => by obtain ⟨_, _, rfl, _⟩ := h; rfl) fun cdv A outer s H vs Q E hr h => ?_
  refine ⟨_, (pss_cons (ps_for PassesOwn.never rfl (k_pi_list K (pe_cal C__law_pots hr (pa_cons (pe_slice (k_sl_list K) (pv 0) po_none (po_some pe_int)) pa_nil))) (pg_name (i := 1) sc_law.nd rfl (Or.inl rfl)) (pss_one (ps_if (PW.pt (pw_or (pt_not (pt_val (pe_cal C__law_case hr (pa_cons (pv 1) (pa_cons pe_bl pa_nil))))) (pw_or1 (pt_not (pt_val (pe_cal C__law_case hr (pa_cons (pv 1) (pa_cons pe_bl pa_nil)))))))) (pss_one (ps_ret pe_bl)) pss_nil))) (pss_one (ps_ret pe_bl))), ?_⟩
  obtain ⟨F, ds, d, hw, hF, ⟨v_script, rr, rfl, rfl, hm0⟩, k⟩ := h
  have E : EnvR K F _ [.val (enc (v_script : (List Int))), .un] := EnvR.start (N := ["script", "pot"]) (AsR.of_all hw)
  have S := Hx.start (K := K) hF
  have fc : Same F F := Same.refl F
  unfold m_law at hm0
  obtain ⟨fl3, h4, hm0⟩ := bindE hm0
  try (with_reducible refine nxD ?_)
  with_reducible refine sq ?_
  refine st_forP (j := 1) (ns := (cutL v_script none (some (10 : Int)))) [.val (enc (v_script : (List Int))), .un] E S (RXo.frz (rxo_sliceM (f := enc) (RX.s (rx_var (d := enc (v_script : (List Int))) rfl)) ro_none (ro_some rx_int))) h4 ⟨.inl rfl, .inr rfl, trivial⟩ (fun _ e σ F H f E S => ?_) (fun c2 out h1 hrt7 σ F H p_pot5 Or6 _ E S N B hN hB => ?_)
  · subst e
    replace fc := fc.trans f
    simp only [flK] at hm0
    obtain rfl := Option.some.inj hm0
    -- return
    try (with_reducible refine nxD ?_)
    refine st_ret (d := enc (true : Bool)) rx_bl E S fun v F H f S r => ?_
    exact k v F H S.stp r
  · have E : EnvR K _ _ [.val (enc (v_script : (List Int))), .adr p_pot5] := E
    have S : Hx K _ _ _ _ (⟨p_pot5, true, ([c2, 0] : List Int).map enc⟩ :: Or6) _ := S
    have fc : Same F F := Same.refl F
    obtain ⟨r8, h9, h1⟩ := bindE h1
    obtain ⟨b13, h10, h1⟩ := bindE h1
    try (with_reducible refine nxD ?_)
    refine (st_if (b := b13.1) (rt_or (O1 := (⟨p_pot5, true, r8.2.map enc⟩ :: Or6)) (O2 := (⟨p_pot5, true, b13.2.map enc⟩ :: Or6)) (rt_not (rt_b (rx_callo (j := 0) (ds := [enc (false : Bool)]) (c := ([c2, 0] : List Int).map enc) (c' := r8.2.map enc) (d := enc (r8.1 : Bool)) (ra_own rfl (ra_cons rx_bl ra_nil)) rfl ⟨_, _, r8, rfl, rfl, rfl, rfl, h9⟩))) (fun ha => by rw [if_neg (by rw [ha]; decide)] at h10; obtain ⟨r11, h12, h10⟩ := bindE h10; obtain rfl := Option.some.inj h10; exact (rt_not (rt_b (rx_callo (j := 0) (ds := [enc (true : Bool)]) (c := r8.2.map enc) (c' := r11.2.map enc) (d := enc (r11.1 : Bool)) (ra_own rfl (ra_cons rx_bl ra_nil)) rfl ⟨_, _, r11, rfl, rfl, rfl, rfl, h12⟩)))) (fun ha => by rw [if_pos ha] at h10; obtain rfl := Option.some.inj h10; exact ⟨rfl, rfl⟩)) E S (fun hc F H f E S => ?_) (fun hc F H f E S => ?_))
    · rw [if_pos hc] at h1
      replace fc := fc.trans f
      obtain rfl := Option.some.inj h1
      obtain rfl := hrt7 _ rfl
      obtain rfl := Option.some.inj hm0
      -- return
      try (with_reducible refine nxD ?_)
      refine st_ret (d := enc (false : Bool)) rx_bl E S fun v F H f S r => ?_
      exact k v F H S.stp r
    · rw [if_neg (by rw [hc]; decide)] at h1
      replace fc := fc.trans f
      refine nxt ?_
      obtain rfl := Option.some.inj h1
      exact hN _ rfl _ _ _ fc (E.weak ⟨.inl rfl, .inr rfl, trivial⟩) (S.drop 0)
end
end W

namespace W
open PySem L2 TL
open Enc
abbrev Net := T3 (List (Str × Int)) (List (T3 Str (Tp Int) Bool)) (List (Str × (Tp Int)))
abbrev Gt := T3 Str (Tp Int) Bool
theorem next_ok {p : List Int} {many : Int} (hp : p.length = 2) (h : 0 < many) (h1 : many < 1073741824) : Ok (m__law_next p many) fun r => (0 ≤ r.1 ∧ r.1 < many) ∧ r.2.length = 2 := by
  unfold m__law_next
  refine Ok.bind (Ok.atI (by omega) (by omega)) fun t1 _ => ?_
  refine Ok.bind (Ok.setO (by omega) (by omega)) fun u3 e3 => ?_
  have l3 : u3.length = 2 := by rw [e3, List.length_set]; exact hp
  refine Ok.bind (Ok.atI (by omega) (by omega)) fun t5 _ => ?_
  refine Ok.ite (fun _ => ?_) (fun _ => ?_)
  · refine Ok.bind (Ok.fdivO h h1) fun t7 _ => ?_
    refine Ok.bind (Ok.setO (by omega) (by omega)) fun u9 e9 => ?_
    refine Ok.bind (Ok.modO h) fun t11 h11 => ?_
    exact Ok.pure ⟨h11.2, by rw [e9, List.length_set]; exact l3⟩
  · refine Ok.bind (Ok.atI (by omega) (by omega)) fun t13 _ => Ok.lt ?_
    refine Ok.bind (Ok.mulO (by omega) (by omega)) fun t17 _ => Ok.lt ?_
    refine Ok.bind (Ok.atI (by omega) (by omega)) fun t21 _ => ?_
    refine Ok.bind (Ok.modO h) fun t23 h23 => ?_
    exact Ok.pure ⟨h23.2, l3⟩
end W

namespace W
open PySem L2 TL
open Enc
/-! ### loops that compute what a map does -/
theorem mapO_eq {α β : Type} {f : α → Option β} (g : α → β) : ∀ (xs : List α), (∀ x ∈ xs, f x = some (g x)) → mapO f xs = some (xs.map g)
  | [], _ => rfl
  | x :: xs, h => by
    unfold mapO
    rw [h x (List.mem_cons_self ..), mapO_eq g xs fun y hy => h y (List.mem_cons_of_mem _ hy)]
    rfl
theorem forS_ext {α β : Type} {f : α → List β → Option (List β)} (g : α → List β) (m : Nat) : ∀ (xs : List α) (s : List β), s.length + xs.length * m ≤ 16777216 → (∀ x ∈ xs, (g x).length ≤ m) → (∀ x ∈ xs, ∀ s, s.length + (g x).length ≤ 16777216 → f x s = some (s ++ g x)) → forS f xs s = some (s ++ xs.flatMap g)
  | [], s, _, _, _ => by simp [forS]
  | x :: xs, s, h, hm, hf => by
    have hx := hm x (List.mem_cons_self ..)
    have e : xs.length * m + m = (xs.length + 1) * m := by rw [Nat.add_mul, Nat.one_mul]
    rw [List.length_cons, ← e] at h
    unfold forS
    rw [hf x (List.mem_cons_self ..) s (by omega)]
    show forS f xs (s ++ g x) = _
    rw [forS_ext g m xs (s ++ g x) (by rw [List.length_append]; omega) (fun y hy => hm y (List.mem_cons_of_mem _ hy)) fun y hy => hf y (List.mem_cons_of_mem _ hy)]
    simp
theorem forS_one {α β : Type} {f : α → List β → Option (List β)} (g : α → β) (xs : List α) (s : List β) (h : s.length + xs.length ≤ 16777216) (hf : ∀ x ∈ xs, ∀ s, s.length < 16777216 → f x s = some (s ++ [g x])) : forS f xs s = some (s ++ xs.map g) := by
  rw [forS_ext (fun x => [g x]) 1 xs s (by omega) (fun _ _ => Nat.le_refl _) fun x hx s hs => hf x hx s (by simp at hs; omega)]
  congr 2
  induction xs with
  | nil => rfl
  | cons x xs ih => rw [List.flatMap_cons, ih (by rw [List.length_cons] at h; omega) fun y hy => hf y (List.mem_cons_of_mem _ hy)]; rfl
theorem appO_eq {α : Type} {s : List α} {x : α} (h : s.length < 16777216) : appO s x = some (s ++ [x]) := if_pos h
theorem extO_eq {α : Type} {s t : List α} (h : s.length + t.length ≤ 16777216) : extO s t = some (s ++ t) := if_pos h
theorem mulO_eq {i j : Int} (h : -18446744073709551616 < i) (h1 : i < 18446744073709551616) : mulO i j = some (i * j) := if_pos (.inl ⟨h, h1⟩)
theorem rngO_eq {n : Int} (h : -4611686018427387904 ≤ n) (h1 : n ≤ 16777216) : rngO n = some (rngL 0 n.toNat) := if_pos ⟨h, h1⟩
theorem atI_eq {α : Type} {xs : List α} {i : Int} {x : α} (h0 : 0 ≤ i) (h : xs[i.toNat]? = some x) : L2.atI xs i = some x := by
  have h1 := get_lt h
  unfold L2.atI ixN
  rw [if_pos h0, if_pos (by omega)]
  exact h
theorem rngL_at {lo : Int} {n : Nat} {i : Int} (h0 : 0 ≤ i) (h1 : i < n) : (rngL lo n)[i.toNat]? = some (lo + i) := by
  unfold rngL
  rw [List.getElem?_map, List.getElem?_range (by omega)]
  show some (lo + ((i.toNat : Nat) : Int)) = _
  rw [Int.toNat_of_nonneg h0]
theorem enumL_length {α : Type} (xs : List α) : (enumL xs).length = xs.length := by unfold enumL; simp
theorem enumL_get {α : Type} (xs : List α) (i : Nat) : (enumL xs)[i]? = xs[i]?.map fun x => ((i : Int), x) := by
  unfold enumL
  rw [List.getElem?_map, List.getElem?_zipIdx]
  cases xs[i]? <;> simp
theorem bq {α β : Type} {m : Option α} {x : α} {f : α → Option β} {y : Option β} (e : m = some x) (h : f x = y) : m.bind f = y := by
  subst e
  exact h
theorem oq {α β : Type} {m : Option α} {x : α} {f : α → Option β} {P : β → Prop} (e : m = some x) (h : Ok (f x) P) : Ok (m.bind f) P := by
  subst e
  exact h
/-! ### plain nets -/
structure Pl (n : Net) (G : Nat) : Prop where
  il : 1 ≤ n.a.length ∧ n.a.length ≤ 6
  w1 : ∀ x ∈ n.a, x.2 = 1
  gl : n.b.length ≤ G
  gs : ∀ (i : Nat) g, n.b[i]? = some g → ∀ w ∈ g.b.l, 0 ≤ w ∧ w < (n.a.length : Int) + i
  ol : n.c.length ≤ 6
  os : ∀ o ∈ n.c, ∃ w, o.2.l = [w] ∧ 0 ≤ w ∧ w < (n.a.length : Int) + n.b.length
  ok : EqD.ok n = true
theorem plain_ok {p : List Int} {g : Int} (hp : p.length = 2) (h0 : 0 ≤ g) (h1 : g ≤ 60) : Ok (m__law_plain p 6 g) fun r => Pl r.1 g.toNat ∧ r.2.length = 2 := by
  unfold m__law_plain
  refine Ok.lt ?_
  refine Ok.bind (next_ok hp (by omega) (by omega)) fun r3 h3 => ?_
  refine Ok.bind (next_ok h3.2 (by omega) (by omega)) fun r5 h5 => ?_
  refine Ok.bind (Ok.rngO (by omega) (by omega)) fun l7 e7 => ?_
  refine Ok.bind (Ok.mapO (P := fun _ y => y.2 = 1 ∧ EqD.ok y.1 = true) _ fun x hx => ?_) fun l17 h17 => ?_
  · have b := Int.emod_nonneg (r3.1 + x) (b := 6) (by omega)
    have c := Int.emod_lt_of_pos (r3.1 + x) (b := 6) (by omega)
    refine Ok.bind (Ok.atI b (by show _ < ((6 : Nat) : Int); omega)) fun t15 h15 => Ok.pure ⟨rfl, ?_⟩
    have := get_mem h15
    revert this
    exact mem_dec (fun x => EqD.ok x = true) (by decide +kernel) t15
  have il : 1 ≤ l17.length ∧ l17.length ≤ 6 := by
    have := h17.1
    rw [e7, rngL_length] at this
    omega
  have iw : ∀ x ∈ l17, x.2 = 1 ∧ EqD.ok x.1 = true := fun y hy => by
    obtain ⟨x, _, e⟩ := all_of h17.1 h17.2 y hy
    exact e
  refine Ok.lt ?_
  refine Ok.bind (Ok.rngO (by omega) (by omega)) fun l22 e22 => ?_
  refine Ok.bind (Ok.forSi (fun k s => s.1.length = 2 ∧ s.2.length = k ∧ ∀ (i : Nat) g, s.2[i]? = some g → (∀ w ∈ g.b.l, 0 ≤ w ∧ w < (l17.length : Int) + i) ∧ EqD.ok g.a = true) l22 0 _ ⟨h5.2, rfl, fun i g h => by simp at h⟩ fun i x s hx hs => ?_) fun s59 h59 => ?_
  · rw [e22] at hx
    have hx := rngL_get hx
    refine Ok.lt ?_
    refine Ok.bind (next_ok hs.1 (by omega) (by omega)) fun r32 h32 => ?_
    refine Ok.bind (Ok.atI h32.1.1 h32.1.2) fun t34 h34 => ?_
    have hk := get_mem h34
    have hkk : EqD.ok t34 = true ∧ (1 ≤ ((dlit [(("not" : Str), (1 : Int)), (("vote" : Str), (3 : Int))] t34).getD (2 : Int)) ∧ ((dlit [(("not" : Str), (1 : Int)), (("vote" : Str), (3 : Int))] t34).getD (2 : Int)) ≤ 3) := by
      revert hk
      exact mem_dec (fun t34 => EqD.ok t34 = true ∧ (1 ≤ ((dlit [(("not" : Str), (1 : Int)), (("vote" : Str), (3 : Int))] t34).getD (2 : Int)) ∧ ((dlit [(("not" : Str), (1 : Int)), (("vote" : Str), (3 : Int))] t34).getD (2 : Int)) ≤ 3)) (by decide +kernel) t34
    refine Ok.lt ?_
    generalize ((dlit [(("not" : Str), (1 : Int)), (("vote" : Str), (3 : Int))] t34).getD (2 : Int)) = cnt at hkk ⊢
    refine Ok.bind (Ok.rngO (by omega) (by omega)) fun l38 e38 => ?_
    refine Ok.bind (Ok.mapS (fun _ y => 0 ≤ y ∧ y < (l17.length : Int) + x) (fun s => s.length = 2) _ _ h32.2 fun x41 _ s48 h48 => ?_) fun l53 h53 => ?_
    · have hm : min2 ((l17.length : Int) + x) 4 ≤ (l17.length : Int) + x ∧ 1 ≤ min2 ((l17.length : Int) + x) 4 := by unfold min2; split <;> omega
      refine Ok.bind (Ok.atI (by omega) (by simp; omega)) fun t49 h49 => ?_
      have h5 : t49 = (l17.length : Int) + x ∨ t49 = min2 ((l17.length : Int) + x) 4 := by simpa using get_mem h49
      refine Ok.bind (next_ok h48 (by omega) (by omega)) fun r51 h51 => Ok.pure ⟨?_, h51.2⟩
      show 0 ≤ (l17.length : Int) + x - 1 - r51.1 ∧ (l17.length : Int) + x - 1 - r51.1 < (l17.length : Int) + x
      omega
    refine Ok.bind (next_ok h53.1 (by omega) (by omega)) fun r55 h55 => ?_
    refine Ok.bind (Ok.appO (by omega)) fun u57 e57 => Ok.pure ⟨h55.2, ?_, fun j g hj => ?_⟩
    · show u57.length = _
      rw [e57, List.length_append]; simp; omega
    · have hj : u57[j]? = some g := hj
      rw [e57, List.getElem?_append] at hj
      split at hj
      · exact hs.2.2 j g hj
      · have : j - s.2.length = 0 := by
          have := get_lt hj
          simp at this
          omega
        rw [this] at hj
        simp at hj
        subst hj
        refine ⟨fun w hw => ?_, hkk.1⟩
        obtain ⟨_, _, e⟩ := all_of h53.2.1 h53.2.2 w hw
        omega
  have gl : s59.2.length ≤ g.toNat := by
    have := h59.2.1
    rw [e22, rngL_length] at this
    omega
  refine Ok.lt ?_
  refine Ok.bind (next_ok h59.1 (by omega) (by omega)) fun r63 h63 => ?_
  refine Ok.bind (Ok.rngO (by omega) (by omega)) fun l65 e65 => ?_
  refine Ok.bind (Ok.forSi (fun k s => s.1.length = 2 ∧ s.2.length = k ∧ ∀ o ∈ s.2, (∃ w, o.2.l = [w] ∧ 0 ≤ w ∧ w < (l17.length : Int) + s59.2.length) ∧ EqD.ok o.1 = true) l65 0 _ ⟨h63.2, rfl, fun o h => by cases h⟩ fun i x s hx hs => ?_) fun s85 h85 => ?_
  · rw [e65] at hx
    have hx := rngL_get hx
    refine Ok.lt ?_
    have hm : min2 ((l17.length : Int) + (s59.2.length : Int)) 4 ≤ (l17.length : Int) + (s59.2.length : Int) ∧ 1 ≤ min2 ((l17.length : Int) + (s59.2.length : Int)) 4 := by unfold min2; split <;> omega
    refine Ok.bind (Ok.atI (by omega) (by simp; omega)) fun t75 h75 => ?_
    have h5 : t75 = (l17.length : Int) + (s59.2.length : Int) ∨ t75 = min2 ((l17.length : Int) + (s59.2.length : Int)) 4 := by simpa using get_mem h75
    refine Ok.bind (next_ok hs.1 (by omega) (by omega)) fun r77 h77 => Ok.lt ?_
    refine Ok.bind (Ok.atI (by omega) (by show x < ((6 : Nat) : Int); omega)) fun t81 h81 => ?_
    have ok81 : EqD.ok t81 = true := by
      have := get_mem h81
      revert this
      exact mem_dec (fun x => EqD.ok x = true) (by decide +kernel) t81
    refine Ok.bind (Ok.appO (by omega)) fun u83 e83 => Ok.pure ⟨h77.2, ?_, fun o ho => ?_⟩
    · show u83.length = _
      rw [e83, List.length_append]; simp; omega
    · have ho : o ∈ u83 := ho
      rw [e83, List.mem_append] at ho
      rcases ho with ho | ho
      · exact hs.2.2 o ho
      · rw [List.mem_singleton] at ho
        subst ho
        exact ⟨⟨_, rfl, by omega, by omega⟩, ok81⟩
  refine Ok.pure ⟨⟨il, fun x hx => (iw x hx).1, gl, fun i g hg => (h59.2.2 i g hg).1, ?_, fun o ho => (h85.2.2 o ho).1, ?_⟩, h85.1⟩
  · have := h85.2.1
    rw [e65, rngL_length] at this
    show s85.2.length ≤ 6
    omega
  · have q1 : l17.all EqD.ok = true := List.all_eq_true.mpr fun x hx => by
      show (EqD.ok x.1 && true) = true
      rw [(iw x hx).2]; rfl
    have q2 : s59.2.all EqD.ok = true := List.all_eq_true.mpr fun x hx => by
      obtain ⟨i, e⟩ := mem_get hx
      show (EqD.ok x.a && (x.b.l.all (fun _ => true) && true)) = true
      rw [(h59.2.2 i x e).2]; simp
    have q3 : s85.2.all EqD.ok = true := List.all_eq_true.mpr fun x hx => by
      show (EqD.ok x.1 && (x.2.l.all (fun _ => true))) = true
      rw [(h85.2.2 x hx).2]; simp
    show (l17.all EqD.ok && (s59.2.all EqD.ok && s85.2.all EqD.ok)) = true
    rw [q1, q2, q3]; rfl
theorem need_ok {n : Net} {G : Nat} (h : Pl n G) : m_need_plain n = some () := by
  unfold m_need_plain
  have e1 : n.a.filter (fun (x2 : (Str × Int)) => (!decide (x2.2 = (1 : Int)))) = [] := List.filter_eq_nil_iff.mpr fun x hx => by rw [h.w1 x hx]; simp
  have e2 : n.c.filter (fun (x6 : (Str × (Tp Int))) => (!decide ((x6.2.l.length : Int) = (1 : Int)))) = [] := List.filter_eq_nil_iff.mpr fun x hx => by
    obtain ⟨w, e, _⟩ := h.os x hx
    rw [e]; simp
  rw [e1, e2]
  rfl
/-! ### copies -/
/-- the wire's first copy -/
def rd (I c st vc w : Int) : Int := if w < I then w * c else I * c + (w - I) * st + vc
def blk (I c st vc : Int) (v : Bool) (x : Int × Gt) : List Gt :=
  (rngL 0 c.toNat).map (fun k => T3.mk x.2.a (Tp.mk (x.2.b.l.map fun w => rd I c st vc w + k)) x.2.c) ++
  (if v = true then List.replicate c.toNat (T3.mk ("vote" : Str) (Tp.mk ((rngL 0 c.toNat).map fun k => I * c + x.1 * st + k)) x.2.c) else [])
def made (n : Net) (c : Int) (v : Bool) : Net :=
  let I : Int := n.a.length
  let st := c * (1 + b2n v)
  let vc := b2n v * c
  T3.mk (n.a.map fun x => (x.1, c)) ((enumL n.b).flatMap (blk I c st vc v)) (n.c.map fun o => (o.1, Tp.mk ((rngL 0 c.toNat).map fun k => rd I c st vc (o.2.l.headD 0) + k)))
theorem blk_length (I c st vc : Int) (v : Bool) (x : Int × Gt) (h0 : 1 ≤ c) (h1 : c ≤ 3) : ((blk I c st vc v x).length : Int) = c * (1 + b2n v) := by
  unfold blk b2n
  rw [List.length_append, List.length_map, rngL_length]
  cases v with
  | true => rw [if_pos rfl, if_pos rfl, List.length_replicate]; omega
  | false => rw [if_neg (by decide), if_neg (by decide)]; simp; omega
theorem rep_eq {α : Type} {x : α} {i : Int} (h : -9223372036854775808 ≤ i) (h1 : i ≤ 16777216) : repO [x] i = some (List.replicate i.toNat x) := by
  obtain ⟨r, e, q⟩ := Ok.repO1 (x := x) h h1
  rw [e, q]
/-- what the wires' first copies are: a list -/
def rdL (I G : Nat) (c st vc : Int) : List Int := (rngL 0 I).map (fun x => x * c) ++ (rngL 0 G).map fun x => (I : Int) * c + x * st + vc
theorem rdL_at {I G : Nat} {c st vc w : Int} (h0 : 0 ≤ w) (h1 : w < (I : Int) + G) : (rdL I G c st vc)[w.toNat]? = some (rd I c st vc w) := by
  unfold rdL rd
  rw [List.getElem?_append, List.length_map, rngL_length]
  by_cases h : w < I
  · rw [if_pos (by omega), if_pos h, List.getElem?_map, rngL_at h0 h]
    show some ((0 + w) * c) = _
    rw [Int.zero_add]
  · rw [if_neg (by omega), if_neg h, List.getElem?_map, show w.toNat - I = (w - I).toNat by omega, rngL_at (by omega) (by omega)]
    show some ((I : Int) * c + (0 + (w - I)) * st + vc) = _
    rw [Int.zero_add]
theorem copied_ok {n : Net} {G : Nat} {c : Int} {v : Bool} (h : Pl n G) (h0 : 1 ≤ c) (h1 : c ≤ 3) (hG : (n.b.length : Int) * (c * (1 + b2n v)) ≤ 60) : m_copied n c v = some (made n c v) := by
  unfold m_copied
  rw [need_ok h]
  have hv : 0 ≤ b2n v ∧ b2n v ≤ 1 := by unfold b2n; split <;> omega
  have hil := h.il
  have hgl : n.b.length ≤ 60 := by
    have q : (n.b.length : Int) * 1 ≤ (n.b.length : Int) * (c * (1 + b2n v)) := Int.mul_le_mul_of_nonneg_left (by
      have : 1 * 1 ≤ c * (1 + b2n v) := Int.mul_le_mul h0 (by omega) (by omega) (by omega)
      omega) (by omega)
    omega
  refine bq rfl ?_
  refine bq (mulO_eq (by omega) (by omega)) ?_
  generalize est : c * (1 + b2n v) = st at hG ⊢
  have hst : 1 ≤ st ∧ st ≤ 6 := by
    have a1 : 1 * 1 ≤ c * (1 + b2n v) := Int.mul_le_mul h0 (by omega) (by omega) (by omega)
    have a2 : c * (1 + b2n v) ≤ 3 * 2 := Int.mul_le_mul h1 (by omega) (by omega) (by omega)
    omega
  refine bq (mulO_eq (by omega) (by omega)) ?_
  rw [if_neg (by simp; omega)]
  refine bq (mulO_eq (by omega) (by omega)) ?_
  refine bq (mapO_eq (fun x => x * c) _ fun x hx => by
    rw [mem_rngL] at hx
    rw [mulO_eq (by omega) (by omega)]
    rfl) ?_
  refine bq (mapO_eq (fun x => (n.a.length : Int) * c + x * st + b2n v * c) _ fun x hx => by
    rw [mem_rngL] at hx
    rw [mulO_eq (by omega) (by omega), mulO_eq (by omega) (by omega)]
    rfl) ?_
  refine bq (extO_eq (by simp only [List.length_map, rngL_length]; omega)) ?_
  rw [show (rngL 0 n.a.length).map (fun x => x * c) ++ (rngL 0 n.b.length).map (fun x => (n.a.length : Int) * c + x * st + b2n v * c) = rdL n.a.length n.b.length c st (b2n v * c) from rfl]
  have rdw : ∀ w : Int, 0 ≤ w → w < (n.a.length : Int) + n.b.length → L2.atI (rdL n.a.length n.b.length c st (b2n v * c)) w = some (rd n.a.length c st (b2n v * c) w) := fun w g0 g1 => atI_eq g0 (rdL_at g0 g1)
  have hrc : rngO c = some (rngL 0 c.toNat) := rngO_eq (by omega) (by omega)
  refine bq rfl ?_
  refine bq (forS_ext (blk n.a.length c st (b2n v * c) v) 6 (enumL n.b) [] (by rw [enumL_length]; simp; omega) (fun x hx => by
      have := blk_length n.a.length c st (b2n v * c) v x h0 h1
      omega) (fun x hx s hs => by
    obtain ⟨i, ei⟩ := mem_get hx
    rw [enumL_get] at ei
    obtain ⟨g, eg, rfl⟩ := Option.map_eq_some_iff.mp ei
    have gi := get_lt eg
    have gw := h.gs i g eg
    refine bq (hrc) ?_
    refine bq (mapO_eq (fun k => T3.mk g.a (Tp.mk (g.b.l.map fun w => rd n.a.length c st (b2n v * c) w + k)) g.c) _ fun k hk => by
      rw [mapO_eq (fun w => rd n.a.length c st (b2n v * c) w + k) _ fun w hw => by
        have := gw w hw
        rw [rdw w this.1 (by omega)]
        rfl]
      rfl) ?_
    have bl := blk_length n.a.length c st (b2n v * c) v ((i : Int), g) h0 h1
    have hb : (blk n.a.length c st (b2n v * c) v ((i : Int), g)) = (rngL 0 c.toNat).map (fun k => T3.mk g.a (Tp.mk (g.b.l.map fun w => rd n.a.length c st (b2n v * c) w + k)) g.c) ++
        (if v = true then List.replicate c.toNat (T3.mk ("vote" : Str) (Tp.mk ((rngL 0 c.toNat).map fun k => (n.a.length : Int) * c + (i : Int) * st + k)) g.c) else []) := rfl
    rw [hb, List.length_append] at hs
    refine bq (extO_eq (by omega)) ?_
    refine bq hrc ?_
    refine bq (mapO_eq (fun k => (n.a.length : Int) * c + (i : Int) * st + k) _ fun k hk => by
      rw [mulO_eq (by omega) (by omega)]
      rfl) ?_
    refine bq rfl ?_
    refine bq (mulO_eq (by omega) (by omega)) ?_
    have cv : c * b2n v = if v = true then c else 0 := by unfold b2n; cases v <;> simp
    rw [cv]
    refine bq (rep_eq (by split <;> omega) (by split <;> omega)) ?_
    have e : List.replicate (if v = true then c else 0).toNat (T3.mk ("vote" : Str) (Tp.mk ((rngL 0 c.toNat).map fun k => (n.a.length : Int) * c + (i : Int) * st + k)) g.c) = if v = true then List.replicate c.toNat (T3.mk ("vote" : Str) (Tp.mk ((rngL 0 c.toNat).map fun k => (n.a.length : Int) * c + (i : Int) * st + k)) g.c) else [] := by cases v <;> rfl
    rw [e, hb]
    refine bq (extO_eq (by rw [List.length_append]; omega)) ?_
    rw [List.append_assoc])) ?_
  refine bq (mapO_eq (fun o => (o.1, Tp.mk ((rngL 0 c.toNat).map fun k => rd n.a.length c st (b2n v * c) (o.2.l.headD 0) + k))) _ fun o ho => by
    obtain ⟨w, ew, w0, w1⟩ := h.os o ho
    refine bq (hrc) ?_
    rw [mapO_eq (fun k => rd n.a.length c st (b2n v * c) (o.2.l.headD 0) + k) _ fun k hk => by
      have q0 : L2.atI [w] 0 = some w := rfl
      rw [ew]
      refine bq (q0) ?_
      rw [rdw w w0 w1]
      rfl]
    rfl) ?_
  subst est
  rfl
/-- what the law's own loop keeps: each wire's copies -/
def rdsL (I G : Nat) (c st vc : Int) : List (List Int) := (rngL 0 (I + G)).map fun w => (rngL 0 c.toNat).map fun j => rd I c st vc w + j
theorem rngL_succ (lo : Int) (n : Nat) : rngL lo (n + 1) = rngL lo n ++ [lo + n] := by unfold rngL; rw [List.range_succ]; simp
theorem flat_length (I c st vc : Int) (v : Bool) (h0 : 1 ≤ c) (h1 : c ≤ 3) (xs : List (Int × Gt)) : ((xs.flatMap (blk I c st vc v)).length : Int) = xs.length * (c * (1 + b2n v)) := by
  induction xs with
  | nil => simp
  | cons x xs ih =>
    have b := blk_length I c st vc v x h0 h1
    rw [List.flatMap_cons, List.length_append, List.length_cons]
    have e : (((blk I c st vc v x).length + (xs.flatMap (blk I c st vc v)).length : Nat) : Int) = ((blk I c st vc v x).length : Int) + ((xs.flatMap (blk I c st vc v)).length : Int) := by omega
    have e2 : ((xs.length + 1 : Nat) : Int) = (xs.length : Int) + 1 := by omega
    rw [e, e2, b, ih, Int.add_mul, Int.one_mul]
    omega
theorem lawmade_ok {n : Net} {G : Nat} {c : Int} {v : Bool} (h : Pl n G) (h0 : 1 ≤ c) (h1 : c ≤ 3) (hG : (n.b.length : Int) * (c * (1 + b2n v)) ≤ 60) : m__law_made n c v = some (made n c v) := by
  have hv : 0 ≤ b2n v ∧ b2n v ≤ 1 := by unfold b2n; split <;> omega
  have hil := h.il
  have hst : 1 ≤ c * (1 + b2n v) ∧ c * (1 + b2n v) ≤ 6 := by
    have a1 : 1 * 1 ≤ c * (1 + b2n v) := Int.mul_le_mul h0 (by omega) (by omega) (by omega)
    have a2 : c * (1 + b2n v) ≤ 3 * 2 := Int.mul_le_mul h1 (by omega) (by omega) (by omega)
    omega
  have hgl : n.b.length ≤ 60 := by
    have q : (n.b.length : Int) * 1 ≤ (n.b.length : Int) * (c * (1 + b2n v)) := Int.mul_le_mul_of_nonneg_left (by omega) (by omega)
    omega
  have hrc : rngO c = some (rngL 0 c.toNat) := rngO_eq (by omega) (by omega)
  have hlen := flat_length n.a.length c (c * (1 + b2n v)) (b2n v * c) v h0 h1
  generalize est : c * (1 + b2n v) = st at hG hst hlen
  unfold m__law_made
  refine bq rfl ?_
  refine bq (forS_one (fun x => (rngL 0 c.toNat).map fun j => x * c + j) _ [] (by rw [rngL_length]; simp; omega) fun x hx s hs => by
    rw [mem_rngL] at hx
    refine bq (hrc) ?_
    refine bq (mapO_eq (fun j => x * c + j) _ fun j hj => by
      rw [mulO_eq (by omega) (by omega)]
      rfl) ?_
    rw [appO_eq hs]
    rfl) ?_
  refine bq rfl ?_
  refine bq (mulO_eq (by omega) (by omega)) ?_
  rw [List.nil_append]
  have start : (rngL 0 n.a.length).map (fun x => (rngL 0 c.toNat).map fun j => x * c + j) = rdsL n.a.length 0 c st (b2n v * c) := by
    unfold rdsL
    apply List.map_congr_left
    intro x hx
    rw [mem_rngL] at hx
    unfold rd
    rw [if_pos (by omega)]
  rw [start]
  refine bq (x := ((enumL n.b).flatMap (blk n.a.length c st (b2n v * c) v), rdsL n.a.length n.b.length c st (b2n v * c))) ?_ ?_
  · refine Ok.eqv (Ok.mono (Ok.forSi (fun k s => k ≤ n.b.length → s.1 = ((enumL n.b).take k).flatMap (blk n.a.length c st (b2n v * c) v) ∧ s.2 = rdsL n.a.length k c st (b2n v * c)) n.b 0 _ (fun _ => ⟨rfl, rfl⟩) fun i g s hg hs => ?_) (Q := fun s => s = ((enumL n.b).flatMap (blk n.a.length c st (b2n v * c) v), rdsL n.a.length n.b.length c st (b2n v * c))) fun s hs => ?_) fun r hr => hr
    · have gi := get_lt hg
      obtain ⟨s1, s2⟩ := hs (by omega)
      rw [Nat.zero_add] at s1 s2
      have gw := h.gs i g hg
      have tl : ((enumL n.b).take i).length = i := by rw [List.length_take, enumL_length]; omega
      have hl : (s.1.length : Int) = i * st := by rw [s1, hlen, tl]
      have iST : (i : Int) * st + st ≤ 60 := by
        have : ((i : Int) + 1) * st ≤ (n.b.length : Int) * st := Int.mul_le_mul_of_nonneg_right (by omega) (by omega)
        rw [Int.add_mul, Int.one_mul] at this
        omega
      have i0 : 0 ≤ (i : Int) * st := Int.mul_nonneg (by omega) (by omega)
      refine oq hrc (Ok.lt (oq hrc ?_))
      refine oq (forS_one (fun k => T3.mk g.a (Tp.mk (g.b.l.map fun w => rd n.a.length c st (b2n v * c) w + k)) g.c) _ s.1 (by rw [rngL_length]; omega) fun k hk z hz => by
        rw [mem_rngL] at hk
        refine bq (mapO_eq (fun w => rd n.a.length c st (b2n v * c) w + k) _ fun w hw => by
          have q := gw w hw
          have q1 : L2.atI s.2 w = some ((rngL 0 c.toNat).map fun j => rd n.a.length c st (b2n v * c) w + j) := atI_eq q.1 (by
            rw [s2]
            unfold rdsL
            rw [List.getElem?_map, rngL_at q.1 (by omega), Int.zero_add]
            rfl)
          have q2 : L2.atI ((rngL 0 c.toNat).map fun j => rd n.a.length c st (b2n v * c) w + j) k = some (rd n.a.length c st (b2n v * c) w + k) := atI_eq hk.1 (by
            rw [List.getElem?_map, rngL_at hk.1 (by omega), Int.zero_add]
            rfl)
          refine bq (q1) ?_
          rw [q2]
          rfl) ?_
        rw [appO_eq hz]
        rfl) ?_
      have own : (rngL 0 c.toNat).map (fun x39 => (n.a.length : Int) * c + (s.1.length : Int) + x39) = (rngL 0 c.toNat).map fun k => (n.a.length : Int) * c + (i : Int) * st + k := by rw [hl]
      have tk : (enumL n.b).take (0 + i + 1) = (enumL n.b).take i ++ [((i : Int), g)] := by
        have e : (enumL n.b)[i]? = some ((i : Int), g) := by rw [enumL_get, hg]; rfl
        have hi : i < (enumL n.b).length := get_lt e
        rw [Nat.zero_add, List.take_succ_eq_append_getElem hi]
        rw [List.getElem?_eq_getElem hi] at e
        rw [Option.some.inj e]
      have rdi : rd n.a.length c st (b2n v * c) ((n.a.length : Int) + i) = (n.a.length : Int) * c + (i : Int) * st + b2n v * c := by
        unfold rd
        rw [if_neg (by omega), show (n.a.length : Int) + (i : Int) - (n.a.length : Int) = i by omega]
      have rl : s.2.length < 16777216 := by
        rw [s2]; unfold rdsL; rw [List.length_map, rngL_length]; omega
      cases v with
      | true =>
        rw [if_pos rfl]
        refine oq (bq hrc (bq (appO_eq rl) (bq hrc (bq (forS_one (fun _ => T3.mk ("vote" : Str) (Tp.mk ((rngL 0 c.toNat).map fun k => (n.a.length : Int) * c + (i : Int) * st + k)) g.c) _ _ (by rw [List.length_append, List.length_map, rngL_length]; omega) fun k hk z hz => by
          rw [own, appO_eq hz]
          rfl) rfl)))) ?_
        refine ⟨_, rfl, fun _ => ⟨?_, ?_⟩⟩
        · show s.1 ++ _ ++ _ = _
          rw [tk, List.flatMap_append, ← s1, List.append_assoc]
          congr 1
          show _ = List.flatMap _ [((i : Int), g)]
          rw [List.flatMap_singleton]
          unfold blk
          rw [if_pos rfl]
          congr 1
          rw [List.map_const', rngL_length]
        · show s.2 ++ _ = _
          rw [s2]
          unfold rdsL
          rw [show n.a.length + (0 + i + 1) = (n.a.length + i) + 1 by omega, rngL_succ, List.map_append]
          congr 1
          rw [List.map_singleton, Int.zero_add, show ((n.a.length + i : Nat) : Int) = (n.a.length : Int) + i by omega, rdi]
          congr 1
          apply List.map_congr_left
          intro j _
          rw [List.length_append, List.length_map, rngL_length]
          have : b2n true * c = c := by show (1 : Int) * c = c; omega
          omega
      | false =>
        rw [if_neg (by decide)]
        refine oq (bq (appO_eq rl) rfl) ?_
        refine ⟨_, rfl, fun _ => ⟨?_, ?_⟩⟩
        · show s.1 ++ _ = _
          rw [tk, List.flatMap_append, ← s1]
          congr 1
          show _ = List.flatMap _ [((i : Int), g)]
          rw [List.flatMap_singleton]
          unfold blk
          rw [if_neg (by decide), List.append_nil]
        · show s.2 ++ _ = _
          rw [s2]
          unfold rdsL
          rw [show n.a.length + (0 + i + 1) = (n.a.length + i) + 1 by omega, rngL_succ, List.map_append]
          congr 1
          rw [List.map_singleton, Int.zero_add, show ((n.a.length + i : Nat) : Int) = (n.a.length : Int) + i by omega, rdi]
          congr 1
          apply List.map_congr_left
          intro j _
          have : b2n false * c = 0 := by show (0 : Int) * c = 0; omega
          omega
    · obtain ⟨a1, a2⟩ := hs (by omega)
      rw [Nat.zero_add] at a1 a2
      rw [List.take_of_length_le (by rw [enumL_length]; exact Nat.le_refl _)] at a1
      exact Prod.ext a1 a2
  · refine bq rfl ?_
    refine bq (forS_one (fun o => (o.1, Tp.mk ((rngL 0 c.toNat).map fun k => rd n.a.length c st (b2n v * c) (o.2.l.headD 0) + k))) _ [] (by have := h.ol; simp; omega) fun o ho z hz => by
      obtain ⟨w, ew, w0, w1⟩ := h.os o ho
      have q1 : L2.atI (rdsL n.a.length n.b.length c st (b2n v * c)) w = some ((rngL 0 c.toNat).map fun j => rd n.a.length c st (b2n v * c) w + j) := atI_eq w0 (by
        unfold rdsL
        rw [List.getElem?_map, rngL_at w0 (by omega), Int.zero_add]
        rfl)
      have q0 : L2.atI [w] 0 = some w := rfl
      rw [ew]
      refine bq (q0) ?_
      refine bq (q1) ?_
      rw [appO_eq hz]
      rfl) ?_
    subst est
    rfl
end W

namespace W
open PySem L2 TL
open Enc
theorem eq_self {α : Type} [Enc α] [DecidableEq α] [EqD α] {x : α} (h : EqD.ok x = true) : eqO x x = some true := by
  obtain ⟨r, e, q⟩ := Ok.eqO h h
  rw [e, q]; simp
theorem made_lens {n : Net} {c : Int} {v : Bool} {G : Nat} (h : Pl n G) (h0 : 1 ≤ c) (h1 : c ≤ 3) (hG : (n.b.length : Int) * (c * (1 + b2n v)) ≤ 60) : (made n c v).a.length < 16777216 ∧ (made n c v).b.length < 16777216 ∧ (made n c v).c.length < 16777216 := by
  have hl := flat_length n.a.length c (c * (1 + b2n v)) (b2n v * c) v h0 h1 (enumL n.b)
  rw [enumL_length] at hl
  have hl : ((made n c v).b.length : Int) = _ := hl
  have h2 := h.il
  have h3 := h.ol
  refine ⟨?_, by omega, ?_⟩
  · show (n.a.map fun x => (x.1, c)).length < _
    rw [List.length_map]; omega
  · show (n.c.map _).length < _
    rw [List.length_map]; omega
theorem unit_ok {c : Prop} [Decidable c] (h : c) : (if c then some () else none) = some () := if_pos h
theorem case_ok {p : List Int} {v : Bool} (hp : p.length = 2) : Ok (m__law_case p v) fun r => r.1 = true ∧ r.2.length = 2 := by
  unfold m__law_case
  have same : ∀ x : Net, (decide (x = x)) = true := fun x => decide_eq_true rfl
  have nsame : ∀ x : Net, ¬ ((!decide (x = x)) = true) := fun x q => by rw [same x] at q; cases q
  refine Ok.ite (fun hv => ?_) fun hv => ?_
  · refine Ok.bind (next_ok hp (by omega) (by omega)) fun r1 h1 => ?_
    refine Ok.bind (plain_ok h1.2 h1.1.1 (by omega)) fun r3 h3 => ?_
    have hg := h3.1.gl
    have hG : (r3.1.b.length : Int) * (2 * (1 + b2n false)) ≤ 60 := by
      show (r3.1.b.length : Int) * (2 * (1 + 0)) ≤ 60
      omega
    have e1 := copied_ok (c := 2) (v := false) h3.1 (by omega) (by omega) hG
    have e2 := lawmade_ok (c := 2) (v := false) h3.1 (by omega) (by omega) hG
    have e3 : m_in_pairs r3.1 = some (made r3.1 2 false) := bq e1 rfl
    have hl := made_lens (c := 2) (v := false) h3.1 (by omega) (by omega) hG
    have eqn := eq_self h3.1.ok
    refine oq (x := r3.1) rfl (oq e3 (oq e2 ?_))
    refine oq (x := false) ?_ ?_
    · rw [if_neg (nsame (made r3.1 2 false))]
      exact bq eqn rfl
    · refine Ok.ite (fun q => by cases q) fun _ => ?_
      refine oq (unit_ok hl.1) (oq (unit_ok hl.2.1) (oq (unit_ok hl.2.2) ?_))
      rw [if_pos hv]
      refine oq eqn ?_
      refine oq (x := true) ?_ (Ok.pure ⟨rfl, h3.2⟩)
      rw [if_pos rfl]
      refine bq e3 ?_
      rw [same]
  · refine Ok.bind (next_ok hp (by omega) (by omega)) fun r1 h1 => ?_
    refine Ok.bind (plain_ok h1.2 h1.1.1 (by omega)) fun r3 h3 => ?_
    have hg := h3.1.gl
    have hG : (r3.1.b.length : Int) * (3 * (1 + b2n false)) ≤ 60 := by
      show (r3.1.b.length : Int) * (3 * (1 + 0)) ≤ 60
      omega
    have e1 := copied_ok (c := 3) (v := false) h3.1 (by omega) (by omega) hG
    have e2 := lawmade_ok (c := 3) (v := false) h3.1 (by omega) (by omega) hG
    have e3 : m_in_threes r3.1 = some (made r3.1 3 false) := bq e1 rfl
    have hl := made_lens (c := 3) (v := false) h3.1 (by omega) (by omega) hG
    have eqn := eq_self h3.1.ok
    refine oq (x := r3.1) rfl (oq e3 (oq e2 ?_))
    refine oq (x := false) ?_ ?_
    · rw [if_neg (nsame (made r3.1 3 false))]
      exact bq eqn rfl
    · refine Ok.ite (fun q => by cases q) fun _ => ?_
      refine oq (unit_ok hl.1) (oq (unit_ok hl.2.1) (oq (unit_ok hl.2.2) ?_))
      rw [if_neg hv]
      refine oq eqn ?_
      refine oq (x := true) ?_ (Ok.pure ⟨rfl, h3.2⟩)
      rw [if_pos rfl]
      refine bq e3 ?_
      rw [same]
theorem law_ok (ns : List Int) (_ : ns.length ≤ 63) : m_law ns = some true := by
  unfold m_law
  refine Ok.eqv (P := (· = true)) ?_ fun r h => h
  refine Ok.bind (Ok.forF (fun _ => True) _ _ trivial fun c _ s _ => ?_) fun r hr => ?_
  · refine Ok.bind (case_ok rfl) fun r8 h8 => ?_
    refine Ok.bind (P := fun b => b.1 = false) ?_ fun b hb => ?_
    · rw [if_neg (by rw [h8.1]; decide)]
      refine Ok.bind (case_ok h8.2) fun r11 h11 => Ok.pure ?_
      show (!r11.1) = false
      rw [h11.1]; rfl
    · rw [if_neg (by rw [hb]; decide)]
      exact Ok.pure ⟨(), rfl, trivial⟩
  · obtain ⟨s, rfl, _⟩ := hr
    exact Ok.pure rfl
end W

namespace W
open PySem L2 TL
open Enc
theorem dfn_mk {K : Fg} {h : Heap} {mg : Str → Option Value} (X : K.In h) (G : h.Ns mainGlobals mg) {x : Str} {st : Stmt} {ps : List Str} {f : Addr} {od an : Option Addr} {sl : Array (Option Value)} {oc kV dc pm cd ct : Value}
    (a : PySem.W.nsIn K mainGlobals x = some (some (.ref f))) (l : K.lookup f = some ⟨oc, od, .func (PySem.W.fnOf x x (defArgs st) (defBody st) (defScope st) .none kV dc pm an cd ct), sl⟩) (c : PySem.W.codeIn K cd x = true) (k : PySem.W.keepIn K (.ref f) = true)
    (hb : ∀ (kV doc pm : Value) (an : Option Addr) (cdv ct : Value) (us : List Value), us.length = ps.length → bindArgs (PySem.W.fnOf x x (defArgs st) (defBody st) (defScope st) .none kV doc pm an cdv ct) ⟨us, []⟩ = pure (ps.zip us)) : Dfn K mg x st ps :=
  ⟨f, _, fun_mk l c k, PySem.W.mg_of X G a, (fun_mk l c k).binds hb⟩
theorem all_mk {l : PySem.W.OpenLaw} {w : World} {K : Fg} {h : Heap} {mg : Str → Option Value} {fa : Addr} (X : K.In h) (G : h.Ns mainGlobals mg) (hfa : mg "law" = some (.ref fa))
    {f0 : Addr} {od0 an0 : Option Addr} {sl0 : Array (Option Value)} {oc0 kV0 dc0 pm0 cd0 ct0 : Value} (a0 : PySem.W.nsIn K mainGlobals "need_plain" = some (some (.ref f0))) (l0 : K.lookup f0 = some ⟨oc0, od0, .func (PySem.W.fnOf "need_plain" "need_plain" (defArgs (top 6)) (defBody (top 6)) (defScope (top 6)) .none kV0 dc0 pm0 an0 cd0 ct0), sl0⟩) (c0 : PySem.W.codeIn K cd0 "need_plain" = true) (k0 : PySem.W.keepIn K (.ref f0) = true)
    {f1 : Addr} {od1 an1 : Option Addr} {sl1 : Array (Option Value)} {oc1 kV1 dc1 pm1 cd1 ct1 : Value} (a1 : PySem.W.nsIn K mainGlobals "copied" = some (some (.ref f1))) (l1 : K.lookup f1 = some ⟨oc1, od1, .func (PySem.W.fnOf "copied" "copied" (defArgs (top 7)) (defBody (top 7)) (defScope (top 7)) .none kV1 dc1 pm1 an1 cd1 ct1), sl1⟩) (c1 : PySem.W.codeIn K cd1 "copied" = true) (k1 : PySem.W.keepIn K (.ref f1) = true)
    {f2 : Addr} {od2 an2 : Option Addr} {sl2 : Array (Option Value)} {oc2 kV2 dc2 pm2 cd2 ct2 : Value} (a2 : PySem.W.nsIn K mainGlobals "in_threes" = some (some (.ref f2))) (l2 : K.lookup f2 = some ⟨oc2, od2, .func (PySem.W.fnOf "in_threes" "in_threes" (defArgs (top 8)) (defBody (top 8)) (defScope (top 8)) .none kV2 dc2 pm2 an2 cd2 ct2), sl2⟩) (c2 : PySem.W.codeIn K cd2 "in_threes" = true) (k2 : PySem.W.keepIn K (.ref f2) = true)
    {f3 : Addr} {od3 an3 : Option Addr} {sl3 : Array (Option Value)} {oc3 kV3 dc3 pm3 cd3 ct3 : Value} (a3 : PySem.W.nsIn K mainGlobals "in_pairs" = some (some (.ref f3))) (l3 : K.lookup f3 = some ⟨oc3, od3, .func (PySem.W.fnOf "in_pairs" "in_pairs" (defArgs (top 9)) (defBody (top 9)) (defScope (top 9)) .none kV3 dc3 pm3 an3 cd3 ct3), sl3⟩) (c3 : PySem.W.codeIn K cd3 "in_pairs" = true) (k3 : PySem.W.keepIn K (.ref f3) = true)
    {f4 : Addr} {od4 an4 : Option Addr} {sl4 : Array (Option Value)} {oc4 kV4 dc4 pm4 cd4 ct4 : Value} (a4 : PySem.W.nsIn K mainGlobals "_law_next" = some (some (.ref f4))) (l4 : K.lookup f4 = some ⟨oc4, od4, .func (PySem.W.fnOf "_law_next" "_law_next" (defArgs (top 11)) (defBody (top 11)) (defScope (top 11)) .none kV4 dc4 pm4 an4 cd4 ct4), sl4⟩) (c4 : PySem.W.codeIn K cd4 "_law_next" = true) (k4 : PySem.W.keepIn K (.ref f4) = true)
    {f5 : Addr} {od5 an5 : Option Addr} {sl5 : Array (Option Value)} {oc5 kV5 dc5 pm5 cd5 ct5 : Value} (a5 : PySem.W.nsIn K mainGlobals "_law_pots" = some (some (.ref f5))) (l5 : K.lookup f5 = some ⟨oc5, od5, .func (PySem.W.fnOf "_law_pots" "_law_pots" (defArgs (top 12)) (defBody (top 12)) (defScope (top 12)) .none kV5 dc5 pm5 an5 cd5 ct5), sl5⟩) (c5 : PySem.W.codeIn K cd5 "_law_pots" = true) (k5 : PySem.W.keepIn K (.ref f5) = true)
    {f6 : Addr} {od6 an6 : Option Addr} {sl6 : Array (Option Value)} {oc6 kV6 dc6 pm6 cd6 ct6 : Value} (a6 : PySem.W.nsIn K mainGlobals "_law_plain" = some (some (.ref f6))) (l6 : K.lookup f6 = some ⟨oc6, od6, .func (PySem.W.fnOf "_law_plain" "_law_plain" (defArgs (top 13)) (defBody (top 13)) (defScope (top 13)) .none kV6 dc6 pm6 an6 cd6 ct6), sl6⟩) (c6 : PySem.W.codeIn K cd6 "_law_plain" = true) (k6 : PySem.W.keepIn K (.ref f6) = true)
    {f7 : Addr} {od7 an7 : Option Addr} {sl7 : Array (Option Value)} {oc7 kV7 dc7 pm7 cd7 ct7 : Value} (a7 : PySem.W.nsIn K mainGlobals "_law_made" = some (some (.ref f7))) (l7 : K.lookup f7 = some ⟨oc7, od7, .func (PySem.W.fnOf "_law_made" "_law_made" (defArgs (top 14)) (defBody (top 14)) (defScope (top 14)) .none kV7 dc7 pm7 an7 cd7 ct7), sl7⟩) (c7 : PySem.W.codeIn K cd7 "_law_made" = true) (k7 : PySem.W.keepIn K (.ref f7) = true)
    {f8 : Addr} {od8 an8 : Option Addr} {sl8 : Array (Option Value)} {oc8 kV8 dc8 pm8 cd8 ct8 : Value} (a8 : PySem.W.nsIn K mainGlobals "_law_same" = some (some (.ref f8))) (l8 : K.lookup f8 = some ⟨oc8, od8, .func (PySem.W.fnOf "_law_same" "_law_same" (defArgs (top 15)) (defBody (top 15)) (defScope (top 15)) .none kV8 dc8 pm8 an8 cd8 ct8), sl8⟩) (c8 : PySem.W.codeIn K cd8 "_law_same" = true) (k8 : PySem.W.keepIn K (.ref f8) = true)
    {f9 : Addr} {od9 an9 : Option Addr} {sl9 : Array (Option Value)} {oc9 kV9 dc9 pm9 cd9 ct9 : Value} (a9 : PySem.W.nsIn K mainGlobals "_law_copy" = some (some (.ref f9))) (l9 : K.lookup f9 = some ⟨oc9, od9, .func (PySem.W.fnOf "_law_copy" "_law_copy" (defArgs (top 16)) (defBody (top 16)) (defScope (top 16)) .none kV9 dc9 pm9 an9 cd9 ct9), sl9⟩) (c9 : PySem.W.codeIn K cd9 "_law_copy" = true) (k9 : PySem.W.keepIn K (.ref f9) = true)
    {f10 : Addr} {od10 an10 : Option Addr} {sl10 : Array (Option Value)} {oc10 kV10 dc10 pm10 cd10 ct10 : Value} (a10 : PySem.W.nsIn K mainGlobals "_law_case" = some (some (.ref f10))) (l10 : K.lookup f10 = some ⟨oc10, od10, .func (PySem.W.fnOf "_law_case" "_law_case" (defArgs (top 17)) (defBody (top 17)) (defScope (top 17)) .none kV10 dc10 pm10 an10 cd10 ct10), sl10⟩) (c10 : PySem.W.codeIn K cd10 "_law_case" = true) (k10 : PySem.W.keepIn K (.ref f10) = true)
    {f11 : Addr} {od11 an11 : Option Addr} {sl11 : Array (Option Value)} {oc11 kV11 dc11 pm11 cd11 ct11 : Value} (a11 : PySem.W.nsIn K mainGlobals "law" = some (some (.ref f11))) (l11 : K.lookup f11 = some ⟨oc11, od11, .func (PySem.W.fnOf "law" "law" (defArgs (top 18)) (defBody (top 18)) (defScope (top 18)) .none kV11 dc11 pm11 an11 cd11 ct11), sl11⟩) (c11 : PySem.W.codeIn K cd11 "law" = true) (k11 : PySem.W.keepIn K (.ref f11) = true)
    {t_MOST_GATES : Tok} (zc_MOST_GATES : PySem.W.nsIn K mainGlobals "MOST_GATES" = some (some (.int 60 t_MOST_GATES)))
    (z_all : PySem.W.nsIn K mainGlobals "all" = some none)
    (z_bool : PySem.W.nsIn K mainGlobals "bool" = some none)
    (z_enumerate : PySem.W.nsIn K mainGlobals "enumerate" = some none)
    (z_int : PySem.W.nsIn K mainGlobals "int" = some none)
    (z_isinstance : PySem.W.nsIn K mainGlobals "isinstance" = some none)
    (z_len : PySem.W.nsIn K mainGlobals "len" = some none)
    (z_list : PySem.W.nsIn K mainGlobals "list" = some none)
    (z_min : PySem.W.nsIn K mainGlobals "min" = some none)
    (z_range : PySem.W.nsIn K mainGlobals "range" = some none)
    (z_str : PySem.W.nsIn K mainGlobals "str" = some none)
    (z_tuple : PySem.W.nsIn K mainGlobals "tuple" = some none)
    (z_zip : PySem.W.nsIn K mainGlobals "zip" = some none) :
    ∃ fd : FuncData, (∀ (s : Shared) (v : Value), BindsTo s fd ⟨[v], []⟩ [("script", v)]) ∧ ∀ base : Heap, K.In base → base.Ns mainGlobals mg → FnOk l.prog w K mg base CX0 16 fa fd ["script"] (SpP K R_law) := by
  have e := hfa.symm.trans (PySem.W.mg_of X G a11)
  cases e
  have B : Bi mg := { triv := trivial, c_MOST_GATES := ⟨_, PySem.W.mg_of X G zc_MOST_GATES⟩, all := PySem.W.mg_none_of X G z_all, bool := PySem.W.mg_none_of X G z_bool, enumerate := PySem.W.mg_none_of X G z_enumerate, int := PySem.W.mg_none_of X G z_int, isinstance := PySem.W.mg_none_of X G z_isinstance, len := PySem.W.mg_none_of X G z_len, list := PySem.W.mg_none_of X G z_list, min := PySem.W.mg_none_of X G z_min, range := PySem.W.mg_none_of X G z_range, str := PySem.W.mg_none_of X G z_str, tuple := PySem.W.mg_none_of X G z_tuple, zip := PySem.W.mg_none_of X G z_zip }
  have d0 : Dfn K mg "need_plain" (top 6) ["net"] := dfn_mk X G a0 l0 c0 k0 fun _ _ _ _ _ _ us hl => match us, hl with | [_], _ => rfl
  have d1 : Dfn K mg "copied" (top 7) ["net", "copies", "votes"] := dfn_mk X G a1 l1 c1 k1 fun _ _ _ _ _ _ us hl => match us, hl with | [_, _, _], _ => rfl
  have d2 : Dfn K mg "in_threes" (top 8) ["net"] := dfn_mk X G a2 l2 c2 k2 fun _ _ _ _ _ _ us hl => match us, hl with | [_], _ => rfl
  have d3 : Dfn K mg "in_pairs" (top 9) ["net"] := dfn_mk X G a3 l3 c3 k3 fun _ _ _ _ _ _ us hl => match us, hl with | [_], _ => rfl
  have d4 : Dfn K mg "_law_next" (top 11) ["pot", "many"] := dfn_mk X G a4 l4 c4 k4 fun _ _ _ _ _ _ us hl => match us, hl with | [_, _], _ => rfl
  have d5 : Dfn K mg "_law_pots" (top 12) ["script"] := dfn_mk X G a5 l5 c5 k5 fun _ _ _ _ _ _ us hl => match us, hl with | [_], _ => rfl
  have d6 : Dfn K mg "_law_plain" (top 13) ["pot", "most", "gates"] := dfn_mk X G a6 l6 c6 k6 fun _ _ _ _ _ _ us hl => match us, hl with | [_, _, _], _ => rfl
  have d7 : Dfn K mg "_law_made" (top 14) ["net", "many", "votes"] := dfn_mk X G a7 l7 c7 k7 fun _ _ _ _ _ _ us hl => match us, hl with | [_, _, _], _ => rfl
  have d8 : Dfn K mg "_law_same" (top 15) ["heard", "due"] := dfn_mk X G a8 l8 c8 k8 fun _ _ _ _ _ _ us hl => match us, hl with | [_, _], _ => rfl
  have d9 : Dfn K mg "_law_copy" (top 16) ["net"] := dfn_mk X G a9 l9 c9 k9 fun _ _ _ _ _ _ us hl => match us, hl with | [_], _ => rfl
  have d10 : Dfn K mg "_law_case" (top 17) ["pot", "pairs"] := dfn_mk X G a10 l10 c10 k10 fun _ _ _ _ _ _ us hl => match us, hl with | [_, _], _ => rfl
  refine ⟨PySem.W.fnOf "law" "law" (defArgs (top 18)) (defBody (top 18)) (defScope (top 18)) .none kV11 dc11 pm11 an11 cd11 ct11, fun s v => .of_eq rfl, fun base _ _ => ?_⟩
  have b0 := ok_need_plain (P := l.prog) (w := w) (base := base) B d0
  have b1 := ok_copied (P := l.prog) (w := w) (base := base) B d1 (b0.mono (by decide))
  have b2 := ok_in_threes (P := l.prog) (w := w) (base := base) d2 (b1.mono (by decide))
  have b3 := ok_in_pairs (P := l.prog) (w := w) (base := base) d3 (b1.mono (by decide))
  have b4 := ok__law_next (P := l.prog) (w := w) (base := base) d4
  have b5 := ok__law_pots (P := l.prog) (w := w) (base := base) B d5
  have b6 := ok__law_plain (P := l.prog) (w := w) (base := base) B d6 (b4.mono (by decide))
  have b7 := ok__law_made (P := l.prog) (w := w) (base := base) B d7
  have b8 := ok__law_same (P := l.prog) (w := w) (base := base) B d8 12
  have b9 := ok__law_copy (P := l.prog) (w := w) (base := base) B d9
  have b10 := ok__law_case (P := l.prog) (w := w) (base := base) d10 (b3.mono (by decide)) (b2.mono (by decide)) (b9.mono (by decide)) (b7.mono (by decide)) (b4.mono (by decide)) (b6.mono (by decide)) (b8.mono (by decide)) ((b3.imp (SpT.toP RT_in_pairs.to)).mono (by decide)) ((b2.imp (SpT.toP RT_in_threes.to)).mono (by decide))
  exact ok_law (fun_mk l11 c11 k11) (b10.mono (by decide)) (b5.mono (by decide))
theorem walk {l : PySem.W.OpenLaw} {q : Program} {loose : List Str} {XP : (Str → Option Value) → Heap → Prop} {YP : World → Heap → Prop} {d : DefRec} {K : Params → Fg} (hn : l.most = some 63) (hdf : d.params.defaults = [])
    (hY : ∀ (w : World) (h : Heap), YP w h → (K w.params).In h)
    (F : ∀ (w : World) (mg : Str → Option Value) (fa : Addr) (h : Heap), (K w.params).In h → h.Ns mainGlobals mg → mg d.name = some (.ref fa) →
      ∃ fd : FuncData, (∀ (s : Shared) (u : Value), BindsTo s fd ⟨[u], []⟩ [("script", u)]) ∧ ∀ base : Heap, (K w.params).In base → base.Ns mainGlobals mg → FnOk l.prog w (K w.params) mg base CX0 16 fa fd ["script"] (SpP (K w.params) R_law)) :
    PySem.W.WalkO q loose XP YP l.row.toRowW d [] (fun f vs => PySem.call f vs) :=
  L2.walk_of (n := 63) (k := 16) (x := "script") (CX := fun _ => CX0) (sp := fun w => SpP (K w.params) R_law) hn (by decide) hdf ⟨rfl, by decide, by decide⟩ hY F
    (fun w H a ns hl _ hS => ⟨H, [.list (ns.map .int)], .bool true, .cons (.lst hS (by rw [List.length_map]; exact Nat.le_trans hl (by decide)) (RpAll.of_ints ns)) .nil, Same.refl H, ⟨ns, true, by simp [enc], rfl, law_ok ns hl⟩, fun v F H _ r => by cases r; rfl⟩) fun _ _ _ _ _ z => z
end W

open PySem PySem.W PyProof.Rows in
set_option maxRecDepth 100000 in
set_option maxHeartbeats 0 in
theorem PySem.Challenge.cw_bearfaults_k27_threes_and_pairs_holds : PySem.Challenge.rw_bearfaults_k27_threes_and_pairs.Holds := by
  w_on; o_law; k_head; (case hw => w_witness2)
  k_fill
  refine W.walk (l := PySem.Challenge.rw_bearfaults_k27_threes_and_pairs) rfl rfl (fun w h Y => PySem.W.kIn_of Y) ?F
  case F =>
    intro w mg fa h KX G hmg
    refine' W.all_mk KX G hmg ?a0 ?l0 ?c0 ?k0 ?a1 ?l1 ?c1 ?k1 ?a2 ?l2 ?c2 ?k2 ?a3 ?l3 ?c3 ?k3 ?a4 ?l4 ?c4 ?k4 ?a5 ?l5 ?c5 ?k5 ?a6 ?l6 ?c6 ?k6 ?a7 ?l7 ?c7 ?k7 ?a8 ?l8 ?c8 ?k8 ?a9 ?l9 ?c9 ?k9 ?a10 ?l10 ?c10 ?k10 ?a11 ?l11 ?c11 ?k11 ?zc_MOST_GATES ?z_all ?z_bool ?z_enumerate ?z_int ?z_isinstance ?z_len ?z_list ?z_min ?z_range ?z_str ?z_tuple ?z_zip
    (case a0 => k_is)
    (case l0 => k_is)
    (case c0 => k_is)
    (case k0 => k_is)
    (case a1 => k_is)
    (case l1 => k_is)
    (case c1 => k_is)
    (case k1 => k_is)
    (case a2 => k_is)
    (case l2 => k_is)
    (case c2 => k_is)
    (case k2 => k_is)
    (case a3 => k_is)
    (case l3 => k_is)
    (case c3 => k_is)
    (case k3 => k_is)
    (case a4 => k_is)
    (case l4 => k_is)
    (case c4 => k_is)
    (case k4 => k_is)
    (case a5 => k_is)
    (case l5 => k_is)
    (case c5 => k_is)
    (case k5 => k_is)
    (case a6 => k_is)
    (case l6 => k_is)
    (case c6 => k_is)
    (case k6 => k_is)
    (case a7 => k_is)
    (case l7 => k_is)
    (case c7 => k_is)
    (case k7 => k_is)
    (case a8 => k_is)
    (case l8 => k_is)
    (case c8 => k_is)
    (case k8 => k_is)
    (case a9 => k_is)
    (case l9 => k_is)
    (case c9 => k_is)
    (case k9 => k_is)
    (case a10 => k_is)
    (case l10 => k_is)
    (case c10 => k_is)
    (case k10 => k_is)
    (case a11 => k_is)
    (case l11 => k_is)
    (case c11 => k_is)
    (case k11 => k_is)
    (case zc_MOST_GATES => k_is)
    (case z_all => k_is)
    (case z_bool => k_is)
    (case z_enumerate => k_is)
    (case z_int => k_is)
    (case z_isinstance => k_is)
    (case z_len => k_is)
    (case z_list => k_is)
    (case z_min => k_is)
    (case z_range => k_is)
    (case z_str => k_is)
    (case z_tuple => k_is)
    (case z_zip => k_is)
