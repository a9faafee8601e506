import PyProof.Rows.All
import Wide.All
import OpenK.AllK
import Wide.FinOn
import HandS.ForMost
import HandS.Walk
import HandS.TupAny
import HandS.Style
import HandS.IsInst
import HandS.Zip
import KE.GoesMore
import HandS.Wide
import HandS.SortInts
import HandS.Conv
import HandS.SetFor
import PyProof.Rows.SumAny
import HandS.TryOnly
import HandS.TupMul
import HandS.More
import HandS.Dict
import PySem.Challenge.RW_bearfaults_k23_surest_of_turning_gates
set_option Elab.async false
set_option linter.all false
set_option maxRecDepth 100000
set_option maxHeartbeats 4000000
/-! TL: data over the hand layer's readings: what a reading evaluates to, by plain data; a frozen part of the heap, own lists, the whole. -/
namespace TL
open PySem L2
abbrev Fg := PySem.W.Frag

/-! ### data in a heap -/
mutual
inductive Rp (K : Fg) (F : Hp) : V → PyData → Prop
  | non : Rp K F .non .none
  | bl (b : Bool) : Rp K F (.bl b) (.bool b)
  | int (i : Int) : Rp K F (.int i) (.int i)
  | str (x : Str) : Rp K F (.str x) (.str x)
  | lst {a : Addr} {xs : List V} {ds : List PyData} : SqL K F a xs → xs.length ≤ sizeLine → RpAll K F xs ds → Rp K F (.ref a) (.list ds)
  | tup {a : Addr} {xs : List V} {ds : List PyData} : SqT K F a xs → xs.length ≤ sizeLine → RpAll K F xs ds → Rp K F (.ref a) (.tuple ds)
inductive RpAll (K : Fg) (F : Hp) : List V → List PyData → Prop
  | nil : RpAll K F [] []
  | cons {v : V} {vs : List V} {d : PyData} {ds : List PyData} : Rp K F v d → RpAll K F vs ds → RpAll K F (v :: vs) (d :: ds)
end
theorem same_rd {H H' : Hp} {a : Addr} {u : HO} (e : Same H H') (h : Rd H a u) : Rd H' a u := by
  rcases h with h | ⟨o, h⟩
  · exact .inl (e _ _ h)
  · exact .inr ⟨o, e _ _ h⟩
theorem same_t {K : Fg} {H H' : Hp} {a : Addr} {xs : List V} (e : Same H H') (h : SqT K H a xs) : SqT K H' a xs := by
  rcases h with h | h
  · exact .inl (same_rd e h)
  · exact .inr h
section
variable {K : Fg} {F F' : Hp}
mutual
theorem Rp.mono (e : Same F F') : ∀ (d : PyData) (v : V), Rp K F v d → Rp K F' v d
  | .none, _, h => by cases h; exact .non
  | .bool b, _, h => by cases h; exact .bl b
  | .int i, _, h => by cases h; exact .int i
  | .str x, _, h => by cases h; exact .str x
  | .list ds, _, h => by
    cases h with
    | lst h1 h2 h3 => exact .lst (e.seq h1) h2 (RpAll.mono e ds _ h3)
  | .tuple ds, _, h => by
    cases h with
    | tup h1 h2 h3 => exact .tup (same_t e h1) h2 (RpAll.mono e ds _ h3)
  | .dict _, _, h => by cases h
theorem RpAll.mono (e : Same F F') : ∀ (ds : List PyData) (vs : List V), RpAll K F vs ds → RpAll K F' vs ds
  | [], _, h => by cases h; exact .nil
  | d :: ds, _, h => by
    cases h with
    | cons h1 h2 => exact .cons (Rp.mono e d _ h1) (RpAll.mono e ds _ h2)
end
theorem Rp.up {d : PyData} {v : V} (h : Rp K F v d) (e : Same F F') : Rp K F' v d := Rp.mono e d v h
theorem RpAll.up {ds : List PyData} {vs : List V} (h : RpAll K F vs ds) (e : Same F F') : RpAll K F' vs ds := RpAll.mono e ds vs h
mutual
theorem Rp.dp : ∀ (d : PyData) (v : V), Rp K F v d → Dp K F v d
  | .none, _, h => by cases h; exact .non
  | .bool b, _, h => by cases h; exact .bl b
  | .int i, _, h => by cases h; exact .int i
  | .str x, _, h => by cases h; exact .str x
  | .list ds, _, h => by
    cases h with
    | lst h1 h2 h3 => exact .lst h1 (RpAll.dp ds _ h3)
  | .tuple ds, _, h => by
    cases h with
    | tup h1 h2 h3 => exact .tup h1 (RpAll.dp ds _ h3)
  | .dict _, _, h => by cases h
theorem RpAll.dp : ∀ (ds : List PyData) (vs : List V), RpAll K F vs ds → DpAll K F vs ds
  | [], _, h => by cases h; exact .nil
  | d :: ds, _, h => by
    cases h with
    | cons h1 h2 => exact .cons (Rp.dp d _ h1) (RpAll.dp ds _ h2)
end
theorem RpAll.length : ∀ {vs : List V} {ds : List PyData}, RpAll K F vs ds → vs.length = ds.length
  | _, _, .nil => rfl
  | _, _, .cons _ t => by rw [List.length_cons, List.length_cons, RpAll.length t]
theorem RpAll.get : ∀ {vs : List V} {ds : List PyData} {i : Nat} {d : PyData}, RpAll K F vs ds → ds[i]? = some d → ∃ v, vs[i]? = some v ∧ Rp K F v d
  | _, _, _, _, .nil, e => by simp at e
  | _, _, 0, _, .cons r _, e => by simp at e; subst e; exact ⟨_, rfl, r⟩
  | _, _, i + 1, d, .cons _ t, e => by
    obtain ⟨v, h1, h2⟩ := RpAll.get (i := i) (d := d) t (by simpa using e)
    exact ⟨v, by simpa using h1, h2⟩
theorem RpAll.getV : ∀ {vs : List V} {ds : List PyData} {i : Nat} {v : V}, RpAll K F vs ds → vs[i]? = some v → ∃ d, ds[i]? = some d ∧ Rp K F v d
  | _, _, _, _, .nil, e => by simp at e
  | _, _, 0, _, .cons r _, e => by simp at e; subst e; exact ⟨_, rfl, r⟩
  | _, _, i + 1, v, .cons _ t, e => by
    obtain ⟨d, h1, h2⟩ := RpAll.getV (i := i) (v := v) t (by simpa using e)
    exact ⟨d, by simpa using h1, h2⟩
theorem RpAll.append : ∀ {vs ws : List V} {ds es : List PyData}, RpAll K F vs ds → RpAll K F ws es → RpAll K F (vs ++ ws) (ds ++ es)
  | _, _, _, _, .nil, s => s
  | _, _, _, _, .cons r t, s => .cons r (RpAll.append t s)
theorem RpAll.take : ∀ {vs : List V} {ds : List PyData} (n : Nat), RpAll K F vs ds → RpAll K F (vs.take n) (ds.take n)
  | _, _, 0, _ => .nil
  | _, _, _ + 1, .nil => .nil
  | _, _, n + 1, .cons r t => .cons r (RpAll.take n t)
theorem RpAll.drop : ∀ {vs : List V} {ds : List PyData} (n : Nat), RpAll K F vs ds → RpAll K F (vs.drop n) (ds.drop n)
  | _, _, 0, r => r
  | _, _, _ + 1, .nil => .nil
  | _, _, n + 1, .cons _ t => RpAll.drop n t
theorem RpAll.set {v : V} {d : PyData} (r : Rp K F v d) : ∀ {vs : List V} {ds : List PyData} (i : Nat), RpAll K F vs ds → RpAll K F (vs.set i v) (ds.set i d)
  | _, _, _, .nil => .nil
  | _, _, 0, .cons _ t => .cons r t
  | _, _, i + 1, .cons q t => .cons q (RpAll.set r i t)
theorem RpAll.reverse {vs : List V} {ds : List PyData} (h : RpAll K F vs ds) : RpAll K F vs.reverse ds.reverse := by
  induction vs generalizing ds with
  | nil => cases h; exact .nil
  | cons v vs ih =>
    cases h with
    | cons r t =>
      rw [List.reverse_cons, List.reverse_cons]
      exact (ih t).append (.cons r .nil)
theorem RpAll.rep {vs : List V} {ds : List PyData} (h : RpAll K F vs ds) : ∀ k : Nat, RpAll K F (List.replicate k vs).flatten (List.replicate k ds).flatten
  | 0 => .nil
  | k + 1 => by
    rw [List.replicate_succ, List.replicate_succ, List.flatten_cons, List.flatten_cons]
    exact h.append (RpAll.rep h k)
theorem RpAll.ints : ∀ {vs : List V} {ns : List Int}, RpAll K F vs (ns.map PyData.int) → vs = ns.map V.int
  | _, [], h => by cases h; rfl
  | _, n :: ns, h => by
    cases h with
    | cons r t => cases r; rw [RpAll.ints t]; rfl
theorem RpAll.bools : ∀ {vs : List V} {ns : List Bool}, RpAll K F vs (ns.map PyData.bool) → vs = ns.map V.bl
  | _, [], h => by cases h; rfl
  | _, n :: ns, h => by
    cases h with
    | cons r t => cases r; rw [RpAll.bools t]; rfl
theorem RpAll.strs : ∀ {vs : List V} {ns : List Str}, RpAll K F vs (ns.map PyData.str) → vs = ns.map V.str
  | _, [], h => by cases h; rfl
  | _, n :: ns, h => by
    cases h with
    | cons r t => cases r; rw [RpAll.strs t]; rfl
theorem RpAll.of_ints : ∀ (ns : List Int), RpAll K F (ns.map V.int) (ns.map PyData.int)
  | [] => .nil
  | n :: ns => .cons (.int n) (RpAll.of_ints ns)
end

/-! ### the slots -/
inductive Sl where
  | un
  | val (d : PyData)
  | adr (a : Addr)
  | tow (ps : List Addr)
  | dic (kvs : List (Str × Str))
  | lol (ps : List Addr)
  | dii (kvs : List (Str × Int))
  | dkb (ks : List Int)
def keyB (ks : List Int) : List (Key × V) := ks.map fun k => ((Sum.inl k : Key), V.bl true)
def litI (kvs : List (Str × Int)) : List (Key × V) := kvs.map fun p => (Sum.inr p.1, V.int p.2)
def litS (kvs : List (Str × Str)) : List (Key × V) := kvs.map fun p => (Sum.inr p.1, V.str p.2)
def SlR (K : Fg) (F : Hp) : Option V → Sl → Prop
  | _, .un => True
  | s, .val d => ∃ v, s = some v ∧ Rp K F v d
  | s, .adr a => s = some (.ref a)
  | s, .tow ps => ∃ t, s = some (.ref t) ∧ SqT K F t (ps.map .ref)
  | s, .dic kvs => ∃ t, s = some (.ref t) ∧ F t = some (.dK (litS kvs))
  | s, .lol ps => ∃ t, s = some (.ref t) ∧ SqL K F t (ps.map .ref) ∧ ps.length ≤ sizeLine
  | s, .dii kvs => ∃ t, s = some (.ref t) ∧ F t = some (.dK (litI kvs))
  | s, .dkb ks => ∃ t, s = some (.ref t) ∧ F t = some (.dK (keyB ks))
inductive EnvR (K : Fg) (F : Hp) : L2.St → List Sl → Prop
  | nil : EnvR K F [] []
  | cons {s : Option V} {σ : L2.St} {r : Sl} {ρ : List Sl} : SlR K F s r → EnvR K F σ ρ → EnvR K F (s :: σ) (r :: ρ)
section
variable {K : Fg} {F F' : Hp} {σ : L2.St} {ρ : List Sl}
theorem SlR.up {s : Option V} {r : Sl} (h : SlR K F s r) (e : Same F F') : SlR K F' s r := by
  cases r with
  | un => trivial
  | val d => obtain ⟨v, h1, h2⟩ := h; exact ⟨v, h1, h2.up e⟩
  | adr a => exact h
  | tow ps => obtain ⟨t, h1, h2⟩ := h; exact ⟨t, h1, same_t e h2⟩
  | dic kvs => obtain ⟨t, h1, h2⟩ := h; exact ⟨t, h1, e _ _ h2⟩
  | lol ps => obtain ⟨t, h1, h2, h3⟩ := h; exact ⟨t, h1, e.seq h2, h3⟩
  | dii kvs => obtain ⟨t, h1, h2⟩ := h; exact ⟨t, h1, e _ _ h2⟩
  | dkb ks => obtain ⟨t, h1, h2⟩ := h; exact ⟨t, h1, e _ _ h2⟩
theorem EnvR.up (h : EnvR K F σ ρ) (e : Same F F') : EnvR K F' σ ρ := by
  induction h with
  | nil => exact .nil
  | cons r _ ih => exact .cons (r.up e) ih
theorem EnvR.at : ∀ {σ : L2.St} {ρ : List Sl} {i : Nat} {r : Sl}, EnvR K F σ ρ → ρ[i]? = some r → ∃ s, σ[i]? = some s ∧ SlR K F s r
  | _, _, _, _, .nil, e => by simp at e
  | _, _, 0, _, .cons r _, e => by simp at e; subst e; exact ⟨_, rfl, r⟩
  | _, _, i + 1, r, .cons _ t, e => by
    obtain ⟨v, h1, h2⟩ := EnvR.at (i := i) (r := r) t (by simpa using e)
    exact ⟨v, by simpa using h1, h2⟩
theorem EnvR.val {i : Nat} {d : PyData} (h : EnvR K F σ ρ) (e : ρ[i]? = some (.val d)) : ∃ v, σ[i]? = some (some v) ∧ Rp K F v d := by
  obtain ⟨s, h1, v, rfl, h2⟩ := h.at e
  exact ⟨v, h1, h2⟩
theorem EnvR.adr {i : Nat} {a : Addr} (h : EnvR K F σ ρ) (e : ρ[i]? = some (.adr a)) : σ[i]? = some (some (.ref a)) := by
  obtain ⟨s, h1, h2⟩ := h.at e
  cases h2
  exact h1
theorem EnvR.set {s : Option V} {r : Sl} (q : SlR K F s r) : ∀ {σ : L2.St} {ρ : List Sl} (i : Nat), EnvR K F σ ρ → EnvR K F (σ.set i s) (ρ.set i r)
  | _, _, _, .nil => .nil
  | _, _, 0, .cons _ t => .cons q t
  | _, _, i + 1, .cons p t => .cons p (EnvR.set q i t)
theorem EnvR.setv {v : V} {d : PyData} (h : EnvR K F σ ρ) (q : Rp K F v d) (i : Nat) : EnvR K F (σ.set i (some v)) (ρ.set i (.val d)) := EnvR.set (s := some v) (r := .val d) ⟨v, rfl, q⟩ i h
theorem EnvR.seta {a : Addr} (h : EnvR K F σ ρ) (i : Nat) : EnvR K F (σ.set i (some (.ref a))) (ρ.set i (.adr a)) := EnvR.set (s := some (.ref a)) (r := .adr a) rfl i h
theorem EnvR.blank : ∀ (n : Nat), EnvR K F (List.replicate n none) (List.replicate n .un)
  | 0 => .nil
  | n + 1 => .cons trivial (EnvR.blank n)
theorem EnvR.app : ∀ {σ τ : L2.St} {ρ π : List Sl}, EnvR K F σ ρ → EnvR K F τ π → EnvR K F (σ ++ τ) (ρ ++ π)
  | _, _, _, _, .nil, s => s
  | _, _, _, _, .cons r t, s => .cons r (EnvR.app t s)
/-- arguments: data, or own lists by their addresses -/
inductive AsR (K : Fg) (F : Hp) : List V → List Sl → Prop
  | nil : AsR K F [] []
  | val {v : V} {d : PyData} {vs : List V} {as : List Sl} : Rp K F v d → AsR K F vs as → AsR K F (v :: vs) (.val d :: as)
  | adr {a : Addr} {vs : List V} {as : List Sl} : AsR K F vs as → AsR K F (.ref a :: vs) (.adr a :: as)
theorem AsR.up {vs : List V} {as : List Sl} (h : AsR K F vs as) (e : Same F F') : AsR K F' vs as := by
  induction h with
  | nil => exact .nil
  | val r _ ih => exact .val (r.up e) ih
  | adr _ ih => exact .adr ih
theorem AsR.env : ∀ {vs : List V} {as : List Sl}, AsR K F vs as → EnvR K F (vs.map some) as
  | _, _, .nil => .nil
  | _, _, .val r t => .cons ⟨_, rfl, r⟩ t.env
  | _, _, .adr t => .cons rfl t.env
theorem AsR.length : ∀ {vs : List V} {as : List Sl}, AsR K F vs as → vs.length = as.length
  | _, _, .nil => rfl
  | _, _, .val _ t => by rw [List.length_cons, List.length_cons, AsR.length t]
  | _, _, .adr t => by rw [List.length_cons, List.length_cons, AsR.length t]
theorem AsR.all : ∀ {vs : List V} {ds : List PyData}, AsR K F vs (ds.map .val) → RpAll K F vs ds
  | _, [], h => by cases h; exact .nil
  | _, d :: ds, h => by
    cases h with
    | val r t => exact .cons r (AsR.all t)
theorem EnvR.start {N : List Str} {vs : List V} {as : List Sl} (h : AsR K F vs as) : EnvR K F (start N vs) (as ++ List.replicate (N.length - as.length) .un) := by
  unfold L2.start
  rw [h.length]
  exact h.env.app (EnvR.blank _)
/-- forgetting slots -/
def Wk : List Sl → List Sl → Prop
  | [], [] => True
  | r :: ρ, r' :: ρ' => (r' = r ∨ r' = .un) ∧ Wk ρ ρ'
  | _, _ => False
theorem EnvR.weak : ∀ {σ : L2.St} {ρ ρ' : List Sl}, EnvR K F σ ρ → Wk ρ ρ' → EnvR K F σ ρ'
  | _, _, [], .nil, _ => .nil
  | _, _, r' :: ρ', .cons r t, ⟨h1, h2⟩ => by
    refine .cons ?_ (EnvR.weak t h2)
    rcases h1 with rfl | rfl
    · exact r
    · trivial
  | _, _, _ :: _, .nil, h => h.elim
  | _, _, [], .cons _ _, h => h.elim
def wipeS (ρ : List Sl) : List Nat → List Sl
  | [] => ρ
  | v :: vs => (wipeS ρ vs).set v .un
theorem EnvR.wipe (h : EnvR K F σ ρ) : ∀ vs : List Nat, EnvR K F (L2.wipe σ vs) (wipeS ρ vs)
  | [] => h
  | v :: vs => by
    unfold L2.wipe wipeS
    exact EnvR.set (r := .un) trivial v (EnvR.wipe h vs)
theorem wipe_at (σ : L2.St) (i : Nat) : ∀ vs : List Nat, (L2.wipe σ vs)[i]? = if i ∈ vs then (if i < σ.length then some none else none) else σ[i]?
  | [] => by simp [L2.wipe]
  | v :: vs => by
    unfold L2.wipe
    rw [List.getElem?_set, wipe_at σ i vs, wipe_length]
    by_cases h : v = i
    · subst h; simp
    · have h' : ¬ i = v := fun e => h e.symm
      simp [h, h']
theorem wipe_wipe (σ : L2.St) (vs : List Nat) : L2.wipe (L2.wipe σ vs) vs = L2.wipe σ vs := by
  apply List.ext_getElem?
  intro i
  rw [wipe_at, wipe_at, wipe_length]
  split <;> rfl
theorem wipe_set (σ : L2.St) {i : Nat} {s : Option V} {vs : List Nat} (h : i ∈ vs) : L2.wipe (σ.set i s) vs = L2.wipe σ vs := by
  apply List.ext_getElem?
  intro j
  rw [wipe_at, wipe_at, List.length_set]
  by_cases e : j ∈ vs
  · rw [if_pos e, if_pos e]
  · rw [if_neg e, if_neg e, List.getElem?_set_ne (fun (q : i = j) => e (q ▸ h))]
end

/-! ### the heap's parts: F0, H0: frozen and whole at the entry; D0: lists at the entry that may be changed; F: frozen; O: own lists; H: the whole -/
structure OE where
  a : Addr
  nw : Bool
  ds : List PyData
abbrev Os := List OE
structure Hx (K : Fg) (F0 H0 : Hp) (D0 : List Addr) (F : Hp) (O : Os) (H : Hp) : Prop where
  f0 : Same F0 F
  fh : Same F H
  keep : ∀ a o, H0 a = some o → a ∉ D0 → H a = some o
  live : ∀ a o, H0 a = some o → ∃ o', H a = some o'
  new : ∀ a o, H0 a = some o → F0 a = none → F a = none
  own : ∀ p ∈ O, F p.a = none ∧ (p.nw = true → H0 p.a = none) ∧ (p.nw = false → p.a ∈ D0) ∧ ∃ vs, H p.a = some (.lst vs) ∧ vs.length ≤ sizeLine ∧ RpAll K F vs p.ds
  nd : (O.map OE.a).Nodup
/-- what a call leaves: D the lists that it may have changed -/
structure Stp (D : List Addr) (F H F' H' : Hp) : Prop where
  ff : Same F F'
  fh : Same F' H'
  keep : ∀ a o, H a = some o → a ∉ D → H' a = some o
  live : ∀ a o, H a = some o → ∃ o', H' a = some o'
  new : ∀ a o, H a = some o → F a = none → F' a = none
section
variable {K : Fg} {F0 H0 F H F' H' : Hp} {D0 : List Addr} {O : Os}
theorem Hx.start (h : Same F H) : Hx K F H [] F [] H := ⟨Same.refl _, h, fun _ _ e _ => e, fun _ o e => ⟨o, e⟩, fun _ _ _ e => e, fun p h => by simp at h, List.nodup_nil⟩
theorem Hx.start1 {p : Addr} {vs : List V} {ds : List PyData} (h : Same F H) (n : F p = none) (hp : H p = some (.lst vs)) (hz : vs.length ≤ sizeLine) (r : RpAll K F vs ds) : Hx K F H [p] F [⟨p, false, ds⟩] H := by
  refine ⟨Same.refl _, h, fun _ _ e _ => e, fun _ o e => ⟨o, e⟩, fun _ _ _ e => e, fun q hq => ?_, by simp⟩
  have e : q = ⟨p, false, ds⟩ := by simpa using hq
  subst e
  exact ⟨n, fun z => (Bool.false_ne_true z).elim, fun _ => by simp, vs, hp, hz, r⟩
theorem Hx.stp (S : Hx K F0 H0 D0 F O H) : Stp D0 F0 H0 F H := ⟨S.f0, S.fh, S.keep, S.live, S.new⟩
theorem Hx.nof (S : Hx K F0 H0 D0 F O H) {p : Addr} (h : H p = none) : F p = none := S.fh.free h
theorem Hx.noh0 (S : Hx K F0 H0 D0 F O H) {p : Addr} (h : H p = none) : H0 p = none := by
  cases e : H0 p with
  | none => rfl
  | some o =>
    obtain ⟨o', e'⟩ := S.live _ _ e
    rw [h] at e'
    cases e'
theorem same_upd {H : Hp} {p : Addr} {o : HO} (h : H p = none) : Same H (upd H p o) := fun a u e => by
  rw [upd_ne (ne_of_none e h)]
  exact e
theorem same_upd2 {F H : Hp} {p : Addr} {o : HO} (h : Same F H) : Same (upd F p o) (upd H p o) := fun a u e => by
  unfold upd at e ⊢
  split at e
  · rw [if_pos (by assumption)]; exact e
  · rw [if_neg (by assumption)]; exact h _ _ e
/-- a new object, frozen -/
theorem Hx.put (S : Hx K F0 H0 D0 F O H) {p : Addr} {o : HO} (h : H p = none) : Hx K F0 H0 D0 (upd F p o) O (upd H p o) := by
  have hF := S.nof h
  refine ⟨S.f0.trans (same_upd hF), same_upd2 S.fh, fun a u e n => ?_, fun a u e => ?_, fun a u e n => ?_, fun q hq => ?_, S.nd⟩
  · have := S.keep a u e n
    rw [upd_ne (ne_of_none this h)]
    exact this
  · obtain ⟨u', e'⟩ := S.live a u e
    exact ⟨u', by rw [upd_ne (ne_of_none e' h)]; exact e'⟩
  · obtain ⟨u', e'⟩ := S.live a u e
    rw [upd_ne (ne_of_none e' h)]
    exact S.new a u e n
  · obtain ⟨h1, h2, h3, vs, h4, h5, h6⟩ := S.own q hq
    have ne := ne_of_none h4 h
    exact ⟨by rw [upd_ne ne]; exact h1, h2, h3, vs, by rw [upd_ne ne]; exact h4, h5, h6.up (same_upd hF)⟩
/-- a new own list -/
theorem Hx.mine (S : Hx K F0 H0 D0 F O H) {p : Addr} {vs : List V} {ds : List PyData} (h : H p = none) (hz : vs.length ≤ sizeLine) (r : RpAll K F vs ds) : Hx K F0 H0 D0 F (⟨p, true, ds⟩ :: O) (upd H p (.lst vs)) := by
  have hF := S.nof h
  refine ⟨S.f0, S.fh.trans (same_upd h), fun a u e n => ?_, fun a u e => ?_, S.new, fun q hq => ?_, ?_⟩
  · have := S.keep a u e n
    rw [upd_ne (ne_of_none this h)]
    exact this
  · obtain ⟨u', e'⟩ := S.live a u e
    exact ⟨u', by rw [upd_ne (ne_of_none e' h)]; exact e'⟩
  · rcases List.mem_cons.mp hq with rfl | hq
    · exact ⟨hF, fun _ => S.noh0 h, fun z => (Bool.false_ne_true z.symm).elim, vs, upd_same, hz, r⟩
    · obtain ⟨h1, h2, h3, vs', h4, h5, h6⟩ := S.own q hq
      exact ⟨h1, h2, h3, vs', by rw [upd_ne (ne_of_none h4 h)]; exact h4, h5, h6⟩
  · rw [List.map_cons, List.nodup_cons]
    refine ⟨fun hm => ?_, S.nd⟩
    obtain ⟨q, hq, e⟩ := List.mem_map.mp hm
    obtain ⟨_, _, _, vs', h4, _⟩ := S.own q hq
    have e' : q.a = p := e
    rw [e', h] at h4
    cases h4
theorem Hx.get (S : Hx K F0 H0 D0 F O H) {j : Nat} {q : OE} (h : O[j]? = some q) : F q.a = none ∧ (q.nw = true → H0 q.a = none) ∧ (q.nw = false → q.a ∈ D0) ∧ ∃ vs, H q.a = some (.lst vs) ∧ vs.length ≤ sizeLine ∧ RpAll K F vs q.ds := S.own q (List.mem_of_getElem? h)
theorem nodup_at {α : Type} {l : List α} (h : l.Nodup) {i j : Nat} {x : α} (a : l[i]? = some x) (b : l[j]? = some x) : i = j := by
  obtain ⟨h1, e1⟩ := List.getElem?_eq_some_iff.mp a
  obtain ⟨h2, e2⟩ := List.getElem?_eq_some_iff.mp b
  exact (List.getElem_inj h).mp (e1.trans e2.symm)
/-- an own list is changed -/
theorem Hx.mut (S : Hx K F0 H0 D0 F O H) {j : Nat} {l : Addr} {nw : Bool} {ds ds' : List PyData} {vs : List V} (h : O[j]? = some ⟨l, nw, ds⟩) (hz : vs.length ≤ sizeLine) (r : RpAll K F vs ds') :
    Hx K F0 H0 D0 F (O.set j ⟨l, nw, ds'⟩) (upd H l (.lst vs)) := by
  obtain ⟨h1, h2, h3, vs0, h4, h5, h6⟩ := S.get h
  refine ⟨S.f0, fun a u e => ?_, fun a u e n => ?_, fun a u e => ?_, S.new, fun q hq => ?_, ?_⟩
  · rw [upd_ne (ne_of_none e h1)]
    exact S.fh _ _ e
  · have ne : a ≠ l := by
      rintro rfl
      cases nw with
      | true => rw [h2 rfl] at e; cases e
      | false => exact n (h3 rfl)
    rw [upd_ne ne]
    exact S.keep a u e n
  · by_cases ne : a = l
    · subst ne; exact ⟨_, upd_same⟩
    · rw [upd_ne ne]; exact S.live a u e
  · obtain ⟨i, hi⟩ := List.mem_iff_getElem?.mp hq
    by_cases e : j = i
    · subst e
      have hj : j < O.length := (List.getElem?_eq_some_iff.mp h).1
      rw [List.getElem?_set_self hj] at hi
      cases hi
      exact ⟨h1, h2, h3, vs, upd_same, hz, r⟩
    · rw [List.getElem?_set_ne e] at hi
      obtain ⟨g1, g2, g3, vs', g4, g5, g6⟩ := S.get hi
      have ne : q.a ≠ l := by
        intro z
        refine e (nodup_at S.nd (x := l) ?_ ?_)
        · rw [List.getElem?_map, h]; rfl
        · rw [List.getElem?_map, hi]; simp [z]
      exact ⟨g1, g2, g3, vs', by rw [upd_ne ne]; exact g4, g5, g6⟩
  · have e : (O.set j ⟨l, nw, ds'⟩).map OE.a = O.map OE.a := by
      rw [List.map_set]
      apply List.ext_getElem?
      intro i
      by_cases e : j = i
      · subst e
        have hj : j < O.length := (List.getElem?_eq_some_iff.mp h).1
        rw [List.getElem?_set_self (by simpa using hj), List.getElem?_map, h]; rfl
      · rw [List.getElem?_set_ne e]
    rw [e]
    exact S.nd
/-- an own list is frozen -/
theorem Hx.frz (S : Hx K F0 H0 D0 F O H) {j : Nat} {l : Addr} {ds : List PyData} (h : O[j]? = some ⟨l, true, ds⟩) :
    ∃ F', Same F F' ∧ Hx K F0 H0 D0 F' (O.eraseIdx j) H ∧ Rp K F' (.ref l) (.list ds) := by
  obtain ⟨h1, h2, h3, vs, h4, h5, h6⟩ := S.get h
  refine ⟨upd F l (.lst vs), same_upd h1, ⟨S.f0.trans (same_upd h1), fun a u e => ?_, S.keep, S.live, fun a u e n => ?_, fun q hq => ?_, ?_⟩, .lst (SqL.of upd_same) h5 (h6.up (same_upd h1))⟩
  · unfold upd at e
    split at e
    · rename_i z
      subst z
      cases e
      exact h4
    · exact S.fh _ _ e
  · have ne : a ≠ l := by rintro rfl; rw [h2 rfl] at e; cases e
    rw [upd_ne ne]
    exact S.new a u e n
  · have hq' := List.mem_of_mem_eraseIdx hq
    obtain ⟨g1, g2, g3, vs', g4, g5, g6⟩ := S.own q hq'
    have ne : q.a ≠ l := by
      intro z
      obtain ⟨i, hi⟩ := List.mem_iff_getElem?.mp hq
      rw [List.getElem?_eraseIdx] at hi
      split at hi
      · rename_i hlt
        have := nodup_at S.nd (x := l) (i := j) (j := i) (by rw [List.getElem?_map, h]; rfl) (by rw [List.getElem?_map, hi]; simp [z])
        omega
      · rename_i hlt
        have := nodup_at S.nd (x := l) (i := j) (j := i + 1) (by rw [List.getElem?_map, h]; rfl) (by rw [List.getElem?_map, hi]; simp [z])
        omega
    exact ⟨by rw [upd_ne ne]; exact g1, g2, g3, vs', g4, g5, g6.up (same_upd h1)⟩
  · exact S.nd.sublist ((List.eraseIdx_sublist O j).map OE.a)
/-- behind a call that changes nothing that was there -/
theorem Hx.call (S : Hx K F0 H0 D0 F O H) (q : Stp [] F H F' H') : Hx K F0 H0 D0 F' O H' := by
  refine ⟨S.f0.trans q.ff, q.fh, fun a u e n => q.keep _ _ (S.keep a u e n) (by simp), fun a u e => ?_, fun a u e n => ?_, fun p hp => ?_, S.nd⟩
  · obtain ⟨u', e'⟩ := S.live a u e
    exact q.live _ _ e'
  · obtain ⟨u', e'⟩ := S.live a u e
    exact q.new _ _ e' (S.new a u e n)
  · obtain ⟨h1, h2, h3, vs, h4, h5, h6⟩ := S.own p hp
    exact ⟨q.new _ _ h4 h1, h2, h3, vs, q.keep _ _ h4 (by simp), h5, h6.up q.ff⟩
/-- .. that changes one own list -/
theorem Hx.call1 (S : Hx K F0 H0 D0 F O H) {j : Nat} {l : Addr} {nw : Bool} {ds ds' : List PyData} {vs : List V} (h : O[j]? = some ⟨l, nw, ds⟩) (q : Stp [l] F H F' H') (hl : H' l = some (.lst vs)) (hz : vs.length ≤ sizeLine) (r : RpAll K F' vs ds') :
    Hx K F0 H0 D0 F' (O.set j ⟨l, nw, ds'⟩) H' := by
  obtain ⟨h1, h2, h3, vs0, h4, h5, h6⟩ := S.get h
  refine ⟨S.f0.trans q.ff, q.fh, fun a u e n => ?_, fun a u e => ?_, fun a u e n => ?_, fun p hp => ?_, ?_⟩
  · have ne : a ≠ l := by
      rintro rfl
      cases nw with
      | true => rw [h2 rfl] at e; cases e
      | false => exact n (h3 rfl)
    exact q.keep _ _ (S.keep a u e n) (by simpa using ne)
  · obtain ⟨u', e'⟩ := S.live a u e
    exact q.live _ _ e'
  · obtain ⟨u', e'⟩ := S.live a u e
    exact q.new _ _ e' (S.new a u e n)
  · obtain ⟨i, hi⟩ := List.mem_iff_getElem?.mp hp
    by_cases e : j = i
    · subst e
      have hj : j < O.length := (List.getElem?_eq_some_iff.mp h).1
      rw [List.getElem?_set_self hj] at hi
      cases hi
      exact ⟨q.new _ _ h4 h1, h2, h3, vs, hl, hz, r⟩
    · rw [List.getElem?_set_ne e] at hi
      obtain ⟨g1, g2, g3, vs', g4, g5, g6⟩ := S.get hi
      have ne : p.a ≠ l := by
        intro z
        refine e (nodup_at S.nd (x := l) ?_ ?_)
        · rw [List.getElem?_map, h]; rfl
        · rw [List.getElem?_map, hi]; simp [z]
      exact ⟨q.new _ _ g4 g1, g2, g3, vs', q.keep _ _ g4 (by simpa using ne), g5, g6.up q.ff⟩
  · have e : (O.set j ⟨l, nw, ds'⟩).map OE.a = O.map OE.a := by
      rw [List.map_set]
      apply List.ext_getElem?
      intro i
      by_cases e : j = i
      · subst e
        have hj : j < O.length := (List.getElem?_eq_some_iff.mp h).1
        rw [List.getElem?_set_self (by simpa using hj), List.getElem?_map, h]; rfl
      · rw [List.getElem?_set_ne e]
    rw [e]
    exact S.nd
end
end TL

namespace TL
open PySem L2

/-! ### encodings -/
class Enc (α : Type) where
  enc : α → PyData
open Enc
@[reducible] instance : Enc Int := ⟨.int⟩
@[reducible] instance : Enc Bool := ⟨.bool⟩
@[reducible] instance : Enc Str := ⟨.str⟩
@[reducible] instance : Enc Unit := ⟨fun _ => .none⟩
@[reducible] instance {α : Type} [Enc α] : Enc (List α) := ⟨fun xs => .list (xs.map enc)⟩
@[reducible] instance {α β : Type} [Enc α] [Enc β] : Enc (α × β) := ⟨fun p => .tuple [enc p.1, enc p.2]⟩
/-- a tuple of any length, its items of one kind -/
structure Tp (α : Type) where
  l : List α
  deriving DecidableEq
@[reducible] instance {α : Type} [Enc α] : Enc (Tp α) := ⟨fun t => .tuple (t.l.map enc)⟩
structure T3 (α β γ : Type) where
  a : α
  b : β
  c : γ
  deriving DecidableEq
structure T4 (α β γ δ : Type) where
  a : α
  b : β
  c : γ
  d : δ
  deriving DecidableEq
@[reducible] instance {α β γ : Type} [Enc α] [Enc β] [Enc γ] : Enc (T3 α β γ) := ⟨fun p => .tuple [enc p.a, enc p.b, enc p.c]⟩
@[reducible] instance {α β γ δ : Type} [Enc α] [Enc β] [Enc γ] [Enc δ] : Enc (T4 α β γ δ) := ⟨fun p => .tuple [enc p.a, enc p.b, enc p.c, enc p.d]⟩
def encO {α : Type} [Enc α] : Option α → PyData
  | none => .none
  | some x => enc x
@[reducible] instance {α : Type} [Enc α] : Enc (Option α) := ⟨encO⟩

/-! ### judgements -/
section
variable (K : Fg)
structure RX (t : TE) (ρ : List Sl) (O : Os) (d : PyData) (O' : Os) : Prop where
  run : ∀ (F0 H0 : Hp) (D0 : List Addr) (σ : L2.St) (F H : Hp) (Q : VK), EnvR K F σ ρ → Hx K F0 H0 D0 F O H →
    (∀ v F' H', Same F F' → Hx K F0 H0 D0 F' O' H' → Rp K F' v d → Q v H') → t σ H Q
/-- a new list, own -/
structure RXo (t : TE) (ρ : List Sl) (O : Os) (ds : List PyData) (O' : Os) : Prop where
  run : ∀ (F0 H0 : Hp) (D0 : List Addr) (σ : L2.St) (F H : Hp) (Q : VK), EnvR K F σ ρ → Hx K F0 H0 D0 F O H →
    (∀ p F' H', Same F F' → Hx K F0 H0 D0 F' (⟨p, true, ds⟩ :: O') H' → Q (.ref p) H') → t σ H Q
/-- a list that is read -/
structure RXs (t : TE) (ρ : List Sl) (O : Os) (ds : List PyData) (O' : Os) : Prop where
  run : ∀ (F0 H0 : Hp) (D0 : List Addr) (σ : L2.St) (F H : Hp) (Q : VK), EnvR K F σ ρ → Hx K F0 H0 D0 F O H →
    (∀ a F' H', Same F F' → Hx K F0 H0 D0 F' O' H' → (∀ F2 H2, Same F' F2 → Hx K F0 H0 D0 F2 O' H2 → ∃ vs, SqL K H2 a vs ∧ vs.length ≤ sizeLine ∧ RpAll K F2 vs ds) → Q (.ref a) H') → t σ H Q
/-- what is read, by the whole heap -/
structure RXh (t : TE) (ρ : List Sl) (O : Os) (d : PyData) (O' : Os) : Prop where
  run : ∀ (F0 H0 : Hp) (D0 : List Addr) (σ : L2.St) (F H : Hp) (Q : VK), EnvR K F σ ρ → Hx K F0 H0 D0 F O H →
    (∀ v F' H', Same F F' → Hx K F0 H0 D0 F' O' H' → (∀ F2 H2, Same F' F2 → Hx K F0 H0 D0 F2 O' H2 → Rp K H2 v d) → Q v H') → t σ H Q
structure RA (t : TA) (ρ : List Sl) (O : Os) (as : List Sl) (O' : Os) : Prop where
  run : ∀ (F0 H0 : Hp) (D0 : List Addr) (σ : L2.St) (F H : Hp) (Q : List V → Hp → Prop), EnvR K F σ ρ → Hx K F0 H0 D0 F O H →
    (∀ vs F' H', Same F F' → Hx K F0 H0 D0 F' O' H' → AsR K F' vs as → Q vs H') → t σ H Q
structure RT (t : TT) (ρ : List Sl) (O : Os) (b : Bool) (O' : Os) : Prop where
  run : ∀ (F0 H0 : Hp) (D0 : List Addr) (σ : L2.St) (F H : Hp) (Q : Bool → Hp → Prop), EnvR K F σ ρ → Hx K F0 H0 D0 F O H →
    (∀ F' H', Same F F' → Hx K F0 H0 D0 F' O' H' → Q b H') → t σ H Q
structure RO (t : TO) (ρ : List Sl) (O : Os) (o : Option Int) (O' : Os) : Prop where
  run : ∀ (F0 H0 : Hp) (D0 : List Addr) (σ : L2.St) (F H : Hp) (Q : Option Int → Hp → Prop), EnvR K F σ ρ → Hx K F0 H0 D0 F O H →
    (∀ F' H', Same F F' → Hx K F0 H0 D0 F' O' H' → Q o H') → t σ H Q
/-- a target; ts its slots -/
structure RG (g : TG) (d : PyData) (ρ ρ' : List Sl) (ts : List Nat) : Prop where
  run : ∀ (σ : L2.St) (F H : Hp) (v : V) (Q : L2.St → Hp → Prop), EnvR K F σ ρ → Rp K F v d → Same F H →
    (∀ σ', EnvR K F σ' ρ' → (∀ vs : List Nat, (∀ t ∈ ts, t ∈ vs) → L2.wipe σ' vs = L2.wipe σ vs) → Q σ' H) → g v σ H Q
structure WalkD (J : It) (ys : List PyData) (F1 : Hp) : Prop where
  sz : ys.length ≤ sizeLine
  go : ∀ (F0 H0 : Hp) (D0 : List Addr) (F : Hp) (O : Os) (H : Hp) (i : Nat), i < ys.length → Same F1 F → Hx K F0 H0 D0 F O H → J.go i H
  stop : ∀ (F0 H0 : Hp) (D0 : List Addr) (F : Hp) (O : Os) (H : Hp), Same F1 F → Hx K F0 H0 D0 F O H → J.stop ys.length H
  yld : ∀ (F0 H0 : Hp) (D0 : List Addr) (F : Hp) (O : Os) (H : Hp) (i : Nat) (x : V) (H' : Hp), i < ys.length → Same F1 F → Hx K F0 H0 D0 F O H → J.yld i H x H' →
    ∃ F' y, Same F F' ∧ Hx K F0 H0 D0 F' O H' ∧ ys[i]? = some y ∧ Rp K F' x y
structure RI (wi : TI) (ρ : List Sl) (O : Os) (ys : List PyData) (O' : Os) : Prop where
  run : ∀ (F0 H0 : Hp) (D0 : List Addr) (σ : L2.St) (F H : Hp) (R : It → Hp → Prop), EnvR K F σ ρ → Hx K F0 H0 D0 F O H →
    (∀ J F' H', Same F F' → Hx K F0 H0 D0 F' O' H' → WalkD K J ys F' → R J H') → wi σ H R
end
section
variable {K : Fg} {t : TE} {ρ : List Sl} {O O' : Os} {d : PyData} {ds : List PyData} {F0 H0 : Hp} {D0 : List Addr} {σ : L2.St} {F H : Hp}
/-- the evaluation is used -/
theorem RX.go (h : RX K t ρ O d O') {Q : VK} (E : EnvR K F σ ρ) (S : Hx K F0 H0 D0 F O H)
    (k : ∀ v F' H', Same F F' → EnvR K F' σ ρ → Hx K F0 H0 D0 F' O' H' → Rp K F' v d → Q v H') : t σ H Q := h.run _ _ _ _ _ _ Q E S fun v F' H' f S' r => k v F' H' f (E.up f) S' r
theorem RXo.go (h : RXo K t ρ O ds O') {Q : VK} (E : EnvR K F σ ρ) (S : Hx K F0 H0 D0 F O H)
    (k : ∀ p F' H', Same F F' → EnvR K F' σ ρ → Hx K F0 H0 D0 F' (⟨p, true, ds⟩ :: O') H' → Q (.ref p) H') : t σ H Q := h.run _ _ _ _ _ _ Q E S fun v F' H' f S' => k v F' H' f (E.up f) S'
theorem RXs.go (h : RXs K t ρ O ds O') {Q : VK} (E : EnvR K F σ ρ) (S : Hx K F0 H0 D0 F O H)
    (k : ∀ a F' H', Same F F' → EnvR K F' σ ρ → Hx K F0 H0 D0 F' O' H' → (∀ F2 H2, Same F' F2 → Hx K F0 H0 D0 F2 O' H2 → ∃ vs, SqL K H2 a vs ∧ vs.length ≤ sizeLine ∧ RpAll K F2 vs ds) → Q (.ref a) H') : t σ H Q :=
  h.run _ _ _ _ _ _ Q E S fun a F' H' f S' q => k a F' H' f (E.up f) S' q
theorem RXh.go (h : RXh K t ρ O d O') {Q : VK} (E : EnvR K F σ ρ) (S : Hx K F0 H0 D0 F O H)
    (k : ∀ v F' H', Same F F' → EnvR K F' σ ρ → Hx K F0 H0 D0 F' O' H' → (∀ F2 H2, Same F' F2 → Hx K F0 H0 D0 F2 O' H2 → Rp K H2 v d) → Q v H') : t σ H Q :=
  h.run _ _ _ _ _ _ Q E S fun v F' H' f S' q => k v F' H' f (E.up f) S' q
theorem RT.go {t : TT} {b : Bool} (h : RT K t ρ O b O') {Q : Bool → Hp → Prop} (E : EnvR K F σ ρ) (S : Hx K F0 H0 D0 F O H)
    (k : ∀ F' H', Same F F' → EnvR K F' σ ρ → Hx K F0 H0 D0 F' O' H' → Q b H') : t σ H Q := h.run _ _ _ _ _ _ Q E S fun F' H' f S' => k F' H' f (E.up f) S'
theorem RA.go {t : TA} {as : List Sl} (h : RA K t ρ O as O') {Q : List V → Hp → Prop} (E : EnvR K F σ ρ) (S : Hx K F0 H0 D0 F O H)
    (k : ∀ vs F' H', Same F F' → EnvR K F' σ ρ → Hx K F0 H0 D0 F' O' H' → AsR K F' vs as → Q vs H') : t σ H Q := h.run _ _ _ _ _ _ Q E S fun v F' H' f S' r => k v F' H' f (E.up f) S' r
theorem RO.go {t : TO} {o : Option Int} (h : RO K t ρ O o O') {Q : Option Int → Hp → Prop} (E : EnvR K F σ ρ) (S : Hx K F0 H0 D0 F O H)
    (k : ∀ F' H', Same F F' → EnvR K F' σ ρ → Hx K F0 H0 D0 F' O' H' → Q o H') : t σ H Q := h.run _ _ _ _ _ _ Q E S fun F' H' f S' => k F' H' f (E.up f) S'
theorem RI.go {t : TI} {ys : List PyData} (h : RI K t ρ O ys O') {Q : It → Hp → Prop} (E : EnvR K F σ ρ) (S : Hx K F0 H0 D0 F O H)
    (k : ∀ J F' H', Same F F' → EnvR K F' σ ρ → Hx K F0 H0 D0 F' O' H' → WalkD K J ys F' → Q J H') : t σ H Q := h.run _ _ _ _ _ _ Q E S fun J F' H' f S' r => k J F' H' f (E.up f) S' r
theorem RXo.frz (h : RXo K t ρ O ds O') : RX K t ρ O (.list ds) O' := ⟨fun _ _ _ _ _ _ Q E S k => h.go E S fun p F' H' f _ S' => by
  obtain ⟨F2, f2, S2, r⟩ := S'.frz (j := 0) (l := p) (ds := ds) rfl
  exact k _ F2 H' (f.trans f2) S2 r⟩
theorem RX.s (h : RX K t ρ O (.list ds) O') : RXs K t ρ O ds O' := ⟨fun _ _ _ _ _ _ Q E S k => h.go E S fun v F' H' f _ S' r => by
  cases r with
  | lst h1 h2 h3 => exact k _ F' H' f S' fun F2 H2 f2 S2 => ⟨_, (f2.trans S2.fh).seq h1, h2, h3.up f2⟩⟩
theorem RXo.s (h : RXo K t ρ O ds O') : RXs K t ρ O ds O' := RX.s (RXo.frz h)
theorem RX.h (h : RX K t ρ O d O') : RXh K t ρ O d O' := ⟨fun _ _ _ _ _ _ Q E S k => h.go E S fun v F' H' f _ S' r => k v F' H' f S' fun F2 H2 f2 S2 => r.up (f2.trans S2.fh)⟩
theorem RXs.h (h : RXs K t ρ O ds O') : RXh K t ρ O (.list ds) O' := ⟨fun _ _ _ _ _ _ Q E S k => h.go E S fun a F' H' f _ S' h1 => k _ F' H' f S' fun F2 H2 f2 S2 => by
  obtain ⟨vs, q1, q2, q3⟩ := h1 F2 H2 f2 S2
  exact .lst q1 q2 (q3.up S2.fh)⟩

/-! ### names, constants -/
theorem rx_var {i : Nat} (h : ρ[i]? = some (.val d)) : RX K (tVar i) ρ O d O := ⟨fun _ _ _ _ _ _ Q E S k => by
  obtain ⟨v, h1, h2⟩ := E.val h
  exact ⟨v, h1, k v _ _ (Same.refl _) S h2⟩⟩
theorem rxs_own {i j : Nat} {a : Addr} {nw : Bool} (h : ρ[i]? = some (.adr a)) (ho : O[j]? = some ⟨a, nw, ds⟩) : RXs K (tVar i) ρ O ds O := ⟨fun _ _ _ _ _ _ Q E S k => by
  refine ⟨_, E.adr h, k a _ _ (Same.refl _) S fun F2 H2 f2 S2 => ?_⟩
  obtain ⟨_, _, _, vs', h4', h5', h6'⟩ := S2.get ho
  exact ⟨vs', SqL.of h4', h5', h6'⟩⟩
theorem rx_int {i : Int} : RX K (tC (.int i)) ρ O (.int i) O := ⟨fun _ _ _ _ _ _ Q E S k => k _ _ _ (Same.refl _) S (.int i)⟩
theorem rx_bl {b : Bool} : RX K (tC (.bl b)) ρ O (.bool b) O := ⟨fun _ _ _ _ _ _ Q E S k => k _ _ _ (Same.refl _) S (.bl b)⟩
theorem rx_str {x : Str} : RX K (tC (.str x)) ρ O (.str x) O := ⟨fun _ _ _ _ _ _ Q E S k => k _ _ _ (Same.refl _) S (.str x)⟩
theorem rx_non : RX K (tC .non) ρ O .none O := ⟨fun _ _ _ _ _ _ Q E S k => k _ _ _ (Same.refl _) S .non⟩
end
end TL

namespace TL
open PySem L2
open Enc

/-! ### operators -/
section
variable {K : Fg} {ta tb tc : TE} {ρ : List Sl} {O O1 O2 O3 : Os}
/-- two-place rules by values -/
theorem rx_op {r : R2} {d e f : PyData} (ha : RX K ta ρ O d O1) (hb : RX K tb ρ O1 e O2)
    (hr : ∀ (F H : Hp) (x y : V) (Q : VK), Same F H → Rp K F x d → Rp K F y e → (∀ v, Rp K F v f → Q v H) → r x y H Q) : RX K (tOp r ta tb) ρ O f O2 := ⟨fun _ _ _ _ _ _ Q E S k =>
  ha.go E S fun x F1 H1 f1 E1 S1 r1 => hb.go E1 S1 fun y F2 H2 f2 E2 S2 r2 => hr F2 H2 x y Q S2.fh (r1.up f2) r2 fun v r3 => k v F2 H2 (f1.trans f2) S2 r3⟩
theorem rx_ii {g : Int → Int → V} {i j : Int} {f : PyData} (hg : ∀ F, Rp K F (g i j) f) (ha : RX K ta ρ O (.int i) O1) (hb : RX K tb ρ O1 (.int j) O2) : RX K (tOp (rI0 g) ta tb) ρ O f O2 :=
  rx_op ha hb fun F H x y Q _ rx ry k => by
    cases rx
    cases ry
    exact ⟨i, j, rfl, rfl, k _ (hg F)⟩
theorem rx_iiC {C : Int → Int → Prop} {g : Int → Int → V} {i j : Int} {f : PyData} (hg : ∀ F, Rp K F (g i j) f) (hc : C i j) (ha : RX K ta ρ O (.int i) O1) (hb : RX K tb ρ O1 (.int j) O2) : RX K (tOp (rI C g) ta tb) ρ O f O2 :=
  rx_op ha hb fun F H x y Q _ rx ry k => by
    cases rx
    cases ry
    exact ⟨i, j, rfl, rfl, hc, k _ (hg F)⟩
variable {i j : Int}
theorem rx_add (ha : RX K ta ρ O (.int i) O1) (hb : RX K tb ρ O1 (.int j) O2) : RX K (tOp (rI0 fun i j => .int (i + j)) ta tb) ρ O (.int (i + j)) O2 := rx_ii (fun _ => .int _) ha hb
theorem rx_sub (ha : RX K ta ρ O (.int i) O1) (hb : RX K tb ρ O1 (.int j) O2) : RX K (tOp (rI0 fun i j => .int (i - j)) ta tb) ρ O (.int (i - j)) O2 := rx_ii (fun _ => .int _) ha hb
theorem rx_band (ha : RX K ta ρ O (.int i) O1) (hb : RX K tb ρ O1 (.int j) O2) : RX K (tOp (rI0 fun i j => .int (Builtin.bitAnd i j)) ta tb) ρ O (.int (Builtin.bitAnd i j)) O2 := rx_ii (fun _ => .int _) ha hb
theorem rx_bor (ha : RX K ta ρ O (.int i) O1) (hb : RX K tb ρ O1 (.int j) O2) : RX K (tOp (rI0 fun i j => .int (Builtin.bitOr i j)) ta tb) ρ O (.int (Builtin.bitOr i j)) O2 := rx_ii (fun _ => .int _) ha hb
theorem rx_bxor (ha : RX K ta ρ O (.int i) O1) (hb : RX K tb ρ O1 (.int j) O2) : RX K (tOp (rI0 fun i j => .int (Builtin.bitXor i j)) ta tb) ρ O (.int (Builtin.bitXor i j)) O2 := rx_ii (fun _ => .int _) ha hb
theorem rx_mul (ha : RX K ta ρ O (.int i) O1) (hb : RX K tb ρ O1 (.int j) O2) (hc : CMul i j) : RX K (tOp (rI CMul fun i j => .int (i * j)) ta tb) ρ O (.int (i * j)) O2 := rx_iiC (fun _ => .int _) hc ha hb
theorem rx_mod (ha : RX K ta ρ O (.int i) O1) (hb : RX K tb ρ O1 (.int j) O2) (hc : 0 < j) : RX K (tOp (rI (fun _ j => 0 < j) fun i j => .int (i % j)) ta tb) ρ O (.int (i % j)) O2 := rx_iiC (C := fun _ j => 0 < j) (fun _ => .int _) hc ha hb
theorem rx_fdiv (ha : RX K ta ρ O (.int i) O1) (hb : RX K tb ρ O1 (.int j) O2) (hc : CDiv i j) : RX K (tOp (rI CDiv fun i j => .int (i / j)) ta tb) ρ O (.int (i / j)) O2 := rx_iiC (fun _ => .int _) hc ha hb
theorem rx_pow (ha : RX K ta ρ O (.int i) O1) (hb : RX K tb ρ O1 (.int j) O2) (hc : CPow i j) : RX K (tOp (rI CPow fun i j => .int (i ^ j.toNat)) ta tb) ρ O (.int (i ^ j.toNat)) O2 := rx_iiC (fun _ => .int _) hc ha hb
theorem rx_shl (ha : RX K ta ρ O (.int i) O1) (hb : RX K tb ρ O1 (.int j) O2) (hc : CPow i j) : RX K (tOp (rI CPow fun i j => .int (i * 2 ^ j.toNat)) ta tb) ρ O (.int (i * 2 ^ j.toNat)) O2 := rx_iiC (fun _ => .int _) hc ha hb
theorem rx_shr (ha : RX K ta ρ O (.int i) O1) (hb : RX K tb ρ O1 (.int j) O2) (hc : 0 ≤ j) : RX K (tOp (rI (fun _ j => 0 ≤ j) fun i j => .int (i / 2 ^ j.toNat)) ta tb) ρ O (.int (i / 2 ^ j.toNat)) O2 := rx_iiC (C := fun _ j => 0 ≤ j) (fun _ => .int _) hc ha hb
theorem rx_lt (ha : RX K ta ρ O (.int i) O1) (hb : RX K tb ρ O1 (.int j) O2) : RX K (tOp (rI0 fun i j => .bl (decide (i < j))) ta tb) ρ O (.bool (decide (i < j))) O2 := rx_ii (fun _ => .bl _) ha hb
theorem rx_le (ha : RX K ta ρ O (.int i) O1) (hb : RX K tb ρ O1 (.int j) O2) : RX K (tOp (rI0 fun i j => .bl (decide (i ≤ j))) ta tb) ρ O (.bool (decide (i ≤ j))) O2 := rx_ii (fun _ => .bl _) ha hb
theorem rx_gt (ha : RX K ta ρ O (.int i) O1) (hb : RX K tb ρ O1 (.int j) O2) : RX K (tOp (rI0 fun i j => .bl (decide (j < i))) ta tb) ρ O (.bool (decide (j < i))) O2 := rx_ii (fun _ => .bl _) ha hb
theorem rx_ge (ha : RX K ta ρ O (.int i) O1) (hb : RX K tb ρ O1 (.int j) O2) : RX K (tOp (rI0 fun i j => .bl (decide (j ≤ i))) ta tb) ρ O (.bool (decide (j ≤ i))) O2 := rx_ii (fun _ => .bl _) ha hb
theorem rx_neg {g : Int → V} {f : PyData} (ha : RX K ta ρ O (.int i) O1) (hg : ∀ F, Rp K F (g i) f) : RX K (tUn (rU g) ta) ρ O f O1 := ⟨fun _ _ _ _ _ _ Q E S k =>
  ha.go E S fun x F1 H1 f1 E1 S1 r1 => by
    cases r1
    exact ⟨i, rfl, k _ _ _ f1 S1 (hg _)⟩⟩
theorem rx_usub (ha : RX K ta ρ O (.int i) O1) : RX K (tUn (rU fun i => .int (-i)) ta) ρ O (.int (-i)) O1 := rx_neg ha fun _ => .int _
theorem rx_inv (ha : RX K ta ρ O (.int i) O1) : RX K (tUn (rU fun i => .int (Builtin.bitNot i)) ta) ρ O (.int (Builtin.bitNot i)) O1 := rx_neg ha fun _ => .int _

/-! ### == -/
/-- kinds whose data == tells apart as Lean's = does; ok: the texts within are texts -/
class EqD (α : Type) [Enc α] [DecidableEq α] where
  ok : α → Bool
  eqv : ∀ x y : α, PyData.eqv (enc x) (enc y) = decide (x = y)
  dp : Nat
  dep : ∀ x : α, (enc x).depth ≤ dp
  lay : ∀ x : α, ok x = true → (enc x).canLay0 = true
theorem eqvAll_map {α : Type} [Enc α] [DecidableEq α] [EqD α] : ∀ xs ys : List α, PyData.eqvAll (xs.map enc) (ys.map enc) = decide (xs = ys)
  | [], [] => by simp [PyData.eqvAll]
  | [], y :: ys => by simp [PyData.eqvAll]
  | x :: xs, [] => by simp [PyData.eqvAll]
  | x :: xs, y :: ys => by
    rw [List.map_cons, List.map_cons, PyData.eqvAll, EqD.eqv, eqvAll_map xs ys]
    rw [Bool.eq_iff_iff]
    simp
end

theorem canLayAll_map {α : Type} [Enc α] [DecidableEq α] [EqD α] : ∀ xs : List α, xs.all EqD.ok = true → PyData.canLayAll0 (xs.map enc) = true
  | [], _ => rfl
  | x :: xs, h => by
    rw [List.all_cons, Bool.and_eq_true] at h
    rw [List.map_cons, PyData.canLayAll0, EqD.lay x h.1, canLayAll_map xs h.2]
    rfl
theorem depthAll_map {α : Type} [Enc α] [DecidableEq α] [EqD α] : ∀ xs : List α, PyData.depthAll (xs.map enc) ≤ EqD.dp α
  | [] => Nat.zero_le _
  | x :: xs => by
    rw [List.map_cons, PyData.depthAll]
    have h1 := EqD.dep x
    have h2 := depthAll_map xs
    omega
instance : EqD Int := ⟨fun _ => true, fun x y => by simp [enc, PyData.eqv, Bool.beq_eq_decide_eq], 0, fun _ => Nat.le_refl _, fun _ _ => rfl⟩
instance : EqD Bool := ⟨fun _ => true, fun x y => by simp [enc, PyData.eqv, Bool.beq_eq_decide_eq], 0, fun _ => Nat.le_refl _, fun _ _ => rfl⟩
instance : EqD Str := ⟨PyData.strOk, fun x y => by simp [enc, PyData.eqv, Bool.beq_eq_decide_eq], 0, fun _ => Nat.le_refl _, fun x h => by simpa [enc, PyData.canLay0] using h⟩
instance {α : Type} [Enc α] [DecidableEq α] [EqD α] : EqD (List α) := ⟨fun xs => xs.all EqD.ok, fun x y => by simp only [enc, PyData.eqv, eqvAll_map], EqD.dp α + 1, fun x => by
  have := depthAll_map x
  simp only [enc, PyData.depth]; omega, fun x h => by
  simp only [enc, PyData.canLay0]
  exact canLayAll_map x h⟩
instance {α : Type} [Enc α] [DecidableEq α] [EqD α] : EqD (Tp α) := ⟨fun xs => xs.l.all EqD.ok, fun x y => by
  simp only [enc, PyData.eqv, eqvAll_map]
  cases x; cases y; simp, EqD.dp α + 1, fun x => by
  have := depthAll_map x.l
  simp only [enc, PyData.depth]; omega, fun x h => by
  simp only [enc, PyData.canLay0]
  exact canLayAll_map x.l h⟩
instance {α β : Type} [Enc α] [DecidableEq α] [EqD α] [Enc β] [DecidableEq β] [EqD β] : EqD (α × β) := ⟨fun p => EqD.ok p.1 && EqD.ok p.2, fun x y => by
  simp only [enc, PyData.eqv, PyData.eqvAll, EqD.eqv, Bool.and_true]
  cases x; cases y; rw [Bool.eq_iff_iff]; simp, max (EqD.dp α) (EqD.dp β) + 1, fun x => by
  have h1 := EqD.dep x.1
  have h2 := EqD.dep x.2
  simp only [enc, PyData.depth, PyData.depthAll] at *; omega, fun x h => by
  rw [Bool.and_eq_true] at h
  simp only [enc, PyData.canLay0, PyData.canLayAll0, Bool.and_true, Bool.and_eq_true]
  exact ⟨EqD.lay _ h.1, EqD.lay _ h.2⟩⟩
instance {α β γ : Type} [Enc α] [DecidableEq α] [EqD α] [Enc β] [DecidableEq β] [EqD β] [Enc γ] [DecidableEq γ] [EqD γ] : EqD (T3 α β γ) := ⟨fun p => EqD.ok p.a && (EqD.ok p.b && EqD.ok p.c), fun x y => by
  simp only [enc, PyData.eqv, PyData.eqvAll, EqD.eqv, Bool.and_true]
  cases x; cases y; rw [Bool.eq_iff_iff]; simp, max (EqD.dp α) (max (EqD.dp β) (EqD.dp γ)) + 1, fun x => by
  have h1 := EqD.dep x.a
  have h2 := EqD.dep x.b
  have h3 := EqD.dep x.c
  simp only [enc, PyData.depth, PyData.depthAll] at *; omega, fun x h => by
  rw [Bool.and_eq_true, Bool.and_eq_true] at h
  simp only [enc, PyData.canLay0, PyData.canLayAll0, Bool.and_true, Bool.and_eq_true]
  exact ⟨EqD.lay _ h.1, EqD.lay _ h.2.1, EqD.lay _ h.2.2⟩⟩
instance {α β γ δ : Type} [Enc α] [DecidableEq α] [EqD α] [Enc β] [DecidableEq β] [EqD β] [Enc γ] [DecidableEq γ] [EqD γ] [Enc δ] [DecidableEq δ] [EqD δ] : EqD (T4 α β γ δ) := ⟨fun p => EqD.ok p.a && (EqD.ok p.b && (EqD.ok p.c && EqD.ok p.d)), fun x y => by
  simp only [enc, PyData.eqv, PyData.eqvAll, EqD.eqv, Bool.and_true]
  cases x; cases y; rw [Bool.eq_iff_iff]; simp, max (EqD.dp α) (max (EqD.dp β) (max (EqD.dp γ) (EqD.dp δ))) + 1, fun x => by
  have h1 := EqD.dep x.a
  have h2 := EqD.dep x.b
  have h3 := EqD.dep x.c
  have h4 := EqD.dep x.d
  simp only [enc, PyData.depth, PyData.depthAll] at *; omega, fun x h => by
  rw [Bool.and_eq_true, Bool.and_eq_true, Bool.and_eq_true] at h
  simp only [enc, PyData.canLay0, PyData.canLayAll0, Bool.and_true, Bool.and_eq_true]
  exact ⟨EqD.lay _ h.1, EqD.lay _ h.2.1, EqD.lay _ h.2.2.1, EqD.lay _ h.2.2.2⟩⟩
instance : EqD (Option Int) := ⟨fun _ => true, fun x y => by cases x <;> cases y <;> simp [enc, encO, PyData.eqv, Bool.beq_eq_decide_eq], 0, fun x => by cases x <;> exact Nat.le_refl _, fun x _ => by cases x <;> rfl⟩

section
variable {K : Fg} {ta tb tc : TE} {ρ : List Sl} {O O1 O2 O3 : Os}
/-- two-place rules that read the whole heap -/
theorem rx_opH {r : R2} {d e f : PyData} (ha : RXh K ta ρ O d O1) (hb : RXh K tb ρ O1 e O1)
    (hr : ∀ (H : Hp) (x y : V) (Q : VK), Rp K H x d → Rp K H y e → (∀ v, (∀ F, Rp K F v f) → Q v H) → r x y H Q) : RX K (tOp r ta tb) ρ O f O1 := ⟨fun _ _ _ _ _ _ Q E S k =>
  ha.go E S fun x F1 H1 f1 E1 S1 r1 => hb.go E1 S1 fun y F2 H2 f2 E2 S2 r2 => hr H2 x y Q (r1 F2 H2 f2 S2) (r2 F2 H2 (Same.refl _) S2) fun v r3 => k v F2 H2 (f1.trans f2) S2 (r3 F2)⟩
theorem rx_eqD {α : Type} [Enc α] [DecidableEq α] [EqD α] {x y : α} (ha : RXh K ta ρ O (enc x) O1) (hb : RXh K tb ρ O1 (enc y) O1) (hd : EqD.dp α ≤ 64) (hx : EqD.ok x = true) (hy : EqD.ok y = true) :
    RX K (tOp (rEqD K) ta tb) ρ O (.bool (decide (x = y))) O1 := rx_opH ha hb fun H u v Q ru rv k => by
  have s : ∀ z : α, EqD.ok z = true → SeqAt.shaped (enc z) = true := fun z h => by
    unfold SeqAt.shaped
    rw [EqD.lay z h, Bool.true_and]
    exact decide_eq_true (Nat.le_trans (EqD.dep z) hd)
  refine ⟨enc x, enc y, ru.dp _ _, rv.dp _ _, s x hx, s y hy, ?_⟩
  rw [EqD.eqv]
  exact k _ fun _ => .bl _
theorem rx_neD {α : Type} [Enc α] [DecidableEq α] [EqD α] {x y : α} (ha : RXh K ta ρ O (enc x) O1) (hb : RXh K tb ρ O1 (enc y) O1) (hd : EqD.dp α ≤ 64) (hx : EqD.ok x = true) (hy : EqD.ok y = true) :
    RX K (tOp (rNeD K) ta tb) ρ O (.bool (!decide (x = y))) O1 := rx_opH ha hb fun H u v Q ru rv k => by
  have s : ∀ z : α, EqD.ok z = true → SeqAt.shaped (enc z) = true := fun z h => by
    unfold SeqAt.shaped
    rw [EqD.lay z h, Bool.true_and]
    exact decide_eq_true (Nat.le_trans (EqD.dep z) hd)
  refine ⟨enc x, enc y, ru.dp _ _, rv.dp _ _, s x hx, s y hy, ?_⟩
  rw [EqD.eqv]
  exact k _ fun _ => .bl _
/-- == of texts -/
theorem rx_eqs {i j : Str} (ha : RX K ta ρ O (.str i) O1) (hb : RX K tb ρ O1 (.str j) O2) : RX K (tOp rEq ta tb) ρ O (.bool (decide (i = j))) O2 := rx_op ha hb fun F H x y Q _ rx ry k => by
  cases rx
  cases ry
  refine ⟨rfl, ?_⟩
  rw [show decide (V.str i = V.str j) = decide (i = j) from by simp]
  exact k _ (.bl _)
theorem rx_nes {i j : Str} (ha : RX K ta ρ O (.str i) O1) (hb : RX K tb ρ O1 (.str j) O2) : RX K (tOp rNe ta tb) ρ O (.bool (!decide (i = j))) O2 := rx_op ha hb fun F H x y Q _ rx ry k => by
  cases rx
  cases ry
  refine ⟨rfl, ?_⟩
  rw [show decide (V.str i = V.str j) = decide (i = j) from by simp]
  exact k _ (.bl _)
theorem rx_eqi {i j : Int} (ha : RX K ta ρ O (.int i) O1) (hb : RX K tb ρ O1 (.int j) O2) : RX K (tOp rEq ta tb) ρ O (.bool (decide (i = j))) O2 := rx_op ha hb fun F H x y Q _ rx ry k => by
  cases rx
  cases ry
  refine ⟨rfl, ?_⟩
  rw [show decide (V.int i = V.int j) = decide (i = j) from by simp]
  exact k _ (.bl _)
theorem rx_nei {i j : Int} (ha : RX K ta ρ O (.int i) O1) (hb : RX K tb ρ O1 (.int j) O2) : RX K (tOp rNe ta tb) ρ O (.bool (!decide (i = j))) O2 := rx_op ha hb fun F H x y Q _ rx ry k => by
  cases rx
  cases ry
  refine ⟨rfl, ?_⟩
  rw [show decide (V.int i = V.int j) = decide (i = j) from by simp]
  exact k _ (.bl _)
theorem rx_eqb {i j : Bool} (ha : RX K ta ρ O (.bool i) O1) (hb : RX K tb ρ O1 (.bool j) O2) : RX K (tOp rEq ta tb) ρ O (.bool (decide (i = j))) O2 := rx_op ha hb fun F H x y Q _ rx ry k => by
  cases rx
  cases ry
  refine ⟨rfl, ?_⟩
  rw [show decide (V.bl i = V.bl j) = decide (i = j) from by simp]
  exact k _ (.bl _)
theorem rx_neb {i j : Bool} (ha : RX K ta ρ O (.bool i) O1) (hb : RX K tb ρ O1 (.bool j) O2) : RX K (tOp rNe ta tb) ρ O (.bool (!decide (i = j))) O2 := rx_op ha hb fun F H x y Q _ rx ry k => by
  cases rx
  cases ry
  refine ⟨rfl, ?_⟩
  rw [show decide (V.bl i = V.bl j) = decide (i = j) from by simp]
  exact k _ (.bl _)
/-- is None of what may be None -/
theorem rx_isN {α : Type} [Enc α] {o : Option α} (hn : ∀ x : α, enc x ≠ .none) (ha : RX K ta ρ O (enc o) O1) : RX K (tIsN ta) ρ O (.bool o.isNone) O1 := ⟨fun _ _ _ _ _ _ Q E S k => ha.go E S fun x F1 H1 f1 E1 S1 r1 => by
  have e : decide (x = V.non) = o.isNone := by
    cases o with
    | none => cases r1; rfl
    | some z =>
      have r1 : Rp K F1 x (enc z) := r1
      refine decide_eq_false fun q => ?_
      subst q
      generalize h : enc z = d at r1
      cases r1
      exact hn z h
  rw [e]
  exact k _ _ _ f1 S1 (.bl _)⟩
theorem rx_notN {α : Type} [Enc α] {o : Option α} (hn : ∀ x : α, enc x ≠ .none) (ha : RX K ta ρ O (enc o) O1) : RX K (tNotN ta) ρ O (.bool o.isSome) O1 := ⟨fun _ _ _ _ _ _ Q E S k => ha.go E S fun x F1 H1 f1 E1 S1 r1 => by
  have e : (!decide (x = V.non)) = o.isSome := by
    cases o with
    | none => cases r1; rfl
    | some z =>
      have r1 : Rp K F1 x (enc z) := r1
      have : decide (x = V.non) = false := decide_eq_false fun q => by
        subst q
        generalize h : enc z = d at r1
        cases r1
        exact hn z h
      rw [this]; rfl
  rw [e]
  exact k _ _ _ f1 S1 (.bl _)⟩
end
end TL

namespace TL
open PySem L2
open Enc
/-! ### displays, arguments -/
section
variable {K : Fg} {ta tb tc : TE} {ρ : List Sl} {O O1 O2 O3 : Os} {t : TA}
theorem ra_nil : RA K tNil ρ O [] O := ⟨fun _ _ _ _ _ _ Q E S k => k _ _ _ (Same.refl _) S .nil⟩
theorem ra_cons {d : PyData} {as : List Sl} (ha : RX K ta ρ O d O1) (hr : RA K t ρ O1 as O2) : RA K (tCons ta t) ρ O (.val d :: as) O2 := ⟨fun _ _ _ _ _ _ Q E S k =>
  ha.go E S fun x F1 H1 f1 E1 S1 r1 => hr.go E1 S1 fun xs F2 H2 f2 E2 S2 r2 => k _ F2 H2 (f1.trans f2) S2 (.val (r1.up f2) r2)⟩
theorem ra_own {i : Nat} {a : Addr} {as : List Sl} (h : ρ[i]? = some (.adr a)) (hr : RA K t ρ O as O2) : RA K (tCons (tVar i) t) ρ O (.adr a :: as) O2 := ⟨fun _ _ _ _ _ _ Q E S k =>
  ⟨_, E.adr h, hr.go E S fun xs F2 H2 f2 E2 S2 r2 => k _ F2 H2 f2 S2 (.adr r2)⟩⟩
theorem rx_tup {ds : List PyData} (h : RA K t ρ O (ds.map .val) O1) (hz : ds.length ≤ 1000 := by exact Nat.le_of_ble_eq_true rfl) : RX K (tTup t) ρ O (.tuple ds) O1 := ⟨fun _ _ _ _ _ _ Q E S k => h.go E S fun vs F1 H1 f1 E1 S1 r1 => by
  have r := r1.all
  have hl := r.length
  have hz' : vs.length ≤ sizeLine := Nat.le_trans (by omega : vs.length ≤ 1000) (by decide)
  refine ⟨hz', fun p hp => ?_⟩
  have f2 := same_upd (o := .tup vs) (S1.nof hp)
  exact k _ _ _ (f1.trans f2) (S1.put hp) (.tup (SqT.of upd_same) hz' (r.up f2))⟩
theorem rxo_lst {ds : List PyData} (h : RA K t ρ O (ds.map .val) O1) (hz : ds.length ≤ 1000 := by exact Nat.le_of_ble_eq_true rfl) : RXo K (tLst t) ρ O ds O1 := ⟨fun _ _ _ _ _ _ Q E S k => h.go E S fun vs F1 H1 f1 E1 S1 r1 => by
  have r := r1.all
  have hl := r.length
  have hz' : vs.length ≤ sizeLine := Nat.le_trans (by omega : vs.length ≤ 1000) (by decide)
  exact ⟨hz', fun p hp => k _ _ _ f1 (S1.mine hp hz' r)⟩⟩

/-! ### calls of built-ins, by values -/
theorem rx_cb1 {r : List V → Hp → VK → Prop} {d f : PyData} (ha : RX K ta ρ O d O1) (hr : ∀ (F H : Hp) (x : V) (Q : VK), Same F H → Rp K F x d → (∀ v, Rp K F v f → Q v H) → r [x] H Q) : RX K (tCB r (tCons ta tNil)) ρ O f O1 := ⟨fun _ _ _ _ _ _ Q E S k =>
  ha.go E S fun x F1 H1 f1 E1 S1 r1 => hr F1 H1 x Q S1.fh r1 fun v r3 => k v F1 H1 f1 S1 r3⟩
theorem rx_cb2 {r : List V → Hp → VK → Prop} {d e f : PyData} (ha : RX K ta ρ O d O1) (hb : RX K tb ρ O1 e O2) (hr : ∀ (F H : Hp) (x y : V) (Q : VK), Same F H → Rp K F x d → Rp K F y e → (∀ v, Rp K F v f → Q v H) → r [x, y] H Q) :
    RX K (tCB r (tCons ta (tCons tb tNil))) ρ O f O2 := ⟨fun _ _ _ _ _ _ Q E S k =>
  ha.go E S fun x F1 H1 f1 E1 S1 r1 => hb.go E1 S1 fun y F2 H2 f2 E2 S2 r2 => hr F2 H2 x y Q S2.fh (r1.up f2) r2 fun v r3 => k v F2 H2 (f1.trans f2) S2 r3⟩
/-- over a list that is read -/
theorem rx_cbs {r : List V → Hp → VK → Prop} {ds : List PyData} {f : PyData} (ha : RXs K ta ρ O ds O1)
    (hr : ∀ (F H : Hp) (a : Addr) (vs : List V) (Q : VK), Same F H → SqL K H a vs → vs.length ≤ sizeLine → RpAll K F vs ds → (∀ v, (∀ F, Rp K F v f) → Q v H) → r [.ref a] H Q) : RX K (tCB r (tCons ta tNil)) ρ O f O1 := ⟨fun _ _ _ _ _ _ Q E S k =>
  ha.go E S fun a F1 H1 f1 E1 S1 r1 => by
    obtain ⟨vs, q1, q2, q3⟩ := r1 F1 H1 (Same.refl _) S1
    exact hr F1 H1 a vs Q S1.fh q1 q2 q3 fun v r3 => k v F1 H1 f1 S1 (r3 F1)⟩
abbrev rLenQ (K : Fg) : List V → Hp → VK → Prop := fun xs H Q => ∃ p ys, xs = [.ref p] ∧ (SqL K H p ys ∨ SqT K H p ys) ∧ Q (.int ys.length) H
theorem rx_len {ds : List PyData} (ha : RXs K ta ρ O ds O1) : RX K (tCB (rLenQ K) (tCons ta tNil)) ρ O (.int (ds.length : Nat)) O1 := rx_cbs ha fun F H a vs Q _ h1 h2 h3 k =>
  ⟨a, vs, rfl, .inl h1, by rw [h3.length]; exact k _ fun _ => .int _⟩
theorem rx_lenT {ds : List PyData} (ha : RX K ta ρ O (.tuple ds) O1) : RX K (tCB (rLenQ K) (tCons ta tNil)) ρ O (.int (ds.length : Nat)) O1 := rx_cb1 ha fun F H x Q f r k => by
  cases r with
  | tup h1 h2 h3 => exact ⟨_, _, rfl, .inr (same_t f h1), by rw [h3.length]; exact k _ (.int _)⟩
theorem rx_lenS {z : Str} (ha : RX K ta ρ O (.str z) O1) (hz : z.length ≤ sizeLine) : RX K (tCB (fun xs H Q => ∃ z, xs = [.str z] ∧ z.length ≤ sizeLine ∧ Q (.int z.length) H) (tCons ta tNil)) ρ O (.int z.length) O1 := rx_cb1 ha fun F H x Q f r k => by
  cases r
  exact ⟨_, rfl, hz, k _ (.int _)⟩
theorem rx_sum {ns : List Int} (ha : RXs K ta ρ O (ns.map .int) O1) : RX K (tCB (rSum K) (tCons ta tNil)) ρ O (.int ns.sum) O1 := rx_cbs ha fun F H a vs Q _ h1 h2 h3 k =>
  ⟨a, ns, rfl, (by rw [← h3.ints]; exact h1), k _ fun _ => .int _⟩
theorem rx_all {ns : List Bool} (ha : RXs K ta ρ O (ns.map .bool) O1) : RX K (tCB (rAll K) (tCons ta tNil)) ρ O (.bool (ns.all id)) O1 := rx_cbs ha fun F H a vs Q _ h1 h2 h3 k =>
  ⟨a, ns, rfl, (by rw [← h3.bools]; exact h1), k _ fun _ => .bl _⟩
def maxO (ns : List Int) : Option Int := ns.max?
def minO (ns : List Int) : Option Int := ns.min?
theorem rx_max {ns : List Int} {m : Int} (hm : maxO ns = some m) (ha : RXs K ta ρ O (ns.map .int) O1) : RX K (tCB (rMax K) (tCons ta tNil)) ρ O (.int m) O1 := rx_cbs ha fun F H a vs Q _ h1 h2 h3 k => by
  have hm' : ns.max? = some m := hm
  rw [List.max?_eq_some_iff] at hm'
  refine ⟨a, ns, rfl, (by rw [← h3.ints]; exact h1), ?_, fun m' h4 h5 => ?_⟩
  · cases ns with
    | nil => simp at hm'
    | cons _ _ => exact Nat.succ_pos _
  · have e : m' = m := Int.le_antisymm (hm'.2 _ h4) (h5 _ hm'.1)
    subst e
    exact k _ fun _ => .int _
theorem rx_min {ns : List Int} {m : Int} (hm : minO ns = some m) (ha : RXs K ta ρ O (ns.map .int) O1) : RX K (tCB (rMin K) (tCons ta tNil)) ρ O (.int m) O1 := rx_cbs ha fun F H a vs Q _ h1 h2 h3 k => by
  have hm' : ns.min? = some m := hm
  rw [List.min?_eq_some_iff] at hm'
  refine ⟨a, ns, rfl, (by rw [← h3.ints]; exact h1), ?_, fun m' h4 h5 => ?_⟩
  · cases ns with
    | nil => simp at hm'
    | cons _ _ => exact Nat.succ_pos _
  · have e : m' = m := Int.le_antisymm (h5 _ hm'.1) (hm'.2 _ h4)
    subst e
    exact k _ fun _ => .int _
def max2 (i j : Int) : Int := if j > i then j else i
def min2 (i j : Int) : Int := if j < i then j else i
def abs1 (i : Int) : Int := if i < 0 then -i else i
theorem rx_max2 {i j : Int} (ha : RX K ta ρ O (.int i) O1) (hb : RX K tb ρ O1 (.int j) O2) : RX K (tCB (fun xs H Q => ∃ i j, xs = [.int i, .int j] ∧ Q (.int (if j > i then j else i)) H) (tCons ta (tCons tb tNil))) ρ O (.int (max2 i j)) O2 := rx_cb2 ha hb fun F H x y Q f r s k => by
  cases r
  cases s
  exact ⟨i, j, rfl, k _ (.int _)⟩
theorem rx_min2 {i j : Int} (ha : RX K ta ρ O (.int i) O1) (hb : RX K tb ρ O1 (.int j) O2) : RX K (tCB (fun xs H Q => ∃ i j, xs = [.int i, .int j] ∧ Q (.int (if j < i then j else i)) H) (tCons ta (tCons tb tNil))) ρ O (.int (min2 i j)) O2 := rx_cb2 ha hb fun F H x y Q f r s k => by
  cases r
  cases s
  exact ⟨i, j, rfl, k _ (.int _)⟩
theorem rx_abs {i : Int} (ha : RX K ta ρ O (.int i) O1) : RX K (tCB (fun xs H Q => ∃ i, xs = [.int i] ∧ Q (.int (if i < 0 then -i else i)) H) (tCons ta tNil)) ρ O (.int (abs1 i)) O1 := rx_cb1 ha fun F H x Q f r k => by
  cases r
  exact ⟨i, rfl, k _ (.int _)⟩

/-! ### items -/
theorem atI_map {α β : Type} (f : α → β) {xs : List α} {i : Int} {x : α} (h : atI xs i = some x) : atI (xs.map f) i = some (f x) := by
  unfold atI at h ⊢
  rw [List.length_map]
  cases e : ixN xs.length i with
  | none => rw [e] at h; simp at h
  | some j =>
    rw [e] at h
    simp only [Option.bind_some] at h ⊢
    rw [List.getElem?_map, h]
    rfl
theorem RpAll.atI {K : Fg} {F : Hp} {vs : List V} {ds : List PyData} (r : RpAll K F vs ds) {i : Int} {d : PyData} (h : L2.atI ds i = some d) : ∃ v, L2.atI vs i = some v ∧ Rp K F v d := by
  unfold L2.atI at h ⊢
  rw [r.length]
  cases e : ixN ds.length i with
  | none => rw [e] at h; simp at h
  | some j =>
    rw [e] at h
    simp only [Option.bind_some] at h ⊢
    exact r.get h
theorem rx_ix {ds : List PyData} {i : Int} {d : PyData} (h : atI ds i = some d) (ha : RXs K ta ρ O ds O1) (hb : RX K tb ρ O1 (.int i) O1) : RX K (tOp (rIxL K) ta tb) ρ O d O1 := ⟨fun _ _ _ _ _ _ Q E S k =>
  ha.go E S fun a F1 H1 f1 E1 S1 r1 => hb.go E1 S1 fun y F2 H2 f2 E2 S2 r2 => by
    cases r2
    obtain ⟨vs, q1, q2, q3⟩ := r1 F2 H2 f2 S2
    obtain ⟨v, e, r⟩ := q3.atI h
    exact ⟨a, vs, i, v, rfl, rfl, q1, e, k v F2 H2 (f1.trans f2) S2 r⟩⟩
/-- a list just made, its place reckoned with changes -/
theorem rx_ixF {ds : List PyData} {i : Int} {d : PyData} (h : atI ds i = some d) (ha : RX K ta ρ O (.list ds) O1) (hb : RX K tb ρ O1 (.int i) O2) : RX K (tOp (rIxL K) ta tb) ρ O d O2 := ⟨fun _ _ _ _ _ _ Q E S k =>
  ha.go E S fun x F1 H1 f1 E1 S1 r1 => hb.go E1 S1 fun y F2 H2 f2 E2 S2 r2 => by
    cases r2
    have r1' := r1.up f2
    cases r1' with
    | lst q1 q2 q3 =>
      obtain ⟨v, e, r⟩ := q3.atI h
      exact ⟨_, _, i, v, rfl, rfl, S2.fh.seq q1, e, k v F2 H2 (f1.trans f2) S2 r⟩⟩
theorem rx_ixT {ds : List PyData} {i : Int} {d : PyData} (h : atI ds i = some d) (ha : RX K ta ρ O (.tuple ds) O1) (hb : RX K tb ρ O1 (.int i) O2) : RX K (tOp (rIxT K) ta tb) ρ O d O2 := ⟨fun _ _ _ _ _ _ Q E S k =>
  ha.go E S fun x F1 H1 f1 E1 S1 r1 => hb.go E1 S1 fun y F2 H2 f2 E2 S2 r2 => by
    cases r2
    have r1' := r1.up f2
    cases r1' with
    | tup q1 q2 q3 =>
      obtain ⟨v, e, r⟩ := q3.atI h
      exact ⟨_, _, i, v, rfl, rfl, same_t S2.fh q1, e, k v F2 H2 (f1.trans f2) S2 r⟩⟩
def signAt (z : Str) (i : Int) : Option Str := if z.length ≤ sizeLine then (atI z.cps.toList i).map fun c => ⟨#[c]⟩ else none
theorem rx_ixS {z : Str} {i : Int} {c : Str} (h : signAt z i = some c) (ha : RX K ta ρ O (.str z) O1) (hb : RX K tb ρ O1 (.int i) O2) : RX K (tOp rIxS ta tb) ρ O (.str c) O2 := rx_op ha hb fun F H x y Q f r s k => by
  cases r
  cases s
  unfold signAt at h
  split at h
  · rename_i hz
    cases e : atI z.cps.toList i with
    | none => rw [e] at h; cases h
    | some n =>
      rw [e] at h
      cases h
      exact ⟨z, i, n, rfl, rfl, hz, e, k _ (.str _)⟩
  · cases h

/-! ### in -/
theorem inV_ints (x : Int) (xs : List Int) : inV (.int x) (xs.map V.int) = decide (x ∈ xs) := by
  induction xs with
  | nil => rfl
  | cons a xs ih =>
    show (eqV (.int a) (.int x) || inV (.int x) (xs.map V.int)) = _
    rw [ih, show eqV (.int a) (.int x) = (a == x) from rfl, Bool.eq_iff_iff]
    simp only [Bool.or_eq_true, beq_iff_eq, decide_eq_true_eq, List.mem_cons]
    exact ⟨fun h => h.imp Eq.symm id, fun h => h.imp Eq.symm id⟩
theorem flat_ints (xs : List Int) : (xs.map V.int).all flatV = true := by simp [flatV]
theorem inV_strs (x : Str) (xs : List Str) : inV (.str x) (xs.map V.str) = decide (x ∈ xs) := by
  induction xs with
  | nil => rfl
  | cons a xs ih =>
    show (eqV (.str a) (.str x) || inV (.str x) (xs.map V.str)) = _
    rw [ih, show eqV (.str a) (.str x) = (a == x) from rfl, Bool.eq_iff_iff]
    simp only [Bool.or_eq_true, beq_iff_eq, decide_eq_true_eq, List.mem_cons]
    exact ⟨fun h => h.imp Eq.symm id, fun h => h.imp Eq.symm id⟩
theorem flat_strs (xs : List Str) : (xs.map V.str).all flatV = true := by simp [flatV]
theorem rx_inI {x : Int} {xs : List Int} {neg : Bool} (ha : RX K ta ρ O (.int x) O1) (hb : RXs K tb ρ O1 (xs.map .int) O2) : RX K (tOp (rIn K neg) ta tb) ρ O (.bool (if neg then !decide (x ∈ xs) else decide (x ∈ xs))) O2 := ⟨fun _ _ _ _ _ _ Q E S k =>
  ha.go E S fun v F1 H1 f1 E1 S1 r1 => hb.go E1 S1 fun a F2 H2 f2 E2 S2 r2 => by
    cases r1
    obtain ⟨vs, q1, q2, q3⟩ := r2 F2 H2 (Same.refl _) S2
    have e := q3.ints
    subst e
    refine ⟨a, _, rfl, .inl q1, rfl, flat_ints xs, ?_⟩
    rw [inV_ints]
    exact k _ F2 H2 (f1.trans f2) S2 (.bl _)⟩
theorem rx_inS {x : Str} {xs : List Str} {neg : Bool} (ha : RX K ta ρ O (.str x) O1) (hb : RXs K tb ρ O1 (xs.map .str) O2) : RX K (tOp (rIn K neg) ta tb) ρ O (.bool (if neg then !decide (x ∈ xs) else decide (x ∈ xs))) O2 := ⟨fun _ _ _ _ _ _ Q E S k =>
  ha.go E S fun v F1 H1 f1 E1 S1 r1 => hb.go E1 S1 fun a F2 H2 f2 E2 S2 r2 => by
    cases r1
    obtain ⟨vs, q1, q2, q3⟩ := r2 F2 H2 (Same.refl _) S2
    have e := q3.strs
    subst e
    refine ⟨a, _, rfl, .inl q1, rfl, flat_strs xs, ?_⟩
    rw [inV_strs]
    exact k _ F2 H2 (f1.trans f2) S2 (.bl _)⟩
theorem rx_inIT {x : Int} {xs : List Int} {neg : Bool} (ha : RX K ta ρ O (.int x) O1) (hb : RX K tb ρ O1 (.tuple (xs.map .int)) O2) : RX K (tOp (rIn K neg) ta tb) ρ O (.bool (if neg then !decide (x ∈ xs) else decide (x ∈ xs))) O2 := rx_op ha hb fun F H u v Q f r s k => by
  cases r
  cases s with
  | tup q1 q2 q3 =>
    have e := q3.ints
    subst e
    refine ⟨_, _, rfl, .inr (same_t f q1), rfl, flat_ints xs, ?_⟩
    rw [inV_ints]
    exact k _ (.bl _)
theorem rx_inST {x : Str} {xs : List Str} {neg : Bool} (ha : RX K ta ρ O (.str x) O1) (hb : RX K tb ρ O1 (.tuple (xs.map .str)) O2) : RX K (tOp (rIn K neg) ta tb) ρ O (.bool (if neg then !decide (x ∈ xs) else decide (x ∈ xs))) O2 := rx_op ha hb fun F H u v Q f r s k => by
  cases r
  cases s with
  | tup q1 q2 q3 =>
    have e := q3.strs
    subst e
    refine ⟨_, _, rfl, .inr (same_t f q1), rfl, flat_strs xs, ?_⟩
    rw [inV_strs]
    exact k _ (.bl _)

/-! ### slices -/
theorem ro_none : RO K tNoPart ρ O none O := ⟨fun _ _ _ _ _ _ Q E S k => k _ _ (Same.refl _) S⟩
theorem ro_some {i : Int} (h : RX K ta ρ O (.int i) O1) : RO K (tPart ta) ρ O (some i) O1 := ⟨fun _ _ _ _ _ _ Q E S k => h.go E S fun x F1 H1 f1 E1 S1 r1 => by
  cases r1
  exact ⟨i, rfl, k _ _ f1 S1⟩⟩
def cutL {α : Type} (xs : List α) (lo hi : Option Int) : List α := (xs.drop (HT.sIx xs.length 0 lo)).take (HT.sIx xs.length xs.length hi - HT.sIx xs.length 0 lo)
theorem cutL_map {α β : Type} (f : α → β) (xs : List α) (lo hi : Option Int) : (cutL xs lo hi).map f = cutL (xs.map f) lo hi := by
  unfold cutL
  rw [List.map_take, List.map_drop, List.length_map]
theorem RpAll.cut {K : Fg} {F : Hp} {vs : List V} {ds : List PyData} (r : RpAll K F vs ds) (lo hi : Option Int) : RpAll K F (cutV vs lo hi) (cutL ds lo hi) := by
  unfold cutV cutL
  rw [r.length]
  exact (r.drop _).take _
theorem rxo_slice {ds : List PyData} {tl th : TO} {lo hi : Option Int} (ha : RXs K ta ρ O ds O1) (hl : RO K tl ρ O1 lo O1) (hh : RO K th ρ O1 hi O1) : RXo K (tSl (rSlL K) ta tl th) ρ O (cutL ds lo hi) O1 := ⟨fun _ _ _ _ _ _ Q E S k =>
  ha.go E S fun a F1 H1 f1 E1 S1 r1 => hl.go E1 S1 fun F2 H2 f2 E2 S2 => hh.go E2 S2 fun F3 H3 f3 E3 S3 => by
    obtain ⟨vs, q1, q2, q3⟩ := r1 F3 H3 (f2.trans f3) S3
    exact ⟨a, vs, rfl, q1, fun p hp => k p F3 _ ((f1.trans f2).trans f3) (S3.mine hp (Nat.le_trans (cutV_length _ _ _) q2) (q3.cut lo hi))⟩⟩
/-- .. its bounds reckoned with changes -/
theorem rxo_sliceF {ds : List PyData} {tl th : TO} {lo hi : Option Int} (ha : RX K ta ρ O (.list ds) O1) (hl : RO K tl ρ O1 lo O2) (hh : RO K th ρ O2 hi O3) : RXo K (tSl (rSlL K) ta tl th) ρ O (cutL ds lo hi) O3 := ⟨fun _ _ _ _ _ _ Q E S k =>
  ha.go E S fun x F1 H1 f1 E1 S1 r1 => hl.go E1 S1 fun F2 H2 f2 E2 S2 => hh.go E2 S2 fun F3 H3 f3 E3 S3 => by
    have r1' := r1.up (f2.trans f3)
    cases r1' with
    | lst q1 q2 q3 => exact ⟨_, _, rfl, S3.fh.seq q1, fun p hp => k p F3 _ ((f1.trans f2).trans f3) (S3.mine hp (Nat.le_trans (cutV_length _ _ _) q2) (q3.cut lo hi))⟩⟩
theorem rxo_rev {ds : List PyData} (ha : RXs K ta ρ O ds O1) : RXo K (tRevL K ta) ρ O ds.reverse O1 := ⟨fun _ _ _ _ _ _ Q E S k =>
  ha.go E S fun a F1 H1 f1 E1 S1 r1 => by
    obtain ⟨vs, q1, q2, q3⟩ := r1 F1 H1 (Same.refl _) S1
    exact ⟨a, vs, rfl, q1, fun p hp => k p F1 _ f1 (S1.mine hp (by rw [List.length_reverse]; exact q2) q3.reverse)⟩⟩
theorem cutV_whole {α : Type} (xs : List α) {lo hi : Option Int} (h : HT.sIx xs.length 0 lo = 0 ∧ HT.sIx xs.length xs.length hi = xs.length) : cutL xs lo hi = xs := by
  unfold cutL
  rw [h.1, h.2]
  simp
theorem rx_sliceT {ds : List PyData} {tl th : TO} {lo hi : Option Int} (ha : RX K ta ρ O (.tuple ds) O1) (hl : RO K tl ρ O1 lo O2) (hh : RO K th ρ O2 hi O3) : RX K (tSl (rSlA K) ta tl th) ρ O (.tuple (cutL ds lo hi)) O3 := ⟨fun _ _ _ _ _ _ Q E S k =>
  ha.go E S fun x F1 H1 f1 E1 S1 r1 => hl.go E1 S1 fun F2 H2 f2 E2 S2 => hh.go E2 S2 fun F3 H3 f3 E3 S3 => by
    have r1' := r1.up (f2.trans f3)
    cases r1' with
    | @tup _ xs _ q1 q2 q3 =>
      refine ⟨_, _, rfl, same_t S3.fh q1, fun hw => ?_, fun _ p hp => ?_⟩
      · rw [cutV_whole ds (by rw [← q3.length]; exact hw)] at k
        exact k _ F3 _ ((f1.trans f2).trans f3) S3 (.tup q1 q2 q3)
      · have f4 := same_upd (o := .tup (cutV xs lo hi)) (S3.nof hp)
        exact k _ _ _ (((f1.trans f2).trans f3).trans f4) (S3.put hp) (.tup (SqT.of upd_same) (Nat.le_trans (cutV_length _ _ _) q2) ((q3.cut lo hi).up f4))⟩

/-! ### list(), tuple(), + -/
abbrev rListOf (K : Fg) : List V → Hp → VK → Prop := fun xs H Q => ∃ p ys, xs = [.ref p] ∧ (SqL K H p ys ∨ SqT K H p ys) ∧ ∀ l, H l = none → Q (.ref l) (upd H l (.lst ys))
theorem rxo_list {ds : List PyData} (ha : RXs K ta ρ O ds O1) : RXo K (tCB (rListOf K) (tCons ta tNil)) ρ O ds O1 := ⟨fun _ _ _ _ _ _ Q E S k =>
  ha.go E S fun a F1 H1 f1 E1 S1 r1 => by
    obtain ⟨vs, q1, q2, q3⟩ := r1 F1 H1 (Same.refl _) S1
    exact ⟨a, vs, rfl, .inl q1, fun p hp => k p F1 _ f1 (S1.mine hp q2 q3)⟩⟩
theorem rxo_listT {ds : List PyData} (ha : RX K ta ρ O (.tuple ds) O1) : RXo K (tCB (rListOf K) (tCons ta tNil)) ρ O ds O1 := ⟨fun _ _ _ _ _ _ Q E S k =>
  ha.go E S fun x F1 H1 f1 E1 S1 r1 => by
    cases r1 with
    | tup q1 q2 q3 => exact ⟨_, _, rfl, .inr (same_t S1.fh q1), fun p hp => k p F1 _ f1 (S1.mine hp q2 q3)⟩⟩
abbrev rTupleOf (K : Fg) : List V → Hp → VK → Prop := fun xs H Q => ∃ p ys, xs = [.ref p] ∧ ((SqL K H p ys ∧ ∀ l, H l = none → Q (.ref l) (upd H l (.tup ys))) ∨ (SqT K H p ys ∧ Q (.ref p) H))
theorem rx_tuple {ds : List PyData} (ha : RXs K ta ρ O ds O1) : RX K (tCB (rTupleOf K) (tCons ta tNil)) ρ O (.tuple ds) O1 := ⟨fun _ _ _ _ _ _ Q E S k =>
  ha.go E S fun a F1 H1 f1 E1 S1 r1 => by
    obtain ⟨vs, q1, q2, q3⟩ := r1 F1 H1 (Same.refl _) S1
    refine ⟨a, vs, rfl, .inl ⟨q1, fun p hp => ?_⟩⟩
    have f2 := same_upd (o := .tup vs) (S1.nof hp)
    exact k _ _ _ (f1.trans f2) (S1.put hp) (.tup (SqT.of upd_same) q2 (q3.up f2))⟩
/-- lists of any making -/
def rCatR (K : Fg) : R2 := fun x y H Q => ∃ l b xs zs, x = .ref l ∧ y = .ref b ∧ SqL K H l xs ∧ SqL K H b zs ∧ xs.length + zs.length ≤ sizeLine ∧ ∀ p, H p = none → Q (.ref p) (upd H p (.lst (xs ++ zs)))
theorem op_catR {X : Cx} : OpR X (binaryOp .Add) (rCatR X.K) := by
  intro pins s σ H x y v u Q I rx ry h
  obtain ⟨l, b, xs, zs, rfl, rfl, hH, hB, hz, q⟩ := h
  cases rx
  cases ry
  obtain ⟨its, r, ⟨⟨cls, dd, data, sl⟩, n, ho, hc, hd, hx⟩, z⟩ := I.list hH
  obtain ⟨its2, r2, ⟨⟨cls2, dd2, data2, sl2⟩, n2, ho2, hc2, hd2, hx2⟩, z2⟩ := I.list hB
  have hl := r.length
  have hl2 := r2.length
  simp only at hc hd hx hc2 hd2 hx2
  subst hc hx hc2 hx2
  have e : its.toArray ++ its2.toArray = (its ++ its2).toArray := by simp
  refine concat_meets ⟨_, ho, rfl⟩ ⟨_, ho2, rfl⟩ noFill_list_add seq_list_add PySem.F.slot_list_add PySem.F.entry_list_add (PySem.F.args_list_add_2 _ _)
    (PyProof.Rows.list_addW l b its.toArray its2.toArray n n2 dd dd2 sl sl2 (by rw [List.size_toArray, List.size_toArray]; omega)) ⟨ho, ho2, ?_⟩
  rw [e]
  exact ⟨.ref _, _, I.lnew (t' := s.toks) (r.append r2) (by rw [List.length_append]; omega), rfl, q _ I.fresh⟩
theorem rxo_cat {ds es : List PyData} (ha : RXs K ta ρ O ds O1) (hb : RXs K tb ρ O1 es O1) (hz : ds.length + es.length ≤ sizeLine) : RXo K (tOp (rCatR K) ta tb) ρ O (ds ++ es) O1 := ⟨fun _ _ _ _ _ _ Q E S k =>
  ha.go E S fun a F1 H1 f1 E1 S1 r1 => hb.go E1 S1 fun b F2 H2 f2 E2 S2 r2 => by
    obtain ⟨vs, q1, q2, q3⟩ := r1 F2 H2 f2 S2
    obtain ⟨ws, p1, p2, p3⟩ := r2 F2 H2 (Same.refl _) S2
    have e1 := q3.length
    have e2 := p3.length
    exact ⟨a, b, vs, ws, rfl, rfl, q1, p1, by omega, fun p hp => k p F2 _ (f1.trans f2) (S2.mine hp (by rw [List.length_append]; omega) (q3.append p3))⟩⟩
theorem rxo_catF {ds es : List PyData} (ha : RX K ta ρ O (.list ds) O1) (hb : RX K tb ρ O1 (.list es) O2) (hz : ds.length + es.length ≤ sizeLine) : RXo K (tOp (rCatR K) ta tb) ρ O (ds ++ es) O2 := ⟨fun _ _ _ _ _ _ Q E S k =>
  ha.go E S fun x F1 H1 f1 E1 S1 r1 => hb.go E1 S1 fun y F2 H2 f2 E2 S2 r2 => by
    have r1' := r1.up f2
    cases r1' with
    | lst q1 q2 q3 =>
      cases r2 with
      | lst p1 p2 p3 =>
        have e1 := q3.length
        have e2 := p3.length
        exact ⟨_, _, _, _, rfl, rfl, S2.fh.seq q1, S2.fh.seq p1, by omega, fun p hp => k p F2 _ (f1.trans f2) (S2.mine hp (by rw [List.length_append]; omega) (q3.append p3))⟩⟩
theorem rx_catT {ds es : List PyData} (ha : RX K ta ρ O (.tuple ds) O1) (hb : RX K tb ρ O1 (.tuple es) O2) (hz : ds.length + es.length ≤ sizeLine) : RX K (tOp (rCatA K) ta tb) ρ O (.tuple (ds ++ es)) O2 := ⟨fun _ _ _ _ _ _ Q E S k =>
  ha.go E S fun x F1 H1 f1 E1 S1 r1 => hb.go E1 S1 fun y F2 H2 f2 E2 S2 r2 => by
    have r1' := r1.up f2
    cases r1' with
    | @tup _ xs _ q1 q2 q3 =>
      cases r2 with
      | @tup _ ys _ p1 p2 p3 =>
        have e1 := q3.length
        have e2 := p3.length
        refine ⟨_, _, _, _, rfl, rfl, same_t S2.fh q1, same_t S2.fh p1, by omega, fun e => ?_, fun _ e => ?_, fun _ _ p hp => ?_⟩
        · subst e
          cases q3
          exact k _ F2 _ (f1.trans f2) S2 (.tup p1 p2 p3)
        · subst e
          cases p3
          rw [List.append_nil] at k
          exact k _ F2 _ (f1.trans f2) S2 (.tup q1 q2 q3)
        · have f3 := same_upd (o := .tup (xs ++ ys)) (S2.nof hp)
          exact k _ _ _ ((f1.trans f2).trans f3) (S2.put hp) (.tup (SqT.of upd_same) (by rw [List.length_append]; omega) ((q3.append p3).up f3))⟩
/-- list * int, the list just made -/
theorem rxo_rep {ds : List PyData} {i : Int} (ha : RXo K ta ρ O ds O1) (hb : ∀ p, RX K tb ρ (⟨p, true, ds⟩ :: O1) (.int i) (⟨p, true, ds⟩ :: O1)) (hz : ds.length * i.toNat ≤ sizeLine) (hi : -(2 ^ 63) ≤ i ∧ i < 2 ^ 63) :
    RXo K (tOp rRep ta tb) ρ O (List.replicate i.toNat ds).flatten O1 := ⟨fun _ _ _ _ _ _ Q E S k =>
  ha.go E S fun l F1 H1 f1 E1 S1 => (hb l).go E1 S1 fun y F2 H2 f2 E2 S2 r2 => by
    cases r2
    obtain ⟨_, _, _, vs, g4, g5, g6⟩ := S2.get (j := 0) (q := ⟨l, true, ds⟩) rfl
    have g4 : H2 l = some (.lst vs) := g4
    have e1 : vs.length = ds.length := RpAll.length g6
    have S3 : Hx K _ _ _ F2 O1 H2 := ⟨S2.f0, S2.fh, S2.keep, S2.live, S2.new, fun p hp => S2.own p (List.mem_cons_of_mem _ hp), (List.nodup_cons.mp S2.nd).2⟩
    exact ⟨l, i, vs, rfl, rfl, g4, hi.1, hi.2, by rw [e1]; exact hz, fun p hp => k p F2 _ (f1.trans f2) (S3.mine hp (by simp only [List.length_flatten, List.map_replicate, List.sum_replicate_nat]; rw [e1, Nat.mul_comm]; exact hz) (RpAll.rep g6 _))⟩⟩
end
end TL

namespace TL
open PySem L2
open Enc
theorem Hx.drop {K : Fg} {F0 H0 F H : Hp} {D0 : List Addr} {O : Os} (S : Hx K F0 H0 D0 F O H) (j : Nat) : Hx K F0 H0 D0 F (O.eraseIdx j) H :=
  ⟨S.f0, S.fh, S.keep, S.live, S.new, fun p hp => S.own p (List.mem_of_mem_eraseIdx hp), S.nd.sublist ((List.eraseIdx_sublist O j).map OE.a)⟩
/-- a thing that is made and not looked at again -/
theorem Hx.junk {K : Fg} {F0 H0 F H : Hp} {D0 : List Addr} {O : Os} (S : Hx K F0 H0 D0 F O H) {p : Addr} {o : HO} (h : H p = none) : Hx K F0 H0 D0 F O (upd H p o) := by
  refine ⟨S.f0, S.fh.trans (same_upd h), fun a u e n => ?_, fun a u e => ?_, S.new, fun q hq => ?_, S.nd⟩
  · have := S.keep a u e n
    rw [upd_ne (ne_of_none this h)]
    exact this
  · obtain ⟨u', e'⟩ := S.live a u e
    exact ⟨u', by rw [upd_ne (ne_of_none e' h)]; exact e'⟩
  · obtain ⟨h1, h2, h3, vs', h4, h5, h6⟩ := S.own q hq
    exact ⟨h1, h2, h3, vs', by rw [upd_ne (ne_of_none h4 h)]; exact h4, h5, h6⟩
section
variable {K : Fg} {ta tb tc : TE} {ρ : List Sl} {O O1 O2 O3 : Os} {t : TA} {tt tu : TT}
/-! ### tests, truth values -/
theorem rt_val {b : Bool} (h : RX K ta ρ O (.bool b) O1) : RT K (tTest ta) ρ O b O1 := ⟨fun _ _ _ _ _ _ Q E S k => h.go E S fun x F1 H1 f1 E1 S1 r1 => by
  cases r1
  exact ⟨b, rfl, k F1 H1 f1 S1⟩⟩
theorem rt_b {b : Bool} (h : RX K ta ρ O (.bool b) O1) : RT K (tB ta) ρ O b O1 := ⟨fun _ _ _ _ _ _ Q E S k => h.go E S fun x F1 H1 f1 E1 S1 r1 => by
  cases r1
  exact ⟨b, rfl, k F1 H1 f1 S1⟩⟩
theorem rt_and {a c : Bool} (ha : RT K tt ρ O a O1) (h1 : a = true → RT K tu ρ O1 c O2) (h0 : a = false → c = false ∧ O2 = O1) : RT K (tAnd tt tu) ρ O c O2 := ⟨fun _ _ _ _ _ _ Q E S k => ha.go E S fun F1 H1 f1 E1 S1 => by
  cases a with
  | true =>
    have r := h1 rfl
    exact iteT (r.go E1 S1 fun F2 H2 f2 E2 S2 => k F2 H2 (f1.trans f2) S2)
  | false =>
    obtain ⟨e, e2⟩ := h0 rfl
    subst e
    subst e2
    exact iteF (k F1 H1 f1 S1)⟩
theorem rt_or {a c : Bool} (ha : RT K tt ρ O a O1) (h1 : a = false → RT K tu ρ O1 c O2) (h0 : a = true → c = true ∧ O2 = O1) : RT K (tOr tt tu) ρ O c O2 := ⟨fun _ _ _ _ _ _ Q E S k => ha.go E S fun F1 H1 f1 E1 S1 => by
  cases a with
  | false =>
    have r := h1 rfl
    exact iteF (r.go E1 S1 fun F2 H2 f2 E2 S2 => k F2 H2 (f1.trans f2) S2)
  | true =>
    obtain ⟨e, e2⟩ := h0 rfl
    subst e
    subst e2
    exact iteT (k F1 H1 f1 S1)⟩
theorem rt_and2 {a b : Bool} (ha : RT K tt ρ O a O) (hb : RT K tu ρ O b O) : RT K (tAnd tt tu) ρ O (a && b) O := rt_and ha (fun e => by rw [e]; exact hb) fun e => ⟨by rw [e]; rfl, rfl⟩
theorem rt_or2 {a b : Bool} (ha : RT K tt ρ O a O) (hb : RT K tu ρ O b O) : RT K (tOr tt tu) ρ O (a || b) O := rt_or ha (fun e => by rw [e]; exact hb) fun e => ⟨by rw [e]; rfl, rfl⟩
theorem rt_not {a : Bool} (ha : RT K tt ρ O a O1) : RT K (tNot tt) ρ O (!a) O1 := ⟨fun _ _ _ _ _ _ Q E S k => ha.go E S fun F1 H1 f1 E1 S1 => k F1 H1 f1 S1⟩
theorem rx_and {a c : Bool} (ha : RX K ta ρ O (.bool a) O1) (h1 : a = true → RX K tb ρ O1 (.bool c) O2) (h0 : a = false → c = false ∧ O2 = O1) : RX K (tAndV ta tb) ρ O (.bool c) O2 := ⟨fun _ _ _ _ _ _ Q E S k => ha.go E S fun x F1 H1 f1 E1 S1 r1 => by
  cases r1
  refine ⟨a, rfl, ?_⟩
  cases a with
  | true =>
    have r := h1 rfl
    exact iteT (r.go E1 S1 fun v F2 H2 f2 E2 S2 r2 => k v F2 H2 (f1.trans f2) S2 r2)
  | false =>
    obtain ⟨e, e2⟩ := h0 rfl
    subst e
    subst e2
    exact iteF (k _ F1 H1 f1 S1 (.bl false))⟩
theorem rx_or {a c : Bool} (ha : RX K ta ρ O (.bool a) O1) (h1 : a = false → RX K tb ρ O1 (.bool c) O2) (h0 : a = true → c = true ∧ O2 = O1) : RX K (tOrV ta tb) ρ O (.bool c) O2 := ⟨fun _ _ _ _ _ _ Q E S k => ha.go E S fun x F1 H1 f1 E1 S1 r1 => by
  cases r1
  refine ⟨a, rfl, ?_⟩
  cases a with
  | false =>
    have r := h1 rfl
    exact iteF (r.go E1 S1 fun v F2 H2 f2 E2 S2 r2 => k v F2 H2 (f1.trans f2) S2 r2)
  | true =>
    obtain ⟨e, e2⟩ := h0 rfl
    subst e
    subst e2
    exact iteT (k _ F1 H1 f1 S1 (.bl true))⟩
theorem rx_and2 {a b : Bool} (ha : RX K ta ρ O (.bool a) O) (hb : RX K tb ρ O (.bool b) O) : RX K (tAndV ta tb) ρ O (.bool (a && b)) O := rx_and ha (fun e => by rw [e]; exact hb) fun e => ⟨by rw [e]; rfl, rfl⟩
theorem rx_or2 {a b : Bool} (ha : RX K ta ρ O (.bool a) O) (hb : RX K tb ρ O (.bool b) O) : RX K (tOrV ta tb) ρ O (.bool (a || b)) O := rx_or ha (fun e => by rw [e]; exact hb) fun e => ⟨by rw [e]; rfl, rfl⟩
theorem rx_not {a : Bool} (ha : RX K ta ρ O (.bool a) O1) : RX K (tNotV ta) ρ O (.bool (!a)) O1 := ⟨fun _ _ _ _ _ _ Q E S k => ha.go E S fun x F1 H1 f1 E1 S1 r1 => by
  cases r1
  exact ⟨a, rfl, k _ F1 H1 f1 S1 (.bl _)⟩⟩
theorem rx_if {b : Bool} {d : PyData} (hc : RT K tt ρ O b O1) (h1 : b = true → RX K ta ρ O1 d O2) (h0 : b = false → RX K tb ρ O1 d O2) : RX K (tIf tt ta tb) ρ O d O2 := ⟨fun _ _ _ _ _ _ Q E S k => hc.go E S fun F1 H1 f1 E1 S1 => by
  cases b with
  | true => exact iteT ((h1 rfl).go E1 S1 fun v F2 H2 f2 E2 S2 r2 => k v F2 H2 (f1.trans f2) S2 r2)
  | false => exact iteF ((h0 rfl).go E1 S1 fun v F2 H2 f2 E2 S2 r2 => k v F2 H2 (f1.trans f2) S2 r2)⟩
/-- 0 <= n <= 8: a chain -/
theorem rx_chain {r r' : R2} {d e f : PyData} {a b : Bool} (ha : RX K ta ρ O d O) (hb : RX K tb ρ O e O) (hc : RX K tc ρ O f O)
    (hr : ∀ (F H : Hp) (x y : V) (Q : VK), Rp K F x d → Rp K F y e → Q (.bl a) H → r x y H Q) (hr' : ∀ (F H : Hp) (x y : V) (Q : VK), Rp K F x e → Rp K F y f → Q (.bl b) H → r' x y H Q) : RX K (tChain r r' ta tb tc) ρ O (.bool (a && b)) O := ⟨fun _ _ _ _ _ _ Q E S k =>
  ha.go E S fun x F1 H1 f1 E1 S1 r1 => hb.go E1 S1 fun y F2 H2 f2 E2 S2 r2 => hr F2 H2 x y _ (r1.up f2) r2 ⟨a, rfl, by
    cases a with
    | true => exact iteT (hc.go E2 S2 fun z F3 H3 f3 E3 S3 r3 => hr' F3 H3 y z Q (r2.up f3) r3 (k _ F3 H3 ((f1.trans f2).trans f3) S3 (.bl _)))
    | false => exact iteF (k _ F2 H2 (f1.trans f2) S2 (.bl _))⟩⟩
theorem ch_le {F H : Hp} {i j : Int} {x y : V} {Q : VK} (r : Rp K F x (.int i)) (s : Rp K F y (.int j)) (k : Q (.bl (decide (i ≤ j))) H) : rI0 (fun i j => .bl (decide (i ≤ j))) x y H Q := by
  cases r
  cases s
  exact ⟨i, j, rfl, rfl, k⟩
theorem ch_lt {F H : Hp} {i j : Int} {x y : V} {Q : VK} (r : Rp K F x (.int i)) (s : Rp K F y (.int j)) (k : Q (.bl (decide (i < j))) H) : rI0 (fun i j => .bl (decide (i < j))) x y H Q := by
  cases r
  cases s
  exact ⟨i, j, rfl, rfl, k⟩
theorem rx_chLE {i j l : Int} (ha : RX K ta ρ O (.int i) O) (hb : RX K tb ρ O (.int j) O) (hc : RX K tc ρ O (.int l) O) : RX K (tChain (rI0 fun i j => .bl (decide (i ≤ j))) (rI0 fun i j => .bl (decide (i ≤ j))) ta tb tc) ρ O (.bool (decide (i ≤ j) && decide (j ≤ l))) O :=
  rx_chain ha hb hc (fun _ _ _ _ _ => ch_le) fun _ _ _ _ _ => ch_le
theorem rx_chLtLE {i j l : Int} (ha : RX K ta ρ O (.int i) O) (hb : RX K tb ρ O (.int j) O) (hc : RX K tc ρ O (.int l) O) : RX K (tChain (rI0 fun i j => .bl (decide (i < j))) (rI0 fun i j => .bl (decide (i ≤ j))) ta tb tc) ρ O (.bool (decide (i < j) && decide (j ≤ l))) O :=
  rx_chain ha hb hc (fun _ _ _ _ _ => ch_lt) fun _ _ _ _ _ => ch_le
/-- int(flag), int(n) -/
def b2n (b : Bool) : Int := if b then 1 else 0

/-! ### {..}.get(k, x) over a written dict of ints by texts -/
def dlit (kvs : List (Str × Int)) (k : Str) : Option Int := (kvs.find? fun kv => decide (kv.1 = k)).map (·.2)
theorem pairs_lit : ∀ (kvs : List (Str × Int)) {σ : L2.St} {H : Hp} {Q : List (V × V) → Hp → Prop}, Q (kvs.map fun p => (V.str p.1, V.int p.2)) H → tPairs (kvs.map fun p => (tC (.str p.1), tC (.int p.2))) σ H Q
  | [], _, _, _, h => h
  | (k, v) :: r, σ, H, Q, h => by
    show tC (.str k) σ H fun x H1 => tC (.int v) σ H1 fun y H2 => tPairs (r.map fun p => (tC (.str p.1), tC (.int p.2))) σ H2 fun ps H3 => Q ((x, y) :: ps) H3
    exact pairs_lit r (Q := fun ps H3 => Q ((V.str k, V.int v) :: ps) H3) h
def litV (kvs : List (Str × Int)) : List (Key × V) := kvs.map fun p => (Sum.inr p.1, V.int p.2)
theorem valV_lit {k : Str} : ∀ (kvs : List (Str × Int)), valV (litV kvs) (Sum.inr k : Key) = (dlit kvs k).map V.int
  | [] => rfl
  | (a, v) :: r => by
    have ih := valV_lit (k := k) r
    unfold valV dlit litV at ih ⊢
    rw [List.map_cons, List.find?_cons, List.find?_cons]
    by_cases e : a = k
    · subst e
      simp
    · have e1 : decide ((Sum.inr a : Key) = Sum.inr k) = false := decide_eq_false fun q => e (Sum.inr.inj q)
      have e2 : decide (a = k) = false := decide_eq_false e
      rw [e1, e2]
      exact ih
theorem merge_lit {kvs : List (Str × Int)} (h : mergeK [] (litV kvs) = litV kvs) (k : Str) : valV (mergeK [] (litV kvs)) (Sum.inr k : Key) = (dlit kvs k).map V.int := by rw [h, valV_lit]
theorem upd_over {H : Hp} {p : Addr} {o o' : HO} : upd (upd H p o) p o' = upd H p o' := upd_upd
/-- {..}.get(k, d) -/
theorem rx_lget {kvs : List (Str × Int)} {k : Str} {i : Int} (hl : kvs.length ≤ 15) (hm : mergeK [] (litV kvs) = litV kvs) (hk : RX K ta ρ O (.str k) O1) (hd : RX K tb ρ O1 (.int i) O2) :
    RX K (tDGet2 (tDisp (kvs.map fun p => (tC (.str p.1), tC (.int p.2)))) ta tb) ρ O (.int ((dlit kvs k).getD i)) O2 := ⟨fun _ _ _ _ _ _ Q E S kk => by
  intro p hp
  refine pairs_lit kvs ⟨upd_same, litV kvs, ?_, ?_, ?_⟩
  · unfold litV; rw [List.map_map]; rfl
  · unfold litV; rw [List.length_map]; exact hl
  · rw [upd_upd, hm]
    have f0 := same_upd (o := .dK (litV kvs)) (S.nof hp)
    refine ⟨p, rfl, .inl ⟨_, .inl upd_same⟩, hk.go (E.up f0) (S.put (o := .dK (litV kvs)) hp) fun y F1 H1 f1 E1 S1 r1 => hd.go E1 S1 fun z F2 H2 f2 E2 S2 r2 => ?_⟩
    cases r1
    cases r2
    have hp2 : H2 p = some (.dK (litV kvs)) := S2.fh _ _ (f2 _ _ (f1 _ _ upd_same))
    refine ⟨_, DGet.k (k := Sum.inr k) hp2, ?_⟩
    rw [valV_lit]
    have e : (((dlit kvs k).map V.int).getD (V.int i)) = V.int ((dlit kvs k).getD i) := by cases dlit kvs k <;> rfl
    rw [e]
    exact kk _ F2 H2 ((f0.trans f1).trans f2) S2 (.int _)⟩

/-! ### calls of the text's defs -/
/-- R ds d: called with the data ds the def hands back d -/
def SpP (K : Fg) (R : List PyData → PyData → Prop) : Sp := fun vs H Q _ => ∃ F ds d, RpAll K F vs ds ∧ Same F H ∧ R ds d ∧ ∀ v F' H', Stp [] F H F' H' → Rp K F' v d → Q v H'
/-- .. a new list of the data es -/
def SpN (K : Fg) (R : List PyData → List PyData → Prop) : Sp := fun vs H Q _ => ∃ F ds es, RpAll K F vs ds ∧ Same F H ∧ R ds es ∧
  ∀ p F' H' xs, Stp [] F H F' H' → H p = none → F' p = none → H' p = some (.lst xs) → xs.length ≤ sizeLine → RpAll K F' xs es → Q (.ref p) H'
/-- the first argument an own list, of the data c, that is changed to c' -/
def SpPo (K : Fg) (R : List PyData → List PyData → PyData → List PyData → Prop) : Sp := fun vs H Q _ => ∃ F p ws xs c ds d c', vs = .ref p :: ws ∧ RpAll K F ws ds ∧ Same F H ∧ F p = none ∧ H p = some (.lst xs) ∧ xs.length ≤ sizeLine ∧ RpAll K F xs c ∧ R c ds d c' ∧
  ∀ v F' H' ys, Stp [p] F H F' H' → F' p = none → H' p = some (.lst ys) → ys.length ≤ sizeLine → RpAll K F' ys c' → Rp K F' v d → Q v H'
def SpNo (K : Fg) (R : List PyData → List PyData → List PyData → List PyData → Prop) : Sp := fun vs H Q _ => ∃ F p ws xs c ds es c', vs = .ref p :: ws ∧ RpAll K F ws ds ∧ Same F H ∧ F p = none ∧ H p = some (.lst xs) ∧ xs.length ≤ sizeLine ∧ RpAll K F xs c ∧ R c ds es c' ∧
  ∀ q F' H' ys zs, Stp [p] F H F' H' → F' p = none → H' p = some (.lst ys) → ys.length ≤ sizeLine → RpAll K F' ys c' → H q = none → F' q = none → H' q = some (.lst zs) → zs.length ≤ sizeLine → RpAll K F' zs es → Q (.ref q) H'
variable {E0 : XK}
theorem rx_call {R : List PyData → PyData → Prop} {ds : List PyData} {d : PyData} (hR : R ds d) (ha : RA K t ρ O (ds.map .val) O1) : RX K (tCall (SpP K R) [] E0 t) ρ O d O1 := ⟨fun _ _ _ _ _ _ Q E S k => ha.go E S fun vs F1 H1 f1 E1 S1 r1 => by
  rw [List.append_nil]
  exact ⟨F1, ds, d, r1.all, S1.fh, hR, fun v F' H' st r => k v F' H' (f1.trans st.ff) (S1.call st) r⟩⟩
theorem rxo_call {R : List PyData → List PyData → Prop} {ds es : List PyData} (hR : R ds es) (ha : RA K t ρ O (ds.map .val) O1) : RXo K (tCall (SpN K R) [] E0 t) ρ O es O1 := ⟨fun _ _ _ _ _ _ Q E S k => ha.go E S fun vs F1 H1 f1 E1 S1 r1 => by
  rw [List.append_nil]
  refine ⟨F1, ds, es, r1.all, S1.fh, hR, fun p F' H' xs st h1 h2 h3 h4 h5 => k p F' H' (f1.trans st.ff) ?_⟩
  have S2 := S1.call st
  refine ⟨S2.f0, S2.fh, S2.keep, S2.live, S2.new, fun q hq => ?_, ?_⟩
  · rcases List.mem_cons.mp hq with rfl | hq
    · exact ⟨h2, fun _ => S1.noh0 h1, fun z => (Bool.false_ne_true z.symm).elim, xs, h3, h4, h5⟩
    · exact S2.own q hq
  · rw [List.map_cons, List.nodup_cons]
    refine ⟨fun hm => ?_, S2.nd⟩
    obtain ⟨q, hq, e⟩ := List.mem_map.mp hm
    obtain ⟨_, _, _, vs', g4, _⟩ := S1.own q hq
    have e' : q.a = p := e
    rw [e', h1] at g4
    cases g4⟩
theorem rx_callo {R : List PyData → List PyData → PyData → List PyData → Prop} {a : Addr} {nw : Bool} {j : Nat} {c c' ds : List PyData} {d : PyData} (ha : RA K t ρ O (.adr a :: ds.map .val) O1) (hj : O1[j]? = some ⟨a, nw, c⟩) (hR : R c ds d c') :
    RX K (tCall (SpPo K R) [] E0 t) ρ O d (O1.set j ⟨a, nw, c'⟩) := ⟨fun _ _ _ _ _ _ Q E S k => ha.go E S fun vs F1 H1 f1 E1 S1 r1 => by
  rw [List.append_nil]
  obtain ⟨g1, g2, g3, xs, g4, g5, g6⟩ := S1.get hj
  cases r1 with
  | adr r1 =>
    exact ⟨F1, a, _, xs, c, ds, d, c', rfl, r1.all, S1.fh, g1, g4, g5, g6, hR, fun v F' H' ys st h1 h2 h3 h4 r => k v F' H' (f1.trans st.ff) (S1.call1 hj st h2 h3 h4) r⟩⟩
theorem rxo_callo {R : List PyData → List PyData → List PyData → List PyData → Prop} {a : Addr} {nw : Bool} {j : Nat} {c c' ds es : List PyData} (ha : RA K t ρ O (.adr a :: ds.map .val) O1) (hj : O1[j]? = some ⟨a, nw, c⟩) (hR : R c ds es c') :
    RXo K (tCall (SpNo K R) [] E0 t) ρ O es (O1.set j ⟨a, nw, c'⟩) := ⟨fun _ _ _ _ _ _ Q E S k => ha.go E S fun vs F1 H1 f1 E1 S1 r1 => by
  rw [List.append_nil]
  obtain ⟨g1, g2, g3, xs, g4, g5, g6⟩ := S1.get hj
  cases r1 with
  | adr r1 =>
    refine ⟨F1, a, _, xs, c, ds, es, c', rfl, r1.all, S1.fh, g1, g4, g5, g6, hR, fun q F' H' ys zs st h1 h2 h3 h4 n1 n2 n3 n4 n5 => k q F' H' (f1.trans st.ff) ?_⟩
    have S2 := S1.call1 hj st h2 h3 h4
    refine ⟨S2.f0, S2.fh, S2.keep, S2.live, S2.new, fun w hw => ?_, ?_⟩
    · rcases List.mem_cons.mp hw with rfl | hw
      · exact ⟨n2, fun _ => S1.noh0 n1, fun z => (Bool.false_ne_true z.symm).elim, zs, n3, n4, n5⟩
      · exact S2.own w hw
    · rw [List.map_cons, List.nodup_cons]
      refine ⟨fun hm => ?_, S2.nd⟩
      have e : (O1.set j ⟨a, nw, c'⟩).map OE.a = O1.map OE.a := by
        rw [List.map_set]
        apply List.ext_getElem?
        intro i
        by_cases e : j = i
        · subst e
          have hj' : j < O1.length := (List.getElem?_eq_some_iff.mp hj).1
          rw [List.getElem?_set_self (by simpa using hj'), List.getElem?_map, hj]; rfl
        · rw [List.getElem?_set_ne e]
      rw [e] at hm
      obtain ⟨w, hw, e'⟩ := List.mem_map.mp hm
      obtain ⟨_, _, _, vs', k4, _⟩ := S1.own w hw
      have e2 : w.a = q := e'
      rw [e2, n1] at k4
      cases k4⟩

/-! ### targets -/
theorem rg_name {i : Nat} {d : PyData} : RG K (gName i) d ρ (ρ.set i (.val d)) [i] := ⟨fun σ F H v Q E r f k => k _ (E.setv r i) fun vs h => wipe_set _ (h i (by simp))⟩
inductive RGs (K : Fg) : TGs → List PyData → List Sl → List Sl → List Nat → Prop
  | nil {ρ : List Sl} : RGs K gNil [] ρ ρ []
  | cons {g : TG} {gs : TGs} {d : PyData} {ds : List PyData} {ρ ρ1 ρ2 : List Sl} {ts us : List Nat} : RG K g d ρ ρ1 ts → RGs K gs ds ρ1 ρ2 us → RGs K (gCons g gs) (d :: ds) ρ ρ2 (ts ++ us)
theorem RGs.run {g : TGs} {ds : List PyData} {ρ ρ' : List Sl} {ts : List Nat} (h : RGs K g ds ρ ρ' ts) : ∀ (σ : L2.St) (F H : Hp) (vs : List V) (Q : L2.St → Hp → Prop), EnvR K F σ ρ → RpAll K F vs ds → Same F H →
    (∀ σ', EnvR K F σ' ρ' → (∀ ws : List Nat, (∀ t ∈ ts, t ∈ ws) → L2.wipe σ' ws = L2.wipe σ ws) → Q σ' H) → g vs σ H Q := by
  induction h with
  | nil =>
    intro σ F H vs Q E r f k
    cases r
    exact ⟨rfl, k σ E fun _ _ => rfl⟩
  | cons h1 _ ih =>
    intro σ F H vs Q E r f k
    cases r with
    | cons r1 r2 =>
      refine ⟨_, _, rfl, h1.run σ F H _ _ E r1 f fun σ1 E1 w1 => ih σ1 F H _ Q E1 r2 f fun σ2 E2 w2 => k σ2 E2 fun ws hw => ?_⟩
      rw [w2 ws fun t ht => hw t (List.mem_append_right _ ht), w1 ws fun t ht => hw t (List.mem_append_left _ ht)]
theorem rg_tup {gs : TGs} {n : Nat} {ds : List PyData} {ρ ρ' : List Sl} {ts : List Nat} (h : RGs K gs ds ρ ρ' ts) (hn : ds.length = n := by rfl) : RG K (gTup K n gs) (.tuple ds) ρ ρ' ts := ⟨fun σ F H v Q E r f k => by
  cases r with
  | tup q1 q2 q3 => exact ⟨_, _, rfl, same_t f q1, by rw [q3.length, hn], h.run σ F H _ Q E q3 f k⟩⟩
end
end TL

namespace TL
open PySem L2
open Enc
/-! ### what loops walk -/
section
variable {K : Fg} {ta tb tc : TE} {ρ : List Sl} {O O1 O2 O3 : Os} {t : TA} {ys : List PyData}
theorem ri_list (h : RX K ta ρ O (.list ys) O1) : RI K (iList K ta) ρ O ys O1 := ⟨fun _ _ _ _ _ _ R E S k => h.go E S fun x F1 H1 f1 E1 S1 r1 => by
  cases r1 with
  | @lst a xs _ q1 q2 q3 =>
    refine ⟨a, rfl, ⟨xs, S1.fh.seq q1⟩, k _ F1 H1 f1 S1 ⟨by rw [← q3.length]; exact q2, fun _ _ _ F O H i hi f S => ?_, fun _ _ _ F O H f S => ?_, fun _ _ _ F O H i x H' hi f S y => ?_⟩⟩
    · rw [← q3.length] at hi
      exact ⟨xs, xs[i], (f.trans S.fh).seq q1, by simp [hi]⟩
    · exact ⟨xs, (f.trans S.fh).seq q1, by rw [q3.length]; exact Nat.le_refl _⟩
    · obtain ⟨e, y⟩ := y
      subst e
      obtain ⟨d, e, r⟩ := (q3.up f).getV (y xs ((f.trans S.fh).seq q1))
      exact ⟨F, d, Same.refl _, S, e, r⟩⟩
theorem ri_tup (h : RX K ta ρ O (.tuple ys) O1) : RI K (iTup K ta) ρ O ys O1 := ⟨fun _ _ _ _ _ _ R E S k => h.go E S fun x F1 H1 f1 E1 S1 r1 => by
  cases r1 with
  | @tup a xs _ q1 q2 q3 =>
    refine ⟨a, rfl, ⟨xs, same_t S1.fh q1⟩, k _ F1 H1 f1 S1 ⟨by rw [← q3.length]; exact q2, fun _ _ _ F O H i hi f S => ?_, fun _ _ _ F O H f S => ?_, fun _ _ _ F O H i x H' hi f S y => ?_⟩⟩
    · rw [← q3.length] at hi
      exact ⟨xs, xs[i], same_t (f.trans S.fh) q1, by simp [hi]⟩
    · exact ⟨xs, same_t (f.trans S.fh) q1, by rw [q3.length]; exact Nat.le_refl _⟩
    · obtain ⟨e, y⟩ := y
      subst e
      obtain ⟨d, e, r⟩ := (q3.up f).getV (y xs (same_t (f.trans S.fh) q1))
      exact ⟨F, d, Same.refl _, S, e, r⟩⟩
/-- lo, lo + 1, .. n of them -/
def rngL (lo : Int) (n : Nat) : List Int := (List.range n).map fun i => lo + (i : Nat)
theorem rngL_length (lo : Int) (n : Nat) : (rngL lo n).length = n := by unfold rngL; simp
theorem walk_rng {F1 : Hp} (lo : Int) (n : Nat) (hn : n ≤ sizeLine) : WalkD K (Itr lo n) ((rngL lo n).map .int) F1 := by
  have hl : ((rngL lo n).map PyData.int).length = n := by rw [List.length_map, rngL_length]
  refine ⟨by rw [hl]; exact hn, fun _ _ _ F O H i hi f S => ?_, fun _ _ _ F O H f S => ?_, fun _ _ _ F O H i x H' hi f S y => ?_⟩
  · rw [hl] at hi; exact hi
  · show n ≤ _; rw [hl]; exact Nat.le_refl _
  · obtain ⟨e, y⟩ := y
    subst e
    subst y
    rw [hl] at hi
    exact ⟨F, .int (lo + i), Same.refl _, S, by unfold rngL; simp [hi], .int _⟩
def rngO (n : Int) : Option (List Int) := if -4611686018427387904 ≤ n ∧ n ≤ 16777216 then some (rngL 0 n.toNat) else none
def rng2O (a b : Int) : Option (List Int) := if -4611686018427387904 ≤ a ∧ a ≤ 16777216 ∧ -4611686018427387904 ≤ b ∧ b - a ≤ 16777216 ∧ b ≤ 16777216 then some (rngL a (b - a).toNat) else none
theorem rngO_some {n : Int} {r : List Int} (h : rngO n = some r) : (-4611686018427387904 ≤ n ∧ n ≤ 16777216) ∧ r = rngL 0 n.toNat := by
  unfold rngO at h
  split at h
  · cases h; exact ⟨by assumption, rfl⟩
  · cases h
theorem ri_range {n : Int} {r : List Int} (hr : rngO n = some r) (h : RX K ta ρ O (.int n) O1) : RI K (iRng1 (tCons ta tNil)) ρ O (r.map .int) O1 := ⟨fun _ _ _ _ _ _ R E S k => h.go E S fun x F1 H1 f1 E1 S1 r1 => by
  obtain ⟨⟨h1, h2⟩, rfl⟩ := rngO_some hr
  cases r1
  have hs : sizeLine = 16777216 := sizeLine_eq
  exact ⟨n, rfl, by omega, by omega, k _ F1 H1 f1 S1 (walk_rng 0 n.toNat (by omega))⟩⟩
theorem ri_range2 {a b : Int} {r : List Int} (hr : rng2O a b = some r) (h : RX K ta ρ O (.int a) O1) (h' : RX K tb ρ O1 (.int b) O2) : RI K (iRng2 (tCons ta (tCons tb tNil))) ρ O (r.map .int) O2 := ⟨fun _ _ _ _ _ _ R E S k =>
  h.go E S fun x F1 H1 f1 E1 S1 r1 => h'.go E1 S1 fun y F2 H2 f2 E2 S2 r2 => by
    unfold rng2O at hr
    split at hr
    · rename_i hc
      obtain ⟨c1, c2, c3, c4, c5⟩ := hc
      cases hr
      cases r1
      cases r2
      have hs : sizeLine = 16777216 := sizeLine_eq
      exact ⟨a, b, rfl, ⟨by omega, by omega, by omega, by omega⟩, k _ F2 H2 (f1.trans f2) S2 (walk_rng a (b - a).toNat (by omega))⟩
    · cases hr⟩
/-- range(len(x)) and the like: what is known to be small -/
theorem ri_rangeN {n : Nat} (hn : n ≤ sizeLine) (h : RX K ta ρ O (.int (n : Nat)) O1) : RI K (iRng1 (tCons ta tNil)) ρ O ((rngL 0 n).map .int) O1 := ⟨fun _ _ _ _ _ _ R E S k => h.go E S fun x F1 H1 f1 E1 S1 r1 => by
  cases r1
  have hs : sizeLine = 16777216 := sizeLine_eq
  refine ⟨(n : Nat), rfl, by omega, by omega, k _ F1 H1 f1 S1 ?_⟩
  rw [Int.toNat_natCast]
  exact walk_rng 0 n hn⟩
theorem ri_rangeLen {ds : List PyData} (ha : RXs K ta ρ O ds O1) : RI K (iRng1 (tCons (tCB (rLenQ K) (tCons ta tNil)) tNil)) ρ O ((rngL 0 ds.length).map .int) O1 := ⟨fun _ _ _ _ _ _ R E S k => by
  refine ha.go E S fun a F1 H1 f1 E1 S1 r1 => ?_
  obtain ⟨vs, q1, q2, q3⟩ := r1 F1 H1 (Same.refl _) S1
  have hs : sizeLine = 16777216 := sizeLine_eq
  refine ⟨a, vs, rfl, .inl q1, (vs.length : Nat), rfl, by omega, by omega, k _ F1 H1 f1 S1 ?_⟩
  rw [Int.toNat_natCast, q3.length]
  exact walk_rng 0 _ (by rw [← q3.length]; exact q2)⟩
theorem ri_rangeLenT {ds : List PyData} (ha : RX K ta ρ O (.tuple ds) O1) : RI K (iRng1 (tCons (tCB (rLenQ K) (tCons ta tNil)) tNil)) ρ O ((rngL 0 ds.length).map .int) O1 := ⟨fun _ _ _ _ _ _ R E S k => by
  refine ha.go E S fun x F1 H1 f1 E1 S1 r1 => ?_
  cases r1 with
  | @tup a xs _ q1 q2 q3 =>
    have hs : sizeLine = 16777216 := sizeLine_eq
    refine ⟨a, xs, rfl, .inr (same_t S1.fh q1), (xs.length : Nat), rfl, by omega, by omega, k _ F1 H1 f1 S1 ?_⟩
    rw [Int.toNat_natCast, q3.length]
    exact walk_rng 0 _ (by rw [← q3.length]; exact q2)⟩
/-- a, a + c, .. -/
def rngC (a c : Int) (n : Nat) : List Int := (List.range n).map fun i => a + (i : Nat) * c
theorem walk_rngC {F1 : Hp} (lo c : Int) (n : Nat) (hn : n ≤ sizeLine) : WalkD K (Itc lo c n) ((rngC lo c n).map .int) F1 := by
  have hl : ((rngC lo c n).map PyData.int).length = n := by unfold rngC; simp
  refine ⟨by rw [hl]; exact hn, fun _ _ _ F O H i hi f S => ?_, fun _ _ _ F O H f S => ?_, fun _ _ _ F O H i x H' hi f S y => ?_⟩
  · rw [hl] at hi; exact hi
  · show n ≤ _; rw [hl]; exact Nat.le_refl _
  · obtain ⟨e, y⟩ := y
    subst e
    subst y
    rw [hl] at hi
    exact ⟨F, .int (lo + i * c), Same.refl _, S, by unfold rngC; simp [hi], .int _⟩
def rngDownO (a b : Int) : Option (List Int) := if -16777216 ≤ a ∧ a ≤ 16777216 ∧ -16777216 ≤ b ∧ b ≤ 16777216 ∧ a - b ≤ 16777216 then some (rngC a (-1) (a - b).toNat) else none
/-- range(a, b, -1) -/
theorem ri_rangeDown {a b : Int} {r : List Int} (hr : rngDownO a b = some r) (h : RX K ta ρ O (.int a) O1) (h' : RX K tb ρ O1 (.int b) O2) (h2 : RX K tc ρ O2 (.int (-1)) O3) : RI K (iRng3 (tCons ta (tCons tb (tCons tc tNil)))) ρ O (r.map .int) O3 := ⟨fun _ _ _ _ _ _ R E S k =>
  h.go E S fun x F1 H1 f1 E1 S1 r1 => h'.go E1 S1 fun y F2 H2 f2 E2 S2 r2 => h2.go E2 S2 fun z F3 H3 f3 E3 S3 r3 => by
    unfold rngDownO at hr
    split at hr
    · rename_i hc
      obtain ⟨c1, c2, c3, c4, c5⟩ := hc
      cases hr
      cases r1
      cases r2
      cases r3
      have hs : sizeLine = 16777216 := sizeLine_eq
      exact ⟨a, b, -1, (a - b).toNat, rfl, RgC.neg (by omega) (by omega) (by omega) (by omega), k _ F3 H3 ((f1.trans f2).trans f3) S3 (walk_rngC a (-1) _ (by omega))⟩
    · cases hr⟩
/-- a pair that an iterator makes -/
theorem pair_put {F0 H0 F H : Hp} {D0 : List Addr} {x y : V} {d e : PyData} {T : Addr} (S : Hx K F0 H0 D0 F O H) (hT : H T = none) (r1 : Rp K F x d) (r2 : Rp K F y e) :
    ∃ F', Same F F' ∧ Hx K F0 H0 D0 F' O (upd H T (.tup [x, y])) ∧ Rp K F' (.ref T) (.tuple [d, e]) := by
  have f := same_upd (o := .tup [x, y]) (S.nof hT)
  exact ⟨_, f, S.put hT, .tup (SqT.of upd_same) (by show 2 ≤ sizeLine; decide) (.cons (r1.up f) (.cons (r2.up f) .nil))⟩
def enumD (ys : List PyData) : List PyData := ys.zipIdx.map fun p => .tuple [.int (p.2 : Nat), p.1]
theorem ri_enum (h : RX K ta ρ O (.list ys) O1) : RI K (iEnum K (tCons ta tNil)) ρ O (enumD ys) O1 := ⟨fun _ _ _ _ _ _ R E S k => h.go E S fun x F1 H1 f1 E1 S1 r1 => by
  cases r1 with
  | @lst a xs _ q1 q2 q3 =>
    have hl : (enumD ys).length = ys.length := by unfold enumD; simp
    refine ⟨a, xs, rfl, S1.fh.seq q1, k _ F1 H1 f1 S1 ⟨by rw [hl, ← q3.length]; exact q2, fun _ _ _ F O H i hi f S => ?_, fun _ _ _ F O H f S => ?_, fun _ _ _ F O H i x H' hi f S y => ?_⟩⟩
    · rw [hl, ← q3.length] at hi
      exact ⟨xs, xs[i], (f.trans S.fh).seq q1, by simp [hi]⟩
    · exact ⟨xs, (f.trans S.fh).seq q1, by rw [q3.length, hl]; exact Nat.le_refl _⟩
    · obtain ⟨T, z, rfl, hT, rfl, y⟩ := y
      obtain ⟨d, e, r⟩ := (q3.up f).getV (y xs ((f.trans S.fh).seq q1))
      obtain ⟨F2, f2, S2, r2⟩ := pair_put S hT (.int (i : Nat)) r
      exact ⟨F2, _, f2, S2, by unfold enumD; simp [e], r2⟩⟩
def zipD (ys zs : List PyData) : List PyData := (ys.zip zs).map fun p => .tuple [p.1, p.2]
theorem ri_zip {zs : List PyData} (h : RX K ta ρ O (.list ys) O1) (h' : RX K tb ρ O1 (.list zs) O2) : RI K (iZip K (tCons ta (tCons tb tNil))) ρ O (zipD ys zs) O2 := ⟨fun _ _ _ _ _ _ R E S k =>
  h.go E S fun x F1 H1 f1 E1 S1 r1 => h'.go E1 S1 fun y F2 H2 f2 E2 S2 r2 => by
    have r1' := r1.up f2
    cases r1' with
    | @lst a xs _ q1 q2 q3 =>
      cases r2 with
      | @lst b ws _ p1 p2 p3 =>
        have hl : (zipD ys zs).length = min xs.length ws.length := by unfold zipD; rw [List.length_map, List.length_zip, q3.length, p3.length]
        refine ⟨a, b, xs, ws, rfl, S2.fh.seq q1, S2.fh.seq p1, k _ F2 H2 (f1.trans f2) S2 ⟨by omega, fun _ _ _ F O H i hi f S => ?_, fun _ _ _ F O H f S => ?_, fun _ _ _ F O H i x H' hi f S y => ?_⟩⟩
        · have h1 : i < xs.length := by omega
          have h2 : i < ws.length := by omega
          exact ⟨xs, ws, xs[i], ws[i], (f.trans S.fh).seq q1, (f.trans S.fh).seq p1, by simp [h1], by simp [h2]⟩
        · exact ⟨xs, ws, (f.trans S.fh).seq q1, (f.trans S.fh).seq p1, by omega⟩
        · obtain ⟨T, u, v, rfl, hT, rfl, y1, y2⟩ := y
          obtain ⟨d, e, r⟩ := (q3.up f).getV (y1 xs ((f.trans S.fh).seq q1))
          obtain ⟨d', e', r'⟩ := (p3.up f).getV (y2 ws ((f.trans S.fh).seq p1))
          obtain ⟨F3, f3, S3, r3⟩ := pair_put S hT r r'
          refine ⟨F3, _, f3, S3, ?_, r3⟩
          unfold zipD
          have ez : (ys.zip zs)[i]? = some (d, d') := List.getElem?_zip_eq_some.mpr ⟨e, e'⟩
          rw [List.getElem?_map, ez]
          rfl⟩
/-- a text, sign by sign -/
def signs (z : Str) : List Str := z.cps.toList.map fun c => ⟨#[c]⟩
theorem ri_str {z : Str} (hz : z.length ≤ sizeLine) (h : RX K ta ρ O (.str z) O1) : RI K (iStr ta) ρ O ((signs z).map .str) O1 := ⟨fun _ _ _ _ _ _ R E S k => h.go E S fun x F1 H1 f1 E1 S1 r1 => by
  cases r1
  have hl : ((signs z).map PyData.str).length = z.cps.size := by unfold signs; simp
  refine ⟨z, rfl, k _ F1 H1 f1 S1 ⟨by rw [hl]; exact hz, fun _ _ _ F O H i hi f S => ?_, fun _ _ _ F O H f S => ?_, fun _ _ _ F O H i x H' hi f S y => ?_⟩⟩
  · rw [hl] at hi; exact hi
  · show z.cps.size ≤ _; rw [hl]; exact Nat.le_refl _
  · obtain ⟨e, c, hc, y⟩ := y
    subst e
    subst y
    refine ⟨F, .str ⟨#[c]⟩, Same.refl _, S, ?_, .str _⟩
    unfold signs
    rw [List.map_map, List.getElem?_map, Array.getElem?_toList, hc]
    rfl⟩
end

/-! ### loops in plain data -/
/-- [f x for x in xs if ..], a state handed on; none within: left out -/
def fmS {α β S : Type} (g : α → S → Option (Option β × S)) : List α → S → Option (List β × S)
  | [], s => some ([], s)
  | x :: xs, s => (g x s).bind fun r => (fmS g xs r.2).bind fun q => some (match r.1 with | none => q.1 | some y => y :: q.1, q.2)
def forS {α S : Type} (f : α → S → Option S) : List α → S → Option S
  | [], s => some s
  | x :: xs, s => (f x s).bind fun s' => forS f xs s'
inductive Fl (S R : Type) where
  | nx (s : S)
  | bk (s : S)
  | rt (r : R)
def forF {α S R : Type} (f : α → S → Option (Fl S R)) : List α → S → Option (Fl S R)
  | [], s => some (.nx s)
  | x :: xs, s => (f x s).bind fun r => match r with
    | .nx s' => forF f xs s'
    | .bk s' => some (.nx s')
    | .rt r => some (.rt r)
def whileS {S : Type} (c : S → Option Bool) (f : S → Option S) : Nat → S → Option S
  | 0, _ => none
  | n + 1, s => (c s).bind fun b => if b = true then (f s).bind fun s' => whileS c f n s' else some s
def whileF {S R : Type} (c : S → Option Bool) (f : S → Option (Fl S R)) : Nat → S → Option (Fl S R)
  | 0, _ => none
  | n + 1, s => (c s).bind fun b => if b = true then (f s).bind fun r => match r with
    | .nx s' => whileF c f n s'
    | .bk s' => some (.nx s')
    | .rt r => some (.rt r) else some (.nx s)
theorem bindE {α β : Type} {m : Option α} {f : α → Option β} {r : β} (h : m.bind f = some r) : ∃ x, m = some x ∧ f x = some r := by
  cases m with
  | none => cases h
  | some x => exact ⟨x, rfl, h⟩

/-! ### comprehensions -/
section
variable {K : Fg} {ρ : List Sl} {O : Os}
theorem rxo_lcS {α β S : Type} {eα : α → PyData} {eβ : β → PyData} {wi : TI} {g : TG} {tt : TT} {te : TE} {vs : List Nat} {xs : List α} {Of : S → Os} {s0 s1 : S} {zs : List β} {f : α → S → Option (Option β × S)} (ρx : α → List Sl) (ts : List Nat)
    (hI : RI K wi ρ O (xs.map eα) (Of s0)) (hf : fmS f xs s0 = some (zs, s1)) (hts : ∀ t ∈ ts, t ∈ vs) (hg : ∀ x ∈ xs, RG K g (eα x) (wipeS ρ vs) (ρx x) ts)
    (step : ∀ x ∈ xs, ∀ s o s', f x s = some (o, s') → ∃ b s2, (∀ D acc, RT K tt (ρx x) (⟨D, true, acc⟩ :: Of s) b (⟨D, true, acc⟩ :: Of s2)) ∧
      (b = true → ∃ y, o = some y ∧ ∀ D acc, RX K te (ρx x) (⟨D, true, acc⟩ :: Of s2) (eβ y) (⟨D, true, acc⟩ :: Of s')) ∧ (b = false → o = none ∧ s2 = s')) :
    RXo K (tLc wi g tt te vs) ρ O (zs.map eβ) (Of s1) := ⟨fun F0 H0 D0 σ F H Q E S k => hI.go E S fun J F1 H1 f1 E1 S1 w => by
  intro D hD
  have hl : (xs.map eα).length = xs.length := List.length_map _
  have W : Walk J xs.length (fun H => ∃ F O, Same F1 F ∧ Hx K F0 H0 D0 F O H) (fun i H x H' => ∀ F O, Same F1 F → Hx K F0 H0 D0 F O H → ∃ F' y, Same F F' ∧ Hx K F0 H0 D0 F' O H' ∧ xs[i]? = some y ∧ Rp K F' x (eα y)) := by
    refine ⟨fun i H hi q => ?_, fun H q => ?_, fun i H x H' hi _ y F O f S => ?_⟩
    · obtain ⟨F, O, f, S⟩ := q
      exact w.go F0 H0 D0 F O H i (by rw [hl]; exact hi) f S
    · obtain ⟨F, O, f, S⟩ := q
      have := w.stop F0 H0 D0 F O H f S
      rw [hl] at this
      exact this
    · obtain ⟨F', y', f', S', e, r⟩ := w.yld F0 H0 D0 F O H i x H' (by rw [hl]; exact hi) f S y
      rw [List.getElem?_map] at e
      cases e2 : xs[i]? with
      | none => rw [e2] at e; cases e
      | some z =>
        rw [e2] at e
        have e3 : eα z = y' := Option.some.inj e
        subst e3
        exact ⟨F', z, f', S', rfl, r⟩
  refine lc_it W (fun i H => ∃ s F acc zr, Same F1 F ∧ Hx K F0 H0 D0 F (⟨D, true, acc⟩ :: Of s) H ∧ fmS f (xs.drop i) s = some (zr, s1) ∧ acc ++ zr.map eβ = zs.map eβ ∧ acc.length ≤ i) ⟨s0, F1, [], zs, Same.refl _, S1.mine hD (Nat.zero_le _) .nil, hf, rfl, Nat.le_refl _⟩
    (fun i H _ q => by obtain ⟨s, F, acc, zr, q1, q2, _⟩ := q; exact ⟨F, _, q1, q2⟩) (fun i x H H' hi q y => ?_) (fun H q => ?_)
  · obtain ⟨s, F, acc, zr, q1, q2, q3, q4, q5⟩ := q
    obtain ⟨F2, z, f2, S2, ez, rz⟩ := y F _ q1 q2
    have hm : z ∈ xs := List.mem_of_getElem? ez
    have hi' : xs[i] = z := by
      rw [List.getElem?_eq_getElem hi] at ez
      exact Option.some.inj ez
    rw [List.drop_eq_getElem_cons hi, hi'] at q3
    obtain ⟨⟨o, s'⟩, e1, q3⟩ := bindE q3
    obtain ⟨⟨zr', s1'⟩, e2, q3⟩ := bindE q3
    obtain ⟨b, s2, hb, ht, hn⟩ := step z hm s o s' e1
    have q3 := Option.some.inj q3
    have es : s1' = s1 := congrArg Prod.snd q3
    subst es
    refine (hg z hm).run _ F2 H' x _ ((E1.wipe vs).up (q1.trans f2)) rz S2.fh fun σ' E' wq => ⟨(wq vs hts).trans (wipe_wipe σ vs), (hb D acc).go E' S2 fun F3 H3 f3 E3 S3 => ?_⟩
    cases b with
    | true =>
      obtain ⟨y, eo, hy⟩ := ht rfl
      subst eo
      refine iteT ((hy D acc).go E3 S3 fun v F4 H4 f4 E4 S4 r4 => ?_)
      obtain ⟨g1, g2, g3, us, g4, g5, g6⟩ := S4.get (j := 0) (q := ⟨D, true, acc⟩) rfl
      have g4' : H4 D = some (.lst us) := g4
      have gl : us.length = acc.length := RpAll.length g6
      have hlt : us.length < sizeLine := by
        have := w.sz
        rw [hl] at this
        omega
      refine ⟨us, g4', hlt, s', F4, acc ++ [eβ y], zr', ((q1.trans f2).trans f3).trans f4, ?_, e2, ?_, ?_⟩
      · exact S4.mut (j := 0) (l := D) (nw := true) (ds := acc) (ds' := acc ++ [eβ y]) rfl (by rw [List.length_append, List.length_singleton]; omega) (RpAll.append g6 (.cons r4 .nil))
      · have ez' : zr = y :: zr' := (congrArg Prod.fst q3).symm
        rw [← q4, ez', List.map_cons, List.append_assoc]
        rfl
      · rw [List.length_append, List.length_singleton]; omega
    | false =>
      obtain ⟨eo, es⟩ := hn rfl
      subst eo
      subst es
      have ez' : zr = zr' := (congrArg Prod.fst q3).symm
      exact iteF ⟨s2, F3, acc, zr', (q1.trans f2).trans f3, S3, e2, by rw [← q4, ez'], by omega⟩
  · obtain ⟨s, F, acc, zr, q1, q2, q3, q4, q5⟩ := q
    rw [List.drop_length] at q3
    have q3' := Option.some.inj q3
    have e1 : zr = [] := (congrArg Prod.fst q3').symm
    have e2 : s = s1 := congrArg Prod.snd q3'
    subst e1
    subst e2
    rw [List.map_nil, List.append_nil] at q4
    rw [← q4] at k
    exact k D F H (f1.trans q1) q2⟩
end
end TL

namespace TL
open PySem L2
open Enc
/-! ### comprehensions, plain -/
def mapO {α β : Type} (f : α → Option β) : List α → Option (List β)
  | [] => some []
  | x :: xs => (f x).bind fun y => (mapO f xs).bind fun ys => some (y :: ys)
def filtO {α β : Type} (p : α → Option Bool) (f : α → Option β) : List α → Option (List β)
  | [] => some []
  | x :: xs => (p x).bind fun b => if b = true then (f x).bind fun y => (filtO p f xs).bind fun ys => some (y :: ys) else filtO p f xs
/-- with a state, all kept -/
def mapS {α β S : Type} (f : α → S → Option (β × S)) : List α → S → Option (List β × S)
  | [], s => some ([], s)
  | x :: xs, s => (f x s).bind fun r => (mapS f xs r.2).bind fun q => some (r.1 :: q.1, q.2)
def filtS {α β S : Type} (p : α → S → Option (Bool × S)) (f : α → S → Option (β × S)) : List α → S → Option (List β × S)
  | [], s => some ([], s)
  | x :: xs, s => (p x s).bind fun b => if b.1 = true then (f x b.2).bind fun r => (filtS p f xs r.2).bind fun q => some (r.1 :: q.1, q.2) else filtS p f xs b.2
section
variable {K : Fg} {ρ : List Sl} {O O1 : Os} {α β S : Type} {eα : α → PyData} {eβ : β → PyData} {wi : TI} {g : TG} {tt : TT} {te : TE} {vs : List Nat} {xs : List α}
theorem mapS_fm {f : α → S → Option (β × S)} : ∀ (xs : List α) (s : S), fmS (fun x s => (f x s).bind fun r => some (some r.1, r.2)) xs s = mapS f xs s
  | [], s => rfl
  | x :: xs, s => by
    unfold fmS mapS
    cases f x s with
    | none => rfl
    | some r =>
      simp only [Option.bind_some]
      rw [mapS_fm xs r.2]
theorem filtS_fm {p : α → S → Option (Bool × S)} {f : α → S → Option (β × S)} : ∀ (xs : List α) (s : S), fmS (fun x s => (p x s).bind fun b => if b.1 = true then (f x b.2).bind fun r => some (some r.1, r.2) else some (none, b.2)) xs s = filtS p f xs s
  | [], s => rfl
  | x :: xs, s => by
    unfold fmS filtS
    cases p x s with
    | none => rfl
    | some b =>
      simp only [Option.bind_some]
      cases b.1 with
      | true =>
        simp only [if_true]
        cases f x b.2 with
        | none => rfl
        | some r =>
          simp only [Option.bind_some]
          rw [filtS_fm xs r.2]
      | false =>
        simp only [Bool.false_eq_true, if_false, Option.bind_some]
        rw [filtS_fm xs b.2]
        cases filtS p f xs b.2 with
        | none => rfl
        | some q => rfl
theorem rt_yes : RT K tYes ρ O true O := ⟨fun _ _ _ _ _ _ Q E S k => k _ _ (Same.refl _) S⟩
theorem rxo_mapS {Of : S → Os} {s0 s1 : S} {zs : List β} {f : α → S → Option (β × S)} (ρx : α → List Sl) (ts : List Nat) (hI : RI K wi ρ O (xs.map eα) (Of s0)) (hf : mapS f xs s0 = some (zs, s1)) (hts : ∀ t ∈ ts, t ∈ vs)
    (hg : ∀ x ∈ xs, RG K g (eα x) (wipeS ρ vs) (ρx x) ts) (he : ∀ x ∈ xs, ∀ s y s', f x s = some (y, s') → ∀ D acc, RX K te (ρx x) (⟨D, true, acc⟩ :: Of s) (eβ y) (⟨D, true, acc⟩ :: Of s')) :
    RXo K (tLc wi g tYes te vs) ρ O (zs.map eβ) (Of s1) :=
  rxo_lcS ρx ts hI ((mapS_fm xs s0).trans hf) hts hg fun x hx s o s' e => by
    obtain ⟨r, e1, e2⟩ := bindE e
    have e2 := Option.some.inj e2
    refine ⟨true, s, fun D acc => rt_yes, fun _ => ⟨r.1, (congrArg Prod.fst e2).symm, fun D acc => ?_⟩, fun q => (Bool.false_ne_true q.symm).elim⟩
    have e3 : r.2 = s' := congrArg Prod.snd e2
    subst e3
    exact he x hx s r.1 r.2 e1 D acc
theorem rxo_filtS {Of : S → Os} {s0 s1 : S} {zs : List β} {p : α → S → Option (Bool × S)} {f : α → S → Option (β × S)} (ρx : α → List Sl) (ts : List Nat) (hI : RI K wi ρ O (xs.map eα) (Of s0)) (hf : filtS p f xs s0 = some (zs, s1)) (hts : ∀ t ∈ ts, t ∈ vs)
    (hg : ∀ x ∈ xs, RG K g (eα x) (wipeS ρ vs) (ρx x) ts) (ht : ∀ x ∈ xs, ∀ s b s', p x s = some (b, s') → ∀ D acc, RT K tt (ρx x) (⟨D, true, acc⟩ :: Of s) b (⟨D, true, acc⟩ :: Of s'))
    (he : ∀ x ∈ xs, ∀ s y s', f x s = some (y, s') → ∀ D acc, RX K te (ρx x) (⟨D, true, acc⟩ :: Of s) (eβ y) (⟨D, true, acc⟩ :: Of s')) :
    RXo K (tLc wi g tt te vs) ρ O (zs.map eβ) (Of s1) :=
  rxo_lcS ρx ts hI ((filtS_fm xs s0).trans hf) hts hg fun x hx s o s' e => by
    obtain ⟨⟨b, s2⟩, e1, e2⟩ := bindE e
    refine ⟨b, s2, ht x hx s b s2 e1, fun q => ?_, fun q => ?_⟩
    · subst q
      have e2 : ((f x s2).bind fun r => some (some r.1, r.2)) = some (o, s') := e2
      obtain ⟨r, e3, e4⟩ := bindE e2
      have e4 := Option.some.inj e4
      have e5 : r.2 = s' := congrArg Prod.snd e4
      subst e5
      exact ⟨r.1, (congrArg Prod.fst e4).symm, he x hx s2 r.1 r.2 e3⟩
    · subst q
      have e2 : (some (none, s2) : Option (Option β × S)) = some (o, s') := e2
      have e2 := Option.some.inj e2
      exact ⟨(congrArg Prod.fst e2).symm, congrArg Prod.snd e2⟩
theorem mapO_S {f : α → Option β} : ∀ (xs : List α), mapS (fun x (_ : Unit) => (f x).bind fun y => some (y, ())) xs () = (mapO f xs).bind fun ys => some (ys, ())
  | [] => rfl
  | x :: xs => by
    unfold mapS mapO
    cases f x with
    | none => rfl
    | some r =>
      simp only [Option.bind_some]
      rw [mapO_S xs]
      cases mapO f xs with
      | none => rfl
      | some ys => rfl
theorem filtO_S {p : α → Option Bool} {f : α → Option β} : ∀ (xs : List α), filtS (fun x (_ : Unit) => (p x).bind fun y => some (y, ())) (fun x (_ : Unit) => (f x).bind fun y => some (y, ())) xs () = (filtO p f xs).bind fun ys => some (ys, ())
  | [] => rfl
  | x :: xs => by
    unfold filtS filtO
    cases p x with
    | none => rfl
    | some b =>
      simp only [Option.bind_some]
      cases b with
      | true =>
        simp only [if_true]
        cases f x with
        | none => rfl
        | some r =>
          simp only [Option.bind_some]
          rw [filtO_S xs]
          cases filtO p f xs with
          | none => rfl
          | some ys => rfl
      | false =>
        simp only [Bool.false_eq_true, if_false]
        rw [filtO_S xs]
theorem rxo_mapO {zs : List β} {f : α → Option β} (ρx : α → List Sl) (ts : List Nat) (hI : RI K wi ρ O (xs.map eα) O1) (hf : mapO f xs = some zs) (hts : ∀ t ∈ ts, t ∈ vs)
    (hg : ∀ x ∈ xs, RG K g (eα x) (wipeS ρ vs) (ρx x) ts) (he : ∀ x ∈ xs, ∀ y, f x = some y → ∀ D acc, RX K te (ρx x) (⟨D, true, acc⟩ :: O1) (eβ y) (⟨D, true, acc⟩ :: O1)) :
    RXo K (tLc wi g tYes te vs) ρ O (zs.map eβ) O1 :=
  rxo_mapS (S := Unit) (Of := fun _ => O1) (s0 := ()) (s1 := ()) (f := fun x (_ : Unit) => (f x).bind fun y => some (y, ())) ρx ts hI (by rw [mapO_S, hf]; rfl) hts hg fun x hx s y s' e D acc => by
    obtain ⟨z, e1, e2⟩ := bindE e
    have e2 := Option.some.inj e2
    have e3 : z = y := congrArg Prod.fst e2
    subst e3
    exact he x hx z e1 D acc
theorem rxo_filtO {zs : List β} {p : α → Option Bool} {f : α → Option β} (ρx : α → List Sl) (ts : List Nat) (hI : RI K wi ρ O (xs.map eα) O1) (hf : filtO p f xs = some zs) (hts : ∀ t ∈ ts, t ∈ vs)
    (hg : ∀ x ∈ xs, RG K g (eα x) (wipeS ρ vs) (ρx x) ts) (ht : ∀ x ∈ xs, ∀ b, p x = some b → ∀ D acc, RT K tt (ρx x) (⟨D, true, acc⟩ :: O1) b (⟨D, true, acc⟩ :: O1))
    (he : ∀ x ∈ xs, ∀ y, f x = some y → ∀ D acc, RX K te (ρx x) (⟨D, true, acc⟩ :: O1) (eβ y) (⟨D, true, acc⟩ :: O1)) :
    RXo K (tLc wi g tt te vs) ρ O (zs.map eβ) O1 :=
  rxo_filtS (S := Unit) (Of := fun _ => O1) (s0 := ()) (s1 := ()) (p := fun x (_ : Unit) => (p x).bind fun y => some (y, ())) (f := fun x (_ : Unit) => (f x).bind fun y => some (y, ())) ρx ts hI (by rw [filtO_S, hf]; rfl) hts hg (fun x hx s y s' e D acc => by
    obtain ⟨z, e1, e2⟩ := bindE e
    have e2 := Option.some.inj e2
    have e3 : z = y := congrArg Prod.fst e2
    subst e3
    exact ht x hx z e1 D acc) fun x hx s y s' e D acc => by
    obtain ⟨z, e1, e2⟩ := bindE e
    have e2 := Option.some.inj e2
    have e3 : z = y := congrArg Prod.fst e2
    subst e3
    exact he x hx z e1 D acc
theorem mapO_some {f : α → β} : ∀ xs : List α, mapO (fun x => some (f x)) xs = some (xs.map f)
  | [] => rfl
  | x :: xs => by unfold mapO; rw [mapO_some xs]; rfl
theorem filtO_some {p : α → Bool} {f : α → β} : ∀ xs : List α, filtO (fun x => some (p x)) (fun x => some (f x)) xs = some ((xs.filter p).map f)
  | [] => rfl
  | x :: xs => by
    unfold filtO
    rw [filtO_some xs, List.filter_cons]
    simp only [Option.bind_some]
    cases p x <;> rfl
theorem rxo_map {f : α → β} (ρx : α → List Sl) (ts : List Nat) (hI : RI K wi ρ O (xs.map eα) O1) (hts : ∀ t ∈ ts, t ∈ vs)
    (hg : ∀ x ∈ xs, RG K g (eα x) (wipeS ρ vs) (ρx x) ts) (he : ∀ x ∈ xs, ∀ D acc, RX K te (ρx x) (⟨D, true, acc⟩ :: O1) (eβ (f x)) (⟨D, true, acc⟩ :: O1)) :
    RXo K (tLc wi g tYes te vs) ρ O ((xs.map f).map eβ) O1 :=
  rxo_mapO (f := fun x => some (f x)) ρx ts hI (mapO_some xs) hts hg fun x hx y e D acc => by
    have e := Option.some.inj e
    subst e
    exact he x hx D acc
theorem rxo_filt {p : α → Bool} {f : α → β} (ρx : α → List Sl) (ts : List Nat) (hI : RI K wi ρ O (xs.map eα) O1) (hts : ∀ t ∈ ts, t ∈ vs)
    (hg : ∀ x ∈ xs, RG K g (eα x) (wipeS ρ vs) (ρx x) ts) (ht : ∀ x ∈ xs, ∀ D acc, RT K tt (ρx x) (⟨D, true, acc⟩ :: O1) (p x) (⟨D, true, acc⟩ :: O1))
    (he : ∀ x ∈ xs, ∀ D acc, RX K te (ρx x) (⟨D, true, acc⟩ :: O1) (eβ (f x)) (⟨D, true, acc⟩ :: O1)) :
    RXo K (tLc wi g tt te vs) ρ O (((xs.filter p).map f).map eβ) O1 :=
  rxo_filtO (p := fun x => some (p x)) (f := fun x => some (f x)) ρx ts hI (filtO_some xs) hts hg (fun x hx y e D acc => by
    have e := Option.some.inj e
    subst e
    exact ht x hx D acc) fun x hx y e D acc => by
    have e := Option.some.inj e
    subst e
    exact he x hx D acc
/-- sources by kinds -/
def enumL (xs : List α) : List (Int × α) := xs.zipIdx.map fun p => ((p.2 : Nat), p.1)
theorem ri_enumT [Enc α] {ta : TE} (h : RX K ta ρ O (.list (xs.map enc)) O1) : RI K (iEnum K (tCons ta tNil)) ρ O ((enumL xs).map enc) O1 := by
  have e : (enumL xs).map enc = enumD (xs.map enc) := by
    unfold enumL enumD
    rw [List.map_map, List.zipIdx_map, List.map_map]
    rfl
  rw [e]
  exact ri_enum h
theorem ri_zipT [Enc α] [Enc β] {ta tb : TE} {ys : List β} {O2 : Os} (h : RX K ta ρ O (.list (xs.map enc)) O1) (h' : RX K tb ρ O1 (.list (ys.map enc)) O2) : RI K (iZip K (tCons ta (tCons tb tNil))) ρ O ((xs.zip ys).map enc) O2 := by
  have e : (xs.zip ys).map enc = zipD (xs.map enc) (ys.map enc) := by
    unfold zipD
    rw [List.zip_map, List.map_map]
    rfl
  rw [e]
  exact ri_zip h h'
end

/-! ### statements -/
theorem sq {t u : TS} {D : Ends} {σ : L2.St} {H : Hp} (h : t { D with nx := u D } σ H) : tSeq t u D σ H := h
section
variable {K : Fg} {ta tb tc te : TE} {ρ ρ' : List Sl} {O O' O1 O2 O3 : Os} {F0 H0 F H : Hp} {D0 : List Addr} {σ : L2.St} {D : Ends} {d : PyData} {ds : List PyData}
theorem st_set {i : Nat} (h : RX K te ρ O d O') (E : EnvR K F σ ρ) (S : Hx K F0 H0 D0 F O H) (k : ∀ σ' F' H', Same F F' → EnvR K F' σ' (ρ.set i (.val d)) → Hx K F0 H0 D0 F' O' H' → D.nx σ' H') : tAsg te (gName i) D σ H :=
  h.go E S fun v F' H' f E' S' r => k _ F' H' f (E'.setv r i) S'
theorem st_setO {i : Nat} (h : RXo K te ρ O ds O') (E : EnvR K F σ ρ) (S : Hx K F0 H0 D0 F O H) (k : ∀ p σ' F' H', Same F F' → EnvR K F' σ' (ρ.set i (.adr p)) → Hx K F0 H0 D0 F' (⟨p, true, ds⟩ :: O') H' → D.nx σ' H') : tAsg te (gName i) D σ H :=
  h.go E S fun p F' H' f E' S' => k p _ F' H' f (E'.seta i) S'
theorem st_unp {g : TG} {ts : List Nat} (h : RX K te ρ O d O') (hg : RG K g d ρ ρ' ts) (E : EnvR K F σ ρ) (S : Hx K F0 H0 D0 F O H) (k : ∀ σ' F' H', Same F F' → EnvR K F' σ' ρ' → Hx K F0 H0 D0 F' O' H' → D.nx σ' H') : tAsg te g D σ H :=
  h.go E S fun v F' H' f E' S' r => hg.run _ F' H' v _ E' r S'.fh fun σ' E2 _ => k σ' F' H' f E2 S'
def setO {α : Type} (xs : List α) (i : Int) (x : α) : Option (List α) := (ixN xs.length i).map fun j => xs.set j x
theorem setO_map {α β : Type} (f : α → β) {xs : List α} {i : Int} {x : α} {r : List α} (h : setO xs i x = some r) : setO (xs.map f) i (f x) = some (r.map f) := by
  unfold setO at h ⊢
  rw [List.length_map]
  cases e : ixN xs.length i with
  | none => rw [e] at h; cases h
  | some j =>
    rw [e] at h
    cases h
    show some ((xs.map f).set j (f x)) = some ((xs.set j x).map f)
    rw [List.map_set]
/-- xs[i] = e, xs an own list -/
theorem st_put {i j : Nat} {a : Addr} {nw : Bool} {n : Int} {ds' : List PyData} (hn : setO ds n d = some ds') (h : RX K te ρ O d O1) (hs : ρ[i]? = some (.adr a)) (hi : RX K ta ρ O1 (.int n) O2) (hj : O2[j]? = some ⟨a, nw, ds⟩) (E : EnvR K F σ ρ) (S : Hx K F0 H0 D0 F O H)
    (k : ∀ F' H', Same F F' → EnvR K F' σ ρ → Hx K F0 H0 D0 F' (O2.set j ⟨a, nw, ds'⟩) H' → D.nx σ H') : tAsg te (gSub (tVar i) ta rSetL) D σ H :=
  h.go E S fun v F1 H1 f1 E1 S1 r1 => ⟨_, E1.adr hs, hi.go E1 S1 fun y F2 H2 f2 E2 S2 r2 => by
    cases r2
    obtain ⟨g1, g2, g3, vs, g4, g5, g6⟩ := S2.get hj
    have g4 : H2 a = some (.lst vs) := g4
    have g6 : RpAll K F2 vs ds := g6
    unfold setO at hn
    cases e : ixN ds.length n with
    | none => rw [e] at hn; cases hn
    | some m =>
      rw [e] at hn
      cases hn
      exact ⟨a, vs, n, m, rfl, rfl, g4, by rw [g6.length]; exact e, k F2 _ (f1.trans f2) E2 (S2.mut hj (by rw [List.length_set]; exact g5) (RpAll.set (r1.up f2) m g6))⟩⟩
def appO {α : Type} (xs : List α) (x : α) : Option (List α) := if xs.length < 16777216 then some (xs ++ [x]) else none
theorem appO_map {α β : Type} (f : α → β) {xs : List α} {x : α} {r : List α} (h : appO xs x = some r) : appO (xs.map f) (f x) = some (r.map f) := by
  unfold appO at h ⊢
  rw [List.length_map]
  split at h
  · rename_i hc
    cases h
    rw [if_pos hc]
    simp
  · cases h
def extO {α : Type} (xs ys : List α) : Option (List α) := if xs.length + ys.length ≤ 16777216 then some (xs ++ ys) else none
theorem extO_map {α β : Type} (f : α → β) {xs ys : List α} {r : List α} (h : extO xs ys = some r) : extO (xs.map f) (ys.map f) = some (r.map f) := by
  unfold extO at h ⊢
  rw [List.length_map, List.length_map]
  split at h
  · rename_i hc
    cases h
    rw [if_pos hc]
    simp
  · cases h
/-- xs.append(e) -/
theorem st_app {i j : Nat} {a : Addr} {nw : Bool} {ds' : List PyData} (hn : appO ds d = some ds') (hs : ρ[i]? = some (.adr a)) (h : RX K te ρ O d O1) (hj0 : ∃ e, O[j]? = some ⟨a, nw, e⟩) (hj : O1[j]? = some ⟨a, nw, ds⟩) (E : EnvR K F σ ρ) (S : Hx K F0 H0 D0 F O H)
    (k : ∀ F' H', Same F F' → EnvR K F' σ ρ → Hx K F0 H0 D0 F' (O1.set j ⟨a, nw, ds'⟩) H' → D.nx σ H') : tDrop (tBM K "list" rAppend (tVar i) (tCons te tNil)) D σ H := by
  obtain ⟨e0, hj0⟩ := hj0
  obtain ⟨_, _, _, vs0, g0, _⟩ := S.get hj0
  refine ⟨_, E.adr hs, .inl ⟨rfl, _, .inl (.inl g0)⟩, h.go E S fun v F1 H1 f1 E1 S1 r1 => ?_⟩
  obtain ⟨g1, g2, g3, vs, g4, g5, g6⟩ := S1.get hj
  have g4 : H1 a = some (.lst vs) := g4
  have g6 : RpAll K F1 vs ds := g6
  unfold appO at hn
  split at hn
  · rename_i hc
    cases hn
    have hz : vs.length < sizeLine := by rw [g6.length, sizeLine_eq]; exact hc
    exact ⟨a, vs, v, rfl, rfl, g4, hz, k F1 _ f1 E1 (S1.mut hj (by rw [List.length_append, List.length_singleton]; omega) (g6.append (.cons r1 .nil)))⟩
  · cases hn
theorem list_extendW (l : Addr) (items : Array Value) (n : Nat) (b : Addr) (items2 : Array Value) (n2 : Nat) (dd2 : Option Addr) (sl2 : Array (Option Value)) (hc0 : ¬(!items.isEmpty && Builtin.List.listTooLong (items.size + items2.size)) = true) (hc1 : items.size ≤ sizeLine) (hs2 : items.size + items2.size ≤ sizeLine + 1) :
    Meets (Builtin.«list.extend» ⟨[.ref l, .ref b], []⟩) (fun _ R s => s.heap.get? l = some { cls := .type "list", dict := none, data := .seq items n, slots := #[] } ∧ s.heap.get? b = some { cls := .type "list", dict := dd2, data := .seq items2 n2, slots := sl2 } ∧ R (.ok (.ret Value.none)) { s with heap := s.heap.update l (Obj.mapSeq fun x => x ++ items2), toks := s.toks }) :=
  .of_wp fun prog w A R s h => by
    obtain ⟨hp, g, d, tk, os⟩ := s; obtain ⟨hl, hb, h⟩ := h; have f1 := AutoSeq1.idx_int; have f2 := AutoSeq1.sub_tuple_tuple; have f3 := AutoSeq1.sub_list_list; have f4 := AutoSeq1.sub_tuple_list; have f5 := AutoSeq1.sub_list_tuple;
    have hz' : (items ++ items2).size ≤ sizeLine + 1 := by rw [Array.size_append]; exact hs2
    wp_walk using (wpAny_updateSeq hl rfl (hz := hc1) (_hz' := hz')), wpAny_loadPart' hl, wpAny_loadPart' hb; exact ⟨_, rfl, h⟩
def rExtR (K : Fg) : V → List V → Hp → VK → Prop := fun x vs H Q => ∃ l b xs zs, x = .ref l ∧ vs = [.ref b] ∧ H l = some (.lst xs) ∧ SqL K H b zs ∧ xs.length + zs.length ≤ sizeLine ∧ Q .non (upd H l (.lst (xs ++ zs)))
theorem mt_extR {X : Cx} : MtM X "list.extend" (rExtR X.K) := by
  intro pins s σ H x vs v us Q I rx rv h
  obtain ⟨l, b, xs, zs, rfl, rfl, hH, hB, hz, q⟩ := h
  cases rx
  obtain ⟨u, rfl, ru⟩ := rv.one
  cases ru
  obtain ⟨z, its, n, r, hl, e⟩ := I.lstM hH
  obtain ⟨its2, r2, ⟨⟨cls2, dd2, data2, sl2⟩, n2, e2, hc2, hd2, hx2⟩, z2⟩ := I.list hB
  simp only at hc2 hd2 hx2
  subst hc2 hx2
  have hl2 := r2.length
  have hsz : its.toArray.size + its2.toArray.size ≤ sizeLine := by rw [List.size_toArray, List.size_toArray]; omega
  have hlong : ¬ (!its.toArray.isEmpty && Builtin.List.listTooLong (its.toArray.size + its2.toArray.size)) = true := by
    rw [notLongL hsz, Bool.and_false]
    exact Bool.false_ne_true
  refine call_meets F.slot_list_extend ⟨_, e, rfl⟩ F.entry_list_extend (F.args_list_extend_2 _ _)
    (list_extendW l its.toArray n b its2.toArray n2 dd2 sl2 hlong (by rw [List.size_toArray]; omega) (by omega)) ⟨e, e2, ?_⟩
  refine ⟨.non, _, I.lset (its' := its ++ its2) hH e (by simp) (r.append r2) ?_, rfl, q⟩
  rw [List.length_append]
  omega
/-- xs.extend(e) -/
theorem st_ext {i j : Nat} {a : Addr} {nw : Bool} {es ds' : List PyData} (hn : extO ds es = some ds') (hs : ρ[i]? = some (.adr a)) (h : RX K te ρ O (.list es) O1) (hj0 : ∃ e, O[j]? = some ⟨a, nw, e⟩) (hj : O1[j]? = some ⟨a, nw, ds⟩) (E : EnvR K F σ ρ) (S : Hx K F0 H0 D0 F O H)
    (k : ∀ F' H', Same F F' → EnvR K F' σ ρ → Hx K F0 H0 D0 F' (O1.set j ⟨a, nw, ds'⟩) H' → D.nx σ H') : tDrop (tBM K "list" (rExtR K) (tVar i) (tCons te tNil)) D σ H := by
  obtain ⟨e0, hj0⟩ := hj0
  obtain ⟨_, _, _, vs0, g0, _⟩ := S.get hj0
  refine ⟨_, E.adr hs, .inl ⟨rfl, _, .inl (.inl g0)⟩, h.go E S fun v F1 H1 f1 E1 S1 r1 => ?_⟩
  obtain ⟨g1, g2, g3, vs, g4, g5, g6⟩ := S1.get hj
  have g4 : H1 a = some (.lst vs) := g4
  have g6 : RpAll K F1 vs ds := g6
  cases r1 with
  | @lst b zs _ q1 q2 q3 =>
    unfold extO at hn
    split at hn
    · rename_i hc
      cases hn
      have hz : vs.length + zs.length ≤ sizeLine := by rw [g6.length, q3.length, sizeLine_eq]; exact hc
      exact ⟨a, b, vs, zs, rfl, rfl, g4, S1.fh.seq q1, hz, k F1 _ f1 E1 (S1.mut hj (by rw [List.length_append]; omega) (g6.append q3))⟩
    · cases hn
theorem st_expr (h : RX K te ρ O d O') (E : EnvR K F σ ρ) (S : Hx K F0 H0 D0 F O H) (k : ∀ F' H', Same F F' → EnvR K F' σ ρ → Hx K F0 H0 D0 F' O' H' → D.nx σ H') : tDrop te D σ H :=
  h.go E S fun v F' H' f E' S' r => k F' H' f E' S'
theorem st_ret (h : RX K te ρ O d O') (E : EnvR K F σ ρ) (S : Hx K F0 H0 D0 F O H) (k : ∀ v F' H', Same F F' → Hx K F0 H0 D0 F' O' H' → Rp K F' v d → D.rt v H') : tRet te D σ H :=
  h.go E S fun v F' H' f E' S' r => k v F' H' f S' r
theorem st_retO (h : RXo K te ρ O ds O') (E : EnvR K F σ ρ) (S : Hx K F0 H0 D0 F O H) (k : ∀ p F' H', Same F F' → Hx K F0 H0 D0 F' (⟨p, true, ds⟩ :: O') H' → D.rt (.ref p) H') : tRet te D σ H :=
  h.go E S fun v F' H' f E' S' => k v F' H' f S'
/-- return xs, xs an own list -/
theorem st_retA {i : Nat} {a : Addr} (hs : ρ[i]? = some (.adr a)) (E : EnvR K F σ ρ) (k : D.rt (.ref a) H) : tRet (tVar i) D σ H := ⟨_, E.adr hs, k⟩
/-- an own list is frozen -/
theorem frz_at {i j : Nat} {a : Addr} (hs : ρ[i]? = some (.adr a)) (hj : O[j]? = some ⟨a, true, ds⟩) (E : EnvR K F σ ρ) (S : Hx K F0 H0 D0 F O H) :
    ∃ F', Same F F' ∧ EnvR K F' σ (ρ.set i (.val (.list ds))) ∧ Hx K F0 H0 D0 F' (O.eraseIdx j) H := by
  obtain ⟨F', f, S', r⟩ := S.frz hj
  have q := E.adr hs
  have E2 := EnvR.setv (E.up f) r i
  have e : σ.set i (some (.ref a)) = σ := by
    apply List.ext_getElem?
    intro n
    by_cases e : i = n
    · subst e
      rw [List.getElem?_set_self (List.getElem?_eq_some_iff.mp q).1, q]
    · rw [List.getElem?_set_ne e]
  rw [e] at E2
  exact ⟨F', f, E2, S'⟩
theorem st_if {c : TT} {t u : TS} {b : Bool} (hc : RT K c ρ O b O') (E : EnvR K F σ ρ) (S : Hx K F0 H0 D0 F O H) (h1 : b = true → ∀ F' H', Same F F' → EnvR K F' σ ρ → Hx K F0 H0 D0 F' O' H' → t D σ H')
    (h0 : b = false → ∀ F' H', Same F F' → EnvR K F' σ ρ → Hx K F0 H0 D0 F' O' H' → u D σ H') : tIfS c t u D σ H := hc.go E S fun F' H' f E' S' => by
  cases b with
  | true => exact iteT (h1 rfl F' H' f E' S')
  | false => exact iteF (h0 rfl F' H' f E' S')
/-- both ways meet -/
theorem st_ifJ {c : TT} {t u : TS} {b : Bool} (ρ' : List Sl) (O2 : Os) (hc : RT K c ρ O b O') (E : EnvR K F σ ρ) (S : Hx K F0 H0 D0 F O H) (rest : ∀ σ' F' H', Same F F' → EnvR K F' σ' ρ' → Hx K F0 H0 D0 F' O2 H' → D.nx σ' H')
    (h1 : b = true → ∀ (F' H' : Hp), (∀ σ' F' H', Same F F' → EnvR K F' σ' ρ' → Hx K F0 H0 D0 F' O2 H' → D.nx σ' H') → Same F F' → EnvR K F' σ ρ → Hx K F0 H0 D0 F' O' H' → t D σ H')
    (h0 : b = false → ∀ (F' H' : Hp), (∀ σ' F' H', Same F F' → EnvR K F' σ' ρ' → Hx K F0 H0 D0 F' O2 H' → D.nx σ' H') → Same F F' → EnvR K F' σ ρ → Hx K F0 H0 D0 F' O' H' → u D σ H') : tIfS c t u D σ H := hc.go E S fun F' H' f E' S' => by
  cases b with
  | true => exact iteT (h1 rfl F' H' rest f E' S')
  | false => exact iteF (h0 rfl F' H' rest f E' S')
theorem st_aug {i : Nat} {op : Int → Int → Int} {x y : Int} (hx : ρ[i]? = some (.val (.int x))) (h : RX K te ρ O (.int y) O') (E : EnvR K F σ ρ) (S : Hx K F0 H0 D0 F O H) (k : ∀ σ' F' H', Same F F' → EnvR K F' σ' (ρ.set i (.val (.int (op x y)))) → Hx K F0 H0 D0 F' O' H' → D.nx σ' H') :
    tAug i te (ipI op) D σ H := by
  obtain ⟨v, h1, h2⟩ := E.val hx
  cases h2
  refine ⟨_, h1, h.go E S fun w F' H' f E' S' r => ?_⟩
  cases r
  exact ⟨x, y, rfl, rfl, k _ F' H' f (E'.setv (.int _) i) S'⟩
end
end TL

namespace TL
open PySem L2
open Enc
section
variable {K : Fg} {ρ : List Sl} {O : Os} {F0 H0 F H : Hp} {D0 : List Addr} {σ : L2.St} {D : Ends}
theorem walk_of {α : Type} {eα : α → PyData} {J : It} {xs : List α} {F1 : Hp} (w : WalkD K J (xs.map eα) F1) :
    Walk J xs.length (fun H => ∃ F O, Same F1 F ∧ Hx K F0 H0 D0 F O H) (fun i H x H' => ∀ F O, Same F1 F → Hx K F0 H0 D0 F O H → ∃ F' y, Same F F' ∧ Hx K F0 H0 D0 F' O H' ∧ xs[i]? = some y ∧ Rp K F' x (eα y)) := by
  have hl : (xs.map eα).length = xs.length := List.length_map _
  refine ⟨fun i H hi q => ?_, fun H q => ?_, fun i H x H' hi _ y F O f S => ?_⟩
  · obtain ⟨F, O, f, S⟩ := q
    exact w.go F0 H0 D0 F O H i (by rw [hl]; exact hi) f S
  · obtain ⟨F, O, f, S⟩ := q
    have := w.stop F0 H0 D0 F O H f S
    rw [hl] at this
    exact this
  · obtain ⟨F', y', f', S', e, r⟩ := w.yld F0 H0 D0 F O H i x H' (by rw [hl]; exact hi) f S y
    rw [List.getElem?_map] at e
    cases e2 : xs[i]? with
    | none => rw [e2] at e; cases e
    | some z =>
      rw [e2] at e
      have e3 : eα z = y' := Option.some.inj e
      subst e3
      exact ⟨F', z, f', S', rfl, r⟩
/-- a for over data, with ways out -/
theorem st_forF {α S R : Type} {eα : α → PyData} {wi : TI} {g : TG} {tb : TS} {xs : List α} {f : α → S → Option (Fl S R)} {s0 : S} {fl : Fl S R} (ρf : S → List Sl) (Of : S → Os) (E : EnvR K F σ ρ) (S0 : Hx K F0 H0 D0 F O H) (hI : RI K wi ρ O (xs.map eα) (Of s0)) (hf : forF f xs s0 = some fl) (hW : Wk ρ (ρf s0))
    (kn : ∀ s, fl = .nx s → ∀ σ' F' H', Same F F' → EnvR K F' σ' (ρf s) → Hx K F0 H0 D0 F' (Of s) H' → D.nx σ' H')
    (body : ∀ x ∈ xs, ∀ s out, f x s = some out → (∀ r, out = .rt r → fl = .rt r) → ∀ σ1 F1 H1 v, Same F F1 → EnvR K F1 σ1 (ρf s) → Hx K F0 H0 D0 F1 (Of s) H1 → Rp K F1 v (eα x) →
      ∀ (N B : L2.St → Hp → Prop), (∀ s', out = .nx s' → ∀ σ' F' H', Same F1 F' → EnvR K F' σ' (ρf s') → Hx K F0 H0 D0 F' (Of s') H' → N σ' H') →
      (∀ s', out = .bk s' → ∀ σ' F' H', Same F1 F' → EnvR K F' σ' (ρf s') → Hx K F0 H0 D0 F' (Of s') H' → B σ' H') → g v σ1 H1 fun σ2 H2 => tb { D with nx := N, ct := N, bk := B } σ2 H2) :
    tFor wi g tb D σ H := hI.go E S0 fun J F1 H1 f1 E1 S1 w => by
  refine for_it (walk_of w) (fun i σ H => ∃ s F2, Same F1 F2 ∧ EnvR K F2 σ (ρf s) ∧ Hx K F0 H0 D0 F2 (Of s) H ∧ forF f (xs.drop i) s = some fl) ⟨s0, F1, Same.refl _, E1.weak hW, S1, hf⟩
    (fun i σ H _ q => by obtain ⟨s, F2, q1, q2, q3, _⟩ := q; exact ⟨F2, _, q1, q3⟩) (fun i x σ H H' hi q y => ?_) (fun σ H q => ?_)
  · obtain ⟨s, F2, q1, q2, q3, q4⟩ := q
    obtain ⟨F3, z, f3, S3, ez, rz⟩ := y F2 _ q1 q3
    have hm : z ∈ xs := List.mem_of_getElem? ez
    have hi' : xs[i] = z := by
      rw [List.getElem?_eq_getElem hi] at ez
      exact Option.some.inj ez
    rw [List.drop_eq_getElem_cons hi, hi'] at q4
    obtain ⟨out, e1, q4⟩ := bindE q4
    refine body z hm s out e1 (fun r eo => ?_) σ F3 H' x ((f1.trans q1).trans f3) (q2.up f3) S3 rz _ _ (fun s' eo σ' F' H' ff E' S' => ?_) (fun s' eo σ' F' H' ff E' S' => ?_)
    · subst eo
      have q4 : (some (.rt r) : Option (Fl S R)) = some fl := q4
      exact (Option.some.inj q4).symm
    · subst eo
      exact ⟨s', F', (q1.trans f3).trans ff, E', S', q4⟩
    · subst eo
      have q4 : (some (.nx s') : Option (Fl S R)) = some fl := q4
      exact kn s' (Option.some.inj q4).symm σ' F' H' (((f1.trans q1).trans f3).trans ff) E' S'
  · obtain ⟨s, F2, q1, q2, q3, q4⟩ := q
    rw [List.drop_length] at q4
    exact kn s (Option.some.inj q4).symm σ F2 H (f1.trans q1) q2 q3
/-- .. without -/
theorem st_forS {α S : Type} {eα : α → PyData} {wi : TI} {g : TG} {tb : TS} {xs : List α} {f : α → S → Option S} {s0 s1 : S} (ρf : S → List Sl) (Of : S → Os) (E : EnvR K F σ ρ) (S0 : Hx K F0 H0 D0 F O H) (hI : RI K wi ρ O (xs.map eα) (Of s0)) (hf : forS f xs s0 = some s1) (hW : Wk ρ (ρf s0))
    (kn : ∀ σ' F' H', Same F F' → EnvR K F' σ' (ρf s1) → Hx K F0 H0 D0 F' (Of s1) H' → D.nx σ' H')
    (body : ∀ x ∈ xs, ∀ s s', f x s = some s' → ∀ σ1 F1 H1 v, Same F F1 → EnvR K F1 σ1 (ρf s) → Hx K F0 H0 D0 F1 (Of s) H1 → Rp K F1 v (eα x) →
      ∀ (N B : L2.St → Hp → Prop), (∀ σ' F' H', Same F1 F' → EnvR K F' σ' (ρf s') → Hx K F0 H0 D0 F' (Of s') H' → N σ' H') → g v σ1 H1 fun σ2 H2 => tb { D with nx := N, ct := N, bk := B } σ2 H2) :
    tFor wi g tb D σ H := by
  have e : ∀ (ys : List α) (s : S), forF (R := Empty) (fun x s => (f x s).bind fun s' => some (.nx s')) ys s = (forS f ys s).bind fun s' => some (.nx s') := by
    intro ys
    induction ys with
    | nil => intro s; rfl
    | cons y ys ih =>
      intro s
      unfold forF forS
      cases f y s with
      | none => rfl
      | some s' => exact ih s'
  refine st_forF (R := Empty) (fl := .nx s1) (f := fun x s => (f x s).bind fun s' => some (.nx s')) ρf Of E S0 hI (by rw [e, hf]; rfl) hW (fun s eq => ?_) fun x hx s out ho _ σ1 F1 H1 v g1 g2 g3 g4 N B hN hB => ?_
  · cases eq
    exact kn
  · obtain ⟨s', e1, e2⟩ := bindE ho
    exact body x hx s s' e1 σ1 F1 H1 v g1 g2 g3 g4 N B (hN s' (Option.some.inj e2).symm)
theorem st_whileF {S R : Type} {tc : TT} {tb : TS} {c : S → Option Bool} {f : S → Option (Fl S R)} {n : Nat} {s0 : S} {fl : Fl S R} (ρf : S → List Sl) (Of : S → Os) (E : EnvR K F σ ρ) (S0 : Hx K F0 H0 D0 F (Of s0) H) (hf : whileF c f n s0 = some fl) (ht : ∀ s b, c s = some b → RT K tc (ρf s) (Of s) b (Of s)) (hW : Wk ρ (ρf s0))
    (kn : ∀ s, fl = .nx s → ∀ σ' F' H', Same F F' → EnvR K F' σ' (ρf s) → Hx K F0 H0 D0 F' (Of s) H' → D.nx σ' H')
    (body : ∀ s out, c s = some true → f s = some out → (∀ r, out = .rt r → fl = .rt r) → ∀ σ1 F1 H1, Same F F1 → EnvR K F1 σ1 (ρf s) → Hx K F0 H0 D0 F1 (Of s) H1 →
      ∀ (N B : L2.St → Hp → Prop), (∀ s', out = .nx s' → ∀ σ' F' H', Same F1 F' → EnvR K F' σ' (ρf s') → Hx K F0 H0 D0 F' (Of s') H' → N σ' H') →
      (∀ s', out = .bk s' → ∀ σ' F' H', Same F1 F' → EnvR K F' σ' (ρf s') → Hx K F0 H0 D0 F' (Of s') H' → B σ' H') → tb { D with nx := N, ct := N, bk := B } σ1 H1) :
    tWhile tc tb D σ H := by
  refine ⟨fun m σ H => ∃ s F2, Same F F2 ∧ EnvR K F2 σ (ρf s) ∧ Hx K F0 H0 D0 F2 (Of s) H ∧ whileF c f m s = some fl, ⟨n, s0, F, Same.refl _, E.weak hW, S0, hf⟩, ?_⟩
  rintro m σ H ⟨s, F2, q1, q2, q3, q4⟩
  cases m with
  | zero => cases q4
  | succ m =>
    obtain ⟨b, e1, q4⟩ := bindE q4
    refine (ht s b e1).go q2 q3 fun F3 H3 f3 E3 S3 => ?_
    cases b with
    | false =>
      have q4 : (some (.nx s) : Option (Fl S R)) = some fl := q4
      exact iteF (kn s (Option.some.inj q4).symm σ F3 H3 (q1.trans f3) E3 S3)
    | true =>
      have q4 : ((f s).bind fun r => match r with
        | .nx s' => whileF c f m s'
        | .bk s' => some (.nx s')
        | .rt r => some (.rt r)) = some fl := q4
      obtain ⟨out, e2, q4⟩ := bindE q4
      refine iteT ⟨fun σ' H' => ∃ s' F4, Same F F4 ∧ EnvR K F4 σ' (ρf s') ∧ Hx K F0 H0 D0 F4 (Of s') H' ∧ whileF c f m s' = some fl, fun σ' H' q => ⟨m, Nat.lt_succ_self m, q⟩, ?_⟩
      refine body s out e1 e2 (fun r eo => ?_) σ F3 H3 (q1.trans f3) E3 S3 _ _ (fun s' eo σ' F' H' ff E' S' => ?_) (fun s' eo σ' F' H' ff E' S' => ?_)
      · subst eo
        have q4 : (some (.rt r) : Option (Fl S R)) = some fl := q4
        exact (Option.some.inj q4).symm
      · subst eo
        exact ⟨s', F', (q1.trans f3).trans ff, E', S', q4⟩
      · subst eo
        have q4 : (some (.nx s') : Option (Fl S R)) = some fl := q4
        exact kn s' (Option.some.inj q4).symm σ' F' H' ((q1.trans f3).trans ff) E' S'
theorem st_whileS {S : Type} {tc : TT} {tb : TS} {c : S → Option Bool} {f : S → Option S} {n : Nat} {s0 s1 : S} (ρf : S → List Sl) (Of : S → Os) (E : EnvR K F σ ρ) (S0 : Hx K F0 H0 D0 F (Of s0) H) (hf : whileS c f n s0 = some s1) (ht : ∀ s b, c s = some b → RT K tc (ρf s) (Of s) b (Of s)) (hW : Wk ρ (ρf s0))
    (kn : ∀ σ' F' H', Same F F' → EnvR K F' σ' (ρf s1) → Hx K F0 H0 D0 F' (Of s1) H' → D.nx σ' H')
    (body : ∀ s s', c s = some true → f s = some s' → ∀ σ1 F1 H1, Same F F1 → EnvR K F1 σ1 (ρf s) → Hx K F0 H0 D0 F1 (Of s) H1 →
      ∀ (N B : L2.St → Hp → Prop), (∀ σ' F' H', Same F1 F' → EnvR K F' σ' (ρf s') → Hx K F0 H0 D0 F' (Of s') H' → N σ' H') → tb { D with nx := N, ct := N, bk := B } σ1 H1) :
    tWhile tc tb D σ H := by
  have e : ∀ (n : Nat) (s : S), whileF (R := Empty) c (fun s => (f s).bind fun s' => some (.nx s')) n s = (whileS c f n s).bind fun s' => some (.nx s') := by
    intro n
    induction n with
    | zero => intro s; rfl
    | succ n ih =>
      intro s
      unfold whileF whileS
      cases c s with
      | none => rfl
      | some b =>
        cases b with
        | false => rfl
        | true =>
          simp only [Option.bind_some, if_true]
          cases f s with
          | none => rfl
          | some s' => exact ih s'
  refine st_whileF (R := Empty) (fl := .nx s1) (f := fun s => (f s).bind fun s' => some (.nx s')) ρf Of E S0 (by rw [e, hf]; rfl) ht hW (fun s eq => ?_) fun s out hc ho _ σ1 F1 H1 g1 g2 g3 N B hN hB => ?_
  · cases eq
    exact kn
  · obtain ⟨s', e1, e2⟩ := bindE ho
    exact body s s' hc e1 σ1 F1 H1 g1 g2 g3 N B (hN s' (Option.some.inj e2).symm)
end

/-! ### defs -/
section
variable {P : Program} {w : World} {K : Fg} {mg : Str → Option Value} {base : Heap}
/-- a def that is there and keeps its promise -/
def Cal (P : Program) (w : World) (K : Fg) (mg : Str → Option Value) (base : Heap) (k : Nat) (x : Str) (ps : List Str) (sp : Sp) : Prop :=
  ∃ f fd, FnOk P w K mg base CX0 k f fd ps sp ∧ mg x = some (.ref f) ∧ PySem.W.keepIn K (.ref f) = true ∧ Binds K fd ps []
/-- a def that is there -/
def Dfn (K : Fg) (mg : Str → Option Value) (x : Str) (st : Stmt) (ps : List Str) : Prop := ∃ f fd, Fun K x x st f fd ∧ mg x = some (.ref f) ∧ Binds K fd ps []
theorem Dfn.cal {x : Str} {st : Stmt} {N ps : List Str} {k : Nat} {sp : Sp} (h : Dfn K mg x st ps) (S : FnScope N ps (defScope st)) (len : ∀ vs H Q E, sp vs H Q E → vs.length = ps.length)
    (hbody : ∀ (f : Addr) (cdv : Value) (A : Around) (outer : List Env) (s : Shared) (H : Hp) (vs : List V) (Q : VK) (E : XK), Room k (A.deeper (PyProof.Rows.envOfC x (defScope st) s.heap.objs.size f cdv)) → sp vs H Q E →
      ∃ t, PSs (cxOf CX0 P w K mg base N x (defScope st) f cdv A outer s H E).nox (defBody st) t ∧ t { nx := fun _ H' => Q .non H', rt := Q } (start N vs) H) : Cal P w K mg base (k + 1) x ps sp := by
  obtain ⟨f, fd, F, hm, b⟩ := h
  exact ⟨f, fd, F.ok S len fun cdv A outer s H vs Q E hr hs => hbody f cdv A outer s H vs Q E hr hs, hm, F.kp, b⟩
theorem Cal.mono {j k : Nat} {x : Str} {ps : List Str} {sp : Sp} (h : Cal P w K mg base j x ps sp) (hk : j ≤ k) : Cal P w K mg base k x ps sp := by
  obtain ⟨f, fd, F, r⟩ := h
  exact ⟨f, fd, F.mono hk, r⟩
theorem Cal.imp {k : Nat} {x : Str} {ps : List Str} {sp sp' : Sp} (h : Cal P w K mg base k x ps sp) (hi : ∀ vs H Q E, sp' vs H Q E → sp vs H Q E) : Cal P w K mg base k x ps sp' := by
  obtain ⟨f, fd, F, r⟩ := h
  exact ⟨f, fd, F.imp hi, r⟩
theorem pe_cal {X : Cx} {j k : Nat} {x : Str} {ps : List Str} {sp : Sp} {p pos : Pos} {e : Expr} {es : List Expr} {t : TA} (C : Cal X.prog X.w X.K X.mg X.base j x ps sp) (hr : Room k X.A) (ha : PA X (e :: es) t) (hjk : j ≤ k := by decide) (hg : Gl X x := by rfl) (hdb : (x == ("__debug__" : Str)) = false := by decide)
    (he : starEach (e :: es) X.env = (false, eval e X.env) :: starEach es X.env := by rfl) (hpl : (backTo pos (starEach es X.env)).any (·.1) = false := by rfl) :
    PE X (.Call (.Name x p) (e :: es) [] pos) (tCall sp [] L2.E0 t) := by
  obtain ⟨f, fd, F, hm, kp, b⟩ := C
  exact pe_call F (hr.mono hjk) hg hm kp b .nil pass0 ha hdb he hpl
/-- the entry -/
theorem sp_len {R : List PyData → PyData → Prop} {n : Nat} (h : ∀ ds d, R ds d → ds.length = n) : ∀ vs H Q E, SpP K R vs H Q E → vs.length = n := fun vs H Q E ⟨F, ds, d, r, _, hR, _⟩ => r.length.trans (h ds d hR)
theorem sn_len {R : List PyData → List PyData → Prop} {n : Nat} (h : ∀ ds d, R ds d → ds.length = n) : ∀ vs H Q E, SpN K R vs H Q E → vs.length = n := fun vs H Q E ⟨F, ds, d, r, _, hR, _⟩ => r.length.trans (h ds d hR)
theorem spo_len {R : List PyData → List PyData → PyData → List PyData → Prop} {n : Nat} (h : ∀ c ds d c', R c ds d c' → ds.length + 1 = n) : ∀ vs H Q E, SpPo K R vs H Q E → vs.length = n := fun vs H Q E ⟨F, p, ws, xs, c, ds, d, c', e, r, _, _, _, _, _, hR, _⟩ => by
  subst e
  rw [List.length_cons, r.length]
  exact h c ds d c' hR
theorem sno_len {R : List PyData → List PyData → List PyData → List PyData → Prop} {n : Nat} (h : ∀ c ds d c', R c ds d c' → ds.length + 1 = n) : ∀ vs H Q E, SpNo K R vs H Q E → vs.length = n := fun vs H Q E ⟨F, p, ws, xs, c, ds, d, c', e, r, _, _, _, _, _, hR, _⟩ => by
  subst e
  rw [List.length_cons, r.length]
  exact h c ds d c' hR
theorem AsR.of_all {F : Hp} : ∀ {vs : List V} {ds : List PyData}, RpAll K F vs ds → AsR K F vs (ds.map .val)
  | _, _, .nil => .nil
  | _, _, .cons r t => .val r (AsR.of_all t)
end
end TL

namespace TL
open PySem L2
open Enc
def modO (i j : Int) : Option Int := if 0 < j then some (i % j) else none
def fdivO (i j : Int) : Option Int := if 0 < j ∧ j < 1073741824 then some (i / j) else none
def mulO (i j : Int) : Option Int := if (-18446744073709551616 < i ∧ i < 18446744073709551616) ∨ (-18446744073709551616 < j ∧ j < 18446744073709551616) then some (i * j) else none
def shlO (i j : Int) : Option Int := if 0 ≤ j ∧ j ≤ 1000000 ∧ -18446744073709551616 < i ∧ i < 18446744073709551616 then some (i * 2 ^ j.toNat) else none
def shrO (i j : Int) : Option Int := if 0 ≤ j then some (i / 2 ^ j.toNat) else none
def powO (i j : Int) : Option Int := if 0 ≤ j ∧ j ≤ 1000000 ∧ -18446744073709551616 < i ∧ i < 18446744073709551616 then some (i ^ j.toNat) else none
def repO {α : Type} (xs : List α) (i : Int) : Option (List α) := if xs.length * i.toNat ≤ 16777216 ∧ -9223372036854775808 ≤ i ∧ i < 9223372036854775808 then some (List.replicate i.toNat xs).flatten else none
def eqO {α : Type} [Enc α] [DecidableEq α] [EqD α] (x y : α) : Option Bool := if EqD.ok x = true ∧ EqD.ok y = true then some (decide (x = y)) else none
/-- kinds without texts -/
class EqT (α : Type) [Enc α] [DecidableEq α] [EqD α] : Prop where
  ok : ∀ x : α, EqD.ok x = true
instance : EqT Int := ⟨fun _ => rfl⟩
instance : EqT Bool := ⟨fun _ => rfl⟩
instance : EqT (Option Int) := ⟨fun _ => rfl⟩
instance {α : Type} [Enc α] [DecidableEq α] [EqD α] [EqT α] : EqT (List α) := ⟨fun x => List.all_eq_true.mpr fun y _ => EqT.ok y⟩
instance {α : Type} [Enc α] [DecidableEq α] [EqD α] [EqT α] : EqT (Tp α) := ⟨fun x => List.all_eq_true.mpr fun y _ => EqT.ok y⟩
instance {α β : Type} [Enc α] [DecidableEq α] [EqD α] [EqT α] [Enc β] [DecidableEq β] [EqD β] [EqT β] : EqT (α × β) := ⟨fun x => by
  show (EqD.ok x.1 && EqD.ok x.2) = true
  rw [EqT.ok, EqT.ok]; rfl⟩
section
variable {K : Fg} {ta tb te : TE} {ρ : List Sl} {O O1 O2 : Os} {i j r : Int}
theorem rx_as {α : Type} [Enc α] {x y : α} {O' : Os} (e : x = y) (h : RX K ta ρ O (enc x) O') : RX K ta ρ O (enc y) O' := e ▸ h
theorem rxo_as {α : Type} {f : α → PyData} {x y : List α} {O' : Os} (e : x = y) (h : RXo K ta ρ O (x.map f) O') : RXo K ta ρ O (y.map f) O' := e ▸ h
theorem rx_modO (h : modO i j = some r) (ha : RX K ta ρ O (.int i) O1) (hb : RX K tb ρ O1 (.int j) O2) : RX K (tOp (rI (fun _ j => 0 < j) fun i j => .int (i % j)) ta tb) ρ O (.int r) O2 := by
  unfold modO at h
  split at h
  · rename_i hc; cases h; exact rx_mod ha hb hc
  · cases h
theorem rx_fdivO (h : fdivO i j = some r) (ha : RX K ta ρ O (.int i) O1) (hb : RX K tb ρ O1 (.int j) O2) : RX K (tOp (rI CDiv fun i j => .int (i / j)) ta tb) ρ O (.int r) O2 := by
  unfold fdivO at h
  split at h
  · rename_i hc; cases h; exact rx_fdiv ha hb hc
  · cases h
theorem rx_mulO (h : mulO i j = some r) (ha : RX K ta ρ O (.int i) O1) (hb : RX K tb ρ O1 (.int j) O2) : RX K (tOp (rI CMul fun i j => .int (i * j)) ta tb) ρ O (.int r) O2 := by
  unfold mulO at h
  split at h
  · rename_i hc; cases h; exact rx_mul ha hb hc
  · cases h
theorem cpow_of {i j : Int} (h : 0 ≤ j ∧ j ≤ 1000000 ∧ -18446744073709551616 < i ∧ i < 18446744073709551616) : CPow i j := ⟨h.1, h.2.1, by
  have h1 := h.2.2.1
  have h2 := h.2.2.2
  omega⟩
theorem rx_shlO (h : shlO i j = some r) (ha : RX K ta ρ O (.int i) O1) (hb : RX K tb ρ O1 (.int j) O2) : RX K (tOp (rI CPow fun i j => .int (i * 2 ^ j.toNat)) ta tb) ρ O (.int r) O2 := by
  unfold shlO at h
  split at h
  · rename_i hc; cases h; exact rx_shl ha hb (cpow_of hc)
  · cases h
theorem rx_powO (h : powO i j = some r) (ha : RX K ta ρ O (.int i) O1) (hb : RX K tb ρ O1 (.int j) O2) : RX K (tOp (rI CPow fun i j => .int (i ^ j.toNat)) ta tb) ρ O (.int r) O2 := by
  unfold powO at h
  split at h
  · rename_i hc; cases h; exact rx_pow ha hb (cpow_of hc)
  · cases h
theorem rx_shrO (h : shrO i j = some r) (ha : RX K ta ρ O (.int i) O1) (hb : RX K tb ρ O1 (.int j) O2) : RX K (tOp (rI (fun _ j => 0 ≤ j) fun i j => .int (i / 2 ^ j.toNat)) ta tb) ρ O (.int r) O2 := by
  unfold shrO at h
  split at h
  · rename_i hc; cases h; exact rx_shr ha hb hc
  · cases h
theorem ext_len {α : Type} {xs ys zs : List α} (h : extO xs ys = some zs) : xs.length + ys.length ≤ sizeLine ∧ zs = xs ++ ys := by
  unfold extO at h
  split at h
  · rename_i hc; cases h; rw [sizeLine_eq]; exact ⟨hc, rfl⟩
  · cases h
theorem rxo_catO {α : Type} {f : α → PyData} {xs ys zs : List α} (h : extO xs ys = some zs) (ha : RXs K ta ρ O (xs.map f) O1) (hb : RXs K tb ρ O1 (ys.map f) O1) : RXo K (tOp (rCatR K) ta tb) ρ O (zs.map f) O1 := by
  obtain ⟨h1, rfl⟩ := ext_len h
  rw [List.map_append]
  exact rxo_cat ha hb (by rw [List.length_map, List.length_map]; exact h1)
theorem rxo_catOF {α : Type} {f : α → PyData} {xs ys zs : List α} (h : extO xs ys = some zs) (ha : RX K ta ρ O (.list (xs.map f)) O1) (hb : RX K tb ρ O1 (.list (ys.map f)) O2) : RXo K (tOp (rCatR K) ta tb) ρ O (zs.map f) O2 := by
  obtain ⟨h1, rfl⟩ := ext_len h
  rw [List.map_append]
  exact rxo_catF ha hb (by rw [List.length_map, List.length_map]; exact h1)
theorem rx_catTO {α : Type} {f : α → PyData} {xs ys zs : List α} (h : extO xs ys = some zs) (ha : RX K ta ρ O (.tuple (xs.map f)) O1) (hb : RX K tb ρ O1 (.tuple (ys.map f)) O2) : RX K (tOp (rCatA K) ta tb) ρ O (.tuple (zs.map f)) O2 := by
  obtain ⟨h1, rfl⟩ := ext_len h
  rw [List.map_append]
  exact rx_catT ha hb (by rw [List.length_map, List.length_map]; exact h1)
theorem rxo_repO {α : Type} {f : α → PyData} {xs zs : List α} (h : repO xs i = some zs) (ha : RXo K ta ρ O (xs.map f) O1) (hb : ∀ p, RX K tb ρ (⟨p, true, xs.map f⟩ :: O1) (.int i) (⟨p, true, xs.map f⟩ :: O1)) : RXo K (tOp rRep ta tb) ρ O (zs.map f) O1 := by
  unfold repO at h
  split at h
  · rename_i hc
    cases h
    have e : (List.replicate i.toNat xs).flatten.map f = (List.replicate i.toNat (xs.map f)).flatten := by rw [List.map_flatten, List.map_replicate]
    rw [e]
    exact rxo_rep ha hb (by rw [List.length_map, sizeLine_eq]; exact hc.1) ⟨by omega, by omega⟩
  · cases h
theorem rxo_sliceM {α : Type} {f : α → PyData} {xs : List α} {tl th : TO} {lo hi : Option Int} (ha : RXs K ta ρ O (xs.map f) O1) (hl : RO K tl ρ O1 lo O1) (hh : RO K th ρ O1 hi O1) : RXo K (tSl (rSlL K) ta tl th) ρ O ((cutL xs lo hi).map f) O1 := by
  rw [cutL_map]
  exact rxo_slice ha hl hh
theorem rxo_sliceFM {α : Type} {f : α → PyData} {xs : List α} {tl th : TO} {lo hi : Option Int} {O3 : Os} (ha : RX K ta ρ O (.list (xs.map f)) O1) (hl : RO K tl ρ O1 lo O2) (hh : RO K th ρ O2 hi O3) : RXo K (tSl (rSlL K) ta tl th) ρ O ((cutL xs lo hi).map f) O3 := by
  rw [cutL_map]
  exact rxo_sliceF ha hl hh
theorem rx_sliceTM {α : Type} {f : α → PyData} {xs : List α} {tl th : TO} {lo hi : Option Int} {O3 : Os} (ha : RX K ta ρ O (.tuple (xs.map f)) O1) (hl : RO K tl ρ O1 lo O2) (hh : RO K th ρ O2 hi O3) : RX K (tSl (rSlA K) ta tl th) ρ O (.tuple ((cutL xs lo hi).map f)) O3 := by
  rw [cutL_map]
  exact rx_sliceT ha hl hh
theorem rxo_revM {α : Type} {f : α → PyData} {xs : List α} (ha : RXs K ta ρ O (xs.map f) O1) : RXo K (tRevL K ta) ρ O (xs.reverse.map f) O1 := by
  rw [List.map_reverse]
  exact rxo_rev ha
theorem rx_eqO {α : Type} [Enc α] [DecidableEq α] [EqD α] {x y : α} {b : Bool} (h : eqO x y = some b) (ha : RXh K ta ρ O (enc x) O1) (hb : RXh K tb ρ O1 (enc y) O1) (hd : EqD.dp α ≤ 64 := by decide) : RX K (tOp (rEqD K) ta tb) ρ O (.bool b) O1 := by
  unfold eqO at h
  split at h
  · rename_i hc; cases h; exact rx_eqD ha hb hd hc.1 hc.2
  · cases h
theorem rx_neO {α : Type} [Enc α] [DecidableEq α] [EqD α] {x y : α} {b : Bool} (h : eqO x y = some b) (ha : RXh K ta ρ O (enc x) O1) (hb : RXh K tb ρ O1 (enc y) O1) (hd : EqD.dp α ≤ 64 := by decide) : RX K (tOp (rNeD K) ta tb) ρ O (.bool (!b)) O1 := by
  unfold eqO at h
  split at h
  · rename_i hc; cases h; exact rx_neD ha hb hd hc.1 hc.2
  · cases h
theorem rx_eqT {α : Type} [Enc α] [DecidableEq α] [EqD α] [EqT α] {x y : α} (ha : RXh K ta ρ O (enc x) O1) (hb : RXh K tb ρ O1 (enc y) O1) (hd : EqD.dp α ≤ 64 := by decide) : RX K (tOp (rEqD K) ta tb) ρ O (.bool (decide (x = y))) O1 :=
  rx_eqD ha hb hd (EqT.ok x) (EqT.ok y)
theorem rx_neT {α : Type} [Enc α] [DecidableEq α] [EqD α] [EqT α] {x y : α} (ha : RXh K ta ρ O (enc x) O1) (hb : RXh K tb ρ O1 (enc y) O1) (hd : EqD.dp α ≤ 64 := by decide) : RX K (tOp (rNeD K) ta tb) ρ O (.bool (!decide (x = y))) O1 :=
  rx_neD ha hb hd (EqT.ok x) (EqT.ok y)
theorem len_nat {α : Type} {f : α → PyData} {xs : List α} (ha : RXs K ta ρ O (xs.map f) O1) : RX K (tCB (rLenQ K) (tCons ta tNil)) ρ O (.int (xs.length : Nat)) O1 := by
  have := rx_len ha
  rw [List.length_map] at this
  exact this
theorem len_natT {α : Type} {f : α → PyData} {xs : List α} (ha : RX K ta ρ O (.tuple (xs.map f)) O1) : RX K (tCB (rLenQ K) (tCons ta tNil)) ρ O (.int (xs.length : Nat)) O1 := by
  have := rx_lenT ha
  rw [List.length_map] at this
  exact this
theorem ri_rangeLenM {α : Type} {f : α → PyData} {xs : List α} (ha : RXs K ta ρ O (xs.map f) O1) : RI K (iRng1 (tCons (tCB (rLenQ K) (tCons ta tNil)) tNil)) ρ O ((rngL 0 xs.length).map .int) O1 := by
  have := ri_rangeLen ha
  rw [List.length_map] at this
  exact this
theorem ri_rangeLenTM {α : Type} {f : α → PyData} {xs : List α} (ha : RX K ta ρ O (.tuple (xs.map f)) O1) : RI K (iRng1 (tCons (tCB (rLenQ K) (tCons ta tNil)) tNil)) ρ O ((rngL 0 xs.length).map .int) O1 := by
  have := ri_rangeLenT ha
  rw [List.length_map] at this
  exact this
/-- int(flag) -/
abbrev rInt1 : List V → Hp → VK → Prop := fun xs H Q => (∃ i, xs = [.int i] ∧ Q (.int i) H) ∨ ∃ b, xs = [.bl b] ∧ Q (.int (if b then 1 else 0)) H
end
/-- what comes behind a loop that may return -/
def flK {S R γ : Type} : Fl S R → (S → γ) → (R → γ) → γ
  | .nx s, f, _ => f s
  | .bk s, f, _ => f s
  | .rt r, _, g => g r
theorem letE {α β : Type} {x : α} {f : α → Option β} {r : β} (h : (some x).bind f = some r) : ∃ y, x = y ∧ f y = some r := ⟨x, rfl, h⟩
end TL
namespace TL
open PySem L2
open Enc
section
variable {K : Fg} {ta tb te : TE} {ρ : List Sl} {O O1 O2 : Os} {i j r : Int}
theorem rx_intB {b : Bool} (ha : RX K ta ρ O (.bool b) O1) : RX K (tCB rInt1 (tCons ta tNil)) ρ O (.int (b2n b)) O1 := rx_cb1 ha fun F H x Q f r k => by
  cases r
  exact .inr ⟨b, rfl, k _ (.int _)⟩
theorem rx_intI (ha : RX K ta ρ O (.int i) O1) : RX K (tCB rInt1 (tCons ta tNil)) ρ O (.int i) O1 := rx_cb1 ha fun F H x Q f r k => by
  cases r
  exact .inl ⟨i, rfl, k _ (.int _)⟩
def strI (i : Int) : Str := (toString i : String)
def strO (i : Int) : Option Str := if i.natAbs.log2 < 1920 then some (strI i) else none
theorem rx_strO {z : Str} (h : strO i = some z) (ha : RX K ta ρ O (.int i) O1) : RX K (tCB (fun xs H Q => ∃ i, xs = [.int i] ∧ i.natAbs.log2 < 1920 ∧ Q (.str (toString i)) H) (tCons ta tNil)) ρ O (.str z) O1 := rx_cb1 ha fun F H x Q f r k => by
  cases r
  unfold strO at h
  split at h
  · rename_i hc; cases h; exact ⟨i, rfl, hc, k _ (.str _)⟩
  · cases h
end
end TL

namespace TL
open PySem L2
theorem nxt {D : Ends} {σ : L2.St} {H : Hp} (h : D.nx σ H) : tNext D σ H := h
theorem nxD {f : L2.St → Hp → Prop} {a : VK} {b c : L2.St → Hp → Prop} {σ : L2.St} {H : Hp} (h : f σ H) : Ends.nx ⟨f, a, b, c⟩ σ H := h
/-- turns a while may take -/
def FUEL : Nat := 1000000
/-- calls of itself -/
def RF : Nat := 60
section
variable {X : Cx} (K : Fg)
theorem k_ix_list (hK : X.K = K := by rfl) : IxR X (rIxL K) := by subst hK; exact ix_list
theorem k_ix_tup (hK : X.K = K := by rfl) : IxR X (rIxT K) := by subst hK; exact ix_tup
theorem k_sum (hc : X.calm = true) (hK : X.K = K := by rfl) : CallR X (.builtin "sum") (rSum K) := by subst hK; exact cr_sum hc
theorem k_all (hc : X.calm = true) (hK : X.K = K := by rfl) : CallR X (.builtin "all") (rAll K) := by subst hK; exact cr_all hc
theorem k_any (hc : X.calm = true) (hK : X.K = K := by rfl) : CallR X (.builtin "any") (rAny K) := by subst hK; exact cr_any hc
theorem k_min (hc : X.calm = true) (hK : X.K = K := by rfl) : CallR X (.builtin "min") (rMin K) := by subst hK; exact cr_min hc
theorem k_max (hc : X.calm = true) (hK : X.K = K := by rfl) : CallR X (.builtin "max") (rMax K) := by subst hK; exact cr_max hc
theorem k_sorted (hK : X.K = K := by rfl) : CallR X (.builtin "sorted") (rSorted K) := by subst hK; exact cr_sorted
theorem k_eqD (hu : X.A.units + 64 < cLine) (hK : X.K = K := by rfl) : OpR X (compareOp .Eq) (rEqD K) := by subst hK; exact op_eqD hu
theorem k_neD (hu : X.A.units + 64 < cLine) (hK : X.K = K := by rfl) : OpR X (compareOp .NotEq) (rNeD K) := by subst hK; exact op_neD hu
theorem k_in_seq (hK : X.K = K := by rfl) : OpR X (compareOp .In) (rIn K false) := by subst hK; exact op_in_seq
theorem k_notIn_seq (hK : X.K = K := by rfl) : OpR X (compareOp .NotIn) (rIn K true) := by subst hK; exact op_notIn_seq
theorem k_catA (hK : X.K = K := by rfl) : OpR X (binaryOp .Add) (rCatA K) := by subst hK; exact op_catA
theorem k_catR (hK : X.K = K := by rfl) : OpR X (binaryOp .Add) (rCatR K) := by subst hK; exact op_catR
theorem k_sl_list (hK : X.K = K := by rfl) : L2.SlR X (rSlL K) := by subst hK; exact sl_list
theorem k_sl_tupA (hK : X.K = K := by rfl) : L2.SlR X (rSlA K) := by subst hK; exact sl_tupA
theorem k_len_seq (hK : X.K = K := by rfl) : CallR X (.builtin "len") (rLenQ K) := by subst hK; exact call_len_seq
theorem k_list_of (hK : X.K = K := by rfl) : CallR X (.type "list") (fun xs H Q => ∃ p ys, xs = [.ref p] ∧ (SqL K H p ys ∨ SqT K H p ys) ∧ ∀ l, H l = none → Q (.ref l) (upd H l (.lst ys))) := by subst hK; exact call_list_of
theorem k_tuple_of (hK : X.K = K := by rfl) : CallR X (.type "tuple") (fun xs H Q => ∃ p ys, xs = [.ref p] ∧ ((SqL K H p ys ∧ ∀ l, H l = none → Q (.ref l) (upd H l (.tup ys))) ∨ (SqT K H p ys ∧ Q (.ref p) H))) := by subst hK; exact call_tuple_of
theorem k_revL {e : Expr} {te : TE} {k : Nat} {p1 p2 p3 pos : Pos} (he : PE X e te) (hK : X.K = K := by rfl) : PE X (.Subscript e (.Slice none none (some (.UnaryOp .USub (.Constant (.int 1) k p1) p2)) p3) pos) (tRevL K te) := by subst hK; exact pe_revL he
theorem k_pi_list {tg l : Expr} {tl : TE} (hl : PE X l tl) (hK : X.K = K := by rfl) : PI X tg l (iList K tl) := by subst hK; exact pi_list hl
theorem k_pi_tup {tg l : Expr} {tl : TE} (hl : PE X l tl) (hK : X.K = K := by rfl) : PI X tg l (iTup K tl) := by subst hK; exact pi_tup hl
theorem k_pi_enum {e : Expr} {ta : TA} {p pos tpos : Pos} {elts : List Expr} {kk : Nat} (hg : Gl X "enumerate") (hm : X.mg "enumerate" = none) (ha : PA X [e] ta) (hs : starEach [e] X.env = [(false, eval e X.env)] := by rfl) (hK : X.K = K := by rfl) :
    PI X (.Tuple elts kk tpos) (.Call (.Name "enumerate" p) [e] [] pos) (iEnum K ta) := by subst hK; exact pi_enum hg hm ha hs
theorem k_pi_zip {e e2 : Expr} {ta : TA} {p pos tpos : Pos} {elts : List Expr} {kk : Nat} (hg : Gl X "zip") (hm : X.mg "zip" = none) (ha : PA X [e, e2] ta)
    (hs : starEach [e, e2] X.env = (false, eval e X.env) :: starEach [e2] X.env := by rfl) (hpl : (backTo pos (starEach [e2] X.env)).any (·.1) = false := by rfl) (hK : X.K = K := by rfl) :
    PI X (.Tuple elts kk tpos) (.Call (.Name "zip" p) [e, e2] [] pos) (iZip K ta) := by subst hK; exact pi_zip hg hm ha hs hpl
end
end TL

/-! TLk: lists of own lists, as _law_pots makes them -/
namespace TL
open PySem L2
open Enc
def potsL (ns : List Int) : List Int := if ns.length = 0 then [0] else cutL ns none (some 63)
/-- called with a list of whole numbers: a new list of new lists [n, 0] -/
def SpPots (K : Fg) : Sp := fun vs H Q _ => ∃ F ns, RpAll K F vs [.list (ns.map .int)] ∧ Same F H ∧ ∀ (L : Addr) (ps : List Addr) (H' : Hp), Same H H' → H L = none → L ∉ ps → (∀ p ∈ ps, H p = none) → ps.Nodup → ps.length = (potsL ns).length →
  H' L = some (.lst (ps.map .ref)) → (∀ (i : Nat) (p : Addr) (c : Int), ps[i]? = some p → (potsL ns)[i]? = some c → H' p = some (.lst [.int c, .int 0])) → Q (.ref L) H'
theorem spots_len {K : Fg} : ∀ vs H Q E, SpPots K vs H Q E → vs.length = 1 := fun vs H Q E ⟨F, ns, r, _⟩ => r.length
theorem Hx.same {K : Fg} {F0 H0 F H : Hp} {O : Os} (S : Hx K F0 H0 [] F O H) : Same H0 H := fun a o e => S.keep a o e (by simp)
theorem pots_one {σ : L2.St} {H : Hp} {Q : VK} (k : ∀ (L : Addr) (ps : List Addr) (H' : Hp), Same H H' → H L = none → L ∉ ps → (∀ p ∈ ps, H p = none) → ps.Nodup → ps.length = 1 → H' L = some (.lst (ps.map .ref)) →
    (∀ (i : Nat) (p : Addr) (c : Int), ps[i]? = some p → [(0 : Int)][i]? = some c → H' p = some (.lst [.int c, .int 0])) → Q (.ref L) H') :
    tLst (tCons (tLst (tCons (tC (.int 0)) (tCons (tC (.int 0)) tNil))) tNil) σ H Q := by
  refine ⟨by show (2 : Nat) ≤ sizeLine; decide, fun p hp => ⟨by show (1 : Nat) ≤ sizeLine; decide, fun L hL => ?_⟩⟩
  have hne : L ≠ p := fun e => by
    subst e
    rw [upd_same] at hL
    cases hL
  have hL' : H L = none := by
    rw [upd_ne hne] at hL
    exact hL
  refine k L [p] _ ((same_upd hp).trans (same_upd hL)) hL' (by simpa using hne) (by simpa using hp) (by simp) rfl upd_same fun i q c h1 h2 => ?_
  cases i with
  | zero =>
    cases h1
    cases h2
    rw [upd_ne (Ne.symm hne), upd_same]
  | succ i => cases h1
theorem EnvR.length {K : Fg} {F : Hp} {σ : L2.St} {ρ : List Sl} (h : EnvR K F σ ρ) : σ.length = ρ.length := by
  induction h with
  | nil => rfl
  | cons _ _ ih => rw [List.length_cons, List.length_cons, ih]
theorem wipe_len (σ : L2.St) : ∀ vs : List Nat, (L2.wipe σ vs).length = σ.length := fun vs => wipe_length σ vs
theorem get_snoc {α : Type} {xs : List α} {x y : α} {i : Nat} (h : (xs ++ [x])[i]? = some y) : xs[i]? = some y ∨ (i = xs.length ∧ y = x) := by
  rw [List.getElem?_append] at h
  split at h
  · exact .inl h
  · rename_i hlt
    cases e : i - xs.length with
    | zero =>
      rw [e] at h
      exact .inr ⟨by omega, (Option.some.inj h).symm⟩
    | succ n => rw [e] at h; simp at h
theorem ite_true_of {A B : Prop} (h : A) : (if true = true then A else B) := by rw [if_pos rfl]; exact h
theorem pots_lc {K : Fg} {ρ : List Sl} {te : TE} {cs : List Int} {j : Nat} {vs : List Nat} {F H : Hp} {σ : L2.St} {Q : VK} (hj : j ∈ vs) (hl : j < ρ.length) (ha : RX K te ρ [] (.list (cs.map .int)) []) (E : EnvR K F σ ρ) (hF : Same F H)
    (k : ∀ (L : Addr) (ps : List Addr) (H' : Hp), Same H H' → H L = none → L ∉ ps → (∀ p ∈ ps, H p = none) → ps.Nodup → ps.length = cs.length → H' L = some (.lst (ps.map .ref)) →
      (∀ (i : Nat) (p : Addr) (c : Int), ps[i]? = some p → cs[i]? = some c → H' p = some (.lst [.int c, .int 0])) → Q (.ref L) H') :
    tLc (iList K te) (gName j) tYes (tLst (tCons (tVar j) (tCons (tC (.int 0)) tNil))) vs σ H Q := ha.go E (Hx.start hF) fun x F1 H1 f1 E1 S1 r1 => by
  cases r1 with
  | @lst a xs _ q1 q2 q3 =>
  have hx := RpAll.ints q3
  subst hx
  refine ⟨a, rfl, ⟨_, S1.fh.seq q1⟩, fun D hD => ?_⟩
  have hD0 : H D = none := S1.noh0 hD
  have hσ : j < (L2.wipe σ vs).length := by rw [wipe_len, E1.length]; exact hl
  refine lc_it (walk_list (K := K) (a := a) (xs := cs.map V.int)) (fun i H2 => ∃ ps : List Addr, Same H1 H2 ∧ H2 D = some (.lst (ps.map .ref)) ∧ ps.length = i ∧ D ∉ ps ∧ (∀ p ∈ ps, H1 p = none) ∧ ps.Nodup ∧
    ∀ (i : Nat) (p : Addr) (c : Int), ps[i]? = some p → cs[i]? = some c → H2 p = some (.lst [.int c, .int 0])) ⟨[], same_upd hD, upd_same, rfl, by simp, by simp, by simp, fun i p c e => by simp at e⟩
    (fun i H2 _ q => by obtain ⟨ps, q1', _⟩ := q; exact (S1.fh.trans q1').seq q1) (fun i x H2 H3 hi q y => ?_) (fun H2 q => ?_)
  · obtain ⟨ps, p1, p2, p3, p4, p5, p6, p7⟩ := q
    obtain ⟨e, y⟩ := y
    subst e
    have hi' : i < cs.length := by simpa using hi
    have hx : x = V.int cs[i] := by
      rw [List.getElem?_map, List.getElem?_eq_getElem hi'] at y
      exact (Option.some.inj y).symm
    subst hx
    refine ⟨wipe_set (i := j) (L2.wipe σ vs) hj |>.trans (wipe_wipe σ vs), ?_⟩
    unfold tYes
    refine ite_true_of ?_
    refine ⟨_, List.getElem?_set_self hσ, by show (2 : Nat) ≤ sizeLine; decide, fun p hp => ?_⟩
    have hpD : D ≠ p := ne_of_none p2 hp
    have hpn : p ∉ ps := fun hm => by
      obtain ⟨n, hn, en⟩ := List.mem_iff_getElem.mp hm
      have := p7 n p (cs[n]'(by omega)) (by rw [List.getElem?_eq_getElem hn, en]) (List.getElem?_eq_getElem _)
      rw [hp] at this
      cases this
    have hp1 : H1 p = none := p1.free hp
    refine ⟨ps.map .ref, by rw [upd_ne hpD]; exact p2, ?_, ps ++ [p], ?_, ?_, by rw [List.length_append, List.length_singleton, p3], ?_, ?_, ?_, ?_⟩
    · rw [List.length_map] at q2 ⊢; omega
    · intro b o hb
      have hbD : b ≠ D := ne_of_none hb hD
      rw [upd_ne hbD, upd_ne (ne_of_none hb hp1)]
      exact p1 _ _ hb
    · rw [List.map_append]; exact upd_same
    · rw [List.mem_append, List.mem_singleton]
      rintro (h | h)
      · exact p4 h
      · exact hpD h
    · intro b hb
      rcases List.mem_append.mp hb with h | h
      · exact p5 b h
      · rw [List.mem_singleton.mp h]; exact hp1
    · rw [List.nodup_append]
      refine ⟨p6, by simp, fun b hb c hc e => ?_⟩
      rw [List.mem_singleton] at hc
      subst hc
      subst e
      exact hpn hb
    · intro n b c h1 h2
      rcases get_snoc h1 with h | ⟨h, hb⟩
      · have hbm : b ∈ ps := List.mem_of_getElem? h
        have e1 : b ≠ D := fun e => p4 (e ▸ hbm)
        have e2 : b ≠ p := fun e => hpn (e ▸ hbm)
        rw [upd_ne e1, upd_ne e2]
        exact p7 n b c h h2
      · subst hb
        have en : n = i := h.trans p3
        subst en
        rw [List.getElem?_eq_getElem hi'] at h2
        cases h2
        rw [upd_ne (Ne.symm hpD), upd_same]
  · obtain ⟨ps, p1, p2, p3, p4, p5, p6, p7⟩ := q
    refine k D ps H2 (S1.same.trans p1) hD0 p4 (fun p hp => S1.noh0 (p5 p hp)) p6 (by simpa using p3) p2 p7
def potsOs : List Addr → List Int → Os
  | p :: ps, c :: cs => ⟨p, true, [.int c, .int 0]⟩ :: potsOs ps cs
  | _, _ => []
theorem potsOs_mem : ∀ {ps : List Addr} {cs : List Int} {q : OE}, q ∈ potsOs ps cs → ∃ (i : Nat) (p : Addr) (c : Int), ps[i]? = some p ∧ cs[i]? = some c ∧ q = ⟨p, true, [.int c, .int 0]⟩
  | [], _, _, h => by simp [potsOs] at h
  | p :: ps, [], _, h => by simp [potsOs] at h
  | p :: ps, c :: cs, q, h => by
    rcases List.mem_cons.mp h with e | h
    · exact ⟨0, p, c, rfl, rfl, e⟩
    · obtain ⟨i, p', c', h1, h2, h3⟩ := potsOs_mem h
      exact ⟨i + 1, p', c', by simpa using h1, by simpa using h2, h3⟩
theorem potsOs_map : ∀ {ps : List Addr} {cs : List Int}, ps.length = cs.length → (potsOs ps cs).map OE.a = ps
  | [], [], _ => rfl
  | [], _ :: _, h => by simp at h
  | _ :: _, [], h => by simp at h
  | p :: ps, c :: cs, h => by
    unfold potsOs
    rw [List.map_cons, potsOs_map (by simpa using h)]
theorem Hx.pots {K : Fg} {F0 H0 F H H' : Hp} {D0 : List Addr} {O : Os} (S : Hx K F0 H0 D0 F O H) {L : Addr} {ps : List Addr} {cs : List Int} (h : Same H H') (hL : H L = none) (hn : L ∉ ps) (hp : ∀ p ∈ ps, H p = none) (nd : ps.Nodup) (hl : ps.length = cs.length)
    (hH : H' L = some (.lst (ps.map .ref))) (hc : ∀ (i : Nat) (p : Addr) (c : Int), ps[i]? = some p → cs[i]? = some c → H' p = some (.lst [.int c, .int 0])) : Hx K F0 H0 D0 (upd F L (.lst (ps.map .ref))) (potsOs ps cs ++ O) H' := by
  have hFL := S.nof hL
  have fu : Same F (upd F L (.lst (ps.map .ref))) := same_upd hFL
  refine ⟨S.f0.trans fu, fun a u e => ?_, fun a u e n => h _ _ (S.keep a u e n), fun a u e => ?_, fun a u e n => ?_, fun q hq => ?_, ?_⟩
  · by_cases ha : a = L
    · subst ha
      rw [upd_same] at e
      cases e
      exact hH
    · rw [upd_ne ha] at e
      exact h _ _ (S.fh _ _ e)
  · obtain ⟨u', e'⟩ := S.live a u e
    exact ⟨u', h _ _ e'⟩
  · obtain ⟨u', e'⟩ := S.live a u e
    rw [upd_ne (ne_of_none e' hL)]
    exact S.new a u e n
  · rcases List.mem_append.mp hq with hq | hq
    · obtain ⟨i, p, c, h1, h2, rfl⟩ := potsOs_mem hq
      have hm : p ∈ ps := List.mem_of_getElem? h1
      have hpn := hp p hm
      refine ⟨?_, fun _ => S.noh0 hpn, fun z => (Bool.false_ne_true z.symm).elim, _, hc i p c h1 h2, by show (2 : Nat) ≤ sizeLine; decide, .cons (.int c) (.cons (.int 0) .nil)⟩
      show upd F L _ p = none
      rw [upd_ne (fun e : p = L => hn (by rw [← e]; exact hm))]
      exact S.nof hpn
    · obtain ⟨h1, h2, h3, vs, h4, h5, h6⟩ := S.own q hq
      refine ⟨?_, h2, h3, vs, h _ _ h4, h5, h6.up fu⟩
      rw [upd_ne (ne_of_none h4 hL)]
      exact h1
  · rw [List.map_append, potsOs_map hl, List.nodup_append]
    refine ⟨nd, S.nd, fun a ha b hb e => ?_⟩
    obtain ⟨q, hq, eq⟩ := List.mem_map.mp hb
    obtain ⟨_, _, _, vs, h4, _⟩ := S.own q hq
    rw [eq, ← e, hp a ha] at h4
    cases h4
theorem Hx.sub {K : Fg} {F0 H0 F H : Hp} {D0 : List Addr} {O O' : Os} (S : Hx K F0 H0 D0 F O H) (h : O'.Sublist O) : Hx K F0 H0 D0 F O' H :=
  ⟨S.f0, S.fh, S.keep, S.live, S.new, fun p hp => S.own p (h.subset hp), S.nd.sublist (h.map OE.a)⟩
theorem drop_cons {α : Type} {xs : List α} {i : Nat} (h : i < xs.length) : xs.drop i = xs[i] :: xs.drop (i + 1) := List.drop_eq_getElem_cons h
/-- for pot in _law_pots(..) -/
theorem st_forP {K : Fg} {ρ : List Sl} {F0 H0 F H : Hp} {D0 : List Addr} {O : Os} {σ : L2.St} {D : Ends} {R : Type} {te : TE} {j : Nat} {tb : TS} {ns : List Int} {f : Int → Unit → Option (Fl Unit R)} {fl : Fl Unit R} {E0 : XK} (ρ1 : List Sl)
    (E : EnvR K F σ ρ) (S0 : Hx K F0 H0 D0 F O H) (ha : RX K te ρ O (.list (ns.map .int)) O) (hf : forF f (potsL ns) () = some fl) (hW : Wk ρ ρ1)
    (kn : ∀ s, fl = .nx s → ∀ σ' F' H', Same F F' → EnvR K F' σ' ρ1 → Hx K F0 H0 D0 F' O H' → D.nx σ' H')
    (body : ∀ c out, f c () = some out → (∀ r, out = .rt r → fl = .rt r) → ∀ σ1 F1 H1 p Or, Same F F1 → EnvR K F1 σ1 (ρ1.set j (.adr p)) → Hx K F0 H0 D0 F1 (⟨p, true, ([c, 0] : List Int).map enc⟩ :: Or) H1 →
      ∀ (N B : L2.St → Hp → Prop), (∀ s, out = .nx s → ∀ σ' F' H', Same F1 F' → EnvR K F' σ' ρ1 → Hx K F0 H0 D0 F' Or H' → N σ' H') → (∀ s, out = .bk s → ∀ σ' F' H', Same F1 F' → EnvR K F' σ' ρ1 → Hx K F0 H0 D0 F' Or H' → B σ' H') → tb { D with nx := N, ct := N, bk := B } σ1 H1) :
    tFor (iList K (tCall (SpPots K) [] E0 (tCons te tNil))) (gName j) tb D σ H := by
  refine ha.go E S0 fun x F1 H1 f1 E1 S1 r1 => ?_
  refine ⟨F1, ns, .cons r1 .nil, S1.fh, fun L ps H2 g1 g2 g3 g4 g5 g6 g7 g8 => ?_⟩
  have S2 := S1.pots g1 g2 g3 g4 g5 g6 g7 g8
  have fu : Same F1 (upd F1 L (.lst (ps.map .ref))) := same_upd (S1.nof g2)
  refine ⟨L, rfl, ⟨_, SqL.of g7⟩, ?_⟩
  have hlen : (ps.map V.ref).length = ps.length := List.length_map _
  refine for_it (walk_list (K := K) (a := L) (xs := ps.map V.ref)) (fun i σ H => ∃ F2, Same F F2 ∧ F2 L = some (.lst (ps.map .ref)) ∧ EnvR K F2 σ ρ1 ∧ Hx K F0 H0 D0 F2 (potsOs (ps.drop i) ((potsL ns).drop i) ++ O) H ∧ forF f ((potsL ns).drop i) () = some fl)
    ⟨_, f1.trans fu, upd_same, (E1.up fu).weak hW, S2, hf⟩ (fun i σ H _ q => by obtain ⟨F2, _, q2, _, q4, _⟩ := q; exact SqL.of (q4.fh _ _ q2)) (fun i x σ H H' hi q y => ?_) (fun σ H q => ?_)
  · obtain ⟨F2, q1, q2, q3, q4, q5⟩ := q
    obtain ⟨e, y⟩ := y
    subst e
    rw [hlen] at hi
    have hi2 : i < (potsL ns).length := by omega
    have hx : x = V.ref ps[i] := by
      rw [List.getElem?_map, List.getElem?_eq_getElem hi] at y
      exact (Option.some.inj y).symm
    subst hx
    rw [drop_cons hi2] at q4 q5
    rw [drop_cons hi] at q4
    obtain ⟨out, e1, q5⟩ := bindE q5
    refine body _ out e1 (fun r eo => ?_) _ F2 H' ps[i] (potsOs (ps.drop (i + 1)) ((potsL ns).drop (i + 1)) ++ O) q1 (q3.seta j) q4 _ _ (fun s eo σ' F' H2 ff E' S' => ?_) (fun s eo σ' F' H2 ff E' S' => ?_)
    · subst eo
      exact (Option.some.inj q5).symm
    · subst eo
      exact ⟨F', q1.trans ff, ff _ _ q2, E', S', q5⟩
    · subst eo
      exact kn s (Option.some.inj q5).symm σ' F' H2 (q1.trans ff) E' (S'.sub (List.sublist_append_right _ _))
  · obtain ⟨F2, q1, q2, q3, q4, q5⟩ := q
    rw [hlen, List.drop_length] at q4
    rw [hlen, g6, List.drop_length] at q5
    exact kn () (Option.some.inj q5).symm σ F2 H q1 q3 q4
end TL

/-! TLl: isinstance; likeness of data, as the laws' _law_same and _law_alike reckon it -/
namespace TL
open PySem L2
open Enc
open RZ
def tyN : PyData → String
  | .none => "NoneType"
  | .bool _ => "bool"
  | .int _ => "int"
  | .str _ => "str"
  | .list _ => "list"
  | .tuple _ => "tuple"
  | .dict _ => "dict"
theorem seqL_ty {K : Fg} {H : Hp} {a : Addr} {xs : List V} (h : SqL K H a xs) : TyX K H (.ref a) (.type "list") := by
  rcases h with (h | ⟨o, h⟩) | ⟨o, its, n, h1, h2, _⟩
  · exact .base (.lst h)
  · exact .base (.frz h)
  · exact .kList h1 h2
theorem seqT_ty {K : Fg} {H : Hp} {a : Addr} {xs : List V} (h : SqT K H a xs) : TyX K H (.ref a) (.type "tuple") := by
  rcases h with (h | ⟨o, h⟩) | ⟨o, its, n, h1, h2, _⟩
  · exact .base (.tup h)
  · exact .fTuple h
  · exact .kTuple h1 h2
theorem Rp.ty {K : Fg} {H : Hp} {v : V} {d : PyData} (h : Rp K H v d) : TyX K H v (.type (tyN d)) := by
  cases h with
  | non => exact .base .non
  | bl b => exact .base (.bl b)
  | int i => exact .base (.int i)
  | str x => exact .base (.str x)
  | lst h _ _ => exact seqL_ty h
  | tup h _ _ => exact seqT_ty h
section
variable {K : Fg} {ta tb te : TE} {ρ : List Sl} {O O1 O2 : Os} {d : PyData}
theorem rx_isi {c : String} {r : Bool} (ha : RX K ta ρ O d O1) (h : kitB (tyN d) c = some r) : RX K (tCB (rIsi K) (tCons ta (tCons (tC (.ty c)) tNil))) ρ O (.bool r) O1 := ⟨fun _ _ _ _ _ _ Q E S k => ha.go E S fun x F1 H1 f1 E1 S1 r1 =>
  ⟨x, .ty c, _, _, r, rfl, .ty c, (r1.up S1.fh).ty, kit_ty h, k _ F1 H1 f1 S1 (.bl r)⟩⟩
theorem rx_isiT2 {c c' : String} {r r' : Bool} (ha : RX K ta ρ O d O1) (h : kitB (tyN d) c = some r) (h' : kitB (tyN d) c' = some r') :
    RX K (tCB (rIsiT K) (tCons ta (tCons (tTup (tCons (tC (.ty c)) (tCons (tC (.ty c')) tNil))) tNil))) ρ O (.bool (r || r')) O1 := ⟨fun _ _ _ _ _ _ Q E S k => ha.go E S fun x F1 H1 f1 E1 S1 r1 => by
  refine ⟨by show (2 : Nat) ≤ sizeLine; decide, fun T hT => ?_⟩
  have S2 := S1.junk (o := .tup [.ty c, .ty c']) hT
  refine ⟨x, T, [.ty c, .ty c'], _, [.type c, .type c'], r || r', rfl, upd_same, .cons (.ty c) (.cons (.ty c') .nil), (r1.up S2.fh).ty, kitAny_cons (kit_ty h) (fun e => kitAny_cons (kit_ty h') (fun e' => ?_) fun e' => ?_) (fun e => by rw [e]; rfl), k _ F1 _ f1 S2 (.bl _)⟩
  · rw [e, e']; exact kitAny_nil
  · rw [e, e']; rfl⟩
theorem kit_at {d : PyData} {t c : String} {r : Bool} (ht : tyN d = t) (h : kitB t c = some r) : kitB (tyN d) c = some r := by rw [ht]; exact h
theorem k_isi {X : Cx} (K : Fg) (hK : X.K = K := by rfl) : CallR X (.builtin "isinstance") (rIsi K) := by subst hK; exact call_isi
theorem k_isiT {X : Cx} (K : Fg) (hK : X.K = K := by rfl) : CallR X (.builtin "isinstance") (rIsiT K) := by subst hK; exact call_isiT
theorem k_pi_zipA {X : Cx} (K : Fg) {e e2 : Expr} {ta : TA} {p pos tpos : Pos} {elts : List Expr} {kk : Nat} (hg : Gl X "zip") (hm : X.mg "zip" = none) (ha : PA X [e, e2] ta)
    (hs : starEach [e, e2] X.env = (false, eval e X.env) :: starEach [e2] X.env := by rfl) (hpl : (backTo pos (starEach [e2] X.env)).any (·.1) = false := by rfl) (hK : X.K = K := by rfl) :
    PI X (.Tuple elts kk tpos) (.Call (.Name "zip" p) [e, e2] [] pos) (iZipA K ta) := by subst hK; exact pi_zipA hg hm ha hs hpl
theorem pe_tyn {X : Cx} {x : Str} {c : String} {pos : Pos} (hg : Gl X x) (hm : X.mg x = none) (hv : bootBuiltins x = some (.type c)) (hn : x ≠ "__name__" := by decide) (hd : (x == ("__debug__" : Str)) = false := by decide) : PE X (.Name x pos) (tC (.ty c)) :=
  pe_bltn hg hm hv (show RelV (.ty c) (.type c) from rfl) hn hd
theorem ri_zipAL {ys zs : List PyData} (h : RX K ta ρ O (.list ys) O1) (h' : RX K tb ρ O1 (.list zs) O2) : RI K (iZipA K (tCons ta (tCons tb tNil))) ρ O (zipD ys zs) O2 := ⟨fun F0 H0 D0 σ F H R E S k =>
  (ri_zip h h').run F0 H0 D0 σ F H R E S k |> fun g => by
    refine h.go E S fun x F1 H1 f1 E1 S1 r1 => h'.go E1 S1 fun y F2 H2 f2 E2 S2 r2 => ?_
    have r1' := r1.up f2
    cases r1' with
    | @lst a xs _ q1 q2 q3 =>
      cases r2 with
      | @lst b ws _ p1 p2 p3 =>
        refine ⟨a, b, xs, ws, rfl, .inl ⟨S2.fh.seq q1, S2.fh.seq p1, ?_⟩⟩
        have hl : (zipD ys zs).length = min xs.length ws.length := by unfold zipD; rw [List.length_map, List.length_zip, q3.length, p3.length]
        refine k _ F2 H2 (f1.trans f2) S2 ⟨by omega, fun _ _ _ F O H i hi f S => ?_, fun _ _ _ F O H f S => ?_, fun _ _ _ F O H i x H' hi f S y => ?_⟩
        · have h1 : i < xs.length := by omega
          have h2 : i < ws.length := by omega
          exact ⟨xs, ws, xs[i], ws[i], (f.trans S.fh).seq q1, (f.trans S.fh).seq p1, by simp [h1], by simp [h2]⟩
        · exact ⟨xs, ws, (f.trans S.fh).seq q1, (f.trans S.fh).seq p1, by omega⟩
        · obtain ⟨T, u, v, rfl, hT, rfl, y1, y2⟩ := y
          obtain ⟨d, e, r⟩ := (q3.up f).getV (y1 xs ((f.trans S.fh).seq q1))
          obtain ⟨d', e', r'⟩ := (p3.up f).getV (y2 ws ((f.trans S.fh).seq p1))
          obtain ⟨F3, f3, S3, r3⟩ := pair_put S hT r r'
          refine ⟨F3, _, f3, S3, ?_, r3⟩
          unfold zipD
          have ez : (ys.zip zs)[i]? = some (d, d') := List.getElem?_zip_eq_some.mpr ⟨e, e'⟩
          rw [List.getElem?_map, ez]
          rfl⟩
theorem ri_zipAT {ys zs : List PyData} (h : RX K ta ρ O (.tuple ys) O1) (h' : RX K tb ρ O1 (.tuple zs) O2) : RI K (iZipA K (tCons ta (tCons tb tNil))) ρ O (zipD ys zs) O2 := ⟨fun F0 H0 D0 σ F H R E S k => by
    refine h.go E S fun x F1 H1 f1 E1 S1 r1 => h'.go E1 S1 fun y F2 H2 f2 E2 S2 r2 => ?_
    have r1' := r1.up f2
    cases r1' with
    | @tup a xs _ q1 q2 q3 =>
      cases r2 with
      | @tup b ws _ p1 p2 p3 =>
        refine ⟨a, b, xs, ws, rfl, .inr ⟨same_t S2.fh q1, same_t S2.fh p1, ?_⟩⟩
        have hl : (zipD ys zs).length = min xs.length ws.length := by unfold zipD; rw [List.length_map, List.length_zip, q3.length, p3.length]
        refine k _ F2 H2 (f1.trans f2) S2 ⟨by omega, fun _ _ _ F O H i hi f S => ?_, fun _ _ _ F O H f S => ?_, fun _ _ _ F O H i x H' hi f S y => ?_⟩
        · have h1 : i < xs.length := by omega
          have h2 : i < ws.length := by omega
          exact ⟨xs, ws, xs[i], ws[i], same_t (f.trans S.fh) q1, same_t (f.trans S.fh) p1, by simp [h1], by simp [h2]⟩
        · exact ⟨xs, ws, same_t (f.trans S.fh) q1, same_t (f.trans S.fh) p1, by omega⟩
        · obtain ⟨T, u, v, rfl, hT, rfl, y1, y2⟩ := y
          obtain ⟨d, e, r⟩ := (q3.up f).getV (y1 xs (same_t (f.trans S.fh) q1))
          obtain ⟨d', e', r'⟩ := (p3.up f).getV (y2 ws (same_t (f.trans S.fh) p1))
          obtain ⟨F3, f3, S3, r3⟩ := pair_put S hT r r'
          refine ⟨F3, _, f3, S3, ?_, r3⟩
          unfold zipD
          have ez : (ys.zip zs)[i]? = some (d, d') := List.getElem?_zip_eq_some.mpr ⟨e, e'⟩
          rw [List.getElem?_map, ez]
          rfl⟩
end

/-! ### likeness -/
mutual
inductive Sim : Nat → PyData → PyData → Bool → Prop
  | int {n : Nat} (i j : Int) : Sim n (.int i) (.int j) (decide (i = j))
  | bool {n : Nat} (i j : Bool) : Sim n (.bool i) (.bool j) (decide (i = j))
  | str {n : Nat} (i j : Str) : Sim n (.str i) (.str j) (decide (i = j))
  | list {n : Nat} {xs ys : List PyData} {b : Bool} (h : SimAll n xs ys b) : Sim (n + 1) (.list xs) (.list ys) (decide (xs.length = ys.length) && b)
  | tuple {n : Nat} {xs ys : List PyData} {b : Bool} (h : SimAll n xs ys b) : Sim (n + 1) (.tuple xs) (.tuple ys) (decide (xs.length = ys.length) && b)
inductive SimAll : Nat → List PyData → List PyData → Bool → Prop
  | nil {n : Nat} (ys : List PyData) : SimAll n [] ys true
  | nil' {n : Nat} (xs : List PyData) : SimAll n xs [] true
  | cons {n : Nat} {x y : PyData} {xs ys : List PyData} {b c : Bool} (h : Sim n x y b) (t : SimAll n xs ys c) : SimAll n (x :: xs) (y :: ys) (b && c)
end
mutual
theorem Sim.mono {n m : Nat} {x y : PyData} {b : Bool} (h : Sim n x y b) (e : n ≤ m) : Sim m x y b := by
  cases h with
  | int i j => exact .int i j
  | bool i j => exact .bool i j
  | str i j => exact .str i j
  | list h =>
    cases m with
    | zero => omega
    | succ m => exact .list (SimAll.mono h (by omega))
  | tuple h =>
    cases m with
    | zero => omega
    | succ m => exact .tuple (SimAll.mono h (by omega))
theorem SimAll.mono {n m : Nat} {xs ys : List PyData} {b : Bool} (h : SimAll n xs ys b) (e : n ≤ m) : SimAll m xs ys b := by
  cases h with
  | nil ys => exact .nil ys
  | nil' xs => exact .nil' xs
  | cons h t => exact .cons (Sim.mono h e) (SimAll.mono t e)
end
class SimT (α : Type) [Enc α] [DecidableEq α] where
  dp : Nat
  ok : ∀ x y : α, Sim dp (enc x) (enc y) (decide (x = y))
instance : SimT Int := ⟨0, fun x y => .int x y⟩
instance : SimT Bool := ⟨0, fun x y => .bool x y⟩
instance : SimT Str := ⟨0, fun x y => .str x y⟩
theorem simAll_map {α : Type} [Enc α] [DecidableEq α] [s : SimT α] : ∀ xs ys : List α, ∃ b, SimAll (SimT.dp α) (xs.map enc) (ys.map enc) b ∧ (decide (xs.length = ys.length) && b) = decide (xs = ys)
  | [], ys => ⟨true, .nil _, by cases ys <;> simp⟩
  | x :: xs, [] => ⟨true, .nil' _, by simp⟩
  | x :: xs, y :: ys => by
    obtain ⟨b, h, e⟩ := simAll_map xs ys
    refine ⟨_, .cons (SimT.ok x y) h, ?_⟩
    have e1 : decide (x :: xs = y :: ys) = (decide (x = y) && decide (xs = ys)) := by simp
    rw [e1, ← e]
    have e2 : decide ((x :: xs).length = (y :: ys).length) = decide (xs.length = ys.length) := by simp
    rw [e2]
    cases decide (x = y) <;> cases decide (xs.length = ys.length) <;> cases b <;> rfl
instance {α : Type} [Enc α] [DecidableEq α] [SimT α] : SimT (List α) := ⟨SimT.dp α + 1, fun xs ys => by
  obtain ⟨b, h, e⟩ := simAll_map xs ys
  have := Sim.list h
  rw [List.length_map, List.length_map, e] at this
  exact this⟩
instance {α : Type} [Enc α] [DecidableEq α] [SimT α] : SimT (Tp α) := ⟨SimT.dp α + 1, fun xs ys => by
  obtain ⟨xs⟩ := xs
  obtain ⟨ys⟩ := ys
  obtain ⟨b, h, e⟩ := simAll_map xs ys
  have := Sim.tuple h
  rw [List.length_map, List.length_map, e] at this
  have e2 : decide (Tp.mk xs = Tp.mk ys) = decide (xs = ys) := by simp
  rw [e2]
  exact this⟩
instance {α β : Type} [Enc α] [DecidableEq α] [SimT α] [Enc β] [DecidableEq β] [SimT β] : SimT (α × β) := ⟨SimT.dp α + SimT.dp β + 1, fun x y => by
  obtain ⟨a, b⟩ := x
  obtain ⟨c, d⟩ := y
  have := Sim.tuple (.cons ((SimT.ok a c).mono (Nat.le_add_right _ _)) (.cons ((SimT.ok b d).mono (Nat.le_add_left _ _)) (.nil [])))
  have e2 : decide ((a, b) = (c, d)) = (decide ([enc a, enc b].length = [enc c, enc d].length) && (decide (a = c) && (decide (b = d) && true))) := by simp [Bool.decide_and]
  rw [e2]
  exact this⟩
instance {α β γ : Type} [Enc α] [DecidableEq α] [SimT α] [Enc β] [DecidableEq β] [SimT β] [Enc γ] [DecidableEq γ] [SimT γ] : SimT (T3 α β γ) := ⟨SimT.dp α + SimT.dp β + SimT.dp γ + 1, fun x y => by
  obtain ⟨a, b, c⟩ := x
  obtain ⟨a', b', c'⟩ := y
  have := Sim.tuple (.cons ((SimT.ok a a').mono (by omega : SimT.dp α ≤ SimT.dp α + SimT.dp β + SimT.dp γ)) (.cons ((SimT.ok b b').mono (by omega)) (.cons ((SimT.ok c c').mono (by omega)) (.nil []))))
  have e2 : decide (T3.mk a b c = T3.mk a' b' c') = (decide ([enc a, enc b, enc c].length = [enc a', enc b', enc c'].length) && (decide (a = a') && (decide (b = b') && (decide (c = c') && true)))) := by simp [Bool.decide_and]
  rw [e2]
  exact this⟩
instance {α β γ δ : Type} [Enc α] [DecidableEq α] [SimT α] [Enc β] [DecidableEq β] [SimT β] [Enc γ] [DecidableEq γ] [SimT γ] [Enc δ] [DecidableEq δ] [SimT δ] : SimT (T4 α β γ δ) := ⟨SimT.dp α + SimT.dp β + SimT.dp γ + SimT.dp δ + 1, fun x y => by
  obtain ⟨a, b, c, d⟩ := x
  obtain ⟨a', b', c', d'⟩ := y
  have := Sim.tuple (.cons ((SimT.ok a a').mono (by omega : SimT.dp α ≤ SimT.dp α + SimT.dp β + SimT.dp γ + SimT.dp δ)) (.cons ((SimT.ok b b').mono (by omega)) (.cons ((SimT.ok c c').mono (by omega)) (.cons ((SimT.ok d d').mono (by omega)) (.nil [])))))
  have e2 : decide (T4.mk a b c d = T4.mk a' b' c' d') = (decide ([enc a, enc b, enc c, enc d].length = [enc a', enc b', enc c', enc d'].length) && (decide (a = a') && (decide (b = b') && (decide (c = c') && (decide (d = d') && true))))) := by simp [Bool.decide_and]
  rw [e2]
  exact this⟩
def SimR (n : Nat) : List PyData → PyData → Prop := fun ds d => ∃ x y b, ds = [x, y] ∧ Sim n x y b ∧ d = .bool b
theorem SimAll.all {n : Nat} {xs ys : List PyData} {b : Bool} (h : SimAll n xs ys b) : ∃ zs : List (PyData × PyData × Bool), zs.map (fun t => PyData.tuple [t.1, t.2.1]) = zipD xs ys ∧ (∀ t ∈ zs, Sim n t.1 t.2.1 t.2.2) ∧ (zs.map (·.2.2)).all id = b := by
  induction xs generalizing ys b with
  | nil => cases h; exact ⟨[], rfl, fun t e => by simp at e, rfl⟩; exact ⟨[], rfl, fun t e => by simp at e, rfl⟩
  | cons x xs ih =>
    cases h with
    | nil' => exact ⟨[], rfl, fun t e => by simp at e, rfl⟩
    | @cons _ _ y _ ys b c h t =>
      obtain ⟨zs, h1, h2, h3⟩ := ih t
      refine ⟨(x, y, b) :: zs, ?_, fun t ht => ?_, by rw [List.map_cons, List.all_cons, h3]; rfl⟩
      · rw [List.map_cons, h1]; rfl
      · rcases List.mem_cons.mp ht with e | ht
        · subst e; exact h
        · exact h2 t ht
theorem Cal.never {P : Program} {w : World} {K : Fg} {mg : Str → Option Value} {base : Heap} {x : Str} {st : Stmt} {N ps : List Str} (h : Dfn K mg x st ps) (S : FnScope N ps (defScope st)) : Cal P w K mg base 1 x ps (fun _ _ _ _ => False) :=
  h.cal S (fun _ _ _ _ h => h.elim) fun _ _ _ _ _ _ _ _ _ _ h => h.elim
end TL

namespace TL
open PySem L2
open Enc
/-! ### tuples of own lists -/
theorem perm_erase {α : Type} : ∀ (l : List α) (j : Nat) (x : α), l[j]? = some x → l.Perm (x :: l.eraseIdx j)
  | [], j, x, h => by simp at h
  | y :: l, 0, x, h => by
    simp at h
    subst h
    exact List.Perm.refl _
  | y :: l, j + 1, x, h => by
    rw [List.eraseIdx_cons_succ]
    exact ((perm_erase l j x (by simpa using h)).cons y).trans (List.Perm.swap x y _)
def towOs (ps : List Addr) (ess : List (List PyData)) : Os := List.zipWith (fun p es => ⟨p, true, es⟩) ps ess
inductive Tow (O : Os) : List Addr → List (List PyData) → Prop
  | nil : Tow O [] []
  | cons (j : Nat) {p : Addr} {nw : Bool} {es : List PyData} {ps : List Addr} {ess : List (List PyData)} (h : O[j]? = some ⟨p, nw, es⟩) : Tow O ps ess → Tow O (p :: ps) (es :: ess)
section
variable {K : Fg} {F0 H0 F H F' H' : Hp} {D0 : List Addr} {O O' O1 O2 : Os} {ρ : List Sl} {σ : L2.St} {ps : List Addr} {ess : List (List PyData)}
theorem EnvR.tow {i : Nat} (h : EnvR K F σ ρ) (e : ρ[i]? = some (.tow ps)) : ∃ t, σ[i]? = some (some (.ref t)) ∧ SqT K F t (ps.map .ref) := by
  obtain ⟨s, h1, t, rfl, h2⟩ := h.at e
  exact ⟨t, h1, h2⟩
theorem Tow.rp (S : Hx K F0 H0 D0 F O H) (t : Tow O ps ess) : RpAll K H (ps.map .ref) (ess.map .list) := by
  induction t with
  | nil => exact .nil
  | cons j h _ ih =>
    obtain ⟨_, _, _, vs, h4, h5, h6⟩ := S.get h
    exact .cons (.lst (SqL.of h4) h5 (h6.up S.fh)) ih
theorem Tow.lens (t : Tow O ps ess) : ps.length = ess.length := by
  induction t with
  | nil => rfl
  | cons j h _ ih => rw [List.length_cons, List.length_cons, ih]
theorem Hx.perm (S : Hx K F0 H0 D0 F O H) (h : O.Perm O') : Hx K F0 H0 D0 F O' H :=
  ⟨S.f0, S.fh, S.keep, S.live, S.new, fun p hp => S.own p (h.mem_iff.mpr hp), (h.map OE.a).nodup_iff.mp S.nd⟩
/-- a part of the own lists apart -/
theorem Hx.fr {X : Os} (S : Hx K F0 H0 D0 F (O ++ X) H) : ∃ H1 D1, Hx K F H1 D1 F O H ∧ ∀ F' O' H', Hx K F H1 D1 F' O' H' → Hx K F0 H0 D0 F' (O' ++ X) H' := by
  let nwA (a : Addr) : Bool := O.any fun e => e.nw && decide (e.a = a)
  let H1 : Hp := fun a => if nwA a = true then none else H a
  let D1 : List Addr := (O.filter fun e => !e.nw).map OE.a
  have h1s : ∀ a o, H1 a = some o → H a = some o := fun a o e => by
    show H a = some o
    have e : (if nwA a = true then none else H a) = some o := e
    split at e
    · cases e
    · exact e
  have h1of : ∀ a o, H a = some o → (∀ e ∈ O, e.a = a → e.nw = false) → H1 a = some o := fun a o e n => by
    show (if nwA a = true then none else H a) = some o
    rw [if_neg]
    · exact e
    · intro q
      obtain ⟨x, hx, q⟩ := List.any_eq_true.mp q
      rw [Bool.and_eq_true, decide_eq_true_eq] at q
      rw [n x hx q.2] at q
      exact Bool.false_ne_true q.1
  have inO : ∀ e ∈ O, e ∈ O ++ X := fun e h => List.mem_append_left _ h
  have inX : ∀ e ∈ X, e ∈ O ++ X := fun e h => List.mem_append_right _ h
  have dj : ∀ e ∈ O, ∀ x ∈ X, e.a ≠ x.a := fun e he x hx q => by
    have := S.nd
    rw [List.map_append, List.nodup_append] at this
    exact this.2.2 e.a (List.mem_map.mpr ⟨e, he, rfl⟩) x.a (List.mem_map.mpr ⟨x, hx, rfl⟩) q
  have d1 : ∀ a, a ∈ D1 → ∃ e ∈ O, e.a = a ∧ e.nw = false := fun a h => by
    obtain ⟨e, he, rfl⟩ := List.mem_map.mp h
    rw [List.mem_filter] at he
    exact ⟨e, he.1, rfl, by simpa using he.2⟩
  -- what stood at the entry is in H1
  have old : ∀ a o, H0 a = some o → ∀ e ∈ O, e.a = a → e.nw = false := fun a o e x hx q => by
    cases hw : x.nw with
    | false => rfl
    | true =>
      have := (S.own x (inO x hx)).2.1 hw
      rw [q, e] at this
      cases this
  refine ⟨H1, D1, ⟨Same.refl _, S.fh, fun a o e _ => h1s a o e, fun a o e => ⟨o, h1s a o e⟩, fun _ _ _ e => e, fun p hp => ?_, ?_⟩, fun F' O' H' S2 => ?_⟩
  · obtain ⟨g1, g2, g3, g4⟩ := S.own p (inO p hp)
    refine ⟨g1, fun hw => ?_, fun hw => List.mem_map.mpr ⟨p, List.mem_filter.mpr ⟨hp, by rw [hw]; rfl⟩, rfl⟩, g4⟩
    show (if nwA p.a = true then none else H p.a) = none
    rw [if_pos]
    exact List.any_eq_true.mpr ⟨p, hp, by rw [hw]; simp⟩
  · have := S.nd
    rw [List.map_append, List.nodup_append] at this
    exact this.1
  · refine ⟨S.f0.trans S2.f0, S2.fh, fun a o e n => ?_, fun a o e => ?_, fun a o e n => ?_, fun p hp => ?_, ?_⟩
    · refine S2.keep a o (h1of a o (S.keep a o e n) (old a o e)) fun hd => ?_
      obtain ⟨x, hx, q, hw⟩ := d1 a hd
      exact n (q ▸ (S.own x (inO x hx)).2.2.1 hw)
    · obtain ⟨o', e'⟩ := S.live a o e
      exact S2.live a o' (h1of a o' e' (old a o e))
    · obtain ⟨o', e'⟩ := S.live a o e
      exact S2.new a o' (h1of a o' e' (old a o e)) (S.new a o e n)
    · rcases List.mem_append.mp hp with hp | hp
      · obtain ⟨g1, g2, g3, g4⟩ := S2.own p hp
        refine ⟨g1, fun hw => ?_, fun hw => ?_, g4⟩
        · have g2 := g2 hw
          cases e : H0 p.a with
          | none => rfl
          | some o =>
            obtain ⟨o', e'⟩ := S.live p.a o e
            rw [h1of p.a o' e' (old p.a o e)] at g2
            cases g2
        · obtain ⟨x, hx, q, hw'⟩ := d1 _ (g3 hw)
          exact q ▸ (S.own x (inO x hx)).2.2.1 hw'
      · obtain ⟨g1, g2, g3, vs, g4, g5, g6⟩ := S.own p (inX p hp)
        have n : ∀ e ∈ O, e.a = p.a → e.nw = false := fun e he q => (dj e he p hp q).elim
        have k1 := h1of p.a _ g4 n
        refine ⟨S2.new _ _ k1 g1, g2, g3, vs, S2.keep _ _ k1 fun hd => ?_, g5, g6.up S2.f0⟩
        obtain ⟨x, hx, q, _⟩ := d1 _ hd
        exact dj x hx p hp q
    · rw [List.map_append, List.nodup_append]
      have := S.nd
      rw [List.map_append, List.nodup_append] at this
      refine ⟨S2.nd, this.2.1, fun a ha b hb q => ?_⟩
      subst q
      obtain ⟨e, he, rfl⟩ := List.mem_map.mp ha
      obtain ⟨x, hx, q⟩ := List.mem_map.mp hb
      obtain ⟨g1, g2, g3, vs, g4, g5, g6⟩ := S.own x (inX x hx)
      have n : ∀ e ∈ O, e.a = x.a → e.nw = false := fun e he q => (dj e he x hx q).elim
      have k1 := h1of x.a _ g4 n
      obtain ⟨k2, k3, k4, _⟩ := S2.own e he
      cases hw : e.nw with
      | true =>
        have := k3 hw
        rw [← q, k1] at this
        cases this
      | false =>
        obtain ⟨y, hy, q2, _⟩ := d1 _ (k4 hw)
        exact dj y hy x hx (q2.trans q.symm)
/-- arguments that are own lists, each by itself -/
structure RAo (K : Fg) (t : TA) (ρ : List Sl) (O : Os) (ess : List (List PyData)) (O' : Os) : Prop where
  run : ∀ (F0 H0 : Hp) (D0 : List Addr) (σ : L2.St) (F H : Hp) (Q : List V → Hp → Prop), EnvR K F σ ρ → Hx K F0 H0 D0 F O H →
    (∀ ps F' H', Same F F' → ps.length = ess.length → Hx K F0 H0 D0 F' (towOs ps ess ++ O') H' → Q (ps.map .ref) H') → t σ H Q
theorem rao_nil : RAo K tNil ρ O [] O := ⟨fun _ _ _ _ _ _ Q E S k => k [] _ _ (Same.refl _) rfl S⟩
theorem rao_cons {te : TE} {t : TA} {es : List PyData} (h : RXo K te ρ O es O1) (ht : RAo K t ρ O1 ess O2) : RAo K (tCons te t) ρ O (es :: ess) O2 := ⟨fun _ _ _ _ _ _ Q E S k =>
  h.go E S fun p F1 H1 f1 E1 S1 => by
    obtain ⟨H1', D1, Sf, back⟩ := Hx.fr (X := [⟨p, true, es⟩]) (S1.perm (List.perm_append_singleton (⟨p, true, es⟩ : OE) O1).symm)
    refine ht.run _ _ _ _ _ _ _ E1 Sf fun ps F2 H2 f2 hl S2 => k (p :: ps) F2 H2 (f1.trans f2) (by rw [List.length_cons, List.length_cons, hl]) ?_
    exact (back _ _ _ S2).perm (List.perm_append_singleton _ _)⟩
theorem rxo_own {i j : Nat} {p : Addr} {ds : List PyData} (hs : ρ[i]? = some (.adr p)) (ho : O[j]? = some ⟨p, true, ds⟩) : RXo K (tVar i) ρ O ds (O.eraseIdx j) := ⟨fun _ _ _ _ _ _ Q E S k => by
  exact ⟨_, E.adr hs, k p _ _ (Same.refl _) (S.perm (perm_erase _ _ _ ho))⟩⟩
theorem st_retT {t : TA} {D : Ends} (h : RAo K t ρ O ess O') (E : EnvR K F σ ρ) (S : Hx K F0 H0 D0 F O H)
    (k : ∀ (T : Addr) (ps : List Addr) (F' H' : Hp), Same F F' → ps.length = ess.length → SqT K F' T (ps.map .ref) → Hx K F0 H0 D0 F' (towOs ps ess ++ O') H' → D.rt (.ref T) H') (hz : ess.length ≤ 1000 := by exact Nat.le_of_ble_eq_true rfl) : tRet (tTup t) D σ H :=
  h.run _ _ _ _ _ _ _ E S fun ps F1 H1 f1 hl S1 => by
    refine ⟨by rw [List.length_map, hl]; exact Nat.le_trans hz (by decide), fun T hT => ?_⟩
    exact k T ps _ _ (f1.trans (same_upd (S1.nof hT))) hl (SqT.of upd_same) (S1.put hT)
/-- what a def promises that hands back a tuple of new lists -/
def SpT (K : Fg) (R : List PyData → List (List PyData) → Prop) : Sp := fun vs H Q _ => ∃ F ds ess, RpAll K F vs ds ∧ Same F H ∧ R ds ess ∧
  ∀ (T : Addr) (ps : List Addr) (F' H' : Hp), Stp [] F H F' H' → SqT K F' T (ps.map .ref) → ps.length = ess.length → ps.Nodup → (∀ (i : Nat) p es, ps[i]? = some p → ess[i]? = some es → H p = none ∧ F' p = none ∧ ∃ xs, H' p = some (.lst xs) ∧ xs.length ≤ sizeLine ∧ RpAll K F' xs es) → Q (.ref T) H'
theorem st_len {R : List PyData → List (List PyData) → Prop} {n : Nat} (h : ∀ ds d, R ds d → ds.length = n) : ∀ vs H Q E, SpT K R vs H Q E → vs.length = n := fun vs H Q E ⟨F, ds, d, r, _, hR, _⟩ => r.length.trans (h ds d hR)
theorem tow_map (hl : ps.length = ess.length) : (towOs ps ess).map OE.a = ps := by
  unfold towOs
  induction ps generalizing ess with
  | nil => rfl
  | cons p ps ih =>
    cases ess with
    | nil => cases hl
    | cons e ess => rw [List.zipWith_cons_cons, List.map_cons, ih (by simpa using hl)]
theorem tow_get {i : Nat} {p : Addr} {es : List PyData} (h : ps[i]? = some p) (h' : ess[i]? = some es) : (towOs ps ess)[i]? = some ⟨p, true, es⟩ := by
  unfold towOs
  rw [List.getElem?_zipWith, h, h']
theorem tow_of {e : OE} (h : e ∈ towOs ps ess) : ∃ i : Nat, ps[i]? = some e.a ∧ ess[i]? = some e.ds ∧ e.nw = true := by
  obtain ⟨i, q⟩ := List.mem_iff_getElem?.mp h
  unfold towOs at q
  rw [List.getElem?_zipWith] at q
  split at q
  · rename_i a b h1 h2
    cases q
    exact ⟨i, h1, h2, rfl⟩
  · cases q
/-- the end of such a def -/
theorem Hx.outT (S : Hx K F0 H0 D0 F (towOs ps ess ++ O) H) (hl : ps.length = ess.length) : ps.Nodup ∧ ∀ (i : Nat) p es, ps[i]? = some p → ess[i]? = some es → H0 p = none ∧ F p = none ∧ ∃ xs, H p = some (.lst xs) ∧ xs.length ≤ sizeLine ∧ RpAll K F xs es := by
  refine ⟨?_, fun i p es h h' => ?_⟩
  · have := S.nd
    rw [List.map_append, List.nodup_append, tow_map hl] at this
    exact this.1
  · obtain ⟨g1, g2, g3, g4⟩ := S.own _ (List.mem_append_left _ (List.mem_of_getElem? (tow_get h h')))
    exact ⟨g2 rfl, g1, g4⟩
/-- new own lists behind a call -/
theorem Hx.inT (S : Hx K F0 H0 D0 F O H) (st : Stp [] F H F' H') (hl : ps.length = ess.length) (nd : ps.Nodup) (h : ∀ (i : Nat) p es, ps[i]? = some p → ess[i]? = some es → H p = none ∧ F' p = none ∧ ∃ xs, H' p = some (.lst xs) ∧ xs.length ≤ sizeLine ∧ RpAll K F' xs es) :
    Hx K F0 H0 D0 F' (towOs ps ess ++ O) H' := by
  have S2 := S.call st
  refine ⟨S2.f0, S2.fh, S2.keep, S2.live, S2.new, fun e he => ?_, ?_⟩
  · rcases List.mem_append.mp he with he | he
    · obtain ⟨i, q1, q2, q3⟩ := tow_of he
      obtain ⟨g1, g2, g3⟩ := h i _ _ q1 q2
      exact ⟨g2, fun _ => S.noh0 g1, (fun z => by rw [q3] at z; cases z), g3⟩
    · exact S2.own e he
  · rw [List.map_append, List.nodup_append, tow_map hl]
    refine ⟨nd, S2.nd, fun a ha b hb q => ?_⟩
    subst q
    obtain ⟨e, he, rfl⟩ := List.mem_map.mp hb
    obtain ⟨_, _, _, vs, g4, _⟩ := S.own e he
    obtain ⟨i, q⟩ := List.mem_iff_getElem?.mp ha
    have hi : i < ess.length := by rw [← hl]; exact (List.getElem?_eq_some_iff.mp q).1
    obtain ⟨g1, _⟩ := h i _ _ q (List.getElem?_eq_getElem hi)
    rw [g1] at g4
    cases g4
variable {t : TA} {D : Ends} {R : List PyData → List (List PyData) → Prop} {ds : List PyData} {E0 : XK}
theorem st_setT {i : Nat} (hR : R ds ess) (ha : RA K t ρ O (ds.map .val) O1) (E : EnvR K F σ ρ) (S : Hx K F0 H0 D0 F O H)
    (k : ∀ (ps : List Addr) (σ' : L2.St) (F' H' : Hp), ps.length = ess.length → Same F F' → EnvR K F' σ' (ρ.set i (.tow ps)) → Hx K F0 H0 D0 F' (towOs ps ess ++ O1) H' → D.nx σ' H') : tAsg (tCall (SpT K R) [] E0 t) (gName i) D σ H :=
  ha.go E S fun vs F1 H1 f1 E1 S1 r1 => by
    show SpT K R (vs ++ []) H1 _ E0
    rw [List.append_nil]
    exact ⟨F1, ds, ess, r1.all, S1.fh, hR, fun T ps F' H' st q hl nd h => k ps _ F' H' hl (f1.trans st.ff) (EnvR.set (s := some (.ref T)) (r := .tow ps) ⟨T, rfl, q⟩ i (E1.up st.ff)) (S1.inT st hl nd h)⟩
theorem st_retCT (hR : R ds ess) (ha : RA K t ρ O (ds.map .val) O1) (E : EnvR K F σ ρ) (S : Hx K F0 H0 D0 F O H)
    (k : ∀ (T : Addr) (ps : List Addr) (F' H' : Hp), Same F F' → ps.length = ess.length → SqT K F' T (ps.map .ref) → Hx K F0 H0 D0 F' (towOs ps ess ++ O1) H' → D.rt (.ref T) H') : tRet (tCall (SpT K R) [] E0 t) D σ H :=
  ha.go E S fun vs F1 H1 f1 E1 S1 r1 => by
    show SpT K R (vs ++ []) H1 _ E0
    rw [List.append_nil]
    exact ⟨F1, ds, ess, r1.all, S1.fh, hR, fun T ps F' H' st q hl nd h => k T ps F' H' (f1.trans st.ff) hl q (S1.inT st hl nd h)⟩
theorem Hx.frzT (S : Hx K F0 H0 D0 F (towOs ps ess ++ O) H) (hl : ps.length = ess.length) : ∃ F', Same F F' ∧ Hx K F0 H0 D0 F' O H ∧ RpAll K F' (ps.map .ref) (ess.map .list) := by
  induction ps generalizing ess F with
  | nil =>
    cases ess with
    | nil => exact ⟨F, Same.refl _, S, .nil⟩
    | cons e ess => cases hl
  | cons p ps ih =>
    cases ess with
    | nil => cases hl
    | cons e ess =>
      obtain ⟨F1, f1, S1, r1⟩ := S.frz (j := 0) (l := p) (ds := e) rfl
      obtain ⟨F2, f2, S2, r2⟩ := ih (ess := ess) S1 (by simpa using hl)
      exact ⟨F2, f1.trans f2, S2, .cons (r1.up f2) r2⟩
theorem SpT.toP {R' : List PyData → PyData → Prop} (hi : ∀ ds d, R' ds d → ∃ ess, R ds ess ∧ d = .tuple (ess.map .list) ∧ ess.length ≤ 1000) : ∀ vs H Q E, SpP K R' vs H Q E → SpT K R vs H Q E := fun vs H Q E ⟨F, ds, d, r, fh, hR, k⟩ => by
  obtain ⟨ess, hR2, rfl, hz⟩ := hi ds d hR
  refine ⟨F, ds, ess, r, fh, hR2, fun T ps F' H' st q hl nd h => ?_⟩
  have S := (Hx.start (K := K) fh).inT st hl nd h
  obtain ⟨F2, f2, S2, r2⟩ := S.frzT hl
  exact k _ F2 H' S2.stp (.tup (same_t f2 q) (by rw [List.length_map, hl]; exact Nat.le_trans hz (by decide)) r2)
/-! ### how such a tuple is read -/
theorem rxh_tow {i : Nat} (hs : ρ[i]? = some (.tow ps)) (ht : Tow O ps ess) (hz : ess.length ≤ 1000 := by exact Nat.le_of_ble_eq_true rfl) : RXh K (tVar i) ρ O (.tuple (ess.map .list)) O := ⟨fun _ _ _ _ _ _ Q E S k => by
  obtain ⟨T, h1, h2⟩ := E.tow hs
  refine ⟨_, h1, k _ _ _ (Same.refl _) S fun F2 H2 f2 S2 => .tup (same_t (f2.trans S2.fh) h2) ?_ (ht.rp S2)⟩
  rw [List.length_map, ht.lens]
  exact Nat.le_trans hz (by decide)⟩
theorem rxs_tow {i j n : Nat} {p : Addr} {nw : Bool} {es : List PyData} (hs : ρ[i]? = some (.tow ps)) (hp : L2.atI (ps.map V.ref) (n : Int) = some (.ref p)) (ho : O[j]? = some ⟨p, nw, es⟩) : RXs K (tOp (rIxT K) (tVar i) (tC (.int n))) ρ O es O := ⟨fun _ _ _ _ _ _ Q E S k => by
  obtain ⟨T, h1, h2⟩ := E.tow hs
  refine ⟨_, h1, T, _, (n : Int), _, rfl, rfl, same_t S.fh h2, hp, k p _ _ (Same.refl _) S fun F2 H2 f2 S2 => ?_⟩
  obtain ⟨_, _, _, vs, h4, h5, h6⟩ := S2.get ho
  exact ⟨vs, SqL.of h4, h5, h6⟩⟩
variable {ta tb : TE}
theorem rx_isiH {c : String} {r : Bool} {d : PyData} (ha : RXh K ta ρ O d O1) (h : kitB (tyN d) c = some r) : RX K (tCB (rIsi K) (tCons ta (tCons (tC (.ty c)) tNil))) ρ O (.bool r) O1 := ⟨fun _ _ _ _ _ _ Q E S k => ha.go E S fun x F1 H1 f1 E1 S1 r1 =>
  ⟨x, .ty c, _, _, r, rfl, .ty c, (r1 F1 H1 (Same.refl _) S1).ty, kit_ty h, k _ F1 H1 f1 S1 (.bl r)⟩⟩
/-- a call that reads its two arguments, by the whole heap -/
theorem rx_callH {R : List PyData → PyData → Prop} {d e : PyData} {b : Bool} (hR : R [d, e] (.bool b)) (ha : RXh K ta ρ O d O1) (hb : RXh K tb ρ O1 e O1) : RX K (tCall (SpP K R) [] E0 (tCons ta (tCons tb tNil))) ρ O (.bool b) O1 := ⟨fun _ _ _ _ _ _ Q E S k =>
  ha.go E S fun x F1 H1 f1 E1 S1 r1 => hb.go E1 S1 fun y F2 H2 f2 E2 S2 r2 => by
    refine ⟨H2, [d, e], .bool b, .cons (r1 F2 H2 f2 S2) (.cons (r2 F2 H2 (Same.refl _) S2) .nil), Same.refl _, hR, fun v F' H' st r => ?_⟩
    have keep : Same H2 H' := fun a o q => st.keep a o q (by simp)
    cases r
    exact k _ F2 H' (f1.trans f2) (S2.call ⟨Same.refl _, S2.fh.trans keep, st.keep, st.live, fun _ _ _ q => q⟩) (.bl b)⟩
/-- an own list behind the others is moved to the front -/
theorem tow_move (A : Os) (p : Addr) (es : List PyData) (B : Os) : (A ++ ⟨p, true, es⟩ :: B).Perm (⟨p, true, es⟩ :: (A ++ B)) := List.perm_middle
/-- for part in t: .., which changes the part -/
theorem st_forT {i j : Nat} {tb : TS} {g : List PyData → List PyData} (ρ1 : List Sl) (hs : ρ[i]? = some (.tow ps)) (hl : ps.length = ess.length) (E : EnvR K F σ ρ) (S : Hx K F0 H0 D0 F (towOs ps ess ++ O) H) (hW : Wk ρ ρ1)
    (kn : ∀ σ' F' H', Same F F' → EnvR K F' σ' ρ1 → Hx K F0 H0 D0 F' (towOs ps (ess.map g) ++ O) H' → D.nx σ' H')
    (body : ∀ es ∈ ess, ∀ σ1 F1 H1 p Or, Same F F1 → EnvR K F1 σ1 (ρ1.set j (.adr p)) → Hx K F0 H0 D0 F1 (⟨p, true, es⟩ :: Or) H1 →
      ∀ (N B : L2.St → Hp → Prop), (∀ σ' F' H', Same F1 F' → EnvR K F' σ' ρ1 → Hx K F0 H0 D0 F' (⟨p, true, g es⟩ :: Or) H' → N σ' H') → tb { D with nx := N, ct := N, bk := B } σ1 H1) :
    tFor (iTup K (tVar i)) (gName j) tb D σ H := by
  obtain ⟨T, h1, h2⟩ := E.tow hs
  refine ⟨_, h1, T, rfl, ⟨_, same_t S.fh h2⟩, ?_⟩
  have hlen : (ps.map V.ref).length = ps.length := List.length_map _
  refine for_it (walk_tup (K := K) (a := T) (xs := ps.map V.ref)) (fun n σ H => ∃ F2, Same F F2 ∧ EnvR K F2 σ ρ1 ∧ Hx K F0 H0 D0 F2 (towOs (ps.take n) ((ess.map g).take n) ++ (towOs (ps.drop n) (ess.drop n) ++ O)) H)
    ⟨F, Same.refl _, E.weak hW, S⟩ (fun n σ H _ q => by obtain ⟨F2, q1, _, q4⟩ := q; exact same_t (q1.trans q4.fh) h2) (fun n x σ H H' hn q y => ?_) (fun σ H q => ?_)
  · obtain ⟨F2, q1, q3, q4⟩ := q
    obtain ⟨e, y⟩ := y
    subst e
    rw [hlen] at hn
    have hn2 : n < ess.length := by omega
    have hx : x = V.ref ps[n] := by
      rw [List.getElem?_map, List.getElem?_eq_getElem hn] at y
      exact (Option.some.inj y).symm
    subst hx
    rw [drop_cons hn2, drop_cons hn] at q4
    have q4 := q4.perm (tow_move _ _ _ _)
    refine body _ (List.getElem_mem hn2) _ F2 H' ps[n] _ q1 (q3.seta j) q4 _ _ (fun σ' F' H2 ff E' S' => ⟨F', q1.trans ff, E', ?_⟩)
    have S' := S'.perm (tow_move _ _ _ _).symm
    have t1 : towOs (ps.take (n + 1)) ((ess.map g).take (n + 1)) = towOs (ps.take n) ((ess.map g).take n) ++ [⟨ps[n], true, g ess[n]⟩] := by
      unfold towOs
      have hn3 : n < (ess.map g).length := by rw [List.length_map]; exact hn2
      rw [List.take_succ_eq_append_getElem hn, List.take_succ_eq_append_getElem hn3, List.zipWith_append (by rw [List.length_take, List.length_take, List.length_map, hl]), List.getElem_map]
      rfl
    rw [t1, List.append_assoc]
    exact S'
  · obtain ⟨F2, q1, q3, q4⟩ := q
    rw [hlen, List.take_length, hl, List.drop_length] at q4
    have e : (ess.map g).take ess.length = ess.map g := List.take_of_length_le (by rw [List.length_map]; exact Nat.le_refl _)
    have e2 : ps.drop ess.length = [] := by rw [← hl, List.drop_length]
    rw [e, e2] at q4
    exact kn σ F2 H q1 q3 q4
/-- .. is frozen -/
theorem frz_tow {i : Nat} (hs : ρ[i]? = some (.tow ps)) (hl : ps.length = ess.length) (E : EnvR K F σ ρ) (S : Hx K F0 H0 D0 F (towOs ps ess ++ O) H) (hz : ess.length ≤ 1000 := by exact Nat.le_of_ble_eq_true rfl) :
    ∃ F', Same F F' ∧ EnvR K F' σ (ρ.set i (.val (.tuple (ess.map .list)))) ∧ Hx K F0 H0 D0 F' O H := by
  obtain ⟨T, h1, h2⟩ := E.tow hs
  obtain ⟨F', f, S', r⟩ := S.frzT hl
  have E2 := EnvR.setv (E.up f) (v := .ref T) (.tup (same_t f h2) (by rw [List.length_map, hl]; exact Nat.le_trans hz (by decide)) r) i
  have e : σ.set i (some (.ref T)) = σ := by
    apply List.ext_getElem?
    intro n
    by_cases e : i = n
    · subst e
      rw [List.getElem?_set_self (List.getElem?_eq_some_iff.mp h1).1, h1]
    · rw [List.getElem?_set_ne e]
  rw [e] at E2
  exact ⟨F', f, E2, S'⟩
theorem len3 {α β : Type} {ps : List α} {a b c : β} (h : ps.length = [a, b, c].length) : ∃ p q r, ps = [p, q, r] := by
  match ps, h with
  | [p, q, r], _ => exact ⟨p, q, r, rfl⟩
/-- the slots as the whole heap shows them -/
inductive Vw (O : Os) : List Sl → List Sl → Prop
  | nil : Vw O [] []
  | same {r : Sl} {ρ ρ' : List Sl} (h : (∃ d, r = .val d) ∨ r = .un) : Vw O ρ ρ' → Vw O (r :: ρ) (r :: ρ')
  | adr (j : Nat) {a : Addr} {nw : Bool} {ds : List PyData} {ρ ρ' : List Sl} (h : O[j]? = some ⟨a, nw, ds⟩) : Vw O ρ ρ' → Vw O (.adr a :: ρ) (.val (.list ds) :: ρ')
  | tow {ps : List Addr} {ess : List (List PyData)} {ρ ρ' : List Sl} (h : Tow O ps ess) (hz : ess.length ≤ 1000) : Vw O ρ ρ' → Vw O (.tow ps :: ρ) (.val (.tuple (ess.map .list)) :: ρ')
theorem EnvR.whole {ρ' : List Sl} (w : Vw O ρ ρ') (S : Hx K F0 H0 D0 F O H) : ∀ {σ : L2.St}, EnvR K F σ ρ → EnvR K H σ ρ' := by
  induction w with
  | nil => intro σ E; cases E; exact .nil
  | same h _ ih =>
    intro σ E
    cases E with
    | cons r t => exact .cons (r.up S.fh) (ih t)
  | adr j h _ ih =>
    intro σ E
    cases E with
    | cons r t =>
      obtain ⟨_, _, _, vs, h4, h5, h6⟩ := S.get h
      exact .cons ⟨_, r, .lst (SqL.of h4) h5 (h6.up S.fh)⟩ (ih t)
  | tow h hz _ ih =>
    intro σ E
    cases E with
    | cons r t =>
      obtain ⟨T, h1, h2⟩ := r
      exact .cons ⟨_, h1, .tup (same_t S.fh h2) (by rw [List.length_map, h.lens]; exact Nat.le_trans hz (by decide)) (h.rp S)⟩ (ih t)
/-- a truth that is reckoned from what stands -/
theorem rx_whole {ρ' : List Sl} {b : Bool} (w : Vw O ρ ρ') (h : RX K ta ρ' [] (.bool b) []) : RX K ta ρ O (.bool b) O := ⟨fun _ _ _ _ F H Q E S k => by
  refine h.run _ _ _ _ _ _ Q (E.whole w S) (Hx.start (Same.refl H)) fun v F' H' f S' r => ?_
  have st := S'.stp
  have keep : Same H H' := fun a o q => st.keep a o q (by simp)
  cases r
  exact k _ F H' (Same.refl _) (S.call ⟨Same.refl _, S.fh.trans keep, st.keep, st.live, fun _ _ _ q => q⟩) (.bl b)⟩
end
end TL
namespace TL
open PySem L2
/-- a module's own number, text -/
theorem pe_gint {X : Cx} {x : Str} {i : Int} {pos : Pos} (h : ∃ t, X.mg x = some (.int i t)) (hg : Gl X x := by rfl) (hd : (x == ("__debug__" : Str)) = false := by decide) : PE X (.Name x pos) (tC (.int i)) := by
  obtain ⟨t, e⟩ := h
  exact pe_glob hg e ⟨t, rfl⟩ hd
theorem pe_gstr {X : Cx} {x z : Str} {pos : Pos} (h : ∃ t, X.mg x = some (.str z t)) (hg : Gl X x := by rfl) (hd : (x == ("__debug__" : Str)) = false := by decide) : PE X (.Name x pos) (tC (.str z)) := by
  obtain ⟨t, e⟩ := h
  exact pe_glob hg e ⟨t, rfl⟩ hd
end TL

namespace TL
open PySem PySem.Spec PyProof.Rows L2
open Enc
/-! ### zip of a list and a tuple -/
/-- the list at a, the tuple at b, as they stand at each turn -/
def ItMix (K : Fg) (a b : Addr) : It :=
  ⟨fun i H => ∃ (xs ys : List V) (x y : V), (SqL K H a xs ∧ SqT K H b ys) ∧ xs[i]? = some x ∧ ys[i]? = some y,
    fun i H v H' => ∃ T x y, (v = .ref T ∧ H T = none ∧ H' = upd H T (.tup [x, y])) ∧ (∀ xs, SqL K H a xs → xs[i]? = some x) ∧ ∀ ys, SqT K H b ys → ys[i]? = some y,
    fun i H => ∃ xs ys : List V, (SqL K H a xs ∧ SqT K H b ys) ∧ i ≤ xs.length ∧ i ≤ ys.length ∧ (xs.length = i ∨ ys.length = i)⟩
theorem sep_mix {z TI TO i1 i2 a b : Addr} (D : ZipApart z TI TO i1 i2 a b) : ZipSep2 z TI TO i1 i2 [i1, a] [i2, b] :=
  { TIz := D.TIz, TOz := D.TOz, TITO := D.TITO, TIi1 := D.TIi1, TIi2 := D.TIi2, mem1 := by simp, mem2 := by simp
    zf1 := fun q => by rcases (by simpa using q : z = i1 ∨ z = a) with e | e; exact D.i1z e.symm; exact D.l1z e.symm
    Tf1 := fun q => by rcases (by simpa using q : TO = i1 ∨ TO = a) with e | e; exact D.TOi1 e; exact D.l1TO e.symm
    zf2 := fun q => by rcases (by simpa using q : z = i2 ∨ z = b) with e | e; exact D.i2z e.symm; exact D.l2z e.symm
    Tf2 := fun q => by rcases (by simpa using q : TO = i2 ∨ TO = b) with e | e; exact D.TOi2 e; exact D.l2TO e.symm
    sep1_2 := fun q => by rcases (by simpa using q : i1 = i2 ∨ i1 = b) with e | e; exact D.i12 e; exact D.l2i1 e.symm
    sep2_1 := fun q => by rcases (by simpa using q : i2 = i1 ∨ i2 = a) with e | e; exact D.i12 e.symm; exact D.l1i2 e.symm }
def mixSt (z TI TO i1 i2 a b : Addr) (i : Nat) (h : Heap) : Prop := (IsZip h z TI TO .none ∧ IsPair h TI (.ref i1) (.ref i2)) ∧ (∃ x y, IsPair h TO x y) ∧ h.IsListIter i1 a i ∧ h.IsTupleIter i2 b i
theorem five {z TI TO i1 i2 c : Addr} (h : c ∈ [z, TI, TO, i1, i2]) : c = z ∨ c = TI ∨ c = TO ∨ c = i1 ∨ c = i2 := by simpa using h
theorem out5 {z TI TO i1 i2 c : Addr} (h : c ∉ [z, TI, TO, i1, i2]) : c ≠ z ∧ c ≠ TO ∧ c ≠ i1 ∧ c ≠ i2 :=
  ⟨fun e => h (by simp [e]), fun e => h (by simp [e]), fun e => h (by simp [e]), fun e => h (by simp [e])⟩
theorem turn_mix {P : Program} {w : World} {K : Fg} {elts : List Expr} {kk : Nat} {tpos : Pos} {a b z TI TO i1 i2 : Addr} (D : ZipApart z TI TO i1 i2 a b) :
    Turn P w K (.Tuple elts kk tpos) (ItMix K a b) [z, TI, TO, i1, i2] z (mixSt z TI TO i1 i2 a b) := by
  have sep := sep_mix D
  refine ⟨by simp, fun i h st c hc => ?_, fun i h h' st k => ?_, ?_, ?_, fun A i s Q E st q => wpAny_pyIter_zip st.1.1 q⟩
  · obtain ⟨⟨q1, q2⟩, ⟨x, y, q3⟩, ⟨o1, e1, _, d1⟩, o2, e2, _, d2⟩ := st
    rcases five hc with rfl | rfl | rfl | rfl | rfl
    · exact ⟨_, q1, fun v => nofun⟩
    · exact ⟨_, q2, fun v => nofun⟩
    · exact ⟨_, q3, fun v => nofun⟩
    · exact ⟨_, e1, fun v e => nomatch d1.symm.trans e⟩
    · exact ⟨_, e2, fun v e => nomatch d2.symm.trans e⟩
  · obtain ⟨⟨q1, q2⟩, ⟨x, y, q3⟩, q4, q5⟩ := st
    exact ⟨⟨k z (by simp) _ q1, k TI (by simp) _ q2⟩, ⟨x, y, k TO (by simp) _ q3⟩, q4.at fun o => k i1 (by simp) o, q5.at fun o => k i2 (by simp) o⟩
  · rintro X rfl rfl rfl hc i pins s σ H E I hf st ⟨xs, ys, x, y, ⟨hqx, hqy⟩, hx, hy⟩
    obtain ⟨⟨q1, q2⟩, ⟨x0, y0, q3⟩, q4, q5⟩ := st
    obtain ⟨its, rv, p, _⟩ := I.list hqx
    obtain ⟨its2, rv2, p2, _⟩ := I.tuple hqy
    obtain ⟨u, hu, ru⟩ := rv.get hx
    obtain ⟨u2, hu2, ru2⟩ := rv2.get hy
    have zlt : z < s.heap.objs.size := Heap.lt_size q1
    have hh : X.A.in1.handled = none := I.ok.hd hc
    refine wpAny_pyNext_zipD2_item sep (Draws.list hh i1 a D.l1i1 its.toArray) (Draws.tuple hh i2 b D.l2i2 its2.toArray) q1 q2 q3 ⟨q4, p.isList⟩ ⟨q5, p2⟩ (by simpa using (List.getElem?_eq_some_iff.mp hu).1) (by simpa using (List.getElem?_eq_some_iff.mp hu2).1) fun x1 x2 h' tk e1 e2 z' TO' n1 n2 hT hsz hk => ?_
    have ex1 : x1 = u := Option.some.inj (e1.symm.trans (by simpa using hu))
    have ex2 : x2 = u2 := Option.some.inj (e2.symm.trans (by simpa using hu2))
    subst ex1
    subst ex2
    refine ⟨_, rfl, wpAny_letOwnedTupleGo_zip (s := { s with heap := h', toks := tk }) z' fun h2 z2 sb => ?_⟩
    have hT2 : h2.get? s.heap.objs.size = some { cls := .type "tuple", data := .seq #[x1, x2] } := (sb.2 _ (Nat.ne_of_gt zlt)).trans hT
    have new : ObjOk X.prog X.w (upd H s.heap.objs.size (.tup [x, y])) h2 s.heap.objs.size (.tup [x, y]) := ⟨by show 2 ≤ sizeLine; decide, [x1, x2], .cons ru (.cons ru2 .nil), ⟨_, hT2, rfl, _, rfl⟩⟩
    have I1 : Inv X pins σ (upd H s.heap.objs.size (.tup [x, y])) { s with heap := h2, toks := tk } := I.turnedNew (t' := tk) (ch := [z, TI, TO, i1, i2]) (fun c o hb q => by
      obtain ⟨c1, c2, c3, c4⟩ := out5 hb
      exact (sb.2 c c1).trans (hk c o c1 c2 c3 c4 q)) hf (Nat.le_refl _) new
    refine ⟨.ref s.heap.objs.size, _, I1, rfl, ⟨_, x, y, ⟨rfl, I.hok.fresh (Nat.le_refl _), rfl⟩, fun l hl => by rw [I.list_inj hl hqx]; exact hx, fun l hl => by rw [I.tuple_inj hl hqy]; exact hy⟩, ⟨⟨z2, ?_⟩, ⟨x1, x2, ?_⟩, ?_, ?_⟩, fun c hcm => ?_⟩
    · exact (sb.2 TI D.TIz).trans (hk TI _ D.TIz D.TITO D.TIi1 D.TIi2 q2)
    · exact (sb.2 TO D.TOz).trans TO'
    · exact n1.1.at fun o q => (sb.2 i1 D.i1z).trans q
    · exact n2.1.at fun o q => (sb.2 i2 D.i2z).trans q
    · have hlt : c < s.heap.objs.size := by
        rcases five hcm with rfl | rfl | rfl | rfl | rfl
        · exact zlt
        · exact Heap.lt_size q2
        · exact Heap.lt_size q3
        · obtain ⟨_, e, _⟩ := q4; exact Heap.lt_size e
        · obtain ⟨_, e, _⟩ := q5; exact Heap.lt_size e
      rw [upd_ne (Nat.ne_of_lt hlt)]
      exact (hf c hcm).1
  · rintro X rfl rfl rfl hc i pins s σ H E I hf st ⟨xs, ys, ⟨hqx, hqy⟩, l1, l2, hend⟩
    obtain ⟨⟨q1, q2⟩, ⟨x0, y0, q3⟩, q4, q5⟩ := st
    obtain ⟨its, rv, p, _⟩ := I.list hqx
    obtain ⟨its2, rv2, p2, _⟩ := I.tuple hqy
    have e1 := rv.length
    have e2 := rv2.length
    have hh : X.A.in1.handled = none := I.ok.hd hc
    refine wpAny_pyNext_zipD2_end sep (Draws.list hh i1 a D.l1i1 its.toArray) (Draws.tuple hh i2 b D.l2i2 its2.toArray) q1 q2 q3 ⟨q4, p.isList⟩ ⟨q5, p2⟩ (by simp; omega) (by simp; omega) (by simp; omega) fun h' tk hk => ?_
    refine ⟨rfl, I.turnedL (t' := tk) (ch := [z, TI, TO, i1, i2]) (fun c o hb q => ?_) hf⟩
    obtain ⟨c1, c2, c3, c4⟩ := out5 hb
    exact hk c o c1 c2 c3 c4 q
def iMix (K : Fg) (ta : TA) : TI := fun σ H R => ta σ H fun vs H1 => ∃ a b xs ys, vs = [.ref a, .ref b] ∧ (SqL K H1 a xs ∧ SqT K H1 b ys) ∧ R (ItMix K a b) H1
theorem k_pi_mix {X : Cx} (K : Fg) {e e2 : Expr} {ta : TA} {p pos tpos : Pos} {elts : List Expr} {kk : Nat} (hg : Gl X "zip") (hm : X.mg "zip" = none) (ha : PA X [e, e2] ta)
    (hs : starEach [e, e2] X.env = (false, eval e X.env) :: starEach [e2] X.env := by rfl) (hpl : (backTo pos (starEach [e2] X.env)).any (·.1) = false := by rfl) (hK : X.K = K := by rfl) :
    PI X (.Tuple elts kk tpos) (.Call (.Name "zip" p) [e, e2] [] pos) (iMix K ta) := by
  subst hK
  refine ⟨fun pins s σ H R I h => ?_⟩
  refine Call_ (ld_blt I hg hm PyProof.Rows.boot_zip (PyProof.Rows.callWith_type1 (thn (ha.run pos pins s σ H _ I h) fun us s1 ⟨vs, H1, I1, r1, q1⟩ => ?_) hs hpl))
  obtain ⟨a, b, xs, ys, ex, ⟨hqx, hqy⟩, q⟩ := q1
  subst ex
  cases r1 with
  | cons r rr =>
   cases rr with
   | cons r' rr =>
    cases rr
    cases r
    cases r'
    obtain ⟨its, rv, p1, _⟩ := I1.list hqx
    obtain ⟨its2, rv2, p2, _⟩ := I1.tuple hqy
    have lt1 := p1.lt
    obtain ⟨o2, ho2, p3⟩ := id p2
    have lt2 := Heap.lt_size ho2
    refine zip_begins2 (begins_list a its.toArray) (begins_tuple b its2.toArray) p1.isList p2 fun h' hz hTI hTO g1 g2 hsz hk => wpAny_pyIter_zip hz ?_
    have I2 : Inv X pins σ H1 { s1 with heap := h' } := I1.kept (t' := s1.toks) hk
    refine ⟨s1.heap.objs.size + 4, [s1.heap.objs.size + 4, s1.heap.objs.size + 2, s1.heap.objs.size + 3, s1.heap.objs.size, s1.heap.objs.size + 1], _, _, H1, rfl, I2, turn_mix (PySem.W.ktu_apart s1.heap.objs.size a b lt1 lt2), ⟨⟨hz, hTI⟩, ⟨_, _, hTO⟩, ⟨_, g1, rfl, rfl⟩, ⟨_, g2, rfl, rfl⟩⟩, fun c hcm => ?_, q⟩
    have hle : s1.heap.objs.size ≤ c := by
      rcases five hcm with rfl | rfl | rfl | rfl | rfl
      · exact Nat.le_add_right _ _
      · exact Nat.le_add_right _ _
      · exact Nat.le_add_right _ _
      · exact Nat.le_refl _
      · exact Nat.le_add_right _ _
    exact I1.fpOk hle (I1.hok.fresh hle)
section
variable {K : Fg} {ta tb : TE} {ρ : List Sl} {O O1 O2 : Os}
theorem ri_mix {ys zs : List PyData} (h : RX K ta ρ O (.list ys) O1) (h' : RX K tb ρ O1 (.tuple zs) O2) : RI K (iMix K (tCons ta (tCons tb tNil))) ρ O (zipD ys zs) O2 := ⟨fun F0 H0 D0 σ F H R E S k => by
    refine h.go E S fun x F1 H1 f1 E1 S1 r1 => h'.go E1 S1 fun y F2 H2 f2 E2 S2 r2 => ?_
    have r1' := r1.up f2
    cases r1' with
    | @lst a xs _ q1 q2 q3 =>
     cases r2 with
     | @tup b ws _ p1 p2 p3 =>
      have s1 : ∀ {G0 J0 : Hp} {D1 : List Addr} {F : Hp} {O : Os} {H : Hp}, Same F2 F → Hx K G0 J0 D1 F O H → SqL K H a xs ∧ SqT K H b ws := fun f S => ⟨(f.trans S.fh).seq q1, same_t (f.trans S.fh) p1⟩
      refine ⟨a, b, xs, ws, rfl, s1 (Same.refl _) S2, ?_⟩
      have hl : (zipD ys zs).length = min xs.length ws.length := by unfold zipD; rw [List.length_map, List.length_zip, q3.length, p3.length]
      refine k _ F2 H2 (f1.trans f2) S2 ⟨by omega, fun _ _ _ F O H i hi f S => ?_, fun _ _ _ F O H f S => ⟨xs, ws, s1 f S, by omega, by omega, by omega⟩, fun _ _ _ F O H i x H' hi f S y => ?_⟩
      · have h1 : i < xs.length := by omega
        have h2 : i < ws.length := by omega
        exact ⟨xs, ws, xs[i], ws[i], s1 f S, by simp [h1], by simp [h2]⟩
      · obtain ⟨T, u, v, ⟨eu, hT, eT⟩, y1, y2⟩ := y
        subst eu
        subst eT
        obtain ⟨d, e, r⟩ := (q3.up f).getV (y1 xs (s1 f S).1)
        obtain ⟨d', e', r'⟩ := (p3.up f).getV (y2 ws (s1 f S).2)
        obtain ⟨F3, f3, S3, r3⟩ := pair_put S hT r r'
        refine ⟨F3, _, f3, S3, ?_, r3⟩
        unfold zipD
        have ez : (ys.zip zs)[i]? = some (d, d') := List.getElem?_zip_eq_some.mpr ⟨e, e'⟩
        rw [List.getElem?_map, ez]
        rfl⟩
theorem ri_mixM {α β : Type} [Enc α] [Enc β] {xs : List α} {ys : List β} (h : RX K ta ρ O (.list (xs.map enc)) O1) (h' : RX K tb ρ O1 (.tuple (ys.map enc)) O2) : RI K (iMix K (tCons ta (tCons tb tNil))) ρ O ((xs.zip ys).map enc) O2 := by
  have e : (xs.zip ys).map enc = zipD (xs.map enc) (ys.map enc) := by
    unfold zipD
    rw [List.zip_map, List.map_map]
    rfl
  rw [e]
  exact ri_mix h h'
end
end TL

namespace TL
open PySem L2
open Enc
/-! ### texts -/
def catSO (x y : Str) : Option Str := if x.length + y.length ≤ 16777216 then some (x ++ y) else none
def cutSO (z : Str) (lo hi : Option Int) : Option Str := if z.length ≤ 16777216 then some (cutS z lo hi) else none
def lenO (z : Str) : Option Int := if z.length ≤ 16777216 then some (z.length : Int) else none
def intO (z : Str) : Option Int := if z.length ≤ 640 then intText? z else none
/-- // by what lies below 2 ^ 200 -/
def fdivWO (i j : Int) : Option Int := if 0 < j ∧ j < 1606938044258990275541962092341162602522202993782792835301376 then some (i / j) else none
section
variable {K : Fg} {ta tb tc : TE} {ρ : List Sl} {O O1 O2 O3 : Os} {x y z : Str} {i j r : Int}
theorem rx_catS {s : Str} (h : catSO x y = some s) (ha : RX K ta ρ O (.str x) O1) (hb : RX K tb ρ O1 (.str y) O2) :
    RX K (tOp (fun x y H Q => ∃ i j, x = .str i ∧ y = .str j ∧ i.length + j.length ≤ sizeLine ∧ Q (.str (i ++ j)) H) ta tb) ρ O (.str s) O2 := rx_op ha hb fun F H u v Q _ ru rv k => by
  cases ru
  cases rv
  unfold catSO at h
  split at h
  · rename_i hc
    cases h
    exact ⟨x, y, rfl, rfl, by rw [sizeLine_eq]; exact hc, k _ (.str _)⟩
  · cases h
theorem rx_cutS {s : Str} {tl th : TO} {lo hi : Option Int} (h : cutSO z lo hi = some s) (ha : RX K ta ρ O (.str z) O1) (hl : RO K tl ρ O1 lo O2) (hh : RO K th ρ O2 hi O3) : RX K (tSl rSlS ta tl th) ρ O (.str s) O3 := ⟨fun _ _ _ _ _ _ Q E S k =>
  ha.go E S fun u F1 H1 f1 E1 S1 r1 => hl.go E1 S1 fun F2 H2 f2 E2 S2 => hh.go E2 S2 fun F3 H3 f3 E3 S3 => by
    cases r1
    unfold cutSO at h
    split at h
    · rename_i hc
      cases h
      exact ⟨z, rfl, by rw [sizeLine_eq]; exact hc, k _ F3 H3 ((f1.trans f2).trans f3) S3 (.str _)⟩
    · cases h⟩
theorem rx_find (ha : RX K ta ρ O (.str x) O1) (hb : RX K tb ρ O1 (.str y) O2) : RX K (tM1 (fun x xs H Q => ∃ a b, x = .str a ∧ xs = [.str b] ∧ Q (.int (Txt.find a b)) H) ta tb) ρ O (.int (Txt.find x y)) O2 := ⟨fun _ _ _ _ _ _ Q E S k =>
  ha.go E S fun u F1 H1 f1 E1 S1 r1 => by
    cases r1
    exact ⟨⟨x, rfl⟩, hb.go E1 S1 fun v F2 H2 f2 E2 S2 r2 => by
      cases r2
      exact ⟨x, y, rfl, rfl, k _ F2 H2 (f1.trans f2) S2 (.int _)⟩⟩⟩
theorem rx_lenO (h : lenO z = some r) (ha : RX K ta ρ O (.str z) O1) : RX K (tCB (fun xs H Q => ∃ z, xs = [.str z] ∧ z.length ≤ sizeLine ∧ Q (.int (z.length : Int)) H) (tCons ta tNil)) ρ O (.int r) O1 := by
  unfold lenO at h
  split at h
  · rename_i hc
    cases h
    exact rx_lenS ha (by rw [sizeLine_eq]; exact hc)
  · cases h
theorem rx_intO (h : intO z = some r) (ha : RX K ta ρ O (.str z) O1) : RX K (tCB (fun xs H Q => ∃ a n, xs = [.str a] ∧ PySem.intText? a = some n ∧ a.length ≤ 640 ∧ Q (.int n) H) (tCons ta tNil)) ρ O (.int r) O1 := rx_cb1 ha fun F H x Q f rx k => by
  cases rx
  unfold intO at h
  split at h
  · rename_i hc
    exact ⟨z, r, rfl, h, hc, k _ (.int _)⟩
  · cases h
theorem rx_fdivWO (h : fdivWO i j = some r) (ha : RX K ta ρ O (.int i) O1) (hb : RX K tb ρ O1 (.int j) O2) : RX K (tOp (rI CDivW fun i j => .int (i / j)) ta tb) ρ O (.int r) O2 := by
  unfold fdivWO at h
  split at h
  · rename_i hc
    cases h
    refine rx_iiC (C := CDivW) (fun _ => .int _) (wide_div (b := 200) hc.1 ?_ (by decide) (by decide)) ha hb
    have e : (2 : Nat) ^ 200 = 1606938044258990275541962092341162602522202993782792835301376 := by decide
    rw [e]
    omega
  · cases h
/-- sorted of whole numbers -/
def sortI (ns : List Int) : List Int := ns.mergeSort fun a b => decide (a ≤ b)
theorem sortI_of {ns ns' : List Int} (p : ns'.Perm ns) (s : ns'.Pairwise (· ≤ ·)) : ns' = sortI ns := by
  have p2 : ns'.Perm (sortI ns) := p.trans (List.mergeSort_perm _ _).symm
  refine p2.eq_of_pairwise (le := (· ≤ ·)) (fun a b _ _ h1 h2 => Int.le_antisymm h1 h2) s ?_
  exact (List.pairwise_mergeSort (le := fun a b : Int => decide (a ≤ b)) (fun a b c h1 h2 => by simp at *; omega) (fun a b => by simp; omega) ns).imp fun h => by simpa using h
theorem rxo_sorted {ns : List Int} (ha : RXs K ta ρ O (ns.map .int) O1) : RXo K (tCB (rSortedI K) (tCons ta tNil)) ρ O ((sortI ns).map .int) O1 := ⟨fun _ _ _ _ _ _ Q E S k =>
  ha.go E S fun a F1 H1 f1 E1 S1 r1 => by
    obtain ⟨vs, q1, q2, q3⟩ := r1 F1 H1 (Same.refl _) S1
    have hv := q3.ints
    refine ⟨a, ns, rfl, by rw [← hv]; exact q1, fun ns' p hp hs hn => ?_⟩
    have e := sortI_of hp hs
    subst e
    refine k p F1 _ f1 (S1.mine hn ?_ (RpAll.of_ints _))
    rw [List.length_map, hp.length_eq]
    have := q3.length
    rw [List.length_map] at this
    omega⟩
theorem k_sortedI {X : Cx} (K : Fg) (hK : X.K = K := by rfl) : CallR X (.builtin "sorted") (rSortedI K) := by subst hK; exact cr_sortedI
end
end TL

namespace TL
open PySem L2
open Enc
section
variable {K : Fg} {ta tb tc : TE} {ρ : List Sl} {O O1 O2 O3 : Os} {F0 H0 F H : Hp} {D0 : List Addr} {σ : L2.St}
/-! ### items of what may be a list or a tuple -/
theorem rx_ixA {ds : List PyData} {i : Int} {d : PyData} (h : L2.atI ds i = some d) (ha : RX K ta ρ O (.list ds) O1) (hb : RX K tb ρ O1 (.int i) O2) : RX K (tOp (rIx K) ta tb) ρ O d O2 := ⟨fun _ _ _ _ _ _ Q E S k =>
  ha.go E S fun x F1 H1 f1 E1 S1 r1 => hb.go E1 S1 fun y F2 H2 f2 E2 S2 r2 => by
    cases r2
    have r1' := r1.up f2
    cases r1' with
    | lst q1 q2 q3 =>
      obtain ⟨v, e, r⟩ := q3.atI h
      exact .inl ⟨_, _, i, v, rfl, rfl, S2.fh.seq q1, e, k v F2 H2 (f1.trans f2) S2 r⟩⟩
theorem rx_ixAT {ds : List PyData} {i : Int} {d : PyData} (h : L2.atI ds i = some d) (ha : RX K ta ρ O (.tuple ds) O1) (hb : RX K tb ρ O1 (.int i) O2) : RX K (tOp (rIx K) ta tb) ρ O d O2 := ⟨fun _ _ _ _ _ _ Q E S k =>
  ha.go E S fun x F1 H1 f1 E1 S1 r1 => hb.go E1 S1 fun y F2 H2 f2 E2 S2 r2 => by
    cases r2
    have r1' := r1.up f2
    cases r1' with
    | tup q1 q2 q3 =>
      obtain ⟨v, e, r⟩ := q3.atI h
      exact .inr (.inl ⟨_, _, i, v, rfl, rfl, same_t S2.fh q1, e, k v F2 H2 (f1.trans f2) S2 r⟩)⟩
theorem k_ix_seq {X : Cx} (K : Fg) (hK : X.K = K := by rfl) : IxR X (rIx K) := by subst hK; exact ix_seq
theorem rx_noN {d : PyData} (hn : d ≠ .none) (ha : RX K ta ρ O d O1) : RX K (tIsN ta) ρ O (.bool false) O1 := ⟨fun _ _ _ _ _ _ Q E S k => ha.go E S fun x F1 H1 f1 E1 S1 r1 => by
  have e : decide (x = V.non) = false := decide_eq_false fun q => by
    subst q
    cases r1
    exact hn rfl
  show Q (.bl (decide (x = V.non))) H1
  rw [e]
  exact k _ F1 H1 f1 S1 (.bl false)⟩
/-- a loop that ends where something is not so -/
theorem forF_all {α : Type} (g : α → Bool) : ∀ xs : List α, forF (S := Unit) (R := Bool) (fun x _ => some (if g x = true then .nx () else .rt false)) xs () = some (if xs.all g = true then .nx () else .rt false)
  | [] => rfl
  | x :: xs => by
    unfold forF
    simp only [Option.bind_some]
    by_cases h : g x = true
    · rw [if_pos h]
      simp only
      rw [forF_all g xs, List.all_cons, h, Bool.true_and]
    · rw [if_neg h]
      simp only
      rw [if_neg]
      rw [List.all_cons]
      intro q
      rw [Bool.and_eq_true] at q
      exact h q.1
def simG (zs : List (PyData × PyData × Bool)) (k : Int) : Bool := match zs[k.toNat]? with
  | some t => t.2.2
  | none => true
theorem simG_all (zs : List (PyData × PyData × Bool)) : (rngL 0 zs.length).all (simG zs) = (zs.map (·.2.2)).all id := by
  rw [Bool.eq_iff_iff, List.all_eq_true, List.all_eq_true]
  constructor
  · intro h b hb
    obtain ⟨t, ht, rfl⟩ := List.mem_map.mp hb
    obtain ⟨i, hi⟩ := List.mem_iff_getElem?.mp ht
    have hl := (List.getElem?_eq_some_iff.mp hi).1
    have := h (i : Int) (by unfold rngL; exact List.mem_map.mpr ⟨i, List.mem_range.mpr hl, by simp⟩)
    unfold simG at this
    rw [Int.toNat_natCast, hi] at this
    exact this
  · intro h k _
    unfold simG
    cases e : zs[k.toNat]? with
    | none => rfl
    | some t => exact h t.2.2 (List.mem_map.mpr ⟨t, List.mem_of_getElem? e, rfl⟩)
theorem zip_len {xs ys : List PyData} {zs : List (PyData × PyData × Bool)} (z1 : zipD xs ys = zs.map fun t => PyData.tuple [t.1, t.2.1]) (hl : xs.length = ys.length) : zs.length = ys.length := by
  have := congrArg List.length z1
  unfold zipD at this
  rw [List.length_map, List.length_map, List.length_zip, hl, Nat.min_self] at this
  exact this.symm
theorem zip_at {xs ys : List PyData} {zs : List (PyData × PyData × Bool)} (z1 : zipD xs ys = zs.map fun t => PyData.tuple [t.1, t.2.1]) (hl : xs.length = ys.length) {k : Int} (hk : k ∈ rngL 0 ys.length) :
    ∃ t, t ∈ zs ∧ simG zs k = t.2.2 ∧ L2.atI xs k = some t.1 ∧ L2.atI ys k = some t.2.1 := by
  unfold rngL at hk
  obtain ⟨i, hi, rfl⟩ := List.mem_map.mp hk
  rw [List.mem_range] at hi
  have hz : i < zs.length := by rw [zip_len z1 hl]; exact hi
  have hx : i < xs.length := by omega
  have e : (zs.map fun t => PyData.tuple [t.1, t.2.1])[i]? = some (.tuple [zs[i].1, zs[i].2.1]) := by rw [List.getElem?_map, List.getElem?_eq_getElem hz]; rfl
  rw [← z1] at e
  unfold zipD at e
  have ez : (xs.zip ys)[i]? = some (xs[i], ys[i]) := List.getElem?_zip_eq_some.mpr ⟨List.getElem?_eq_getElem hx, List.getElem?_eq_getElem hi⟩
  rw [List.getElem?_map, ez] at e
  have e := Option.some.inj e
  injection e with e
  injection e with e1 e2
  injection e2 with e2 _
  refine ⟨zs[i], List.getElem_mem hz, ?_, ?_, ?_⟩
  · unfold simG
    rw [show (0 + (i : Int)).toNat = i by omega, List.getElem?_eq_getElem hz]
  · unfold L2.atI ixN
    rw [if_pos (by omega), if_pos (by omega)]
    simp only [Option.bind_some]
    rw [show (0 + (i : Int)).toNat = i by omega, List.getElem?_eq_getElem hx]
    exact congrArg some e1
  · unfold L2.atI ixN
    rw [if_pos (by omega), if_pos (by omega)]
    simp only [Option.bind_some]
    rw [show (0 + (i : Int)).toNat = i by omega, List.getElem?_eq_getElem hi]
    exact congrArg some e2
/-! ### a written dict of texts by texts -/
def dlitS (kvs : List (Str × Str)) (k : Str) : Option Str := (kvs.find? fun kv => decide (kv.1 = k)).map (·.2)
theorem valV_litS {k : Str} : ∀ (kvs : List (Str × Str)), valV (litS kvs) (Sum.inr k : Key) = (dlitS kvs k).map V.str
  | [] => rfl
  | (a, v) :: r => by
    have ih := valV_litS (k := k) r
    unfold valV dlitS litS at ih ⊢
    rw [List.map_cons, List.find?_cons, List.find?_cons]
    by_cases e : a = k
    · subst e
      simp
    · have e1 : decide ((Sum.inr a : Key) = Sum.inr k) = false := decide_eq_false fun q => e (Sum.inr.inj q)
      have e2 : decide (a = k) = false := decide_eq_false e
      rw [e1, e2]
      exact ih
theorem pairs_litS : ∀ (kvs : List (Str × Str)) {σ : L2.St} {H : Hp} {Q : List (V × V) → Hp → Prop}, Q (kvs.map fun p => (V.str p.1, V.str p.2)) H → tPairs (kvs.map fun p => (tC (.str p.1), tC (.str p.2))) σ H Q
  | [], _, _, _, h => h
  | (k, v) :: r, σ, H, Q, h => by
    show tC (.str k) σ H fun x H1 => tC (.str v) σ H1 fun y H2 => tPairs (r.map fun p => (tC (.str p.1), tC (.str p.2))) σ H2 fun ps H3 => Q ((x, y) :: ps) H3
    exact pairs_litS r (Q := fun ps H3 => Q ((V.str k, V.str v) :: ps) H3) h
variable {D : Ends}
theorem st_setD {i : Nat} {kvs : List (Str × Str)} (hl : kvs.length ≤ 15) (hm : mergeK [] (litS kvs) = litS kvs) (E : EnvR K F σ ρ) (S : Hx K F0 H0 D0 F O H)
    (k : ∀ σ' F' H', Same F F' → EnvR K F' σ' (ρ.set i (.dic kvs)) → Hx K F0 H0 D0 F' O H' → D.nx σ' H') : tAsg (tDisp (kvs.map fun p => (tC (.str p.1), tC (.str p.2)))) (gName i) D σ H := by
  intro p hp
  refine pairs_litS kvs ⟨upd_same, litS kvs, ?_, ?_, ?_⟩
  · unfold litS; rw [List.map_map]; rfl
  · unfold litS; rw [List.length_map]; exact hl
  · rw [upd_upd, hm]
    have f0 := same_upd (o := .dK (litS kvs)) (S.nof hp)
    exact k _ _ _ f0 (EnvR.set (s := some (.ref p)) (r := .dic kvs) ⟨p, rfl, upd_same⟩ i (E.up f0)) (S.put (o := .dK (litS kvs)) hp)
theorem rx_dget {i : Nat} {kvs : List (Str × Str)} {k v : Str} (h : dlitS kvs k = some v) (hs : ρ[i]? = some (.dic kvs)) (hk : RX K tb ρ O (.str k) O1) : RX K (tDGet (tVar i) tb) ρ O (.str v) O1 := ⟨fun _ _ _ _ _ _ Q E S kk => by
  obtain ⟨s, h1, t, rfl, h2⟩ := E.at hs
  refine ⟨_, h1, hk.go E S fun y F1 H1 f1 E1 S1 r1 => ?_⟩
  cases r1
  have hd : H1 t = some (.dK (litS kvs)) := S1.fh _ _ (f1 _ _ h2)
  refine ⟨t, .str v, rfl, ?_, kk _ F1 H1 f1 S1 (.str v)⟩
  have q := DGet.k (k := Sum.inr k) hd
  rw [valV_litS, h] at q
  exact q⟩
/-! ### tuple(range(n)), list(range(n)) -/
theorem rg_rng {n : Int} (h : 0 ≤ n) : rgV 0 n = (rngL 0 n.toNat).map V.int := by
  unfold rgV rngL
  rw [List.map_map, Int.sub_zero]
  rfl
theorem rngO_ok {n : Int} {r : List Int} (h : rngO n = some r) : RgOk 0 n ∧ rgV 0 n = r.map V.int ∧ r.length ≤ 16777216 := by
  obtain ⟨⟨h1, h2⟩, rfl⟩ := rngO_some h
  refine ⟨⟨by omega, by omega, by omega, by omega, by omega⟩, ?_, by rw [rngL_length]; omega⟩
  unfold rgV rngL
  rw [List.map_map, Int.sub_zero]
  rfl
theorem rx_tupRg {n : Int} {r : List Int} (h : rngO n = some r) (ha : RX K ta ρ O (.int n) O1) : RX K (tTupRg (tRg1 ta)) ρ O (.tuple (r.map .int)) O1 := ⟨fun _ _ _ _ _ _ Q E S k => ha.go E S fun x F1 H1 f1 E1 S1 r1 => by
  cases r1
  obtain ⟨h1, h2, h3⟩ := rngO_ok h
  refine ⟨n, rfl, h1, fun q hq => ?_⟩
  rw [h2]
  have f2 := same_upd (o := .tup (r.map V.int)) (S1.nof hq)
  exact k _ _ _ (f1.trans f2) (S1.put hq) (.tup (SqT.of upd_same) (by rw [List.length_map, sizeLine_eq]; exact h3) (RpAll.of_ints r))⟩
theorem rxo_listRg {n : Int} {r : List Int} (h : rngO n = some r) (ha : RX K ta ρ O (.int n) O1) : RXo K (tLstRg (tRg1 ta)) ρ O (r.map .int) O1 := ⟨fun _ _ _ _ _ _ Q E S k => ha.go E S fun x F1 H1 f1 E1 S1 r1 => by
  cases r1
  obtain ⟨h1, h2, h3⟩ := rngO_ok h
  refine ⟨n, rfl, h1, fun q hq => ?_⟩
  rw [h2]
  exact k q F1 _ f1 (S1.mine hq (by rw [List.length_map, sizeLine_eq]; exact h3) (RpAll.of_ints r))⟩
end
end TL

namespace TL
open PySem L2
open Enc
section
variable {K : Fg} {F0 H0 F H : Hp} {D0 : List Addr} {O : Os} {ρ : List Sl} {σ : L2.St} {D : Ends}
/-- a loop in which an own list is made anew each turn -/
theorem st_forSA {α S : Type} {eα : α → PyData} {wi : TI} {g : TG} {tb : TS} {xs : List α} {f : α → S → Option S} {s0 s1 : S} (ρf : S → Addr → List Sl) (Of : S → Addr → Os) (a0 : Addr) (E : EnvR K F σ ρ) (S0 : Hx K F0 H0 D0 F O H) (hI : RI K wi ρ O (xs.map eα) (Of s0 a0)) (hf : forS f xs s0 = some s1) (hW : Wk ρ (ρf s0 a0))
    (kn : ∀ a σ' F' H', Same F F' → EnvR K F' σ' (ρf s1 a) → Hx K F0 H0 D0 F' (Of s1 a) H' → D.nx σ' H')
    (body : ∀ x ∈ xs, ∀ s s' a, f x s = some s' → ∀ σ1 F1 H1 v, Same F F1 → EnvR K F1 σ1 (ρf s a) → Hx K F0 H0 D0 F1 (Of s a) H1 → Rp K F1 v (eα x) →
      ∀ (N B : L2.St → Hp → Prop), (∀ a' σ' F' H', Same F1 F' → EnvR K F' σ' (ρf s' a') → Hx K F0 H0 D0 F' (Of s' a') H' → N σ' H') → g v σ1 H1 fun σ2 H2 => tb { D with nx := N, ct := N, bk := B } σ2 H2) :
    tFor wi g tb D σ H := hI.go E S0 fun J F1 H1 f1 E1 S1 w => by
  refine for_it (walk_of w) (fun i σ H => ∃ s a F2, Same F1 F2 ∧ EnvR K F2 σ (ρf s a) ∧ Hx K F0 H0 D0 F2 (Of s a) H ∧ forS f (xs.drop i) s = some s1) ⟨s0, a0, F1, Same.refl _, E1.weak hW, S1, hf⟩
    (fun i σ H _ q => by obtain ⟨s, a, F2, q1, q2, q3, _⟩ := q; exact ⟨F2, _, q1, q3⟩) (fun i x σ H H' hi q y => ?_) (fun σ H q => ?_)
  · obtain ⟨s, a, F2, q1, q2, q3, q4⟩ := q
    obtain ⟨F3, z, f3, S3, ez, rz⟩ := y F2 _ q1 q3
    have hm : z ∈ xs := List.mem_of_getElem? ez
    have hi' : xs[i] = z := (List.getElem?_eq_some_iff.mp ez).2
    rw [List.drop_eq_getElem_cons hi, hi'] at q4
    unfold forS at q4
    obtain ⟨s', e1, e2⟩ := bindE q4
    exact body z hm s s' a e1 σ F3 H' x (f1.trans (q1.trans f3)) (q2.up f3) S3 rz _ _ fun a' σ' F' H2 ff E' S' => ⟨s', a', F', (q1.trans f3).trans ff, E', S', e2⟩
  · obtain ⟨s, a, F2, q1, q2, q3, q4⟩ := q
    rw [List.drop_length] at q4
    obtain rfl := Option.some.inj q4
    exact kn a σ F2 H (f1.trans q1) q2 q3
/-- xs.clear(), xs an own list -/
theorem st_clear {i j : Nat} {a : Addr} {nw : Bool} {ds : List PyData} (hs : ρ[i]? = some (.adr a)) (hj : O[j]? = some ⟨a, nw, ds⟩) (E : EnvR K F σ ρ) (S : Hx K F0 H0 D0 F O H)
    (k : ∀ F' H', Same F F' → EnvR K F' σ ρ → Hx K F0 H0 D0 F' (O.set j ⟨a, nw, []⟩) H' → D.nx σ H') : tDrop (tBM0 K "list" rClear (tVar i)) D σ H := by
  obtain ⟨g1, g2, g3, vs, g4, g5, g6⟩ := S.get hj
  have g4 : H a = some (.lst vs) := g4
  exact ⟨_, E.adr hs, .inl ⟨rfl, _, .inl (.inl g4)⟩, a, vs, rfl, rfl, g4, k F _ (Same.refl _) E (S.mut hj (Nat.zero_le _) .nil)⟩
/-! ### a second own list, read only -/
theorem Hx.start2 {p q : Addr} {vs ws : List V} {ds es : List PyData} (h : Same F H) (n : F p = none) (hp : H p = some (.lst vs)) (hz : vs.length ≤ sizeLine) (r : RpAll K F vs ds) (n' : F q = none) (hq : H q = some (.lst ws)) (hz' : ws.length ≤ sizeLine) (r' : RpAll K F ws es) (ne : p ≠ q) :
    Hx K F H [p, q] F [⟨p, false, ds⟩, ⟨q, false, es⟩] H := by
  refine ⟨Same.refl _, h, fun _ _ e _ => e, fun _ o e => ⟨o, e⟩, fun _ _ _ e => e, fun u hu => ?_, by simp [ne]⟩
  rcases List.mem_cons.mp hu with rfl | hu
  · exact ⟨n, fun z => (Bool.false_ne_true z).elim, fun _ => by simp, vs, hp, hz, r⟩
  · have e : u = ⟨q, false, es⟩ := by simpa using hu
    subst e
    exact ⟨n', fun z => (Bool.false_ne_true z).elim, fun _ => by simp, ws, hq, hz', r'⟩
theorem Hx.call2 {F' H' : Hp} (S : Hx K F0 H0 D0 F O H) {j k : Nat} {l m : Addr} {nw nw' : Bool} {ds ds' es : List PyData} {vs ws : List V} (h : O[j]? = some ⟨l, nw, ds⟩) (h' : O[k]? = some ⟨m, nw', es⟩) (q : Stp [l, m] F H F' H')
    (hl : H' l = some (.lst vs)) (hz : vs.length ≤ sizeLine) (r : RpAll K F' vs ds') (hm : H' m = some (.lst ws)) (hz' : ws.length ≤ sizeLine) (r' : RpAll K F' ws es) : Hx K F0 H0 D0 F' (O.set j ⟨l, nw, ds'⟩) H' := by
  obtain ⟨h1, h2, h3, vs0, h4, h5, h6⟩ := S.get h
  obtain ⟨k1, k2, k3, ws0, k4, k5, k6⟩ := S.get h'
  have mine : ∀ a o, H0 a = some o → a ∉ D0 → a ≠ l ∧ a ≠ m := fun a o e n => by
    constructor
    · intro z
      rw [z] at e n
      cases nw with
      | true => rw [h2 rfl] at e; cases e
      | false => exact n (h3 rfl)
    · intro z
      rw [z] at e n
      cases nw' with
      | true => rw [k2 rfl] at e; cases e
      | false => exact n (k3 rfl)
  refine ⟨S.f0.trans q.ff, q.fh, fun a u e n => ?_, fun a u e => ?_, fun a u e n => ?_, fun p hp => ?_, ?_⟩
  · have := mine a u e n
    exact q.keep _ _ (S.keep a u e n) (by simp [this.1, this.2])
  · obtain ⟨u', e'⟩ := S.live a u e
    exact q.live _ _ e'
  · obtain ⟨u', e'⟩ := S.live a u e
    exact q.new _ _ e' (S.new a u e n)
  · obtain ⟨i, hi⟩ := List.mem_iff_getElem?.mp hp
    by_cases e : j = i
    · subst e
      have hj : j < O.length := (List.getElem?_eq_some_iff.mp h).1
      rw [List.getElem?_set_self hj] at hi
      cases hi
      exact ⟨q.new _ _ h4 h1, h2, h3, vs, hl, hz, r⟩
    · rw [List.getElem?_set_ne e] at hi
      obtain ⟨g1, g2, g3, vs', g4, g5, g6⟩ := S.get hi
      have ne : p.a ≠ l := fun z => e (nodup_at S.nd (x := l) (by rw [List.getElem?_map, h]; rfl) (by rw [List.getElem?_map, hi]; simp [z]))
      by_cases em : k = i
      · subst em
        rw [h'] at hi
        have hi := Option.some.inj hi
        subst hi
        exact ⟨q.new _ _ k4 k1, g2, g3, ws, hm, hz', r'⟩
      · have ne2 : p.a ≠ m := fun z => em (nodup_at S.nd (x := m) (by rw [List.getElem?_map, h']; rfl) (by rw [List.getElem?_map, hi]; simp [z]))
        exact ⟨q.new _ _ g4 g1, g2, g3, vs', q.keep _ _ g4 (by simp [ne, ne2]), g5, g6.up q.ff⟩
  · have e : (O.set j ⟨l, nw, ds'⟩).map OE.a = O.map OE.a := by
      rw [List.map_set]
      apply List.ext_getElem?
      intro i
      by_cases e : j = i
      · subst e
        have hj : j < O.length := (List.getElem?_eq_some_iff.mp h).1
        rw [List.getElem?_set_self (by simpa using hj), List.getElem?_map, h]; rfl
      · rw [List.getElem?_set_ne e]
    rw [e]
    exact S.nd
def SpQ (K : Fg) (R : List Sl → Addr → Addr → List PyData → List PyData → PyData → List PyData → Prop) : Sp := fun vs H Q _ => ∃ F as p q xs ys c e d c', (AsR K F vs as ∧ Same F H) ∧ (F p = none ∧ H p = some (.lst xs) ∧ xs.length ≤ sizeLine ∧ RpAll K F xs c) ∧ (F q = none ∧ H q = some (.lst ys) ∧ ys.length ≤ sizeLine ∧ RpAll K F ys e) ∧ p ≠ q ∧ R as p q c e d c' ∧
  ∀ v F' H' xs' ys', Stp [p, q] F H F' H' → (F' p = none ∧ H' p = some (.lst xs') ∧ xs'.length ≤ sizeLine ∧ RpAll K F' xs' c') → (F' q = none ∧ H' q = some (.lst ys') ∧ ys'.length ≤ sizeLine ∧ RpAll K F' ys' e) → Rp K F' v d → Q v H'
theorem sq_len {R : List Sl → Addr → Addr → List PyData → List PyData → PyData → List PyData → Prop} {n : Nat} (h : ∀ as p q c e d c', R as p q c e d c' → as.length = n) : ∀ vs H Q E, SpQ K R vs H Q E → vs.length = n := fun vs H Q E ⟨F, as, p, q, xs, ys, c, e, d, c', ⟨r, _⟩, _, _, _, hR, _⟩ => r.length.trans (h _ _ _ _ _ _ _ hR)
variable {t : TA} {E0 : XK} {O1 : Os}
theorem rx_callq {R : List Sl → Addr → Addr → List PyData → List PyData → PyData → List PyData → Prop} {as : List Sl} {p q : Addr} {nw nw' : Bool} {j k : Nat} {c e c' : List PyData} {d : PyData} (ha : RA K t ρ O as O1) (hj : O1[j]? = some ⟨p, nw, c⟩) (hk : O1[k]? = some ⟨q, nw', e⟩) (hjk : j ≠ k) (hR : R as p q c e d c') :
    RX K (tCall (SpQ K R) [] E0 t) ρ O d (O1.set j ⟨p, nw, c'⟩) := ⟨fun _ _ _ _ _ _ Q E S kk => ha.go E S fun vs F1 H1 f1 E1 S1 r1 => by
  show SpQ K R (vs ++ []) H1 _ E0
  rw [List.append_nil]
  obtain ⟨g1, g2, g3, xs, g4, g5, g6⟩ := S1.get hj
  obtain ⟨k1, k2, k3, ys, k4, k5, k6⟩ := S1.get hk
  have ne : p ≠ q := fun z => hjk (nodup_at S1.nd (x := p) (by rw [List.getElem?_map, hj]; rfl) (by rw [List.getElem?_map, hk, z]; rfl))
  exact ⟨F1, as, p, q, xs, ys, c, e, d, c', ⟨r1, S1.fh⟩, ⟨g1, g4, g5, g6⟩, ⟨k1, k4, k5, k6⟩, ne, hR, fun v F' H' xs' ys' st hp hq r => kk v F' H' (f1.trans st.ff) (S1.call2 hj hk st hp.2.1 hp.2.2.1 hp.2.2.2 hq.2.1 hq.2.2.1 hq.2.2.2) r⟩⟩
end
end TL

namespace TL
open PySem L2
open Enc
/-! ### None in a list of numbers and Nones -/
def oV : Option Int → V
  | none => .non
  | some i => .int i
theorem RpAll.opts {K : Fg} {F : Hp} : ∀ {vs : List V} {ns : List (Option Int)}, RpAll K F vs (ns.map enc) → vs = ns.map oV
  | _, [], h => by cases h; rfl
  | _, none :: ns, h => by
    cases h with
    | cons r t => cases r; rw [RpAll.opts t]; rfl
  | _, some i :: ns, h => by
    cases h with
    | cons r t => cases r; rw [RpAll.opts t]; rfl
theorem inV_opts (xs : List (Option Int)) : inV .non (xs.map oV) = decide (none ∈ xs) := by
  induction xs with
  | nil => rfl
  | cons a xs ih =>
    show (eqV (oV a) .non || inV .non (xs.map oV)) = _
    rw [ih]
    cases a with
    | none => simp [oV, eqV]
    | some i => simp [oV, eqV]
theorem flat_opts (xs : List (Option Int)) : (xs.map oV).all flatV = true := by
  rw [List.all_eq_true]
  intro v hv
  obtain ⟨o, _, rfl⟩ := List.mem_map.mp hv
  cases o <;> rfl
section
variable {K : Fg} {ta tb : TE} {ρ : List Sl} {O O1 O2 : Os}
theorem rx_inN {xs : List (Option Int)} {neg : Bool} (ha : RX K ta ρ O .none O1) (hb : RXs K tb ρ O1 (xs.map enc) O2) : RX K (tOp (rIn K neg) ta tb) ρ O (.bool (if neg then !decide (none ∈ xs) else decide (none ∈ xs))) O2 := ⟨fun _ _ _ _ _ _ Q E S k =>
  ha.go E S fun v F1 H1 f1 E1 S1 r1 => hb.go E1 S1 fun a F2 H2 f2 E2 S2 r2 => by
    cases r1
    obtain ⟨vs, q1, q2, q3⟩ := r2 F2 H2 (Same.refl _) S2
    have e := q3.opts
    subst e
    refine ⟨a, _, rfl, .inl q1, rfl, flat_opts xs, ?_⟩
    rw [inV_opts]
    exact k _ F2 H2 (f1.trans f2) S2 (.bl _)⟩
end
end TL

namespace TL
open PySem L2
open Enc
/-! ### likeness, None too -/
mutual
inductive SiN : Nat → PyData → PyData → Bool → Prop
  | int {n : Nat} (i j : Int) : SiN n (.int i) (.int j) (decide (i = j))
  | bool {n : Nat} (i j : Bool) : SiN n (.bool i) (.bool j) (decide (i = j))
  | str {n : Nat} (i j : Str) : SiN n (.str i) (.str j) (decide (i = j))
  | non {n : Nat} : SiN n .none .none true
  | ni {n : Nat} (j : Int) : SiN n .none (.int j) false
  | iN {n : Nat} (i : Int) : SiN n (.int i) .none false
  | list {n : Nat} {xs ys : List PyData} {b : Bool} (h : SiNAll n xs ys b) : SiN (n + 1) (.list xs) (.list ys) (decide (xs.length = ys.length) && b)
  | tuple {n : Nat} {xs ys : List PyData} {b : Bool} (h : SiNAll n xs ys b) : SiN (n + 1) (.tuple xs) (.tuple ys) (decide (xs.length = ys.length) && b)
inductive SiNAll : Nat → List PyData → List PyData → Bool → Prop
  | nil {n : Nat} (ys : List PyData) : SiNAll n [] ys true
  | nil' {n : Nat} (xs : List PyData) : SiNAll n xs [] true
  | cons {n : Nat} {x y : PyData} {xs ys : List PyData} {b c : Bool} (h : SiN n x y b) (t : SiNAll n xs ys c) : SiNAll n (x :: xs) (y :: ys) (b && c)
end
mutual
theorem SiN.mono {n m : Nat} {x y : PyData} {b : Bool} (h : SiN n x y b) (e : n ≤ m) : SiN m x y b := by
  cases h with
  | int i j => exact .int i j
  | bool i j => exact .bool i j
  | str i j => exact .str i j
  | non => exact .non
  | ni j => exact .ni j
  | iN i => exact .iN i
  | list h =>
    cases m with
    | zero => omega
    | succ m => exact .list (SiNAll.mono h (by omega))
  | tuple h =>
    cases m with
    | zero => omega
    | succ m => exact .tuple (SiNAll.mono h (by omega))
theorem SiNAll.mono {n m : Nat} {xs ys : List PyData} {b : Bool} (h : SiNAll n xs ys b) (e : n ≤ m) : SiNAll m xs ys b := by
  cases h with
  | nil ys => exact .nil ys
  | nil' xs => exact .nil' xs
  | cons h t => exact .cons (SiN.mono h e) (SiNAll.mono t e)
end
class SiNT (α : Type) [Enc α] [DecidableEq α] where
  dp : Nat
  ok : ∀ x y : α, SiN dp (enc x) (enc y) (decide (x = y))
instance : SiNT Int := ⟨0, fun x y => .int x y⟩
instance : SiNT Bool := ⟨0, fun x y => .bool x y⟩
instance : SiNT Str := ⟨0, fun x y => .str x y⟩
instance : SiNT (Option Int) := ⟨0, fun x y => by
  cases x <;> cases y
  · exact .non
  · exact .ni _
  · exact .iN _
  · rename_i i j
    have e : decide (some i = some j) = decide (i = j) := by simp
    rw [e]
    exact .int i j⟩
theorem siNAll_map {α : Type} [Enc α] [DecidableEq α] [s : SiNT α] : ∀ xs ys : List α, ∃ b, SiNAll (SiNT.dp α) (xs.map enc) (ys.map enc) b ∧ (decide (xs.length = ys.length) && b) = decide (xs = ys)
  | [], ys => ⟨true, .nil _, by cases ys <;> simp⟩
  | x :: xs, [] => ⟨true, .nil' _, by simp⟩
  | x :: xs, y :: ys => by
    obtain ⟨b, h, e⟩ := siNAll_map xs ys
    refine ⟨_, .cons (SiNT.ok x y) h, ?_⟩
    have e1 : decide (x :: xs = y :: ys) = (decide (x = y) && decide (xs = ys)) := by simp
    rw [e1, ← e]
    have e2 : decide ((x :: xs).length = (y :: ys).length) = decide (xs.length = ys.length) := by simp
    rw [e2]
    cases decide (x = y) <;> cases decide (xs.length = ys.length) <;> cases b <;> rfl
instance {α : Type} [Enc α] [DecidableEq α] [SiNT α] : SiNT (List α) := ⟨SiNT.dp α + 1, fun xs ys => by
  obtain ⟨b, h, e⟩ := siNAll_map xs ys
  have := SiN.list h
  rw [List.length_map, List.length_map, e] at this
  exact this⟩
instance {α : Type} [Enc α] [DecidableEq α] [SiNT α] : SiNT (Tp α) := ⟨SiNT.dp α + 1, fun xs ys => by
  obtain ⟨xs⟩ := xs
  obtain ⟨ys⟩ := ys
  obtain ⟨b, h, e⟩ := siNAll_map xs ys
  have := SiN.tuple h
  rw [List.length_map, List.length_map, e] at this
  have e2 : decide (Tp.mk xs = Tp.mk ys) = decide (xs = ys) := by simp
  rw [e2]
  exact this⟩
instance {α β : Type} [Enc α] [DecidableEq α] [SiNT α] [Enc β] [DecidableEq β] [SiNT β] : SiNT (α × β) := ⟨SiNT.dp α + SiNT.dp β + 1, fun x y => by
  obtain ⟨a, b⟩ := x
  obtain ⟨c, d⟩ := y
  have := SiN.tuple (.cons ((SiNT.ok a c).mono (Nat.le_add_right _ _)) (.cons ((SiNT.ok b d).mono (Nat.le_add_left _ _)) (.nil [])))
  have e2 : decide ((a, b) = (c, d)) = (decide ([enc a, enc b].length = [enc c, enc d].length) && (decide (a = c) && (decide (b = d) && true))) := by simp [Bool.decide_and]
  rw [e2]
  exact this⟩
instance {α β γ : Type} [Enc α] [DecidableEq α] [SiNT α] [Enc β] [DecidableEq β] [SiNT β] [Enc γ] [DecidableEq γ] [SiNT γ] : SiNT (T3 α β γ) := ⟨SiNT.dp α + SiNT.dp β + SiNT.dp γ + 1, fun x y => by
  obtain ⟨a, b, c⟩ := x
  obtain ⟨a', b', c'⟩ := y
  have := SiN.tuple (.cons ((SiNT.ok a a').mono (by omega : SiNT.dp α ≤ SiNT.dp α + SiNT.dp β + SiNT.dp γ)) (.cons ((SiNT.ok b b').mono (by omega)) (.cons ((SiNT.ok c c').mono (by omega)) (.nil []))))
  have e2 : decide (T3.mk a b c = T3.mk a' b' c') = (decide ([enc a, enc b, enc c].length = [enc a', enc b', enc c'].length) && (decide (a = a') && (decide (b = b') && (decide (c = c') && true)))) := by simp [Bool.decide_and]
  rw [e2]
  exact this⟩
instance {α β γ δ : Type} [Enc α] [DecidableEq α] [SiNT α] [Enc β] [DecidableEq β] [SiNT β] [Enc γ] [DecidableEq γ] [SiNT γ] [Enc δ] [DecidableEq δ] [SiNT δ] : SiNT (T4 α β γ δ) := ⟨SiNT.dp α + SiNT.dp β + SiNT.dp γ + SiNT.dp δ + 1, fun x y => by
  obtain ⟨a, b, c, d⟩ := x
  obtain ⟨a', b', c', d'⟩ := y
  have := SiN.tuple (.cons ((SiNT.ok a a').mono (by omega : SiNT.dp α ≤ SiNT.dp α + SiNT.dp β + SiNT.dp γ + SiNT.dp δ)) (.cons ((SiNT.ok b b').mono (by omega)) (.cons ((SiNT.ok c c').mono (by omega)) (.cons ((SiNT.ok d d').mono (by omega)) (.nil [])))))
  have e2 : decide (T4.mk a b c d = T4.mk a' b' c' d') = (decide ([enc a, enc b, enc c, enc d].length = [enc a', enc b', enc c', enc d'].length) && (decide (a = a') && (decide (b = b') && (decide (c = c') && (decide (d = d') && true))))) := by simp [Bool.decide_and]
  rw [e2]
  exact this⟩
def SiNR (n : Nat) : List PyData → PyData → Prop := fun ds d => ∃ x y b, ds = [x, y] ∧ SiN n x y b ∧ d = .bool b
theorem SiNAll.all {n : Nat} {xs ys : List PyData} {b : Bool} (h : SiNAll n xs ys b) : ∃ zs : List (PyData × PyData × Bool), zs.map (fun t => PyData.tuple [t.1, t.2.1]) = zipD xs ys ∧ (∀ t ∈ zs, SiN n t.1 t.2.1 t.2.2) ∧ (zs.map (·.2.2)).all id = b := by
  induction xs generalizing ys b with
  | nil => cases h; exact ⟨[], rfl, fun t e => by simp at e, rfl⟩; exact ⟨[], rfl, fun t e => by simp at e, rfl⟩
  | cons x xs ih =>
    cases h with
    | nil' => exact ⟨[], rfl, fun t e => by simp at e, rfl⟩
    | @cons _ _ y _ ys b c h t =>
      obtain ⟨zs, h1, h2, h3⟩ := ih t
      refine ⟨(x, y, b) :: zs, ?_, fun t ht => ?_, by rw [List.map_cons, List.all_cons, h3]; rfl⟩
      · rw [List.map_cons, h1]; rfl
      · rcases List.mem_cons.mp ht with e | ht
        · subst e; exact h
        · exact h2 t ht
/-! ### what is told as one of two tuples -/
inductive Ans where
  | a1 (s : Str)
  | a3 (s : Str) (t : Tp Int) (n : Option Int)
  deriving DecidableEq
def Ans.en : Ans → PyData
  | .a1 s => .tuple [.str s]
  | .a3 s t n => .tuple [.str s, enc t, enc n]
@[reducible] instance : Enc Ans := ⟨Ans.en⟩
instance : SiNT Ans := ⟨SiNT.dp (Tp Int) + SiNT.dp (Tp Int) + 1, fun x y => by
  cases x <;> cases y
  · rename_i s s'
    have := SiN.tuple (n := SiNT.dp (Tp Int) + SiNT.dp (Tp Int)) (.cons (.str s s') (.nil []))
    have e : decide (Ans.a1 s = Ans.a1 s') = (decide ([PyData.str s].length = [PyData.str s'].length) && (decide (s = s') && true)) := by simp
    rw [e]; exact this
  · exact SiN.tuple (n := SiNT.dp (Tp Int) + SiNT.dp (Tp Int)) (xs := [_]) (ys := [_, _, _]) (.cons (.str _ _) (.nil _))
  · exact SiN.tuple (n := SiNT.dp (Tp Int) + SiNT.dp (Tp Int)) (xs := [_, _, _]) (ys := [_]) (.cons (.str _ _) (.nil' _))
  · rename_i s t n s' t' n'
    have := SiN.tuple (n := SiNT.dp (Tp Int) + SiNT.dp (Tp Int)) (.cons (.str s s') (.cons ((SiNT.ok t t').mono (by omega)) (.cons ((SiNT.ok n n').mono (Nat.zero_le _)) (.nil []))))
    have e : decide (Ans.a3 s t n = Ans.a3 s' t' n') = (decide ([PyData.str s, enc t, enc n].length = [PyData.str s', enc t', enc n'].length) && (decide (s = s') && (decide (t = t') && (decide (n = n') && true)))) := by simp [Bool.decide_and]
    rw [e]; exact this⟩
def Ans.ok : Ans → Bool
  | .a1 s => EqD.ok s
  | .a3 s _ _ => EqD.ok s
instance : EqD Ans := ⟨Ans.ok, fun x y => by
  cases x <;> cases y
  · rename_i s s'
    have := EqD.eqv (Tp.mk [s]) (Tp.mk [s'])
    have e : decide (Ans.a1 s = Ans.a1 s') = decide (Tp.mk [s] = Tp.mk [s']) := by simp
    rw [e]; exact this
  · simp [enc, Ans.en, PyData.eqv, PyData.eqvAll]
  · simp [enc, Ans.en, PyData.eqv, PyData.eqvAll]
  · rename_i s t n s' t' n'
    have := EqD.eqv (T3.mk s t n) (T3.mk s' t' n')
    have e : decide (Ans.a3 s t n = Ans.a3 s' t' n') = decide (T3.mk s t n = T3.mk s' t' n') := by simp
    rw [e]; exact this, EqD.dp (Tp Str) + EqD.dp (T3 Str (Tp Int) (Option Int)), fun x => by
  cases x with
  | a1 s => exact Nat.le_trans (EqD.dep (Tp.mk [s])) (Nat.le_add_right _ _)
  | a3 s t n => exact Nat.le_trans (EqD.dep (T3.mk s t n)) (Nat.le_add_left _ _), fun x h => by
  cases x with
  | a1 s => exact EqD.lay (Tp.mk [s]) (by have h : EqD.ok s = true := h; show ([s].all EqD.ok) = true; simp [h])
  | a3 s t n => exact EqD.lay (T3.mk s t n) (by have h : EqD.ok s = true := h; show (EqD.ok s && (EqD.ok t && EqD.ok n)) = true; rw [h, EqT.ok t, EqT.ok n]; rfl)⟩
end TL

namespace TL
open PySem PySem.Spec PyProof.Rows L2
open Enc
/-! ### zip of a list with a list or a tuple -/
/-- two lists, as they stand at each turn -/
def ItLL (K : Fg) (a b : Addr) : It :=
  ⟨fun i H => ∃ (xs ys : List V) (x y : V), (SqL K H a xs ∧ SqL K H b ys) ∧ xs[i]? = some x ∧ ys[i]? = some y,
    fun i H v H' => ∃ T x y, (v = .ref T ∧ H T = none ∧ H' = upd H T (.tup [x, y])) ∧ (∀ xs, SqL K H a xs → xs[i]? = some x) ∧ ∀ ys, SqL K H b ys → ys[i]? = some y,
    fun i H => ∃ xs ys : List V, (SqL K H a xs ∧ SqL K H b ys) ∧ i ≤ xs.length ∧ i ≤ ys.length ∧ (xs.length = i ∨ ys.length = i)⟩
def llSt (z TI TO i1 i2 a b : Addr) (i : Nat) (h : Heap) : Prop := (IsZip h z TI TO .none ∧ IsPair h TI (.ref i1) (.ref i2)) ∧ (∃ x y, IsPair h TO x y) ∧ h.IsListIter i1 a i ∧ h.IsListIter i2 b i
theorem turn_ll {P : Program} {w : World} {K : Fg} {elts : List Expr} {kk : Nat} {tpos : Pos} {a b z TI TO i1 i2 : Addr} (D : ZipApart z TI TO i1 i2 a b) :
    Turn P w K (.Tuple elts kk tpos) (ItLL K a b) [z, TI, TO, i1, i2] z (llSt z TI TO i1 i2 a b) := by
  have sep := sep_mix D
  refine ⟨by simp, fun i h st c hc => ?_, fun i h h' st k => ?_, ?_, ?_, fun A i s Q E st q => wpAny_pyIter_zip st.1.1 q⟩
  · obtain ⟨⟨q1, q2⟩, ⟨x, y, q3⟩, ⟨o1, e1, _, d1⟩, o2, e2, _, d2⟩ := st
    rcases five hc with rfl | rfl | rfl | rfl | rfl
    · exact ⟨_, q1, fun v => nofun⟩
    · exact ⟨_, q2, fun v => nofun⟩
    · exact ⟨_, q3, fun v => nofun⟩
    · exact ⟨_, e1, fun v e => nomatch d1.symm.trans e⟩
    · exact ⟨_, e2, fun v e => nomatch d2.symm.trans e⟩
  · obtain ⟨⟨q1, q2⟩, ⟨x, y, q3⟩, q4, q5⟩ := st
    exact ⟨⟨k z (by simp) _ q1, k TI (by simp) _ q2⟩, ⟨x, y, k TO (by simp) _ q3⟩, q4.at fun o => k i1 (by simp) o, q5.at fun o => k i2 (by simp) o⟩
  · rintro X rfl rfl rfl hc i pins s σ H E I hf st ⟨xs, ys, x, y, ⟨hqx, hqy⟩, hx, hy⟩
    obtain ⟨⟨q1, q2⟩, ⟨x0, y0, q3⟩, q4, q5⟩ := st
    obtain ⟨its, rv, p, _⟩ := I.list hqx
    obtain ⟨its2, rv2, p2, _⟩ := I.list hqy
    obtain ⟨u, hu, ru⟩ := rv.get hx
    obtain ⟨u2, hu2, ru2⟩ := rv2.get hy
    have zlt : z < s.heap.objs.size := Heap.lt_size q1
    have hh : X.A.in1.handled = none := I.ok.hd hc
    refine wpAny_pyNext_zipD2_item sep (Draws.list hh i1 a D.l1i1 its.toArray) (Draws.list hh i2 b D.l2i2 its2.toArray) q1 q2 q3 ⟨q4, p.isList⟩ ⟨q5, p2.isList⟩ (by simpa using (List.getElem?_eq_some_iff.mp hu).1) (by simpa using (List.getElem?_eq_some_iff.mp hu2).1) fun x1 x2 h' tk e1 e2 z' TO' n1 n2 hT hsz hk => ?_
    have ex1 : x1 = u := Option.some.inj (e1.symm.trans (by simpa using hu))
    have ex2 : x2 = u2 := Option.some.inj (e2.symm.trans (by simpa using hu2))
    subst ex1
    subst ex2
    refine ⟨_, rfl, wpAny_letOwnedTupleGo_zip (s := { s with heap := h', toks := tk }) z' fun h2 z2 sb => ?_⟩
    have hT2 : h2.get? s.heap.objs.size = some { cls := .type "tuple", data := .seq #[x1, x2] } := (sb.2 _ (Nat.ne_of_gt zlt)).trans hT
    have new : ObjOk X.prog X.w (upd H s.heap.objs.size (.tup [x, y])) h2 s.heap.objs.size (.tup [x, y]) := ⟨by show 2 ≤ sizeLine; decide, [x1, x2], .cons ru (.cons ru2 .nil), ⟨_, hT2, rfl, _, rfl⟩⟩
    have I1 : Inv X pins σ (upd H s.heap.objs.size (.tup [x, y])) { s with heap := h2, toks := tk } := I.turnedNew (t' := tk) (ch := [z, TI, TO, i1, i2]) (fun c o hb q => by
      obtain ⟨c1, c2, c3, c4⟩ := out5 hb
      exact (sb.2 c c1).trans (hk c o c1 c2 c3 c4 q)) hf (Nat.le_refl _) new
    refine ⟨.ref s.heap.objs.size, _, I1, rfl, ⟨_, x, y, ⟨rfl, I.hok.fresh (Nat.le_refl _), rfl⟩, fun l hl => by rw [I.list_inj hl hqx]; exact hx, fun l hl => by rw [I.list_inj hl hqy]; exact hy⟩, ⟨⟨z2, ?_⟩, ⟨x1, x2, ?_⟩, ?_, ?_⟩, fun c hcm => ?_⟩
    · exact (sb.2 TI D.TIz).trans (hk TI _ D.TIz D.TITO D.TIi1 D.TIi2 q2)
    · exact (sb.2 TO D.TOz).trans TO'
    · exact n1.1.at fun o q => (sb.2 i1 D.i1z).trans q
    · exact n2.1.at fun o q => (sb.2 i2 D.i2z).trans q
    · have hlt : c < s.heap.objs.size := by
        rcases five hcm with rfl | rfl | rfl | rfl | rfl
        · exact zlt
        · exact Heap.lt_size q2
        · exact Heap.lt_size q3
        · obtain ⟨_, e, _⟩ := q4; exact Heap.lt_size e
        · obtain ⟨_, e, _⟩ := q5; exact Heap.lt_size e
      rw [upd_ne (Nat.ne_of_lt hlt)]
      exact (hf c hcm).1
  · rintro X rfl rfl rfl hc i pins s σ H E I hf st ⟨xs, ys, ⟨hqx, hqy⟩, l1, l2, hend⟩
    obtain ⟨⟨q1, q2⟩, ⟨x0, y0, q3⟩, q4, q5⟩ := st
    obtain ⟨its, rv, p, _⟩ := I.list hqx
    obtain ⟨its2, rv2, p2, _⟩ := I.list hqy
    have e1 := rv.length
    have e2 := rv2.length
    have hh : X.A.in1.handled = none := I.ok.hd hc
    refine wpAny_pyNext_zipD2_end sep (Draws.list hh i1 a D.l1i1 its.toArray) (Draws.list hh i2 b D.l2i2 its2.toArray) q1 q2 q3 ⟨q4, p.isList⟩ ⟨q5, p2.isList⟩ (by simp; omega) (by simp; omega) (by simp; omega) fun h' tk hk => ?_
    refine ⟨rfl, I.turnedL (t' := tk) (ch := [z, TI, TO, i1, i2]) (fun c o hb q => ?_) hf⟩
    obtain ⟨c1, c2, c3, c4⟩ := out5 hb
    exact hk c o c1 c2 c3 c4 q
def iAny (K : Fg) (ta : TA) : TI := fun σ H R => ta σ H fun vs H1 => ∃ a b xs ys, vs = [.ref a, .ref b] ∧ (((SqL K H1 a xs ∧ SqT K H1 b ys) ∧ R (ItMix K a b) H1) ∨ ((SqL K H1 a xs ∧ SqL K H1 b ys) ∧ R (ItLL K a b) H1))
theorem k_pi_any {X : Cx} (K : Fg) {e e2 : Expr} {ta : TA} {p pos tpos : Pos} {elts : List Expr} {kk : Nat} (hg : Gl X "zip") (hm : X.mg "zip" = none) (ha : PA X [e, e2] ta)
    (hs : starEach [e, e2] X.env = (false, eval e X.env) :: starEach [e2] X.env := by rfl) (hpl : (backTo pos (starEach [e2] X.env)).any (·.1) = false := by rfl) (hK : X.K = K := by rfl) :
    PI X (.Tuple elts kk tpos) (.Call (.Name "zip" p) [e, e2] [] pos) (iAny K ta) := by
  subst hK
  refine ⟨fun pins s σ H R I h => ?_⟩
  refine Call_ (ld_blt I hg hm PyProof.Rows.boot_zip (PyProof.Rows.callWith_type1 (thn (ha.run pos pins s σ H _ I h) fun us s1 ⟨vs, H1, I1, r1, q1⟩ => ?_) hs hpl))
  obtain ⟨a, b, xs, ys, ex, q1⟩ := q1
  subst ex
  cases r1 with
  | cons r rr =>
   cases rr with
   | cons r' rr =>
    cases rr
    cases r
    cases r'
    rcases q1 with ⟨⟨hqx, hqy⟩, q⟩ | ⟨⟨hqx, hqy⟩, q⟩
    · obtain ⟨its, rv, p1, _⟩ := I1.list hqx
      obtain ⟨its2, rv2, p2, _⟩ := I1.tuple hqy
      have lt1 := p1.lt
      obtain ⟨o2, ho2, p3⟩ := id p2
      have lt2 := Heap.lt_size ho2
      refine zip_begins2 (begins_list a its.toArray) (begins_tuple b its2.toArray) p1.isList p2 fun h' hz hTI hTO g1 g2 hsz hk => wpAny_pyIter_zip hz ?_
      have I2 : Inv X pins σ H1 { s1 with heap := h' } := I1.kept (t' := s1.toks) hk
      refine ⟨s1.heap.objs.size + 4, [s1.heap.objs.size + 4, s1.heap.objs.size + 2, s1.heap.objs.size + 3, s1.heap.objs.size, s1.heap.objs.size + 1], _, _, H1, rfl, I2, turn_mix (PySem.W.ktu_apart s1.heap.objs.size a b lt1 lt2), ⟨⟨hz, hTI⟩, ⟨_, _, hTO⟩, ⟨_, g1, rfl, rfl⟩, ⟨_, g2, rfl, rfl⟩⟩, fun c hcm => ?_, q⟩
      have hle : s1.heap.objs.size ≤ c := by
        rcases five hcm with rfl | rfl | rfl | rfl | rfl
        · exact Nat.le_add_right _ _
        · exact Nat.le_add_right _ _
        · exact Nat.le_add_right _ _
        · exact Nat.le_refl _
        · exact Nat.le_add_right _ _
      exact I1.fpOk hle (I1.hok.fresh hle)
    · obtain ⟨its, rv, p1, _⟩ := I1.list hqx
      obtain ⟨its2, rv2, p2, _⟩ := I1.list hqy
      have lt1 := p1.lt
      have lt2 := p2.lt
      refine zip_begins2 (begins_list a its.toArray) (begins_list b its2.toArray) p1.isList p2.isList fun h' hz hTI hTO g1 g2 hsz hk => wpAny_pyIter_zip hz ?_
      have I2 : Inv X pins σ H1 { s1 with heap := h' } := I1.kept (t' := s1.toks) hk
      refine ⟨s1.heap.objs.size + 4, [s1.heap.objs.size + 4, s1.heap.objs.size + 2, s1.heap.objs.size + 3, s1.heap.objs.size, s1.heap.objs.size + 1], _, _, H1, rfl, I2, turn_ll (PySem.W.ktu_apart s1.heap.objs.size a b lt1 lt2), ⟨⟨hz, hTI⟩, ⟨_, _, hTO⟩, ⟨_, g1, rfl, rfl⟩, ⟨_, g2, rfl, rfl⟩⟩, fun c hcm => ?_, q⟩
      have hle : s1.heap.objs.size ≤ c := by
        rcases five hcm with rfl | rfl | rfl | rfl | rfl
        · exact Nat.le_add_right _ _
        · exact Nat.le_add_right _ _
        · exact Nat.le_add_right _ _
        · exact Nat.le_refl _
        · exact Nat.le_add_right _ _
      exact I1.fpOk hle (I1.hok.fresh hle)
section
variable {K : Fg} {ta tb : TE} {ρ : List Sl} {O O1 O2 : Os}
theorem ri_anyT {ys zs : List PyData} (h : RX K ta ρ O (.list ys) O1) (h' : RX K tb ρ O1 (.tuple zs) O2) : RI K (iAny K (tCons ta (tCons tb tNil))) ρ O (zipD ys zs) O2 := ⟨fun F0 H0 D0 σ F H R E S k => by
    refine h.go E S fun x F1 H1 f1 E1 S1 r1 => h'.go E1 S1 fun y F2 H2 f2 E2 S2 r2 => ?_
    have r1' := r1.up f2
    cases r1' with
    | @lst a xs _ q1 q2 q3 =>
     cases r2 with
     | @tup b ws _ p1 p2 p3 =>
      have s1 : ∀ {G0 J0 : Hp} {D1 : List Addr} {F : Hp} {O : Os} {H : Hp}, Same F2 F → Hx K G0 J0 D1 F O H → SqL K H a xs ∧ SqT K H b ws := fun f S => ⟨(f.trans S.fh).seq q1, same_t (f.trans S.fh) p1⟩
      refine ⟨a, b, xs, ws, rfl, .inl ⟨s1 (Same.refl _) S2, ?_⟩⟩
      have hl : (zipD ys zs).length = min xs.length ws.length := by unfold zipD; rw [List.length_map, List.length_zip, q3.length, p3.length]
      refine k _ F2 H2 (f1.trans f2) S2 ⟨by omega, fun _ _ _ F O H i hi f S => ?_, fun _ _ _ F O H f S => ⟨xs, ws, s1 f S, by omega, by omega, by omega⟩, fun _ _ _ F O H i x H' hi f S y => ?_⟩
      · have h1 : i < xs.length := by omega
        have h2 : i < ws.length := by omega
        exact ⟨xs, ws, xs[i], ws[i], s1 f S, by simp [h1], by simp [h2]⟩
      · obtain ⟨T, u, v, ⟨eu, hT, eT⟩, y1, y2⟩ := y
        subst eu
        subst eT
        obtain ⟨d, e, r⟩ := (q3.up f).getV (y1 xs (s1 f S).1)
        obtain ⟨d', e', r'⟩ := (p3.up f).getV (y2 ws (s1 f S).2)
        obtain ⟨F3, f3, S3, r3⟩ := pair_put S hT r r'
        refine ⟨F3, _, f3, S3, ?_, r3⟩
        unfold zipD
        have ez : (ys.zip zs)[i]? = some (d, d') := List.getElem?_zip_eq_some.mpr ⟨e, e'⟩
        rw [List.getElem?_map, ez]
        rfl⟩
theorem ri_anyL {ys zs : List PyData} (h : RX K ta ρ O (.list ys) O1) (h' : RX K tb ρ O1 (.list zs) O2) : RI K (iAny K (tCons ta (tCons tb tNil))) ρ O (zipD ys zs) O2 := ⟨fun F0 H0 D0 σ F H R E S k => by
    refine h.go E S fun x F1 H1 f1 E1 S1 r1 => h'.go E1 S1 fun y F2 H2 f2 E2 S2 r2 => ?_
    have r1' := r1.up f2
    cases r1' with
    | @lst a xs _ q1 q2 q3 =>
     cases r2 with
     | @lst b ws _ p1 p2 p3 =>
      have s1 : ∀ {G0 J0 : Hp} {D1 : List Addr} {F : Hp} {O : Os} {H : Hp}, Same F2 F → Hx K G0 J0 D1 F O H → SqL K H a xs ∧ SqL K H b ws := fun f S => ⟨(f.trans S.fh).seq q1, (f.trans S.fh).seq p1⟩
      refine ⟨a, b, xs, ws, rfl, .inr ⟨s1 (Same.refl _) S2, ?_⟩⟩
      have hl : (zipD ys zs).length = min xs.length ws.length := by unfold zipD; rw [List.length_map, List.length_zip, q3.length, p3.length]
      refine k _ F2 H2 (f1.trans f2) S2 ⟨by omega, fun _ _ _ F O H i hi f S => ?_, fun _ _ _ F O H f S => ⟨xs, ws, s1 f S, by omega, by omega, by omega⟩, fun _ _ _ F O H i x H' hi f S y => ?_⟩
      · have h1 : i < xs.length := by omega
        have h2 : i < ws.length := by omega
        exact ⟨xs, ws, xs[i], ws[i], s1 f S, by simp [h1], by simp [h2]⟩
      · obtain ⟨T, u, v, ⟨eu, hT, eT⟩, y1, y2⟩ := y
        subst eu
        subst eT
        obtain ⟨d, e, r⟩ := (q3.up f).getV (y1 xs (s1 f S).1)
        obtain ⟨d', e', r'⟩ := (p3.up f).getV (y2 ws (s1 f S).2)
        obtain ⟨F3, f3, S3, r3⟩ := pair_put S hT r r'
        refine ⟨F3, _, f3, S3, ?_, r3⟩
        unfold zipD
        have ez : (ys.zip zs)[i]? = some (d, d') := List.getElem?_zip_eq_some.mpr ⟨e, e'⟩
        rw [List.getElem?_map, ez]
        rfl⟩
/-! ### a list or a tuple -/
structure Sq (α : Type) where
  t : Bool
  l : List α
def Sq.en {α : Type} [Enc α] : Sq α → PyData
  | ⟨true, l⟩ => .tuple (l.map enc)
  | ⟨false, l⟩ => .list (l.map enc)
@[reducible] instance {α : Type} [Enc α] : Enc (Sq α) := ⟨Sq.en⟩
theorem ri_any {α β : Type} [Enc α] [Enc β] {xs : List α} {ys : Sq β} (h : RX K ta ρ O (.list (xs.map enc)) O1) (h' : RX K tb ρ O1 (enc ys) O2) : RI K (iAny K (tCons ta (tCons tb tNil))) ρ O ((xs.zip ys.l).map enc) O2 := by
  have e : (xs.zip ys.l).map enc = zipD (xs.map enc) (ys.l.map enc) := by
    unfold zipD
    rw [List.zip_map, List.map_map]
    rfl
  rw [e]
  obtain ⟨t, l⟩ := ys
  cases t with
  | true => exact ri_anyT h h'
  | false => exact ri_anyL h h'
theorem rx_lenQ {α : Type} [Enc α] {s : Sq α} (ha : RX K ta ρ O (enc s) O1) : RX K (tCB (rLenQ K) (tCons ta tNil)) ρ O (.int (s.l.length : Nat)) O1 := by
  obtain ⟨t, l⟩ := s
  have e : ((l.map enc).length : Nat) = l.length := List.length_map _
  cases t with
  | true => have := rx_lenT (ds := l.map enc) ha; rw [e] at this; exact this
  | false => have := rx_len (RX.s (ds := l.map enc) ha); rw [e] at this; exact this
theorem rx_ixQ {α : Type} [Enc α] {s : Sq α} {i : Int} {x : α} (h : L2.atI s.l i = some x) (ha : RX K ta ρ O (enc s) O1) (hb : RX K tb ρ O1 (.int i) O2) : RX K (tOp (rIx K) ta tb) ρ O (enc x) O2 := by
  obtain ⟨t, l⟩ := s
  cases t with
  | true => exact rx_ixAT (ds := l.map enc) (atI_map enc h) ha hb
  | false => exact rx_ixA (ds := l.map enc) (atI_map enc h) ha hb
end
end TL

namespace TL
open PySem L2
open Enc
section
variable {K : Fg} {ta tb : TE} {ρ : List Sl} {O O1 O2 : Os}
theorem rx_count {ns : List Int} {i : Int} (ha : RXs K ta ρ O (ns.map .int) O1) (hb : RX K tb ρ O1 (.int i) O1) : RX K (tBM K "list" (rCntI K) ta (tCons tb tNil)) ρ O (.int (ns.count i : Nat)) O1 := ⟨fun _ _ _ _ _ _ Q E S k =>
  ha.go E S fun a F1 H1 f1 E1 S1 r1 => by
    obtain ⟨vs1, p1, _, _⟩ := r1 F1 H1 (Same.refl _) S1
    refine ⟨.inl ⟨rfl, _, p1⟩, hb.go E1 S1 fun y F2 H2 f2 E2 S2 r2 => ?_⟩
    cases r2
    obtain ⟨vs, q1, q2, q3⟩ := r1 F2 H2 f2 S2
    exact ⟨a, ns, i, rfl, rfl, by rw [← q3.ints]; exact q1, k _ F2 H2 (f1.trans f2) S2 (.int _)⟩⟩
theorem k_lcount {X : Cx} (K : Fg) (hK : X.K = K := by rfl) : MtR X "list.count" (rCntI K) := by subst hK; exact mt_lcount
end
end TL

namespace TL
open PySem L2
open Enc
/-! ### lists of own lists -/
def lolOs {α : Type} [Enc α] (ps : List Addr) (xs : List (List α)) : Os := towOs ps (xs.map fun r => r.map enc)
section
variable {K : Fg} {F0 H0 F H F' H' : Hp} {D0 : List Addr} {O O' O1 O2 X : Os} {ρ : List Sl} {σ : L2.St} {ps : List Addr} {ess : List (List PyData)}
theorem EnvR.lol {i : Nat} (h : EnvR K F σ ρ) (e : ρ[i]? = some (.lol ps)) : ∃ t, σ[i]? = some (some (.ref t)) ∧ SqL K F t (ps.map .ref) ∧ ps.length ≤ sizeLine := by
  obtain ⟨s, h1, t, rfl, h2⟩ := h.at e
  exact ⟨t, h1, h2⟩
/-- what stands besides stays -/
theorem Hx.fr2 (S : Hx K F0 H0 D0 F O H) : ∃ H1 D1, Hx K F H1 D1 F O H ∧ (∀ a o, H a = some o → (∀ e ∈ O, e.a ≠ a) → H1 a = some o ∧ a ∉ D1) ∧ ∀ F' O' H', Hx K F H1 D1 F' O' H' → Hx K F0 H0 D0 F' O' H' := by
  let nwA (a : Addr) : Bool := O.any fun e => e.nw && decide (e.a = a)
  let H1 : Hp := fun a => if nwA a = true then none else H a
  let D1 : List Addr := (O.filter fun e => !e.nw).map OE.a
  have h1s : ∀ a o, H1 a = some o → H a = some o := fun a o e => by
    show H a = some o
    have e : (if nwA a = true then none else H a) = some o := e
    split at e
    · cases e
    · exact e
  have h1of : ∀ a o, H a = some o → (∀ e ∈ O, e.a = a → e.nw = false) → H1 a = some o := fun a o e n => by
    show (if nwA a = true then none else H a) = some o
    rw [if_neg]
    · exact e
    · intro q
      obtain ⟨x, hx, q⟩ := List.any_eq_true.mp q
      rw [Bool.and_eq_true, decide_eq_true_eq] at q
      rw [n x hx q.2] at q
      exact Bool.false_ne_true q.1
  have d1 : ∀ a, a ∈ D1 → ∃ e ∈ O, e.a = a ∧ e.nw = false := fun a h => by
    obtain ⟨e, he, rfl⟩ := List.mem_map.mp h
    rw [List.mem_filter] at he
    exact ⟨e, he.1, rfl, by simpa using he.2⟩
  have old : ∀ a o, H0 a = some o → ∀ e ∈ O, e.a = a → e.nw = false := fun a o e x hx q => by
    cases hw : x.nw with
    | false => rfl
    | true =>
      have := (S.own x hx).2.1 hw
      rw [q, e] at this
      cases this
  refine ⟨H1, D1, ⟨Same.refl _, S.fh, fun a o e _ => h1s a o e, fun a o e => ⟨o, h1s a o e⟩, fun _ _ _ e => e, fun p hp => ?_, S.nd⟩, fun a o e n => ⟨h1of a o e fun x hx q => (n x hx q).elim, fun hd => ?_⟩, fun F' O' H' S2 => ?_⟩
  · obtain ⟨g1, g2, g3, g4⟩ := S.own p hp
    refine ⟨g1, fun hw => ?_, fun hw => List.mem_map.mpr ⟨p, List.mem_filter.mpr ⟨hp, by rw [hw]; rfl⟩, rfl⟩, g4⟩
    show (if nwA p.a = true then none else H p.a) = none
    rw [if_pos]
    exact List.any_eq_true.mpr ⟨p, hp, by rw [hw]; simp⟩
  · obtain ⟨x, hx, q, _⟩ := d1 a hd
    exact n x hx q
  · refine ⟨S.f0.trans S2.f0, S2.fh, fun a o e n => ?_, fun a o e => ?_, fun a o e n => ?_, fun p hp => ?_, S2.nd⟩
    · refine S2.keep a o (h1of a o (S.keep a o e n) (old a o e)) fun hd => ?_
      obtain ⟨x, hx, q, hw⟩ := d1 a hd
      exact n (q ▸ (S.own x hx).2.2.1 hw)
    · obtain ⟨o', e'⟩ := S.live a o e
      exact S2.live a o' (h1of a o' e' (old a o e))
    · obtain ⟨o', e'⟩ := S.live a o e
      exact S2.new a o' (h1of a o' e' (old a o e)) (S.new a o e n)
    · obtain ⟨g1, g2, g3, g4⟩ := S2.own p hp
      refine ⟨g1, fun hw => ?_, fun hw => ?_, g4⟩
      · have g2 := g2 hw
        cases e : H0 p.a with
        | none => rfl
        | some o =>
          obtain ⟨o', e'⟩ := S.live p.a o e
          rw [h1of p.a o' e' (old p.a o e)] at g2
          cases g2
      · obtain ⟨x, hx, q, hw'⟩ := d1 _ (g3 hw)
        exact q ▸ (S.own x hx).2.2.1 hw'
/-- a thing besides is changed -/
theorem Hx.hold (S : Hx K F0 H0 D0 F O H) {p : Addr} {o : HO} (hF : F p = none) (h0 : H0 p = none) (hO : ∀ e ∈ O, e.a ≠ p) : Hx K F0 H0 D0 F O (upd H p o) := by
  refine ⟨S.f0, fun a u e => ?_, fun a u e n => ?_, fun a u e => ?_, S.new, fun q hq => ?_, S.nd⟩
  · rw [upd_ne (ne_of_none e hF)]
    exact S.fh _ _ e
  · rw [upd_ne (ne_of_none e h0)]
    exact S.keep a u e n
  · obtain ⟨u', e'⟩ := S.live a u e
    exact ⟨u', by rw [upd_ne (ne_of_none e h0)]; exact e'⟩
  · obtain ⟨g1, g2, g3, vs, g4, g5⟩ := S.own q hq
    exact ⟨g1, g2, g3, vs, by rw [upd_ne (hO q hq)]; exact g4, g5⟩
/-- .. is frozen -/
theorem Hx.pin (S : Hx K F0 H0 D0 F O H) {p : Addr} {o : HO} (hF : F p = none) (h0 : H0 p = none) (hO : ∀ e ∈ O, e.a ≠ p) (hp : H p = some o) : Hx K F0 H0 D0 (upd F p o) O H := by
  refine ⟨S.f0.trans (same_upd hF), fun a u e => ?_, S.keep, S.live, fun a u e n => ?_, fun q hq => ?_, S.nd⟩
  · unfold upd at e
    split at e
    · rename_i z
      subst z
      cases e
      exact hp
    · exact S.fh _ _ e
  · rw [upd_ne (ne_of_none e h0)]
    exact S.new a u e n
  · obtain ⟨g1, g2, g3, vs, g4, g5, g6⟩ := S.own q hq
    exact ⟨by rw [upd_ne (hO q hq)]; exact g1, g2, g3, vs, g4, g5, g6.up (same_upd hF)⟩
/-- [.. for x in ..], each a new list -/
theorem lol_run {α β : Type} {eα : α → PyData} {eβ : β → List PyData} {wi : TI} {g : TG} {te : TE} {vs : List Nat} {xs : List α} {ys : List β} {f : α → Option β} (ρx : α → List Sl) (ts : List Nat) (hI : RI K wi ρ O (xs.map eα) O1)
    (hf : mapO f xs = some ys) (hts : ∀ t ∈ ts, t ∈ vs) (hg : ∀ x ∈ xs, RG K g (eα x) (wipeS ρ vs) (ρx x) ts) (he : ∀ x ∈ xs, ∀ y, f x = some y → ∀ O, RXo K te (ρx x) O (eβ y) O) (E : EnvR K F σ ρ) (S : Hx K F0 H0 D0 F O H) {Q : VK}
    (k : ∀ T ps F' H', Same F F' → ps.length = ys.length → SqL K F' T (ps.map .ref) → ps.length ≤ sizeLine → Hx K F0 H0 D0 F' (O1 ++ towOs ps (ys.map eβ)) H' → Q (.ref T) H') : tLc wi g tYes te vs σ H Q := hI.go E S fun J F1 H1 f1 E1 S1 w => by
  intro D hD
  have hl : (xs.map eα).length = xs.length := List.length_map _
  have W : Walk J xs.length (fun H => ∃ F0 H0 D0 F O, Same F1 F ∧ Hx K F0 H0 D0 F O H) (fun i H x H' => ∀ F0 H0 D0 F O, Same F1 F → Hx K F0 H0 D0 F O H → ∃ F' y, Same F F' ∧ Hx K F0 H0 D0 F' O H' ∧ xs[i]? = some y ∧ Rp K F' x (eα y)) := by
    refine ⟨fun i H hi q => ?_, fun H q => ?_, fun i H x H' hi _ y F0 H0 D0 F O f S => ?_⟩
    · obtain ⟨F0, H0, D0, F, O, f, S⟩ := q
      exact w.go F0 H0 D0 F O H i (by rw [hl]; exact hi) f S
    · obtain ⟨F0, H0, D0, F, O, f, S⟩ := q
      have := w.stop F0 H0 D0 F O H f S
      rw [hl] at this
      exact this
    · obtain ⟨F', y', f', S', e, r⟩ := w.yld F0 H0 D0 F O H i x H' (by rw [hl]; exact hi) f S y
      rw [List.getElem?_map] at e
      cases e2 : xs[i]? with
      | none => rw [e2] at e; cases e
      | some z =>
        rw [e2] at e
        have e3 : eα z = y' := Option.some.inj e
        subst e3
        exact ⟨F', z, f', S', rfl, r⟩
  have hsz : xs.length ≤ sizeLine := by have := w.sz; rw [hl] at this; exact this
  have h0D := S1.noh0 hD
  refine lc_it W (fun i H => ∃ F ps acc zr, Same F1 F ∧ Hx K F0 H0 D0 F (O1 ++ towOs ps (acc.map eβ)) H ∧ H D = some (.lst (ps.map .ref)) ∧ F D = none ∧ (∀ e ∈ O1 ++ towOs ps (acc.map eβ), e.a ≠ D) ∧ mapO f (xs.drop i) = some zr ∧ acc ++ zr = ys ∧ ps.length = acc.length ∧ acc.length = i)
    ⟨F1, [], [], ys, Same.refl _, by show Hx K F0 H0 D0 F1 (O1 ++ []) _; rw [List.append_nil]; exact S1.junk hD, upd_same, S1.nof hD, fun e he q => ?_, hf, rfl, rfl, rfl⟩
    (fun i H _ q => by obtain ⟨F, ps, acc, zr, q1, q2, _⟩ := q; exact ⟨_, _, _, F, _, q1, q2⟩) (fun i x H H' hi q y => ?_) (fun H q => ?_)
  · have he : e ∈ O1 := by simpa [towOs] using he
    obtain ⟨_, _, _, vs, g4, _⟩ := S1.own e he
    rw [q, hD] at g4
    cases g4
  · obtain ⟨F, ps, acc, zr, q1, q2, q3, q4, q5, q6, q7, q8, q9⟩ := q
    obtain ⟨Ha, Da, Sf, kp, back⟩ := q2.fr2
    obtain ⟨ka, kb⟩ := kp D _ q3 q5
    obtain ⟨F2, z, f2, S2, ez, rz⟩ := y _ _ _ F _ q1 Sf
    have d2 := S2.keep D _ ka kb
    have n2 := S2.new D _ ka q4
    have S2 := back _ _ _ S2
    have hm : z ∈ xs := List.mem_of_getElem? ez
    have hi' : xs[i] = z := by
      rw [List.getElem?_eq_getElem hi] at ez
      exact Option.some.inj ez
    rw [List.drop_eq_getElem_cons hi, hi'] at q6
    obtain ⟨v, e1, q6⟩ := bindE q6
    obtain ⟨zr', e2, q6⟩ := bindE q6
    obtain rfl := Option.some.inj q6
    refine (hg z hm).run _ F2 H' x _ ((E1.wipe vs).up (q1.trans f2)) rz S2.fh fun σ' E' wq => ⟨(wq vs hts).trans (wipe_wipe σ vs), ?_⟩
    unfold tYes
    simp only [if_true]
    obtain ⟨Hb, Db, Sg, kq, bock⟩ := S2.fr2
    obtain ⟨kc, kd⟩ := kq D _ d2 q5
    refine (he z hm v e1 _).go E' Sg fun p F3 H3 f3 E3 S3 => ?_
    have d3 := S3.keep D _ kc kd
    have n3 := S3.new D _ kc n2
    have hp : p ≠ D := by
      intro e
      have := (S3.own ⟨p, true, eβ v⟩ (List.mem_cons_self ..)).2.1 rfl
      have this : Hb p = none := this
      rw [e, kc] at this
      cases this
    have S3 := bock _ _ _ S3
    have t1 : towOs (ps ++ [p]) ((acc ++ [v]).map eβ) = towOs ps (acc.map eβ) ++ [⟨p, true, eβ v⟩] := by
      unfold towOs
      rw [List.map_append, List.zipWith_append (by rw [List.length_map]; exact q8)]
      rfl
    have S3 := S3.perm (List.perm_append_singleton (⟨p, true, eβ v⟩ : OE) _).symm
    rw [List.append_assoc, ← t1] at S3
    have hO : ∀ e ∈ O1 ++ towOs (ps ++ [p]) ((acc ++ [v]).map eβ), e.a ≠ D := fun e he => by
      rw [t1, ← List.append_assoc] at he
      rcases List.mem_append.mp he with he | he
      · exact q5 e he
      · rw [List.mem_singleton] at he
        subst he
        exact hp
    refine ⟨_, d3, by rw [List.length_map]; omega, F3, ps ++ [p], acc ++ [v], zr', (q1.trans f2).trans f3, S3.hold n3 h0D hO, ?_, n3, hO, e2, by rw [← q7]; simp, by simp [q8], by simp [q9]⟩
    rw [upd_same, List.map_append]
    rfl
  · obtain ⟨F, ps, acc, zr, q1, q2, q3, q4, q5, q6, q7, q8, q9⟩ := q
    rw [List.drop_length] at q6
    have q6 : (some [] : Option (List β)) = some zr := q6
    obtain rfl := Option.some.inj q6
    rw [List.append_nil] at q7
    subst q7
    exact k D ps _ H ((f1.trans q1).trans (same_upd q4)) q8 (SqL.of upd_same) (by omega) (q2.pin q4 h0D q5 q3)
variable {D : Ends}
theorem st_setL {α β : Type} {eα : α → PyData} [Enc β] {wi : TI} {g : TG} {te : TE} {vs : List Nat} {xs : List α} {ys : List (List β)} {f : α → Option (List β)} {i : Nat} (ρx : α → List Sl) (ts : List Nat) (hI : RI K wi ρ O (xs.map eα) O1)
    (hf : mapO f xs = some ys) (hts : ∀ t ∈ ts, t ∈ vs) (hg : ∀ x ∈ xs, RG K g (eα x) (wipeS ρ vs) (ρx x) ts) (he : ∀ x ∈ xs, ∀ y, f x = some y → ∀ O, RXo K te (ρx x) O (y.map enc) O) (E : EnvR K F σ ρ) (S : Hx K F0 H0 D0 F O H)
    (k : ∀ ps σ' F' H', ps.length = ys.length → Same F F' → EnvR K F' σ' (ρ.set i (.lol ps)) → Hx K F0 H0 D0 F' (O1 ++ lolOs ps ys) H' → D.nx σ' H') : tAsg (tLc wi g tYes te vs) (gName i) D σ H :=
  lol_run (eβ := fun y : List β => y.map enc) ρx ts hI hf hts hg he E S fun T ps F' H' f hl q hz S' => k ps _ F' H' hl f (EnvR.set (s := some (.ref T)) (r := .lol ps) ⟨T, rfl, q, hz⟩ i (E.up f)) S'
/-- what a def promises that hands back a list of new lists -/
def SpL (K : Fg) (R : List PyData → List (List PyData) → Prop) : Sp := fun vs H Q _ => ∃ F ds ess, RpAll K F vs ds ∧ Same F H ∧ R ds ess ∧
  ∀ (T : Addr) (ps : List Addr) (F' H' : Hp), Stp [] F H F' H' → SqL K F' T (ps.map .ref) → ps.length ≤ sizeLine → ps.length = ess.length → ps.Nodup → (∀ (i : Nat) p es, ps[i]? = some p → ess[i]? = some es → H p = none ∧ F' p = none ∧ ∃ xs, H' p = some (.lst xs) ∧ xs.length ≤ sizeLine ∧ RpAll K F' xs es) → Q (.ref T) H'
theorem lst_len {R : List PyData → List (List PyData) → Prop} {n : Nat} (h : ∀ ds d, R ds d → ds.length = n) : ∀ vs H Q E, SpL K R vs H Q E → vs.length = n := fun vs H Q E ⟨F, ds, d, r, _, hR, _⟩ => r.length.trans (h ds d hR)
theorem st_retL {α β : Type} {eα : α → PyData} {eβ : β → List PyData} {wi : TI} {g : TG} {te : TE} {vs : List Nat} {xs : List α} {ys : List β} {f : α → Option β} (ρx : α → List Sl) (ts : List Nat) (hI : RI K wi ρ O (xs.map eα) O1)
    (hf : mapO f xs = some ys) (hts : ∀ t ∈ ts, t ∈ vs) (hg : ∀ x ∈ xs, RG K g (eα x) (wipeS ρ vs) (ρx x) ts) (he : ∀ x ∈ xs, ∀ y, f x = some y → ∀ O, RXo K te (ρx x) O (eβ y) O) (E : EnvR K F σ ρ) (S : Hx K F0 H0 D0 F O H)
    (k : ∀ T ps F' H', Same F F' → ps.length = (ys.map eβ).length → SqL K F' T (ps.map .ref) → ps.length ≤ sizeLine → Hx K F0 H0 D0 F' (towOs ps (ys.map eβ) ++ O1) H' → D.rt (.ref T) H') : tRet (tLc wi g tYes te vs) D σ H :=
  lol_run ρx ts hI hf hts hg he E S fun T ps F' H' f hl q hz S' => k T ps F' H' f (by rw [List.length_map]; exact hl) q hz (S'.perm List.perm_append_comm)
variable {t : TA} {R : List PyData → List (List PyData) → Prop} {ds : List PyData} {E0 : XK}
theorem st_setCL {β : Type} [Enc β] {ys : List (List β)} {i : Nat} (hR : R ds (ys.map fun y => y.map enc)) (ha : RA K t ρ O (ds.map .val) O1) (E : EnvR K F σ ρ) (S : Hx K F0 H0 D0 F O H)
    (k : ∀ (ps : List Addr) (σ' : L2.St) (F' H' : Hp), ps.length = ys.length → Same F F' → EnvR K F' σ' (ρ.set i (.lol ps)) → Hx K F0 H0 D0 F' (O1 ++ lolOs ps ys) H' → D.nx σ' H') : tAsg (tCall (SpL K R) [] E0 t) (gName i) D σ H :=
  ha.go E S fun vs F1 H1 f1 E1 S1 r1 => by
    show SpL K R (vs ++ []) H1 _ E0
    rw [List.append_nil]
    exact ⟨F1, ds, _, r1.all, S1.fh, hR, fun T ps F' H' st q hz hl nd h => k ps _ F' H' (by rw [hl, List.length_map]) (f1.trans st.ff) (EnvR.set (s := some (.ref T)) (r := .lol ps) ⟨T, rfl, q, hz⟩ i (E1.up st.ff)) ((S1.inT st hl nd h).perm List.perm_append_comm)⟩
theorem SpL.toP {R' : List PyData → PyData → Prop} (hi : ∀ ds d, R' ds d → ∃ ess, R ds ess ∧ d = .list (ess.map .list)) : ∀ vs H Q E, SpP K R' vs H Q E → SpL K R vs H Q E := fun vs H Q E ⟨F, ds, d, r, fh, hR, k⟩ => by
  obtain ⟨ess, hR2, rfl⟩ := hi ds d hR
  refine ⟨F, ds, ess, r, fh, hR2, fun T ps F' H' st q hz hl nd h => ?_⟩
  have S := (Hx.start (K := K) fh).inT st hl nd h
  obtain ⟨F2, f2, S2, r2⟩ := S.frzT hl
  exact k _ F2 H' S2.stp (.lst (f2.seq q) (by rw [List.length_map]; exact hz) r2)
/-! ### how such a list is read, changed -/
theorem tow_all (hl : ps.length = ess.length) (h : ∀ (i : Nat) p es, ps[i]? = some p → ess[i]? = some es → ∃ j : Nat, O[j]? = some ⟨p, true, es⟩) : Tow O ps ess := by
  induction ps generalizing ess with
  | nil =>
    cases ess with
    | nil => exact .nil
    | cons e ess => cases hl
  | cons p ps ih =>
    cases ess with
    | nil => cases hl
    | cons e ess =>
      obtain ⟨j, hj⟩ := h 0 p e rfl rfl
      exact .cons j hj (ih (by simpa using hl) fun i q es h1 h2 => h (i + 1) q es (by simpa using h1) (by simpa using h2))
theorem tow_end (hl : ps.length = ess.length) : Tow (X ++ towOs ps ess) ps ess := tow_all hl fun i p es h1 h2 => ⟨X.length + i, by rw [List.getElem?_append_right (by omega), Nat.add_sub_cancel_left]; exact tow_get h1 h2⟩
theorem enc_lol {β : Type} [Enc β] (xs : List (List β)) : (enc xs : PyData) = .list ((xs.map fun r => r.map enc).map .list) := by
  show PyData.list (xs.map enc) = _
  rw [List.map_map]; rfl
theorem rxh_lol {β : Type} [Enc β] {xs : List (List β)} {i : Nat} (hs : ρ[i]? = some (.lol ps)) (hl : ps.length = xs.length) : RXh K (tVar i) ρ (X ++ lolOs ps xs) (enc xs) (X ++ lolOs ps xs) := ⟨fun _ _ _ _ _ _ Q E S k => by
  obtain ⟨T, h1, h2, h3⟩ := E.lol hs
  refine ⟨_, h1, k _ _ _ (Same.refl _) S fun F2 H2 f2 S2 => ?_⟩
  rw [enc_lol]
  exact .lst ((f2.trans S2.fh).seq h2) (by rw [List.length_map]; exact h3) ((tow_end (by rw [List.length_map]; exact hl)).rp S2)⟩
/-- .. is frozen -/
theorem frz_lol {β : Type} [Enc β] {xs : List (List β)} {i : Nat} (hs : ρ[i]? = some (.lol ps)) (hl : ps.length = xs.length) (E : EnvR K F σ ρ) (S : Hx K F0 H0 D0 F (X ++ lolOs ps xs) H) :
    ∃ F', Same F F' ∧ EnvR K F' σ (ρ.set i (.val (enc xs))) ∧ Hx K F0 H0 D0 F' X H := by
  obtain ⟨T, h1, h2, h3⟩ := E.lol hs
  obtain ⟨F', f, S', r⟩ := (S.perm List.perm_append_comm).frzT (by rw [List.length_map]; exact hl)
  have E2 := EnvR.setv (E.up f) (v := .ref T) (.lst (f.seq h2) (by rw [List.length_map]; exact h3) r) i
  have e : σ.set i (some (.ref T)) = σ := by
    apply List.ext_getElem?
    intro n
    by_cases e : i = n
    · subst e
      rw [List.getElem?_set_self (List.getElem?_eq_some_iff.mp h1).1, h1]
    · rw [List.getElem?_set_ne e]
  rw [e, ← enc_lol] at E2
  exact ⟨F', f, E2, S'⟩
def lolO {α : Type} (n : Nat) (xs : List (List α)) (i : Int) (x : α) : Option (List (List α)) := if xs.length = n then (ixN xs.length i).bind fun j => (xs[j]?).bind fun r => (appO r x).bind fun r' => some (xs.set j r') else none
def lolL {α : Type} (n : Nat) (xs : List (List α)) : Option (List (List α)) := if xs.length = n then some xs else none
theorem lolL_of {α : Type} {n : Nat} {xs r : List (List α)} (h : lolL n xs = some r) : xs.length = n ∧ xs = r := by
  unfold lolL at h
  split at h
  · exact ⟨by assumption, Option.some.inj h⟩
  · cases h
/-- found[k].append(e) -/
theorem st_lolApp {β : Type} [Enc β] {xs ys : List (List β)} {x : β} {i N : Nat} {tk te : TE} {n : Int} (hl : ps.length = N) (hn : lolO N xs n x = some ys) (hs : ρ[i]? = some (.lol ps)) (hk : RX K tk ρ (X ++ lolOs ps xs) (.int n) (X ++ lolOs ps xs))
    (h : RX K te ρ (X ++ lolOs ps xs) (enc x) (X ++ lolOs ps xs)) (E : EnvR K F σ ρ) (S : Hx K F0 H0 D0 F (X ++ lolOs ps xs) H) (k : ∀ F' H', Same F F' → EnvR K F' σ ρ → Hx K F0 H0 D0 F' (X ++ lolOs ps ys) H' → D.nx σ H') :
    tDrop (tBM K "list" rAppend (tOp (rIxL K) (tVar i) tk) (tCons te tNil)) D σ H := by
  unfold lolO at hn
  split at hn
  · rename_i hN
    obtain ⟨m, e1, hn⟩ := bindE hn
    obtain ⟨r, e2, hn⟩ := bindE hn
    obtain ⟨r', e3, hn⟩ := bindE hn
    obtain rfl := Option.some.inj hn
    have hm : m < xs.length := (List.getElem?_eq_some_iff.mp e2).1
    obtain ⟨T, h1, h2, h3⟩ := E.lol hs
    obtain ⟨p, hp⟩ : ∃ p, ps[m]? = some p := ⟨_, List.getElem?_eq_getElem (by omega)⟩
    have hj : ∀ (O : Os), O = X ++ lolOs ps xs → O[X.length + m]? = some ⟨p, true, r.map enc⟩ := fun O e => by
      rw [e, List.getElem?_append_right (by omega), Nat.add_sub_cancel_left]
      exact tow_get hp (by rw [List.getElem?_map, e2]; rfl)
    refine ⟨_, h1, hk.go E S fun y F1 H1 f1 E1 S1 r1 => ?_⟩
    cases r1
    refine ⟨T, ps.map .ref, n, .ref p, rfl, rfl, (f1.trans S1.fh).seq h2, ?_, ?_⟩
    · unfold L2.atI
      rw [List.length_map, show ps.length = xs.length by omega, e1]
      show (ps.map V.ref)[m]? = _
      rw [List.getElem?_map, hp]; rfl
    · obtain ⟨_, _, _, vs0, g0, _⟩ := S1.get (hj _ rfl)
      refine ⟨.inl ⟨rfl, _, .inl (.inl g0)⟩, h.go E1 S1 fun v F2 H2 f2 E2 S2 r2 => ?_⟩
      obtain ⟨g1, g2, g3, vs, g4, g5, g6⟩ := S2.get (hj _ rfl)
      have g4 : H2 p = some (.lst vs) := g4
      have g6 : RpAll K F2 vs (r.map enc) := g6
      have e3 := appO_map enc e3
      unfold appO at e3
      split at e3
      · rename_i hc
        have e3 := Option.some.inj e3
        have hz : vs.length < sizeLine := by rw [g6.length, sizeLine_eq]; exact hc
        have S3 := S2.mut (hj _ rfl) (vs := vs ++ [v]) (ds' := r'.map enc) (by rw [List.length_append, List.length_singleton]; omega) (by rw [← e3]; exact g6.append (.cons r2 .nil))
        have eO : (X ++ lolOs ps xs).set (X.length + m) ⟨p, true, r'.map enc⟩ = X ++ lolOs ps (xs.set m r') := by
          apply List.ext_getElem?
          intro j
          by_cases q : X.length + m = j
          · subst q
            rw [List.getElem?_set_self (by have := hj _ rfl; exact (List.getElem?_eq_some_iff.mp this).1), List.getElem?_append_right (by omega), Nat.add_sub_cancel_left]
            exact (tow_get hp (by rw [List.getElem?_map, List.getElem?_set_self hm]; rfl)).symm
          · rw [List.getElem?_set_ne q]
            rcases Nat.lt_or_ge j X.length with hx | hx
            · rw [List.getElem?_append_left hx, List.getElem?_append_left hx]
            · rw [List.getElem?_append_right hx, List.getElem?_append_right hx]
              unfold lolOs towOs
              rw [List.getElem?_zipWith, List.getElem?_zipWith, List.getElem?_map, List.getElem?_map, List.getElem?_set_ne (by omega)]
        rw [eO] at S3
        exact ⟨_, vs, v, rfl, rfl, g4, hz, k F2 _ (f1.trans f2) E2 S3⟩
      · cases e3
  · cases hn
end
/-! ### is True, is not True -/
def tIsB (c : Bool) (ta : TE) : TE := fun σ H Q => ta σ H fun x H1 => ∃ b, x = .bl b ∧ Q (.bl (b == c)) H1
def tNotB (c : Bool) (ta : TE) : TE := fun σ H Q => ta σ H fun x H1 => ∃ b, x = .bl b ∧ Q (.bl (b != c)) H1
section
open PyProof.Rows
variable {X : Cx} {a : Expr} {ta : TE}
theorem pc_isB {c : Bool} {j pos'} (ha : PE X a ta) : PC X .Is a (.Constant (.bool c) j pos') (tIsB c ta) := by
  refine ⟨fun pins s σ H Q I h => ?_⟩
  refine thn (ha.run pins s σ H _ I h) fun v s1 ⟨x, H1, I1, r1, b, e, q1⟩ => ?_
  subst e
  cases r1
  exact Constant_bool (is_bool ⟨.bl _, H1, I1, rfl, q1⟩)
theorem pc_notB {c : Bool} {j pos'} (ha : PE X a ta) : PC X .IsNot a (.Constant (.bool c) j pos') (tNotB c ta) := by
  refine ⟨fun pins s σ H Q I h => ?_⟩
  refine thn (ha.run pins s σ H _ I h) fun v s1 ⟨x, H1, I1, r1, b, e, q1⟩ => ?_
  subst e
  cases r1
  exact Constant_bool (isnot_bool ⟨.bl _, H1, I1, rfl, q1⟩)
end
section
variable {K : Fg} {ta : TE} {ρ : List Sl} {O O1 : Os}
theorem rx_isB {b c : Bool} (ha : RX K ta ρ O (.bool b) O1) : RX K (tIsB c ta) ρ O (.bool (b == c)) O1 := ⟨fun _ _ _ _ _ _ Q E S k => ha.go E S fun x F1 H1 f1 E1 S1 r1 => by
  cases r1
  exact ⟨b, rfl, k _ F1 H1 f1 S1 (.bl _)⟩⟩
theorem rx_notB {b c : Bool} (ha : RX K ta ρ O (.bool b) O1) : RX K (tNotB c ta) ρ O (.bool (b != c)) O1 := ⟨fun _ _ _ _ _ _ Q E S k => ha.go E S fun x F1 H1 f1 E1 S1 r1 => by
  cases r1
  exact ⟨b, rfl, k _ F1 H1 f1 S1 (.bl _)⟩⟩
end
end TL
namespace TL
open PySem L2
open Enc
theorem rx_some {K : Fg} {t : TE} {ρ : List Sl} {O O1 : Os} {o : Option Int} {v : Int} (h : o = some v) (ha : RX K t ρ O (enc o) O1) : RX K t ρ O (.int v) O1 := by
  subst h
  exact ha
end TL
namespace L2
open PySem
/-- a built-in type's method, within a comprehension, too -/
theorem pe_bmK (K : TL.Fg) {X : Cx} {T name id : String} {r : V → List V → Hp → VK → Prop} {o e : Expr} {es : List Expr} {to : TE} {t : TA} {apos cpos : Pos} (pa : PlainAttrs T) (slot : Slot T name id) (hty : typeOf (.builtin id) = pure (.type "method_descriptor")) (hm : MtR X id r) (ho : PE X o to) (ha : PA X (e :: es) t)
    (hK : X.K = K := by rfl)
    (hbase : attributeBase o name X.env (eval o X.env) = eval o X.env := by rfl)
    (hfew : ((backTo cpos (starEach (e :: es) X.env)).all (fun x => !x.1) && (backToKw cpos (keywordEach [] X.env)).all (fun x => x.1.isSome)
      && decide ((e :: es).length + ([] : List Keyword).length + (if ([] : List Keyword).isEmpty then 0 else 1) < 30)) = true := by rfl)
    (hline : (apos.endLine == cpos.line) = true := by rfl) (hs : starEach (e :: es) X.env = (false, eval e X.env) :: starEach es X.env := by rfl) (hplain : (backTo cpos (starEach es X.env)).any (·.1) = false := by rfl) :
    PE X (.Call (.Attribute o name apos) (e :: es) [] cpos) (tBM K T r to t) := by
  subst hK
  exact pe_bm pa slot hty hm ho ha hbase hfew hline hs hplain
end L2
namespace TL
open PySem L2
theorem pe_cal0 {X : Cx} {j k : Nat} {x : Str} {ps : List Str} {sp : Sp} {p pos : Pos} (C : Cal X.prog X.w X.K X.mg X.base j x ps sp) (hr : Room k X.A) (hjk : j ≤ k := by decide) (hg : Gl X x := by rfl) (hdb : (x == ("__debug__" : Str)) = false := by decide) :
    PE X (.Call (.Name x p) [] [] pos) (tCall sp [] L2.E0 tNil) := by
  obtain ⟨f, fd, F, hm, kp, b⟩ := C
  exact pe_call0 F (hr.mono hjk) hg hm kp b .nil pass0 hdb
end TL
namespace TL
open PySem L2
instance {α β γ : Type} [Enc α] [DecidableEq α] [EqD α] [EqT α] [Enc β] [DecidableEq β] [EqD β] [EqT β] [Enc γ] [DecidableEq γ] [EqD γ] [EqT γ] : EqT (T3 α β γ) := ⟨fun x => by
  show (EqD.ok x.a && (EqD.ok x.b && EqD.ok x.c)) = true
  rw [EqT.ok, EqT.ok, EqT.ok]; rfl⟩
end TL
namespace TL
open PySem L2
open Enc
theorem rx_opt {α : Type} [Enc α] {K : Fg} {t : TE} {ρ : List Sl} {O O1 : Os} {x : α} (h : RX K t ρ O (enc x) O1) : RX K t ρ O (enc (some x : Option α)) O1 := h
end TL
namespace TL
open PySem L2
section
variable {K : Fg} {te : TE} {t : TA} {ρ : List Sl} {O O1 : Os} {E0 : XK}
/-- a list just made is the one that is changed -/
theorem rx_callqN {R : List Sl → Addr → Addr → List PyData → List PyData → PyData → List PyData → Prop} {as : List Sl} {q : Addr} {nw' : Bool} {k : Nat} {c e c' : List PyData} {d : PyData} (h : RXo K te ρ O c O1) (ha : ∀ p, RA K t ρ (⟨p, true, c⟩ :: O1) as (⟨p, true, c⟩ :: O1))
    (hk : O1[k]? = some ⟨q, nw', e⟩) (hR : ∀ p, R (.adr p :: as) p q c e d c') : RX K (tCall (SpQ K R) [] E0 (tCons te t)) ρ O d O1 := ⟨fun _ _ _ _ _ _ Q E S kk => h.go E S fun p F0 H0 f0 E0 S0 => (ha p).go E0 S0 fun vs F1 H1 f1 E1 S1 r1 => by
  show SpQ K R (.ref p :: vs ++ []) H1 _ _
  rw [List.append_nil]
  have hj : (⟨p, true, c⟩ :: O1)[0]? = some ⟨p, true, c⟩ := rfl
  have hk' : (⟨p, true, c⟩ :: O1)[k + 1]? = some ⟨q, nw', e⟩ := hk
  obtain ⟨g1, g2, g3, xs, g4, g5, g6⟩ := S1.get hj
  obtain ⟨k1, k2, k3, ys, k4, k5, k6⟩ := S1.get hk'
  have ne : p ≠ q := fun z => absurd (nodup_at S1.nd (x := p) (i := 0) (j := k + 1) rfl (by rw [List.getElem?_map, hk', z]; rfl)) (by omega)
  exact ⟨F1, _, p, q, xs, ys, c, e, d, c', ⟨.adr r1, S1.fh⟩, ⟨g1, g4, g5, g6⟩, ⟨k1, k4, k5, k6⟩, ne, hR p, fun v F' H' xs' ys' st hp hq r => kk v F' H' ((f0.trans f1).trans st.ff) ((S1.call2 hj hk' st hp.2.1 hp.2.2.1 hp.2.2.2 hq.2.1 hq.2.2.1 hq.2.2.2).drop 0) r⟩⟩
theorem rx_calloN {O2 : Os} {R : List PyData → List PyData → PyData → List PyData → Prop} {c c' ds : List PyData} {d : PyData} (h : RXo K te ρ O c O1) (ha : ∀ p, RA K t ρ (⟨p, true, c⟩ :: O1) (ds.map .val) (⟨p, true, c⟩ :: O2)) (hR : R c ds d c') : RX K (tCall (SpPo K R) [] E0 (tCons te t)) ρ O d O2 :=
  ⟨fun _ _ _ _ _ _ Q E S kk => h.go E S fun p F0 H0 f0 E0 S0 => (ha p).go E0 S0 fun vs F1 H1 f1 E1 S1 r1 => by
  show SpPo K R (.ref p :: vs ++ []) H1 _ _
  rw [List.append_nil]
  have hj : (⟨p, true, c⟩ :: O2)[0]? = some ⟨p, true, c⟩ := rfl
  obtain ⟨g1, g2, g3, xs, g4, g5, g6⟩ := S1.get hj
  exact ⟨F1, p, _, xs, c, ds, d, c', rfl, r1.all, S1.fh, g1, g4, g5, g6, hR, fun v F' H' ys st h1 h2 h3 h4 r => kk v F' H' ((f0.trans f1).trans st.ff) ((S1.call1 hj st h2 h3 h4).drop 0) r⟩⟩
end
end TL

namespace TL
open PySem PySem.Spec PyProof.Rows L2
open Enc
/-! ### zip of a tuple and a list -/
/-- the tuple at a, the list at b, as they stand at each turn -/
def ItMxi (K : Fg) (a b : Addr) : It :=
  ⟨fun i H => ∃ (xs ys : List V) (x y : V), (SqT K H a xs ∧ SqL K H b ys) ∧ xs[i]? = some x ∧ ys[i]? = some y,
    fun i H v H' => ∃ T x y, (v = .ref T ∧ H T = none ∧ H' = upd H T (.tup [x, y])) ∧ (∀ xs, SqT K H a xs → xs[i]? = some x) ∧ ∀ ys, SqL K H b ys → ys[i]? = some y,
    fun i H => ∃ xs ys : List V, (SqT K H a xs ∧ SqL K H b ys) ∧ i ≤ xs.length ∧ i ≤ ys.length ∧ (xs.length = i ∨ ys.length = i)⟩
def mxiSt (z TI TO i1 i2 a b : Addr) (i : Nat) (h : Heap) : Prop := (IsZip h z TI TO .none ∧ IsPair h TI (.ref i1) (.ref i2)) ∧ (∃ x y, IsPair h TO x y) ∧ h.IsTupleIter i1 a i ∧ h.IsListIter i2 b i
theorem turn_mxi {P : Program} {w : World} {K : Fg} {elts : List Expr} {kk : Nat} {tpos : Pos} {a b z TI TO i1 i2 : Addr} (D : ZipApart z TI TO i1 i2 a b) :
    Turn P w K (.Tuple elts kk tpos) (ItMxi K a b) [z, TI, TO, i1, i2] z (mxiSt z TI TO i1 i2 a b) := by
  have sep := sep_mix D
  refine ⟨by simp, fun i h st c hc => ?_, fun i h h' st k => ?_, ?_, ?_, fun A i s Q E st q => wpAny_pyIter_zip st.1.1 q⟩
  · obtain ⟨⟨q1, q2⟩, ⟨x, y, q3⟩, ⟨o1, e1, _, d1⟩, o2, e2, _, d2⟩ := st
    rcases five hc with rfl | rfl | rfl | rfl | rfl
    · exact ⟨_, q1, fun v => nofun⟩
    · exact ⟨_, q2, fun v => nofun⟩
    · exact ⟨_, q3, fun v => nofun⟩
    · exact ⟨_, e1, fun v e => nomatch d1.symm.trans e⟩
    · exact ⟨_, e2, fun v e => nomatch d2.symm.trans e⟩
  · obtain ⟨⟨q1, q2⟩, ⟨x, y, q3⟩, q4, q5⟩ := st
    exact ⟨⟨k z (by simp) _ q1, k TI (by simp) _ q2⟩, ⟨x, y, k TO (by simp) _ q3⟩, q4.at fun o => k i1 (by simp) o, q5.at fun o => k i2 (by simp) o⟩
  · rintro X rfl rfl rfl hc i pins s σ H E I hf st ⟨xs, ys, x, y, ⟨hqx, hqy⟩, hx, hy⟩
    obtain ⟨⟨q1, q2⟩, ⟨x0, y0, q3⟩, q4, q5⟩ := st
    obtain ⟨its, rv, p, _⟩ := I.tuple hqx
    obtain ⟨its2, rv2, p2, _⟩ := I.list hqy
    obtain ⟨u, hu, ru⟩ := rv.get hx
    obtain ⟨u2, hu2, ru2⟩ := rv2.get hy
    have zlt : z < s.heap.objs.size := Heap.lt_size q1
    have hh : X.A.in1.handled = none := I.ok.hd hc
    refine wpAny_pyNext_zipD2_item sep (Draws.tuple hh i1 a D.l1i1 its.toArray) (Draws.list hh i2 b D.l2i2 its2.toArray) q1 q2 q3 ⟨q4, p⟩ ⟨q5, p2.isList⟩ (by simpa using (List.getElem?_eq_some_iff.mp hu).1) (by simpa using (List.getElem?_eq_some_iff.mp hu2).1) fun x1 x2 h' tk e1 e2 z' TO' n1 n2 hT hsz hk => ?_
    have ex1 : x1 = u := Option.some.inj (e1.symm.trans (by simpa using hu))
    have ex2 : x2 = u2 := Option.some.inj (e2.symm.trans (by simpa using hu2))
    subst ex1
    subst ex2
    refine ⟨_, rfl, wpAny_letOwnedTupleGo_zip (s := { s with heap := h', toks := tk }) z' fun h2 z2 sb => ?_⟩
    have hT2 : h2.get? s.heap.objs.size = some { cls := .type "tuple", data := .seq #[x1, x2] } := (sb.2 _ (Nat.ne_of_gt zlt)).trans hT
    have new : ObjOk X.prog X.w (upd H s.heap.objs.size (.tup [x, y])) h2 s.heap.objs.size (.tup [x, y]) := ⟨by show 2 ≤ sizeLine; decide, [x1, x2], .cons ru (.cons ru2 .nil), ⟨_, hT2, rfl, _, rfl⟩⟩
    have I1 : Inv X pins σ (upd H s.heap.objs.size (.tup [x, y])) { s with heap := h2, toks := tk } := I.turnedNew (t' := tk) (ch := [z, TI, TO, i1, i2]) (fun c o hb q => by
      obtain ⟨c1, c2, c3, c4⟩ := out5 hb
      exact (sb.2 c c1).trans (hk c o c1 c2 c3 c4 q)) hf (Nat.le_refl _) new
    refine ⟨.ref s.heap.objs.size, _, I1, rfl, ⟨_, x, y, ⟨rfl, I.hok.fresh (Nat.le_refl _), rfl⟩, fun l hl => by rw [I.tuple_inj hl hqx]; exact hx, fun l hl => by rw [I.list_inj hl hqy]; exact hy⟩, ⟨⟨z2, ?_⟩, ⟨x1, x2, ?_⟩, ?_, ?_⟩, fun c hcm => ?_⟩
    · exact (sb.2 TI D.TIz).trans (hk TI _ D.TIz D.TITO D.TIi1 D.TIi2 q2)
    · exact (sb.2 TO D.TOz).trans TO'
    · exact n1.1.at fun o q => (sb.2 i1 D.i1z).trans q
    · exact n2.1.at fun o q => (sb.2 i2 D.i2z).trans q
    · have hlt : c < s.heap.objs.size := by
        rcases five hcm with rfl | rfl | rfl | rfl | rfl
        · exact zlt
        · exact Heap.lt_size q2
        · exact Heap.lt_size q3
        · obtain ⟨_, e, _⟩ := q4; exact Heap.lt_size e
        · obtain ⟨_, e, _⟩ := q5; exact Heap.lt_size e
      rw [upd_ne (Nat.ne_of_lt hlt)]
      exact (hf c hcm).1
  · rintro X rfl rfl rfl hc i pins s σ H E I hf st ⟨xs, ys, ⟨hqx, hqy⟩, l1, l2, hend⟩
    obtain ⟨⟨q1, q2⟩, ⟨x0, y0, q3⟩, q4, q5⟩ := st
    obtain ⟨its, rv, p, _⟩ := I.tuple hqx
    obtain ⟨its2, rv2, p2, _⟩ := I.list hqy
    have e1 := rv.length
    have e2 := rv2.length
    have hh : X.A.in1.handled = none := I.ok.hd hc
    refine wpAny_pyNext_zipD2_end sep (Draws.tuple hh i1 a D.l1i1 its.toArray) (Draws.list hh i2 b D.l2i2 its2.toArray) q1 q2 q3 ⟨q4, p⟩ ⟨q5, p2.isList⟩ (by simp; omega) (by simp; omega) (by simp; omega) fun h' tk hk => ?_
    refine ⟨rfl, I.turnedL (t' := tk) (ch := [z, TI, TO, i1, i2]) (fun c o hb q => ?_) hf⟩
    obtain ⟨c1, c2, c3, c4⟩ := out5 hb
    exact hk c o c1 c2 c3 c4 q
def iMxi (K : Fg) (ta : TA) : TI := fun σ H R => ta σ H fun vs H1 => ∃ a b xs ys, vs = [.ref a, .ref b] ∧ (SqT K H1 a xs ∧ SqL K H1 b ys) ∧ R (ItMxi K a b) H1
theorem k_pi_mxi {X : Cx} (K : Fg) {e e2 : Expr} {ta : TA} {p pos tpos : Pos} {elts : List Expr} {kk : Nat} (hg : Gl X "zip") (hm : X.mg "zip" = none) (ha : PA X [e, e2] ta)
    (hs : starEach [e, e2] X.env = (false, eval e X.env) :: starEach [e2] X.env := by rfl) (hpl : (backTo pos (starEach [e2] X.env)).any (·.1) = false := by rfl) (hK : X.K = K := by rfl) :
    PI X (.Tuple elts kk tpos) (.Call (.Name "zip" p) [e, e2] [] pos) (iMxi K ta) := by
  subst hK
  refine ⟨fun pins s σ H R I h => ?_⟩
  refine Call_ (ld_blt I hg hm PyProof.Rows.boot_zip (PyProof.Rows.callWith_type1 (thn (ha.run pos pins s σ H _ I h) fun us s1 ⟨vs, H1, I1, r1, q1⟩ => ?_) hs hpl))
  obtain ⟨a, b, xs, ys, ex, ⟨hqx, hqy⟩, q⟩ := q1
  subst ex
  cases r1 with
  | cons r rr =>
   cases rr with
   | cons r' rr =>
    cases rr
    cases r
    cases r'
    obtain ⟨its, rv, p1, _⟩ := I1.tuple hqx
    obtain ⟨its2, rv2, p2, _⟩ := I1.list hqy
    obtain ⟨o2, ho2, p3⟩ := id p1
    have lt1 := Heap.lt_size ho2
    have lt2 := p2.lt
    refine zip_begins2 (begins_tuple a its.toArray) (begins_list b its2.toArray) p1 p2.isList fun h' hz hTI hTO g1 g2 hsz hk => wpAny_pyIter_zip hz ?_
    have I2 : Inv X pins σ H1 { s1 with heap := h' } := I1.kept (t' := s1.toks) hk
    refine ⟨s1.heap.objs.size + 4, [s1.heap.objs.size + 4, s1.heap.objs.size + 2, s1.heap.objs.size + 3, s1.heap.objs.size, s1.heap.objs.size + 1], _, _, H1, rfl, I2, turn_mxi (PySem.W.ktu_apart s1.heap.objs.size a b lt1 lt2), ⟨⟨hz, hTI⟩, ⟨_, _, hTO⟩, ⟨_, g1, rfl, rfl⟩, ⟨_, g2, rfl, rfl⟩⟩, fun c hcm => ?_, q⟩
    have hle : s1.heap.objs.size ≤ c := by
      rcases five hcm with rfl | rfl | rfl | rfl | rfl
      · exact Nat.le_add_right _ _
      · exact Nat.le_add_right _ _
      · exact Nat.le_add_right _ _
      · exact Nat.le_refl _
      · exact Nat.le_add_right _ _
    exact I1.fpOk hle (I1.hok.fresh hle)
section
variable {K : Fg} {ta tb : TE} {ρ : List Sl} {O O1 O2 : Os}
theorem ri_mxi {ys zs : List PyData} (h : RX K ta ρ O (.tuple ys) O1) (h' : RX K tb ρ O1 (.list zs) O2) : RI K (iMxi K (tCons ta (tCons tb tNil))) ρ O (zipD ys zs) O2 := ⟨fun F0 H0 D0 σ F H R E S k => by
    refine h.go E S fun x F1 H1 f1 E1 S1 r1 => h'.go E1 S1 fun y F2 H2 f2 E2 S2 r2 => ?_
    have r1' := r1.up f2
    cases r1' with
    | @tup a xs _ q1 q2 q3 =>
     cases r2 with
     | @lst b ws _ p1 p2 p3 =>
      have s1 : ∀ {G0 J0 : Hp} {D1 : List Addr} {F : Hp} {O : Os} {H : Hp}, Same F2 F → Hx K G0 J0 D1 F O H → SqT K H a xs ∧ SqL K H b ws := fun f S => ⟨same_t (f.trans S.fh) q1, (f.trans S.fh).seq p1⟩
      refine ⟨a, b, xs, ws, rfl, s1 (Same.refl _) S2, ?_⟩
      have hl : (zipD ys zs).length = min xs.length ws.length := by unfold zipD; rw [List.length_map, List.length_zip, q3.length, p3.length]
      refine k _ F2 H2 (f1.trans f2) S2 ⟨by omega, fun _ _ _ F O H i hi f S => ?_, fun _ _ _ F O H f S => ⟨xs, ws, s1 f S, by omega, by omega, by omega⟩, fun _ _ _ F O H i x H' hi f S y => ?_⟩
      · have h1 : i < xs.length := by omega
        have h2 : i < ws.length := by omega
        exact ⟨xs, ws, xs[i], ws[i], s1 f S, by simp [h1], by simp [h2]⟩
      · obtain ⟨T, u, v, ⟨eu, hT, eT⟩, y1, y2⟩ := y
        subst eu
        subst eT
        obtain ⟨d, e, r⟩ := (q3.up f).getV (y1 xs (s1 f S).1)
        obtain ⟨d', e', r'⟩ := (p3.up f).getV (y2 ws (s1 f S).2)
        obtain ⟨F3, f3, S3, r3⟩ := pair_put S hT r r'
        refine ⟨F3, _, f3, S3, ?_, r3⟩
        unfold zipD
        have ez : (ys.zip zs)[i]? = some (d, d') := List.getElem?_zip_eq_some.mpr ⟨e, e'⟩
        rw [List.getElem?_map, ez]
        rfl⟩
theorem ri_mxiM {α β : Type} [Enc α] [Enc β] {xs : List α} {ys : List β} (h : RX K ta ρ O (.tuple (xs.map enc)) O1) (h' : RX K tb ρ O1 (.list (ys.map enc)) O2) : RI K (iMxi K (tCons ta (tCons tb tNil))) ρ O ((xs.zip ys).map enc) O2 := by
  have e : (xs.zip ys).map enc = zipD (xs.map enc) (ys.map enc) := by
    unfold zipD
    rw [List.zip_map, List.map_map]
    rfl
  rw [e]
  exact ri_mxi h h'
end
end TL
namespace PySem
open PyProof.Rows
section
variable {prog : Program} {w : World} {A : Around} {E : Value → Shared → Prop} {s : Shared} {l : Addr} {xs : Array (Int × Tok)}
theorem sum_intTupG {Q : Value → Shared → Prop} (hh : A.handled = none) (hl : s.heap.IsTuple l (intItems xs))
    (h : ∀ h' tk t', (∀ b o, s.heap.get? b = some o → h'.get? b = some o) → Q (.int (preSum (numAt xs) xs.size) t') { s with heap := h', toks := tk }) :
    wpAny (model prog w) A (call (.builtin "sum") [.ref l]) Q E s := by
  have hlt : l < s.heap.objs.size := by obtain ⟨o, e, _⟩ := hl; exact Heap.lt_size e
  refine call_sum_walkG (wpAny_pyIter_tuple hl ?_)
  refine ⟨_, [s.heap.objs.size, l], [_], _, _, _, numAt xs, rfl, Walks.tuple (A := A.in1) hh _ l (Nat.ne_of_lt hlt) (intItems xs), ⟨⟨_, Heap.get?_push_size _ rfl, rfl, rfl⟩, hl.push _⟩, fun c hc => ?_, fun _ _ => intItems_at, fun h' tk t' hk => ?_⟩
  · show c < (s.heap.push _).objs.size
    rw [Heap.size_push]
    rcases List.mem_cons.mp hc with rfl | hc
    · exact Nat.lt_succ_self _
    · rcases List.mem_cons.mp hc with rfl | hc
      · exact Nat.lt_succ_of_lt hlt
      · cases hc
  · have := h h' tk t' fun b o e => hk b o (fun hm => by
      rcases List.mem_cons.mp hm with e1 | hm
      · have := Heap.lt_size e; rw [e1] at this; exact Nat.lt_irrefl _ this
      · cases hm) (Heap.get?_push_of_some _ e)
    simpa [intItems] using this
end
end PySem
namespace L2
open PySem PyProof.Rows
section
variable {prog : Program} {w : World} {A : Around} {E : Value → Shared → Prop} {s : Shared} {l : Addr} {its : List Value} {ns : List Int} {Q : Value → Shared → Prop}
theorem sum_rawT (hh : A.handled = none) (hl : s.heap.IsTuple l its.toArray) (hi : IntsAre its ns)
    (h : ∀ h' tk t', (∀ b o, s.heap.get? b = some o → h'.get? b = some o) → Q (.int ns.sum t') { s with heap := h', toks := tk }) : wpAny (model prog w) A (call (.builtin "sum") [.ref l]) Q E s := by
  obtain ⟨xs, e⟩ := hi.allInts.items
  have hn : numsOf (intItems xs).toList = ns := by rw [← e]; exact hi.numsOf
  rw [nums_intItems] at hn
  rw [e] at hl
  refine PySem.sum_intTupG hh hl fun h' tk t' hk => ?_
  have := h h' tk t' hk
  rw [preSum_eq, List.take_of_length_le (by simp), hn]; exact this
end
def rSumT (K : PySem.W.Frag) : List V → Hp → VK → Prop := fun vs H Q => ∃ (a : Addr) (ns : List Int), vs = [V.ref a] ∧ SqT K H a (ns.map V.int) ∧ Q (.int ns.sum) H
theorem cr_sumT {X : Cx} (hc : X.calm = true) : CallR X (.builtin "sum") (rSumT X.K) := by
  intro pins s σ H vs us Q I r h
  obtain ⟨a, ns, rfl, hs, q⟩ := h
  obtain ⟨its, rv, hl, _⟩ := I.tuple hs
  rw [Vals.ref1 r]
  exact sum_rawT (I.ok.hd hc) hl rv.ints fun h' tk t' hk => ⟨.int _, H, I.kept hk, ⟨_, rfl⟩, q⟩
end L2
namespace TL
open PySem L2
open Enc
theorem k_sumT {X : Cx} (K : Fg) (hc : X.calm = true) (hK : X.K = K := by rfl) : CallR X (.builtin "sum") (rSumT K) := by subst hK; exact cr_sumT hc
section
variable {K : Fg} {ta tb tc : TE} {ρ : List Sl} {O O1 O2 : Os} {F0 H0 F H : Hp} {D0 : List Addr} {σ : L2.St}
theorem rx_sumT {ns : List Int} (ha : RX K ta ρ O (.tuple (ns.map .int)) O1) : RX K (tCB (rSumT K) (tCons ta tNil)) ρ O (.int ns.sum) O1 := ⟨fun _ _ _ _ _ _ Q E S k => ha.go E S fun x F1 H1 f1 E1 S1 r1 => by
  cases r1 with
  | tup q1 q2 q3 =>
    have e := q3.ints
    subst e
    exact ⟨_, ns, rfl, same_t S1.fh q1, k _ F1 H1 f1 S1 (.int _)⟩⟩
/-! ### a written dict of reckoned ints by texts -/
inductive RPs (K : Fg) (ρ : List Sl) (O : Os) : List (TE × TE) → List (Str × Int) → Prop
  | nil : RPs K ρ O [] []
  | cons {x : Str} {i : Int} {tv : TE} {trs : List (TE × TE)} {kvs : List (Str × Int)} : RX K tv ρ O (.int i) O → RPs K ρ O trs kvs → RPs K ρ O ((tC (.str x), tv) :: trs) ((x, i) :: kvs)
theorem RPs.run {trs : List (TE × TE)} {kvs : List (Str × Int)} (h : RPs K ρ O trs kvs) : ∀ {F0 H0 : Hp} {D0 : List Addr} {F H : Hp} {Q : List (V × V) → Hp → Prop}, EnvR K F σ ρ → Hx K F0 H0 D0 F O H →
    (∀ F' H', Same F F' → Hx K F0 H0 D0 F' O H' → Q (kvs.map fun p => (V.str p.1, V.int p.2)) H') → tPairs trs σ H Q := by
  induction h with
  | nil => intro F0 H0 D0 F H Q E S k; exact k F H (Same.refl _) S
  | @cons x i tv trs kvs h1 _ ih =>
    intro F0 H0 D0 F H Q E S k
    show tC (.str x) σ H fun y H1 => tv σ H1 fun z H2 => tPairs trs σ H2 fun ps H3 => Q ((y, z) :: ps) H3
    refine h1.go E S fun v F1 H1 f1 E1 S1 r1 => ?_
    cases r1
    exact ih E1 S1 fun F2 H2 f2 S2 => k F2 H2 (f1.trans f2) S2
theorem merge_go (kvs : List (Str × Int)) : ∀ acc : List (Str × Int), ((acc ++ kvs).map (·.1)).Nodup → mergeK (litV acc) (litV kvs) = litV (acc ++ kvs) := by
  induction kvs with
  | nil => intro acc _; rw [List.append_nil]; rfl
  | cons p kvs ih =>
    intro acc h
    have e : putK (litV acc) (Sum.inr p.1 : Key) (V.int p.2) = litV (acc ++ [p]) := by
      unfold putK
      rw [if_neg]
      · unfold litV; rw [List.map_append]; rfl
      · intro z
        obtain ⟨q, hq, e⟩ := List.any_eq_true.mp z
        obtain ⟨a, ha, rfl⟩ := List.mem_map.mp hq
        have e : (Sum.inr a.1 : Key) = Sum.inr p.1 := of_decide_eq_true e
        have e : a.1 = p.1 := Sum.inr.inj e
        rw [List.map_append, List.nodup_append] at h
        exact h.2.2 a.1 (List.mem_map.mpr ⟨a, ha, rfl⟩) p.1 (by simp) e
    show mergeK (putK (litV acc) (Sum.inr p.1 : Key) (V.int p.2)) (litV kvs) = _
    rw [e, ih (acc ++ [p]) (by rw [List.append_assoc]; exact h), List.append_assoc]
    rfl
theorem EnvR.dii {i : Nat} {kvs : List (Str × Int)} (h : EnvR K F σ ρ) (e : ρ[i]? = some (.dii kvs)) : ∃ t, σ[i]? = some (some (.ref t)) ∧ F t = some (.dK (litI kvs)) := by
  obtain ⟨s, h1, t, rfl, h2⟩ := h.at e
  exact ⟨t, h1, h2⟩
variable {D : Ends}
theorem st_setDI {i : Nat} {trs : List (TE × TE)} {kvs : List (Str × Int)} (h : RPs K ρ O trs kvs) (hl : kvs.length ≤ 15) (hm : (kvs.map (·.1)).Nodup) (E : EnvR K F σ ρ) (S : Hx K F0 H0 D0 F O H)
    (k : ∀ σ' F' H', Same F F' → EnvR K F' σ' (ρ.set i (.dii kvs)) → Hx K F0 H0 D0 F' O H' → D.nx σ' H') : tAsg (tDisp trs) (gName i) D σ H := by
  intro p hp
  have hF := S.nof hp
  have h0 := S.noh0 hp
  have hO : ∀ e ∈ O, e.a ≠ p := fun e he q => by
    obtain ⟨_, _, _, vs, g4, _⟩ := S.own e he
    rw [q, hp] at g4
    cases g4
  obtain ⟨H1, D1, Sf, kp, back⟩ := (S.junk (o := .dK []) hp).fr2
  obtain ⟨ka, kb⟩ := kp p _ upd_same hO
  refine h.run E Sf fun F2 H2 f2 S2 => ?_
  have d2 := S2.keep p _ ka kb
  have n2 := S2.new p _ ka hF
  have S2 := back _ _ _ S2
  refine ⟨d2, litI kvs, ?_, ?_, ?_⟩
  · unfold litI; rw [List.map_map]; rfl
  · unfold litI; rw [List.length_map]; exact hl
  · have e : mergeK [] (litI kvs) = litI kvs := merge_go kvs [] hm
    rw [e]
    have S3 := (S2.hold (o := .dK (litI kvs)) n2 h0 hO).pin n2 h0 hO upd_same
    have f3 := same_upd (o := .dK (litI kvs)) n2
    exact k _ _ _ (f2.trans f3) (EnvR.set (s := some (.ref p)) (r := .dii kvs) ⟨p, rfl, upd_same⟩ i (E.up (f2.trans f3))) S3
/-- d.get(k, x) -/
theorem rx_dii {i : Nat} {kvs : List (Str × Int)} {x : Str} {d : Int} (hs : ρ[i]? = some (.dii kvs)) (hk : RX K tb ρ O (.str x) O1) (hd : RX K tc ρ O1 (.int d) O2) : RX K (tDGet2 (tVar i) tb tc) ρ O (.int ((dlit kvs x).getD d)) O2 := ⟨fun _ _ _ _ _ _ Q E S kk => by
  obtain ⟨t, h1, h2⟩ := E.dii hs
  refine ⟨_, h1, t, rfl, .inl ⟨_, .inl (S.fh _ _ h2)⟩, hk.go E S fun y F1 H1 f1 E1 S1 r1 => hd.go E1 S1 fun z F2 H2 f2 E2 S2 r2 => ?_⟩
  cases r1
  cases r2
  have hp2 : H2 t = some (.dK (litV kvs)) := S2.fh _ _ (f2 _ _ (f1 _ _ h2))
  refine ⟨_, DGet.k (k := Sum.inr x) hp2, ?_⟩
  rw [valV_lit]
  have e : (((dlit kvs x).map V.int).getD (V.int d)) = V.int ((dlit kvs x).getD d) := by cases dlit kvs x <;> rfl
  rw [e]
  exact kk _ F2 H2 (f1.trans f2) S2 (.int _)⟩
end
end TL

namespace TL
open PySem L2
open Enc
/-! ### answers of bears, read -/
def ansHd : Ans → Str
  | .a1 s => s
  | .a3 s _ _ => s
def ansT : Ans → Option (Tp Int)
  | .a1 _ => none
  | .a3 _ t _ => some t
def ansN : Ans → Option (Option Int)
  | .a1 _ => none
  | .a3 _ _ n => some n
def ansLen : Ans → Int
  | .a1 _ => 1
  | .a3 _ _ _ => 3
section
variable {K : Fg} {ta : TE} {ρ : List Sl} {O O1 : Os}
theorem rx_ans0 {a : Ans} (h : RX K ta ρ O (enc a) O1) : RX K (tOp (rIxT K) ta (tC (.int 0))) ρ O (.str (ansHd a)) O1 := by
  cases a with
  | a1 s => exact rx_ixT (ds := [.str s]) rfl h rx_int
  | a3 s t n => exact rx_ixT (ds := [.str s, enc t, enc n]) rfl h rx_int
theorem rx_ans1 {a : Ans} {t : Tp Int} (e : ansT a = some t) (h : RX K ta ρ O (enc a) O1) : RX K (tOp (rIxT K) ta (tC (.int 1))) ρ O (enc t) O1 := by
  cases a with
  | a1 s => cases e
  | a3 s t' n =>
    cases e
    exact rx_ixT (ds := [.str s, enc t, enc n]) rfl h rx_int
theorem rx_ans2 {a : Ans} {n : Option Int} (e : ansN a = some n) (h : RX K ta ρ O (enc a) O1) : RX K (tOp (rIxT K) ta (tC (.int 2))) ρ O (enc n) O1 := by
  cases a with
  | a1 s => cases e
  | a3 s t' n' =>
    cases e
    exact rx_ixT (ds := [.str s, enc t', enc n]) rfl h rx_int
theorem rx_ansLen {a : Ans} (h : RX K ta ρ O (enc a) O1) : RX K (tCB (rLenQ K) (tCons ta tNil)) ρ O (.int (ansLen a)) O1 := by
  cases a with
  | a1 s => exact rx_lenT (ds := [.str s]) h
  | a3 s t n => exact rx_lenT (ds := [.str s, enc t, enc n]) h
theorem rx_isiA {a : Ans} {c : String} {r : Bool} (ha : RX K ta ρ O (enc a) O1) (h : kitB "tuple" c = some r) : RX K (tCB (rIsi K) (tCons ta (tCons (tC (.ty c)) tNil))) ρ O (.bool r) O1 := by
  cases a with
  | a1 s => exact rx_isi ha (kit_at (t := "tuple") rfl h)
  | a3 s t n => exact rx_isi ha (kit_at (t := "tuple") rfl h)
end
instance : EqD (Option (Tp Int)) := ⟨fun _ => true, fun x y => by
  cases x with
  | none =>
    cases y with
    | none => simp [enc, encO, PyData.eqv]
    | some b => simp [enc, encO, PyData.eqv]
  | some a =>
    cases y with
    | none => simp [enc, encO, PyData.eqv]
    | some b =>
      show PyData.eqv (enc a) (enc b) = _
      rw [EqD.eqv]
      exact decide_eq_decide.mpr ⟨fun h => congrArg some h, fun h => Option.some.inj h⟩, EqD.dp (Tp Int), fun x => by
  cases x with
  | none => exact Nat.zero_le _
  | some a => exact EqD.dep a, fun x _ => by
  cases x with
  | none => rfl
  | some a => exact EqD.lay a (EqT.ok a)⟩
instance : EqT (Option (Tp Int)) := ⟨fun _ => rfl⟩
/-! ### an own list is walked within a comprehension -/
section
variable {K : Fg} {ρ : List Sl} {O : Os} {α β : Type} {eα : α → PyData} {eβ : β → PyData} {g : TG} {tt : TT} {te : TE} {vs : List Nat} {xs : List α}
theorem rxo_filtW {i j : Nat} {a : Addr} {nw : Bool} {p : α → Option Bool} {f : α → Option β} {zs : List β} (ρx : α → List Sl) (ts : List Nat) (hs : ρ[i]? = some (.adr a)) (ho : O[j]? = some ⟨a, nw, xs.map eα⟩) (hf : filtO p f xs = some zs) (hts : ∀ t ∈ ts, t ∈ vs)
    (hg : ∀ x ∈ xs, RG K g (eα x) (wipeS ρ vs) (ρx x) ts) (ht : ∀ x ∈ xs, ∀ b, p x = some b → ∀ D acc, RT K tt (ρx x) (⟨D, true, acc⟩ :: O) b (⟨D, true, acc⟩ :: O))
    (he : ∀ x ∈ xs, ∀ y, f x = some y → ∀ D acc, RX K te (ρx x) (⟨D, true, acc⟩ :: O) (eβ y) (⟨D, true, acc⟩ :: O)) : RXo K (tLc (iList K (tVar i)) g tt te vs) ρ O (zs.map eβ) O := ⟨fun F0 H0 D0 σ F1 H1 Q E1 S1 k => by
  have ha := E1.adr hs
  obtain ⟨_, _, _, us0, k4, k5, k6⟩ := S1.get ho
  refine ⟨_, ha, a, rfl, ⟨us0, SqL.of k4⟩, ?_⟩
  have hlx : us0.length = xs.length := by
    have k6 : RpAll K F1 us0 (xs.map eα) := k6
    rw [k6.length, List.length_map]
  intro D hD
  have W : Walk (Itl K a) xs.length (fun H => ∃ F acc, Same F1 F ∧ Hx K F0 H0 D0 F (⟨D, true, acc⟩ :: O) H) (fun i H x H' => H' = H ∧ ∀ F acc, Same F1 F → Hx K F0 H0 D0 F (⟨D, true, acc⟩ :: O) H → ∃ y, xs[i]? = some y ∧ Rp K F x (eα y)) := by
    have own : ∀ {F : Hp} {acc : List PyData} {H : Hp}, Hx K F0 H0 D0 F (⟨D, true, acc⟩ :: O) H → ∃ us, SqL K H a us ∧ RpAll K F us (xs.map eα) := fun {F acc H} S => by
      obtain ⟨_, _, _, us, g4, _, g6⟩ := S.get (j := j + 1) (q := ⟨a, nw, xs.map eα⟩) ho
      exact ⟨us, SqL.of g4, g6⟩
    refine ⟨fun i H hi q => ?_, fun H q => ?_, fun i H x H' hi _ y => ?_⟩
    · obtain ⟨F, acc, f, S⟩ := q
      obtain ⟨us, h1, h2⟩ := own S
      have hu : i < us.length := by rw [h2.length, List.length_map]; exact hi
      exact ⟨us, us[i], h1, List.getElem?_eq_getElem hu⟩
    · obtain ⟨F, acc, f, S⟩ := q
      obtain ⟨us, h1, h2⟩ := own S
      exact ⟨us, h1, by rw [h2.length, List.length_map]; exact Nat.le_refl _⟩
    · obtain ⟨e, y⟩ := y
      refine ⟨e, fun F acc f S => ?_⟩
      obtain ⟨us, h1, h2⟩ := own S
      obtain ⟨d, e1, r⟩ := h2.getV (y us h1)
      rw [List.getElem?_map] at e1
      cases e2 : xs[i]? with
      | none => rw [e2] at e1; cases e1
      | some z =>
        rw [e2] at e1
        have e3 : eα z = d := Option.some.inj e1
        subst e3
        exact ⟨z, rfl, r⟩
  refine lc_it W (fun i H => ∃ F acc zr, Same F1 F ∧ Hx K F0 H0 D0 F (⟨D, true, acc⟩ :: O) H ∧ filtO p f (xs.drop i) = some zr ∧ acc ++ zr.map eβ = zs.map eβ ∧ acc.length ≤ i) ⟨F1, [], zs, Same.refl _, S1.mine hD (Nat.zero_le _) .nil, hf, rfl, Nat.le_refl _⟩
    (fun i H _ q => by obtain ⟨F, acc, zr, q1, q2, _⟩ := q; exact ⟨F, acc, q1, q2⟩) (fun i x H H' hi q y => ?_) (fun H q => ?_)
  · obtain ⟨F, acc, zr, q1, q2, q3, q4, q5⟩ := q
    obtain ⟨eH, y⟩ := y
    subst eH
    obtain ⟨z, ez, rz⟩ := y F acc q1 q2
    have hm : z ∈ xs := List.mem_of_getElem? ez
    have hi' : xs[i] = z := by
      rw [List.getElem?_eq_getElem hi] at ez
      exact Option.some.inj ez
    rw [List.drop_eq_getElem_cons hi, hi'] at q3
    obtain ⟨b, eb, q3⟩ := bindE q3
    refine (hg z hm).run _ F H' x _ ((E1.wipe vs).up q1) rz q2.fh fun σ' E' wq => ⟨(wq vs hts).trans (wipe_wipe σ vs), (ht z hm b eb D acc).go E' q2 fun F3 H3 f3 E3 S3 => ?_⟩
    cases b with
    | true =>
      have q3 : ((f z).bind fun y => (filtO p f (xs.drop (i + 1))).bind fun ys => some (y :: ys)) = some zr := q3
      obtain ⟨v, ev, q3⟩ := bindE q3
      obtain ⟨zr', ezr, q3⟩ := bindE q3
      obtain rfl := Option.some.inj q3
      refine iteT ((he z hm v ev D acc).go E3 S3 fun u F4 H4 f4 E4 S4 r4 => ?_)
      obtain ⟨g1, g2, g3, us, g4, g5, g6⟩ := S4.get (j := 0) (q := ⟨D, true, acc⟩) rfl
      have g4' : H4 D = some (.lst us) := g4
      have gl : us.length = acc.length := RpAll.length g6
      have hlt : us.length < sizeLine := by omega
      refine ⟨us, g4', hlt, F4, acc ++ [eβ v], zr', (q1.trans f3).trans f4, ?_, ezr, ?_, ?_⟩
      · exact S4.mut (j := 0) (l := D) (nw := true) (ds := acc) (ds' := acc ++ [eβ v]) rfl (by rw [List.length_append, List.length_singleton]; omega) (RpAll.append g6 (.cons r4 .nil))
      · rw [← q4, List.map_cons, List.append_assoc]
        rfl
      · rw [List.length_append, List.length_singleton]; omega
    | false =>
      have q3 : filtO p f (xs.drop (i + 1)) = some zr := q3
      exact iteF ⟨F3, acc, zr, q1.trans f3, S3, q3, q4, by omega⟩
  · obtain ⟨F, acc, zr, q1, q2, q3, q4, q5⟩ := q
    rw [List.drop_length] at q3
    have q3 : (some [] : Option (List β)) = some zr := q3
    obtain rfl := Option.some.inj q3
    rw [List.map_nil, List.append_nil] at q4
    rw [← q4] at k
    exact k D F H q1 q2⟩
end
end TL
namespace TL
open PySem L2
open Enc
/-! ### a list of two unlike things -/
structure L2p (α β : Type) where
  a : α
  b : β
  deriving DecidableEq
@[reducible] instance {α β : Type} [Enc α] [Enc β] : Enc (L2p α β) := ⟨fun p => .list [enc p.a, enc p.b]⟩
section
variable {K : Fg} {ta : TE} {ρ ρ' : List Sl} {O O1 : Os}
theorem rg_lst {gs : TGs} {n : Nat} {ds : List PyData} {ts : List Nat} (h : RGs K gs ds ρ ρ' ts) (hn : ds.length = n := by rfl) : RG K (gLst K n gs) (.list ds) ρ ρ' ts := ⟨fun σ F H v Q E r f k => by
  cases r with
  | lst q1 q2 q3 => exact ⟨_, _, rfl, f.seq q1, by rw [q3.length, hn], h.run σ F H _ Q E q3 f k⟩⟩
theorem rx_to {d e : PyData} (q : d = e) (h : RX K ta ρ O d O1) : RX K ta ρ O e O1 := q ▸ h
end
end TL

/-! sorted(set(t)) of a tuple of ints -/
namespace L2
open PySem PySem.Spec PyProof.Rows
def tSortSet (K : PySem.W.Frag) (ta : TE) : TE := fun σ H Q => ta σ H fun x H1 => ∃ (p : Addr) (ns : List Int), x = V.ref p ∧ SqT K H1 p (ns.map V.int) ∧ ns.length < 64 ∧ ∀ (out : List Int) (q : Addr), out.Pairwise (· < ·) → (∀ k : Int, k ∈ out ↔ k ∈ ns) → H1 q = none → Q (.ref q) (upd H1 q (.lst (out.map V.int)))
section
variable {X : Cx}
theorem pe_sortSet {a : Expr} {ta : TE} {p p2 q pos : Pos} (hc : X.calm = true) (hg : Gl X "sorted") (hm : X.mg "sorted" = none) (hg2 : Gl X "set") (hm2 : X.mg "set" = none) (ha : PE X a ta)
    (na : starEach [a] X.env = (false, eval a X.env) :: starEach [] X.env := by rfl) : PE X (.Call (.Name "sorted" p) [.Call (.Name "set" p2) [a] [] q] [] pos) (tSortSet X.K ta) := by
  refine ⟨fun pins s σ H Q I h => ?_⟩
  refine Call_ (ld_blt I hg hm PyProof.Rows.boot_sorted ?_)
  refine PyProof.Rows.callWith_builtin1 (PyProof.Rows.args_cons ?_ rfl) rfl rfl
  refine Call_ (ld_blt I hg2 hm2 PyProof.Rows.boot_set ?_)
  refine PyProof.Rows.callWith_type1 (PyProof.Rows.args_cons (thn (ha.run pins s σ H _ I h) fun v s1 ⟨x, H1, I1, r1, q1⟩ => PyProof.Rows.args_nil ?_) na) na rfl
  obtain ⟨l, ns, rfl, hq, h64, q1⟩ := q1
  cases r1
  obtain ⟨its, rv, pt, hz⟩ := I1.tuple hq
  have hi : IntsAre its.toArray.toList ns := ints_of_vals rv
  have hd := I1.ok.hd hc
  refine call_set_tupI ns hd (show s1.heap.IsTuple l its.toArray from pt) hi (by unfold scanBound; omega) fun h' tk c R1 hcn k => ?_
  refine PyProof.Rows.args_nil ?_
  have I2 : Inv X pins σ H1 { s1 with heap := h', toks := tk } := I1.kept fun b o e => k b o e
  refine sorted_set R1 hd (by omega) fun s' p out c ns' kk g o hp hg hi' hs hm hl => ?_
  have hlen : (ns'.map V.int).length ≤ sizeLine := by rw [List.length_map, hl, sizeLine_eq]; omega
  have hn : H1 p = none := I2.hok.fresh hp
  have J : Inv X pins σ (upd H1 p (.lst (ns'.map V.int))) { ({ s1 with heap := h', toks := tk } : Shared) with heap := s'.heap, gens := s'.gens, drawn := s'.drawn, toks := s'.toks } :=
    I2.call (ch := []) (Un.laid kk hp hn) (I2.hok.laid kk hp ⟨hlen, out.toList, c, vals_of_ints hi', hg⟩) (by rw [g]; exact I2.bare) (fun _ z => nomatch z)
  have e : s' = { ({ s1 with heap := h', toks := tk } : Shared) with heap := s'.heap, gens := s'.gens, drawn := s'.drawn, toks := s'.toks } := by
    cases s'
    cases s1
    cases o
    rfl
  rw [e]
  exact ⟨.ref p, _, J, rfl, q1 ns' p hs (fun j => (hm j).trans decide_eq_true_iff) hn⟩
end
end L2
namespace TL
open PySem L2
open Enc
/-! ### what is told of it -/
def insI (x : Int) : List Int → List Int
  | [] => [x]
  | y :: ys => if x < y then x :: y :: ys else if x = y then y :: ys else y :: insI x ys
def setI (ns : List Int) : List Int := ns.foldr insI []
theorem mem_insI {x k : Int} : ∀ {l : List Int}, k ∈ insI x l ↔ k = x ∨ k ∈ l
  | [] => by simp [insI]
  | y :: ys => by
    unfold insI
    split
    · simp
    · split
      · rename_i e; subst e; simp
      · rw [List.mem_cons, mem_insI, List.mem_cons]
        constructor
        · rintro (h | h | h)
          · exact Or.inr (Or.inl h)
          · exact Or.inl h
          · exact Or.inr (Or.inr h)
        · rintro (h | h | h)
          · exact Or.inr (Or.inl h)
          · exact Or.inl h
          · exact Or.inr (Or.inr h)
theorem insI_up {x : Int} : ∀ {l : List Int}, l.Pairwise (· < ·) → (insI x l).Pairwise (· < ·)
  | [], _ => List.pairwise_singleton ..
  | y :: ys, h => by
    have h' := List.pairwise_cons.mp h
    unfold insI
    split
    · rename_i c
      refine List.pairwise_cons.mpr ⟨fun k hk => ?_, h⟩
      rcases List.mem_cons.mp hk with e | e
      · rw [e]; exact c
      · have := h'.1 k e; omega
    · split
      · exact h
      · refine List.pairwise_cons.mpr ⟨fun k hk => ?_, insI_up h'.2⟩
        rcases mem_insI.mp hk with e | e
        · omega
        · exact h'.1 k e
theorem mem_setI {k : Int} : ∀ {ns : List Int}, k ∈ setI ns ↔ k ∈ ns
  | [] => Iff.rfl
  | x :: ns => by
    show k ∈ insI x (setI ns) ↔ _
    rw [mem_insI, mem_setI, List.mem_cons]
theorem len_insI (x : Int) : ∀ l : List Int, (insI x l).length ≤ l.length + 1
  | [] => Nat.le_refl _
  | y :: ys => by
    have := len_insI x ys
    unfold insI
    split
    · simp
    · split
      · simp
      · simp; omega
theorem len_setI : ∀ ns : List Int, (setI ns).length ≤ ns.length
  | [] => Nat.le_refl _
  | x :: ns => by
    have := len_setI ns
    have := len_insI x (setI ns)
    show (insI x (setI ns)).length ≤ _
    rw [List.length_cons]
    omega
theorem setI_up : ∀ ns : List Int, (setI ns).Pairwise (· < ·)
  | [] => List.Pairwise.nil
  | x :: ns => insI_up (setI_up ns)
theorem up_same : ∀ {l t : List Int}, l.Pairwise (· < ·) → t.Pairwise (· < ·) → (∀ k, k ∈ l ↔ k ∈ t) → l = t
  | [], [], _, _, _ => rfl
  | [], b :: t, _, _, h => by have := (h b).mpr (List.mem_cons_self ..); cases this
  | a :: l, [], _, _, h => by have := (h a).mp (List.mem_cons_self ..); cases this
  | a :: l, b :: t, hl, ht, h => by
    have hl' := List.pairwise_cons.mp hl
    have ht' := List.pairwise_cons.mp ht
    have e : a = b := by
      rcases List.mem_cons.mp ((h a).mp (List.mem_cons_self ..)) with q | q
      · exact q
      · rcases List.mem_cons.mp ((h b).mpr (List.mem_cons_self ..)) with r | r
        · exact r.symm
        · have := ht'.1 a q
          have := hl'.1 b r
          omega
    subst e
    rw [up_same hl'.2 ht'.2 fun k => ⟨fun q => ?_, fun q => ?_⟩]
    · rcases List.mem_cons.mp ((h k).mp (List.mem_cons_of_mem _ q)) with r | r
      · have := hl'.1 k q; omega
      · exact r
    · rcases List.mem_cons.mp ((h k).mpr (List.mem_cons_of_mem _ q)) with r | r
      · have := ht'.1 k q; omega
      · exact r
def setIO (ns : List Int) : Option (List Int) := if ns.length < 64 then some (setI ns) else none
theorem up_nd {l : List Int} (h : l.Pairwise (· < ·)) : l.Nodup := h.imp fun {a b} q => by omega
section
variable {K : Fg} {ta tb : TE} {ρ : List Sl} {O O1 O2 : Os}
theorem rxo_sortSet {ns r : List Int} (e : setIO ns = some r) (ha : RX K ta ρ O (.tuple (ns.map .int)) O1) : RXo K (tSortSet K ta) ρ O (r.map .int) O1 := ⟨fun _ _ _ _ _ _ Q E S k => ha.go E S fun x F1 H1 f1 E1 S1 r1 => by
  unfold setIO at e
  split at e
  · rename_i h64
    cases e
    cases r1 with
    | tup q1 q2 q3 =>
    have hv := q3.ints
    subst hv
    refine ⟨_, ns, rfl, same_t S1.fh q1, h64, fun out q hs hm hn => ?_⟩
    have e2 := up_same hs (setI_up ns) fun k => (hm k).trans mem_setI.symm
    subst e2
    refine k q F1 _ f1 (S1.mine hn ?_ (RpAll.of_ints _))
    have := len_setI ns
    rw [List.length_map, sizeLine_eq]
    omega
  · cases e⟩
theorem rx_inIQ {x : Int} {xs : Sq Int} {neg : Bool} (ha : RX K ta ρ O (.int x) O1) (hb : RX K tb ρ O1 (enc xs) O2) : RX K (tOp (rIn K neg) ta tb) ρ O (.bool (if neg then !decide (x ∈ xs.l) else decide (x ∈ xs.l))) O2 := by
  obtain ⟨t, l⟩ := xs
  cases t with
  | true => exact rx_inIT ha hb
  | false => exact rx_inI ha (RX.s hb)
end
end TL

namespace TL
open PySem L2
open Enc
/-! ### a tuple so many times -/
def repTO {α : Type} (xs : List α) (k : Int) : Option (List α) := if (1 ≤ xs.length ∧ xs.length ≤ 1000) ∧ 2 ≤ k ∧ k ≤ 1000 then some (List.replicate k.toNat xs).flatten else none
section
variable {K : Fg} {ta tb : TE} {ρ : List Sl} {O O1 O2 : Os}
theorem rx_repT {α : Type} {f : α → PyData} {xs zs : List α} {i : Int} (h : repTO xs i = some zs) (ha : RX K ta ρ O (.tuple (xs.map f)) O1) (hb : RX K tb ρ O1 (.int i) O2) : RX K (tOp (rRepT K) ta tb) ρ O (.tuple (zs.map f)) O2 := ⟨fun _ _ _ _ _ _ Q E S k =>
  ha.go E S fun x F1 H1 f1 E1 S1 r1 => hb.go E1 S1 fun y F2 H2 f2 E2 S2 r2 => by
    have r1' := r1.up f2
    unfold repTO at h
    split at h
    · rename_i hc
      cases h
      cases r2
      cases r1' with
      | @tup _ vs _ q1 q2 q3 =>
        have e1 := q3.length
        rw [List.length_map] at e1
        refine ⟨_, i, vs, rfl, rfl, same_t S2.fh q1, fun z => by rw [z] at e1; simp at e1; omega, hc.2.1, hc.2.2, by omega, fun p hp => ?_⟩
        have f3 := same_upd (o := .tup (List.replicate i.toNat vs).flatten) (S2.nof hp)
        have e : (List.replicate i.toNat xs).flatten.map f = (List.replicate i.toNat (xs.map f)).flatten := by rw [List.map_flatten, List.map_replicate]
        rw [e] at k
        have rr := (q3.rep i.toNat).up f3
        refine k _ _ _ ((f1.trans f2).trans f3) (S2.put hp) (.tup (SqT.of upd_same) ?_ rr)
        rw [rr.length, sizeLine_eq]
        have : (List.replicate i.toNat (xs.map f)).flatten.length = i.toNat * xs.length := by rw [List.length_flatten, List.map_replicate, List.sum_replicate_nat, List.length_map]
        rw [this]
        have := Nat.mul_le_mul (show i.toNat ≤ 1000 by omega) hc.1.2
        omega
    · cases h⟩
end
theorem k_repT {X : Cx} (K : Fg) (hK : X.K = K := by rfl) : OpR X (binaryOp .Mult) (rRepT K) := by subst hK; exact op_repT
end TL

namespace TL
open PySem L2
open Enc
/-! ### pots = _law_pots(..); pot = pots[0]; for one in pots[1:] -/
section
variable {K : Fg} {te ta : TE} {ρ : List Sl} {O O1 O2 : Os} {F0 H0 F H : Hp} {D0 : List Addr} {σ : L2.St} {D : Ends} {E0 : XK}
theorem pots_ne (ns : List Int) : ∃ c cs, potsL ns = c :: cs := by
  unfold potsL
  split
  · exact ⟨0, [], rfl⟩
  · rename_i h
    rw [show cutL ns none (some (63 : Int)) = ns.take 63 by
      unfold cutL HT.sIx
      simp only
      rw [if_neg (by omega), List.drop_zero]
      show ns.take (min 63 ns.length - 0) = _
      rw [Nat.sub_zero, ← List.take_eq_take_min]]
    cases ns with
    | nil => exact absurd rfl h
    | cons c cs => exact ⟨c, cs.take 62, rfl⟩
theorem st_pots {ns : List Int} {jp : Nat} (ha : RX K te ρ O (.list (ns.map .int)) O) (E : EnvR K F σ ρ) (S : Hx K F0 H0 D0 F O H)
    (k : ∀ p ps c cs σ' F' H', potsL ns = c :: cs → ps.length = cs.length → Same F F' → EnvR K F' σ' (ρ.set jp (.lol (p :: ps))) → Hx K F0 H0 D0 F' (⟨p, true, ([c, 0] : List Int).map enc⟩ :: (potsOs ps cs ++ O)) H' → D.nx σ' H') :
    tAsg (tCall (SpPots K) [] E0 (tCons te tNil)) (gName jp) D σ H := ha.go E S fun x F1 H1 f1 E1 S1 r1 => by
  refine ⟨F1, ns, .cons r1 .nil, S1.fh, fun L ps H2 g1 g2 g3 g4 g5 g6 g7 g8 => ?_⟩
  have S2 := S1.pots g1 g2 g3 g4 g5 g6 g7 g8
  have fu : Same F1 (upd F1 L (.lst (ps.map .ref))) := same_upd (S1.nof g2)
  obtain ⟨c, cs, e⟩ := pots_ne ns
  rw [e] at g6 S2
  cases ps with
  | nil => simp at g6
  | cons p ps =>
    have hl : ps.length = cs.length := by simpa using g6
    have hz : (p :: ps).length ≤ sizeLine := by
      have : (potsL ns).length ≤ 63 := by
        unfold potsL
        split
        · decide
        · unfold cutL HT.sIx
          simp only
          rw [if_neg (by omega), List.drop_zero, List.length_take]
          show min (min 63 ns.length - 0) ns.length ≤ 63
          omega
      rw [e] at this
      rw [sizeLine_eq, List.length_cons]
      rw [List.length_cons] at this
      omega
    exact k p ps c cs _ _ H2 e hl (f1.trans fu) (EnvR.set (s := some (.ref L)) (r := .lol (p :: ps)) ⟨L, rfl, SqL.of upd_same, hz⟩ jp (E1.up fu)) S2
theorem st_pots1 {ns : List Int} {jp : Nat} {c : Int} (hc : (potsL ns).head? = some c) (ha : RX K te ρ [] (.list (ns.map .int)) []) (E : EnvR K F σ ρ) (S : Hx K F0 H0 D0 F [] H)
    (k : ∀ p ps σ' F' H', ps.length = (potsL ns).tail.length → Same F F' → EnvR K F' σ' (ρ.set jp (.lol (p :: ps))) → Hx K F0 H0 D0 F' (⟨p, true, ([c, 0] : List Int).map enc⟩ :: potsOs ps (potsL ns).tail) H' → D.nx σ' H') :
    tAsg (tCall (SpPots K) [] E0 (tCons te tNil)) (gName jp) D σ H := st_pots ha E S fun p ps c' cs σ' F' H' e hl f E' S' => by
  rw [e] at hc
  obtain rfl := Option.some.inj hc
  rw [List.append_nil] at S'
  refine k p ps σ' F' H' ?_ f E' ?_
  · rw [e]; exact hl
  · rw [e]; exact S'
theorem st_pot0 {p : Addr} {ps : List Addr} {i j : Nat} (hs : ρ[i]? = some (.lol (p :: ps))) (E : EnvR K F σ ρ) (S : Hx K F0 H0 D0 F O H)
    (k : ∀ σ', EnvR K F σ' (ρ.set j (.adr p)) → D.nx σ' H) : tAsg (tOp (rIxL K) (tVar i) (tC (.int 0))) (gName j) D σ H := by
  obtain ⟨s, h1, t, rfl, h2, h3⟩ := E.at hs
  refine ⟨_, h1, t, _, 0, .ref p, rfl, rfl, S.fh.seq h2, ?_, k _ (E.seta j)⟩
  unfold L2.atI ixN
  rw [if_pos (Int.le_refl 0), if_pos (by rw [List.length_map, List.length_cons]; omega)]
  rfl
/-- for one in pots[1:], what else is own being dropped -/
theorem st_forPs {R : Type} {p : Addr} {ps : List Addr} {cs : List Int} {Ow : Os} {tl th : TO} {i j : Nat} {tb : TS} {f : Int → Unit → Option (Fl Unit R)} {fl : Fl Unit R} (ρ1 : List Sl) (hs : ρ[i]? = some (.lol (p :: ps)))
    (E : EnvR K F σ ρ) (S0 : Hx K F0 H0 D0 F (Ow ++ potsOs ps cs) H) (hl : ps.length = cs.length) (ho : RO K tl ρ (Ow ++ potsOs ps cs) (some 1) (Ow ++ potsOs ps cs)) (hh : RO K th ρ (Ow ++ potsOs ps cs) none (Ow ++ potsOs ps cs))
    (hf : forF f cs () = some fl) (hW : Wk ρ ρ1)
    (kn : ∀ s, fl = .nx s → ∀ σ' F' H', Same F F' → EnvR K F' σ' ρ1 → Hx K F0 H0 D0 F' [] H' → D.nx σ' H')
    (body : ∀ c out, f c () = some out → (∀ r, out = .rt r → fl = .rt r) → ∀ σ1 F1 H1 p Or, Same F F1 → EnvR K F1 σ1 (ρ1.set j (.adr p)) → Hx K F0 H0 D0 F1 (⟨p, true, ([c, 0] : List Int).map enc⟩ :: Or) H1 →
      ∀ (N B : L2.St → Hp → Prop), (∀ s, out = .nx s → ∀ σ' F' H', Same F1 F' → EnvR K F' σ' ρ1 → Hx K F0 H0 D0 F' Or H' → N σ' H') → (∀ s, out = .bk s → ∀ σ' F' H', Same F1 F' → EnvR K F' σ' ρ1 → Hx K F0 H0 D0 F' Or H' → B σ' H') → tb { D with nx := N, ct := N, bk := B } σ1 H1) :
    tFor (iList K (tSl (rSlL K) (tVar i) tl th)) (gName j) tb D σ H := by
  obtain ⟨s, h1, t, rfl, h2, h3⟩ := E.at hs
  refine ⟨_, h1, ho.go E S0 fun F1 H1 f1 E1 S1 => hh.go E1 S1 fun F2 H2 f2 E2 S2 => ?_⟩
  refine ⟨t, _, rfl, (f1.trans (f2.trans S2.fh)).seq h2, fun L hL => ?_⟩
  have hc : cutV ((p :: ps).map V.ref) (some 1) none = ps.map V.ref := by
    unfold cutV HT.sIx
    simp only
    rw [if_neg (by omega), List.length_map, List.length_cons]
    rw [show min (1 : Int).toNat (ps.length + 1) = 1 by show min 1 _ = 1; omega]
    show (ps.map V.ref).take _ = _
    exact List.take_of_length_le (by rw [List.length_map]; omega)
  rw [hc]
  have S3 : Hx K F0 H0 D0 (upd F2 L (.lst (ps.map .ref))) (Ow ++ potsOs ps cs) (upd H2 L (.lst (ps.map .ref))) := S2.put hL
  have fu : Same F2 (upd F2 L (.lst (ps.map .ref))) := same_upd (S2.nof hL)
  refine ⟨L, rfl, ⟨_, SqL.of upd_same⟩, ?_⟩
  have hlen : (ps.map V.ref).length = ps.length := List.length_map _
  refine for_it (walk_list (K := K) (a := L) (xs := ps.map V.ref)) (fun i σ H => ∃ F2, Same F F2 ∧ F2 L = some (.lst (ps.map .ref)) ∧ EnvR K F2 σ ρ1 ∧ Hx K F0 H0 D0 F2 (potsOs (ps.drop i) (cs.drop i)) H ∧ forF f (cs.drop i) () = some fl)
    ⟨_, (f1.trans f2).trans fu, upd_same, (E2.up fu).weak hW, S3.sub (List.sublist_append_right _ _), hf⟩ (fun i σ H _ q => by obtain ⟨F2, _, q2, _, q4, _⟩ := q; exact SqL.of (q4.fh _ _ q2)) (fun i x σ H H' hi q y => ?_) (fun σ H q => ?_)
  · obtain ⟨F2, q1, q2, q3, q4, q5⟩ := q
    obtain ⟨e, y⟩ := y
    subst e
    rw [hlen] at hi
    have hi2 : i < cs.length := by omega
    have hx : x = V.ref ps[i] := by
      rw [List.getElem?_map, List.getElem?_eq_getElem hi] at y
      exact (Option.some.inj y).symm
    subst hx
    rw [drop_cons hi2] at q4 q5
    rw [drop_cons hi] at q4
    obtain ⟨out, e1, q5⟩ := bindE q5
    refine body _ out e1 (fun r eo => ?_) _ F2 H' ps[i] (potsOs (ps.drop (i + 1)) (cs.drop (i + 1))) q1 (q3.seta j) q4 _ _ (fun s eo σ' F' H2 ff E' S' => ?_) (fun s eo σ' F' H2 ff E' S' => ?_)
    · subst eo
      exact (Option.some.inj q5).symm
    · subst eo
      exact ⟨F', q1.trans ff, ff _ _ q2, E', S', q5⟩
    · subst eo
      exact kn s (Option.some.inj q5).symm σ' F' H2 (q1.trans ff) E' (S'.sub (List.nil_sublist _))
  · obtain ⟨F2, q1, q2, q3, q4, q5⟩ := q
    rw [hlen, hl, List.drop_length] at q5
    exact kn () (Option.some.inj q5).symm σ F2 H q1 q3 (q4.sub (List.nil_sublist _))
/-! ### xs.pop(i), xs.insert(i, y) of an own list, i not below 0 -/
def popO {α : Type} (xs : List α) (i : Int) : Option (α × List α) := if 0 ≤ i ∧ i < 16777216 then (xs[i.toNat]?).map fun x => (x, xs.eraseIdx i.toNat) else none
def insO {α : Type} (xs : List α) (i : Int) (x : α) : Option (List α) := if (0 ≤ i ∧ i < 16777216) ∧ xs.length < 16777216 then some (xs.take i.toNat ++ [x] ++ xs.drop i.toNat) else none
theorem map_eraseIdx {α β : Type} (f : α → β) : ∀ (l : List α) (j : Nat), (l.map f).eraseIdx j = (l.eraseIdx j).map f
  | [], _ => rfl
  | _ :: _, 0 => rfl
  | x :: l, j + 1 => by
    show f x :: (l.map f).eraseIdx j = f x :: (l.eraseIdx j).map f
    rw [map_eraseIdx f l j]
theorem popO_map {α β : Type} (f : α → β) {xs : List α} {i : Int} {r : α × List α} (h : popO xs i = some r) : popO (xs.map f) i = some (f r.1, r.2.map f) := by
  unfold popO at h ⊢
  split at h
  · rename_i c
    rw [if_pos c, List.getElem?_map]
    obtain ⟨x, hx, rfl⟩ := Option.map_eq_some_iff.mp h
    rw [hx]
    show some (f x, (xs.map f).eraseIdx i.toNat) = some (f x, (xs.eraseIdx i.toNat).map f)
    rw [map_eraseIdx]
  · cases h
theorem RpAll.erase {vs : List V} {ds : List PyData} : ∀ (n : Nat), RpAll K F vs ds → RpAll K F (vs.eraseIdx n) (ds.eraseIdx n) := fun n h => by
  induction n generalizing vs ds with
  | zero =>
    cases h with
    | nil => exact .nil
    | cons r t => exact t
  | succ n ih =>
    cases h with
    | nil => exact .nil
    | cons r t => exact .cons r (ih t)
theorem rx_pop {i j : Nat} {a : Addr} {nw : Bool} {ds ds' : List PyData} {n : Int} {d : PyData} (hn : popO ds n = some (d, ds')) (hs : ρ[i]? = some (.adr a)) (h : RX K te ρ O (.int n) O1) (hj0 : ∃ e, O[j]? = some ⟨a, nw, e⟩) (hj : O1[j]? = some ⟨a, nw, ds⟩) :
    RX K (tBM K "list" rPopAt (tVar i) (tCons te tNil)) ρ O d (O1.set j ⟨a, nw, ds'⟩) := ⟨fun _ _ _ _ _ _ Q E S k => by
  obtain ⟨e0, hj0⟩ := hj0
  obtain ⟨_, _, _, vs0, g0, _⟩ := S.get hj0
  refine ⟨_, E.adr hs, .inl ⟨rfl, _, .inl (.inl g0)⟩, h.go E S fun v F1 H1 f1 E1 S1 r1 => ?_⟩
  obtain ⟨g1, g2, g3, vs, g4, g5, g6⟩ := S1.get hj
  have g4 : H1 a = some (.lst vs) := g4
  have g5 : vs.length ≤ sizeLine := g5
  have g6 : RpAll K F1 vs ds := g6
  cases r1
  unfold popO at hn
  split at hn
  · rename_i hc
    obtain ⟨x, hx, e⟩ := Option.map_eq_some_iff.mp hn
    cases e
    obtain ⟨y, hy, ry⟩ := g6.get hx
    have lt := (List.getElem?_eq_some_iff.mp hy).1
    refine ⟨a, vs, n, n.toNat, y, rfl, rfl, g4, by omega, by omega, ?_, hy, k _ F1 _ f1 (S1.mut hj ?_ (g6.erase _)) ry⟩
    · unfold seqIndex?
      first
        | (rw [if_neg (by omega)]; rfl)
        | (simp; omega)
    · have := List.length_eraseIdx_le vs n.toNat
      omega
  · cases hn⟩
theorem st_insert {i j : Nat} {a : Addr} {nw : Bool} {ds ds' : List PyData} {n : Int} {d : PyData} (hn : insO ds n d = some ds') (hs : ρ[i]? = some (.adr a)) (h1 : RX K te ρ O (.int n) O1) (h2 : RX K ta ρ O1 d O2) (hj0 : ∃ e, O[j]? = some ⟨a, nw, e⟩) (hj : O2[j]? = some ⟨a, nw, ds⟩)
    (E : EnvR K F σ ρ) (S : Hx K F0 H0 D0 F O H) (k : ∀ F' H', Same F F' → EnvR K F' σ ρ → Hx K F0 H0 D0 F' (O2.set j ⟨a, nw, ds'⟩) H' → D.nx σ H') :
    tDrop (tBM K "list" (fun x vs H Q => ∃ (l : Addr) (xs : List V) (i : Int) (y : V), x = .ref l ∧ vs = [.int i, y] ∧ H l = some (.lst xs) ∧ xs.length < sizeLine ∧ 0 ≤ i ∧ i < 2 ^ 63 ∧
    Q .non (upd H l (.lst (xs.take i.toNat ++ [y] ++ xs.drop i.toNat)))) (tVar i) (tCons te (tCons ta tNil))) D σ H := by
  obtain ⟨e0, hj0⟩ := hj0
  obtain ⟨_, _, _, vs0, g0, _⟩ := S.get hj0
  refine ⟨_, E.adr hs, .inl ⟨rfl, _, .inl (.inl g0)⟩, h1.go E S fun u F1 H1 f1 E1 S1 r1 => h2.go E1 S1 fun v F2 H2 f2 E2 S2 r2 => ?_⟩
  obtain ⟨g1, g2, g3, vs, g4, g5, g6⟩ := S2.get hj
  have g4 : H2 a = some (.lst vs) := g4
  have g6 : RpAll K F2 vs ds := g6
  cases r1
  unfold insO at hn
  split at hn
  · rename_i hc
    cases hn
    have e := g6.length
    refine ⟨a, vs, n, v, rfl, rfl, g4, by rw [sizeLine_eq]; omega, by omega, by omega, k F2 _ (f1.trans f2) E2 (S2.mut hj ?_ (((g6.take _).append (.cons r2 .nil)).append (g6.drop _)))⟩
    rw [List.length_append, List.length_append, List.length_take, List.length_drop, List.length_singleton, sizeLine_eq]
    omega
  · cases hn
theorem insO_map {α β : Type} (f : α → β) {xs : List α} {i : Int} {x : α} {r : List α} (h : insO xs i x = some r) : insO (xs.map f) i (f x) = some (r.map f) := by
  unfold insO at h ⊢
  split at h
  · rename_i c
    cases h
    rw [if_pos (by rw [List.length_map]; exact c)]
    simp
  · cases h
end
end TL

/-! x = {}; for one in sets: for place in one: x[place] = True; sorted(x) -/
namespace TL
open PySem L2
open Enc
instance {α β γ δ : Type} [Enc α] [DecidableEq α] [EqD α] [EqT α] [Enc β] [DecidableEq β] [EqD β] [EqT β] [Enc γ] [DecidableEq γ] [EqD γ] [EqT γ] [Enc δ] [DecidableEq δ] [EqD δ] [EqT δ] : EqT (T4 α β γ δ) := ⟨fun x => by
  show (EqD.ok x.a && (EqD.ok x.b && (EqD.ok x.c && EqD.ok x.d))) = true
  rw [EqT.ok, EqT.ok, EqT.ok, EqT.ok]; rfl⟩
def addK (ks : List Int) (k : Int) : List Int := if k ∈ ks then ks else ks ++ [k]
def addKO (k : Int) (ks : List Int) : Option (List Int) := if ks.length < 16777216 then some (addK ks k) else none
def knownO (sets : List (Tp Int)) : Option (List Int) := forS (fun (t : Tp Int) ks => forS addKO t.l ks) sets []
def sortKO (ks : List Int) : Option (List Int) := if ks.length < 64 then some (sortI ks) else none
theorem keyB_any {k : Int} : ∀ {ks : List Int}, ((keyB ks).any fun kv => decide (kv.1 = (Sum.inl k : Key))) = decide (k ∈ ks)
  | [] => by simp [keyB]
  | j :: ks => by
    have ih := keyB_any (k := k) (ks := ks)
    show (decide ((Sum.inl j : Key) = Sum.inl k) || (keyB ks).any fun kv => decide (kv.1 = (Sum.inl k : Key))) = _
    rw [ih]
    by_cases e : j = k
    · subst e; simp
    · have e1 : ¬ (Sum.inl j : Key) = Sum.inl k := fun z => e (Sum.inl.inj z)
      have e2 : ¬ k = j := fun z => e z.symm
      rw [decide_eq_false e1, Bool.false_or]
      simp [e2]
theorem keyB_put (ks : List Int) (k : Int) : putK (keyB ks) (Sum.inl k : Key) (V.bl true) = keyB (addK ks k) := by
  unfold putK addK
  rw [keyB_any]
  by_cases h : k ∈ ks
  · rw [if_pos (decide_eq_true h), if_pos h]
    unfold keyB
    rw [List.map_map]
    refine List.map_congr_left fun j _ => ?_
    show (if (Sum.inl j : Key) = Sum.inl k then ((Sum.inl j : Key), V.bl true) else (Sum.inl j, V.bl true)) = _
    split <;> rfl
  · rw [if_neg (by simp [h]), if_neg h]
    unfold keyB
    rw [List.map_append]
    rfl
section
variable {K : Fg} {te ta : TE} {ρ : List Sl} {O O1 O2 : Os} {F0 H0 F H : Hp} {D0 : List Addr} {σ : L2.St} {D : Ends} {E0 : XK}
theorem EnvR.len (h : EnvR K F σ ρ) : σ.length = ρ.length := by
  induction h with
  | nil => rfl
  | cons _ _ ih => rw [List.length_cons, List.length_cons, ih]
theorem set_same {σ : L2.St} {i : Nat} {s : Option V} (h : σ[i]? = some s) : σ.set i s = σ := by
  apply List.ext_getElem?
  intro j
  by_cases e : i = j
  · subst e; rw [h, List.getElem?_set_self (List.getElem?_eq_some_iff.mp h).1]
  · rw [List.getElem?_set_ne e]
theorem Hx.loose (S : Hx K F0 H0 D0 F O H) {p : Addr} {o : HO} (h : H p = none) : Hx K F0 H0 D0 F O (upd H p o) := by
  refine ⟨S.f0, S.fh.trans (same_upd h), fun a u e n => ?_, fun a u e => ?_, S.new, fun q hq => ?_, S.nd⟩
  · have := S.keep a u e n
    rw [upd_ne (ne_of_none this h)]
    exact this
  · obtain ⟨u', e'⟩ := S.live a u e
    exact ⟨u', by rw [upd_ne (ne_of_none e' h)]; exact e'⟩
  · obtain ⟨h1, h2, h3, vs', h4, h5, h6⟩ := S.own q hq
    exact ⟨h1, h2, h3, vs', by rw [upd_ne (ne_of_none h4 h)]; exact h4, h5, h6⟩
theorem Hx.off (S : Hx K F0 H0 D0 F O H) {p : Addr} {kvs : List (Key × V)} (hp : H p = some (.dK kvs)) {q : OE} (hq : q ∈ O) : q.a ≠ p := by
  obtain ⟨_, _, _, vs', h4, _⟩ := S.own q hq
  rintro e
  rw [e, hp] at h4
  cases h4
theorem Hx.turn (S : Hx K F0 H0 D0 F O H) {p : Addr} {kvs : List (Key × V)} {o : HO} (hp : H p = some (.dK kvs)) (hF : F p = none) (h0 : H0 p = none) : Hx K F0 H0 D0 F O (upd H p o) := by
  refine ⟨S.f0, fun a u e => ?_, fun a u e n => ?_, fun a u e => ?_, S.new, fun q hq => ?_, S.nd⟩
  · rw [upd_ne (ne_of_none e hF)]
    exact S.fh _ _ e
  · rw [upd_ne (ne_of_none e h0)]
    exact S.keep a u e n
  · rw [upd_ne (ne_of_none e h0)]
    exact S.live a u e
  · have ne := S.off hp hq
    obtain ⟨h1, h2, h3, vs', h4, h5, h6⟩ := S.own q hq
    exact ⟨h1, h2, h3, vs', by rw [upd_ne ne]; exact h4, h5, h6⟩
theorem Hx.tie (S : Hx K F0 H0 D0 F O H) {p : Addr} {kvs : List (Key × V)} (hp : H p = some (.dK kvs)) (hF : F p = none) (h0 : H0 p = none) : Hx K F0 H0 D0 (upd F p (.dK kvs)) O H := by
  refine ⟨S.f0.trans (same_upd hF), fun a u e => ?_, S.keep, S.live, fun a u e n => ?_, fun q hq => ?_, S.nd⟩
  · unfold upd at e
    split at e
    · rename_i z
      subst z
      cases e
      exact hp
    · exact S.fh _ _ e
  · rw [upd_ne (ne_of_none e h0)]
    exact S.new a u e n
  · have ne := S.off hp hq
    obtain ⟨h1, h2, h3, vs', h4, h5, h6⟩ := S.own q hq
    exact ⟨by rw [upd_ne ne]; exact h1, h2, h3, vs', h4, h5, h6.up (same_upd hF)⟩
theorem forS_nil {α S : Type} {f : α → S → Option S} {s t : S} (h : forS f [] s = some t) : s = t := Option.some.inj h
theorem forS_cons {α S : Type} {f : α → S → Option S} {x : α} {xs : List α} {s t : S} (h : forS f (x :: xs) s = some t) : ∃ q, f x s = some q ∧ forS f xs q = some t := Option.bind_eq_some_iff.mp h
theorem st_known {sets : List (Tp Int)} {ks : List Int} {jk js j1 j2 : Nat} {rest : TS} (ρ1 : List Sl) (hk : knownO sets = some ks) (hs : ρ1[js]? = some (.val (enc sets))) (hW : Wk ρ ρ1)
    (e0 : ρ1.set jk .un = ρ1) (e1 : ρ1.set j1 .un = ρ1) (e2 : ρ1.set j2 .un = ρ1) (n1 : jk ≠ j1) (n2 : jk ≠ j2) (l0 : jk < ρ1.length) (l1 : j1 < ρ1.length) (l2 : j2 < ρ1.length)
    (E : EnvR K F σ ρ) (S : Hx K F0 H0 D0 F O H) (k : ∀ σ' F' H', Same F F' → EnvR K F' σ' (ρ1.set jk (.dkb ks)) → Hx K F0 H0 D0 F' O H' → rest D σ' H') :
    tSeq (tAsg tDNewK (gName jk)) (tSeq (tFor (iList K (tVar js)) (gName j1) (tFor (iTup K (tVar j1)) (gName j2) (sDPut (tVar jk) (tVar j2) (tC (.bl true))))) rest) D σ H := fun p hp => by
  have E1 := E.weak hW
  have hF := S.nof hp
  have h0 := S.noh0 hp
  have E2 : EnvR K F (σ.set jk (some (.ref p))) ρ1 := by
    have := EnvR.set (s := some (.ref p)) (r := .un) (K := K) (F := F) trivial jk E1
    rw [e0] at this
    exact this
  have S2 : Hx K F0 H0 D0 F O (upd H p (.dK [])) := S.loose hp
  obtain ⟨v, h1, r1⟩ := E2.val hs
  have r1 : Rp K F v (.list (sets.map enc)) := r1
  cases r1 with
  | @lst a vs _ q1 q2 q3 =>
  have hlen : vs.length = sets.length := by rw [q3.length, List.length_map]
  have hj : jk < σ.length := by rw [E1.len]; exact l0
  have hI : (σ.set jk (some (.ref p)))[jk]? = some (some (.ref p)) := List.getElem?_set_self hj
  refine ⟨_, h1, a, rfl, ⟨vs, S2.fh.seq q1⟩, ?_⟩
  refine for_it (walk_list (K := K) (a := a) (xs := vs)) (fun i σ' H' => ∃ q, forS (fun (t : Tp Int) ks => forS addKO t.l ks) (sets.drop i) q = some ks ∧ σ'[jk]? = some (some (.ref p)) ∧ EnvR K F σ' ρ1 ∧ Hx K F0 H0 D0 F O H' ∧ H' p = some (.dK (keyB q)))
    ⟨[], hk, hI, E2, S2, upd_same⟩ (fun i σ' H' _ z => by obtain ⟨_, _, _, _, z, _⟩ := z; exact z.fh.seq q1) (fun i x σ1 H1 H1' hi z y => ?_) (fun σ1 H1 z => ?_)
  · obtain ⟨q, z1, z2, z3, z4, z5⟩ := z
    obtain ⟨ey, y⟩ := y
    subst ey
    have hi2 : i < sets.length := by omega
    rw [List.drop_eq_getElem_cons hi2] at z1
    obtain ⟨q', w1, w2⟩ := forS_cons z1
    obtain ⟨d, d1, d2⟩ := q3.getV y
    have ed : d = .tuple (sets[i].l.map PyData.int) := by
      rw [List.getElem?_map, List.getElem?_eq_getElem hi2] at d1
      exact (Option.some.inj d1).symm
    subst ed
    cases d2 with
    | @tup b xs _ g1 g2 g3 =>
    have ex := g3.ints
    subst ex
    have E3 : EnvR K F (σ1.set j1 (some (.ref b))) ρ1 := by
      have := EnvR.set (s := some (.ref b)) (r := .un) (K := K) (F := F) trivial j1 z3
      rw [e1] at this
      exact this
    have hj1 : j1 < σ1.length := by rw [z3.len]; exact l1
    refine ⟨_, List.getElem?_set_self hj1, b, rfl, ⟨_, same_t z4.fh g1⟩, ?_⟩
    refine for_it (walk_tup (K := K) (a := b) (xs := sets[i].l.map V.int)) (fun m σ' H' => ∃ q, forS addKO (sets[i].l.drop m) q = some q' ∧ σ'[jk]? = some (some (.ref p)) ∧ EnvR K F σ' ρ1 ∧ Hx K F0 H0 D0 F O H' ∧ H' p = some (.dK (keyB q)))
      ⟨q, w1, ?_, E3, z4, z5⟩ (fun i σ' H' _ z => by obtain ⟨_, _, _, _, z, _⟩ := z; exact same_t z.fh g1) (fun m x σ2 H2 H2' hm z y => ?_) (fun σ2 H2 z => ?_)
    · rw [List.getElem?_set_ne (Ne.symm n1)]; exact z2
    · obtain ⟨q, z1, z2, z3, z4, z5⟩ := z
      obtain ⟨ey, y⟩ := y
      subst ey
      rw [List.length_map] at hm
      rw [List.drop_eq_getElem_cons hm] at z1
      obtain ⟨q2, w1, w2⟩ := forS_cons z1
      have hx : x = V.int sets[i].l[m] := by
        rw [List.getElem?_map, List.getElem?_eq_getElem hm] at y
        exact (Option.some.inj y).symm
      subst hx
      unfold addKO at w1
      split at w1
      · rename_i c
        cases w1
        have hj2 : j2 < σ2.length := by rw [z3.len]; exact l2
        have E4 : EnvR K F (σ2.set j2 (some (.int sets[i].l[m]))) ρ1 := by
          have := EnvR.set (s := some (.int sets[i].l[m])) (r := .un) (K := K) (F := F) trivial j2 z3
          rw [e2] at this
          exact this
        have hJ : (σ2.set j2 (some (.int sets[i].l[m])))[jk]? = some (some (.ref p)) := by rw [List.getElem?_set_ne (Ne.symm n2)]; exact z2
        have hd := DPut.k (H := H2') (a := p) (kvs := keyB q) (k := Sum.inl sets[i].l[m]) (v := .bl true) z5 (by unfold keyB; rw [List.length_map, sizeLine_eq]; omega)
        rw [keyB_put] at hd
        refine ⟨_, hJ, _, List.getElem?_set_self hj2, p, _, rfl, hd, _, w2, hJ, E4, z4.turn z5 hF h0, upd_same⟩
      · cases w1
    · obtain ⟨q, z1, z2, z3, z4, z5⟩ := z
      rw [List.length_map, List.drop_length] at z1
      have := forS_nil z1
      subst this
      exact ⟨q, w2, z2, z3, z4, z5⟩
  · obtain ⟨q, z1, z2, z3, z4, z5⟩ := z
    rw [hlen, List.drop_length] at z1
    have := forS_nil z1
    subst this
    refine k σ1 (upd F p (.dK (keyB q))) H1 (same_upd hF) ?_ (z4.tie z5 hF h0)
    have := EnvR.set (s := some (.ref p)) (r := .dkb q) (K := K) (F := upd F p (.dK (keyB q))) ⟨p, rfl, upd_same⟩ jk (z3.up (same_upd hF))
    rw [set_same z2] at this
    exact this
/-! ### sorted of it -/
def rSortDI : List V → Hp → VK → Prop := fun xs H Q => ∃ (a : Addr) (kvs : List (Key × V)) (ks : List Int), xs = [.ref a] ∧ Rd H a (.dK kvs) ∧ kvs.map (·.1) = ks.map Sum.inl ∧ ks.length < 64 ∧
    ∀ (ys : List Int) (p : Addr), ys.Perm ks → ys.Pairwise (· ≤ ·) → H p = none → Q (.ref p) (upd H p (.lst (ys.map V.int)))
theorem k_sortDI {X : Cx} (hc : X.calm = true) : CallR X (.builtin "sorted") rSortDI := call_sortedDI hc
theorem rx_someL {l : List Int} (h : RX K ta ρ O (.list (l.map .int)) O1) : RX K ta ρ O (enc (l.map (some : Int → Option Int))) O1 := by
  have e : enc (l.map (some : Int → Option Int)) = PyData.list (l.map .int) := by
    show PyData.list ((l.map (some : Int → Option Int)).map enc) = _
    rw [List.map_map]
    rfl
  rw [e]
  exact h
theorem keyB_keys (ks : List Int) : (keyB ks).map (·.1) = ks.map (Sum.inl : Int → Key) := by
  unfold keyB
  rw [List.map_map]
  rfl
theorem rxo_sortK {i : Nat} {ks r : List Int} (h : sortKO ks = some r) (hs : ρ[i]? = some (.dkb ks)) : RXo K (tCB rSortDI (tCons (tVar i) tNil)) ρ O (r.map .int) O := ⟨fun _ _ _ _ F H Q E S k => by
  obtain ⟨s, h1, t, rfl, h2⟩ := E.at hs
  unfold sortKO at h
  split at h
  · rename_i c
    cases h
    refine ⟨_, h1, t, keyB ks, ks, rfl, .inl (S.fh _ _ h2), keyB_keys ks, c, fun ys p hp hu hn => ?_⟩
    have e := sortI_of hp hu
    subst e
    refine k p F _ (Same.refl _) (S.mine hn ?_ (RpAll.of_ints _))
    rw [List.length_map, hp.length_eq, sizeLine_eq]
    omega
  · cases h⟩
end
end TL

/-! a def that takes an own list and a list of pots; pots walked with a state -/
namespace TL
open PySem L2
open Enc
def SpW (K : Fg) (R : List PyData → List Int → PyData → List PyData → Prop) : Sp := fun vs H Q _ => ∃ F H1 D1 p L c ps cs d c', vs = [.ref p, .ref L] ∧ Hx K F H1 D1 F (⟨p, true, c⟩ :: potsOs ps cs) H ∧ (SqL K F L (ps.map .ref) ∧ ps.length ≤ sizeLine ∧ ps.length = cs.length) ∧ R c cs d c' ∧
  ∀ v F' H', Same F F' → Hx K F H1 D1 F' [⟨p, true, c'⟩] H' → Rp K F' v d → Q v H'
theorem spw_len {K : Fg} {R : List PyData → List Int → PyData → List PyData → Prop} : ∀ vs H Q E, SpW K R vs H Q E → vs.length = 2 := fun vs H Q E ⟨F, H1, D1, p, L, c, ps, cs, d, c', e, _⟩ => by
  subst e; rfl
section
variable {K : Fg} {te ta : TE} {ρ : List Sl} {O O1 O2 : Os} {F0 H0 F H : Hp} {D0 : List Addr} {σ : L2.St} {D : Ends} {E0 : XK}
theorem EnvR.startW {N : List Str} {p L : Addr} {ps : List Addr} (h : SqL K F L (ps.map .ref)) (hl : ps.length ≤ sizeLine) : EnvR K F (L2.start N [.ref p, .ref L]) (.adr p :: .lol ps :: List.replicate (N.length - 2) .un) := by
  unfold L2.start
  exact .cons rfl (.cons ⟨L, rfl, h, hl⟩ (EnvR.blank _))
theorem rx_callw {R : List PyData → List Int → PyData → List PyData → Prop} {p q : Addr} {ps : List Addr} {cs : List Int} {c c' : List PyData} {d : PyData} {i k : Nat} {tl th : TO} (hp : ρ[i]? = some (.adr p)) (hL : ρ[k]? = some (.lol (q :: ps))) (hl : ps.length = cs.length)
    (ho : RO K tl ρ (⟨p, true, c⟩ :: potsOs ps cs) (some 1) (⟨p, true, c⟩ :: potsOs ps cs)) (hh : RO K th ρ (⟨p, true, c⟩ :: potsOs ps cs) none (⟨p, true, c⟩ :: potsOs ps cs)) (hR : R c cs d c') :
    RX K (tCall (SpW K R) [] E0 (tCons (tVar i) (tCons (tSl (rSlL K) (tVar k) tl th) tNil))) ρ (⟨p, true, c⟩ :: potsOs ps cs) d [⟨p, true, c'⟩] := ⟨fun F0 H0 D0 σ F H Q E S kk => by
  obtain ⟨s, h1, t, rfl, h2, h3⟩ := E.at hL
  refine ⟨_, E.adr hp, _, h1, ho.go E S fun F1 H1 f1 E1 S1 => hh.go E1 S1 fun F2 H2 f2 E2 S2 => ?_⟩
  refine ⟨t, _, rfl, (f1.trans (f2.trans S2.fh)).seq h2, fun L hLn => ?_⟩
  have hc : cutV ((q :: ps).map V.ref) (some 1) none = ps.map V.ref := by
    unfold cutV HT.sIx
    simp only
    rw [if_neg (by omega), List.length_map, List.length_cons]
    rw [show min (1 : Int).toNat (ps.length + 1) = 1 by show min 1 _ = 1; omega]
    show (ps.map V.ref).take _ = _
    exact List.take_of_length_le (by rw [List.length_map]; omega)
  rw [hc]
  have S3 : Hx K F0 H0 D0 (upd F2 L (.lst (ps.map .ref))) (⟨p, true, c⟩ :: potsOs ps cs) (upd H2 L (.lst (ps.map .ref))) := S2.put hLn
  have fu : Same F2 (upd F2 L (.lst (ps.map .ref))) := same_upd (S2.nof hLn)
  obtain ⟨H1', D1', S4, back⟩ := Hx.fr (O := ⟨p, true, c⟩ :: potsOs ps cs) (X := []) (by rw [List.append_nil]; exact S3)
  have hz : ps.length ≤ sizeLine := by rw [List.length_cons] at h3; omega
  refine ⟨_, H1', D1', p, L, c, ps, cs, d, c', rfl, S4, ⟨SqL.of upd_same, hz, hl⟩, hR, fun v F' H' ff S' r => kk v F' H' (((f1.trans f2).trans fu).trans ff) ?_ r⟩
  have := back F' [⟨p, true, c'⟩] H' S'
  rw [List.append_nil] at this
  exact this⟩
/-- a list of pots walked, with a state -/
theorem st_forPS {S : Type} {ps : List Addr} {cs : List Int} {i j : Nat} {tb : TS} {f : Int → S → Option S} {s0 s1 : S} (ρf : S → List Sl) (Of : S → Os) (hs : ρ[i]? = some (.lol ps))
    (E : EnvR K F σ ρ) (S0 : Hx K F0 H0 D0 F (Of s0 ++ potsOs ps cs) H) (hl : ps.length = cs.length) (hf : forS f cs s0 = some s1) (hW : Wk ρ (ρf s0))
    (kn : ∀ σ' F' H', Same F F' → EnvR K F' σ' (ρf s1) → Hx K F0 H0 D0 F' (Of s1) H' → D.nx σ' H')
    (body : ∀ c s s', f c s = some s' → ∀ σ1 F1 H1 p Or, Same F F1 → EnvR K F1 σ1 ((ρf s).set j (.adr p)) → Hx K F0 H0 D0 F1 (⟨p, true, ([c, 0] : List Int).map enc⟩ :: (Of s ++ Or)) H1 →
      ∀ (N B : L2.St → Hp → Prop), (∀ σ' F' H', Same F1 F' → EnvR K F' σ' (ρf s') → Hx K F0 H0 D0 F' (Of s' ++ Or) H' → N σ' H') → tb { D with nx := N, ct := N, bk := B } σ1 H1) :
    tFor (iList K (tVar i)) (gName j) tb D σ H := by
  obtain ⟨s, h1, t, rfl, h2, h3⟩ := E.at hs
  have hlen : (ps.map V.ref).length = ps.length := List.length_map _
  refine ⟨_, h1, t, rfl, ⟨_, S0.fh.seq h2⟩, ?_⟩
  refine for_it (walk_list (K := K) (a := t) (xs := ps.map V.ref)) (fun i σ H => ∃ F2 s, Same F F2 ∧ EnvR K F2 σ (ρf s) ∧ Hx K F0 H0 D0 F2 (Of s ++ potsOs (ps.drop i) (cs.drop i)) H ∧ forS f (cs.drop i) s = some s1)
    ⟨F, s0, Same.refl _, E.weak hW, S0, hf⟩ (fun i σ H _ q => by obtain ⟨F2, s, q1, _, q4, _⟩ := q; exact (q1.trans q4.fh).seq h2) (fun i x σ H H' hi q y => ?_) (fun σ H q => ?_)
  · obtain ⟨F2, s, q1, q3, q4, q5⟩ := q
    obtain ⟨e, y⟩ := y
    subst e
    rw [hlen] at hi
    have hi2 : i < cs.length := by omega
    have hx : x = V.ref ps[i] := by
      rw [List.getElem?_map, List.getElem?_eq_getElem hi] at y
      exact (Option.some.inj y).symm
    subst hx
    rw [drop_cons hi2] at q4 q5
    rw [drop_cons hi] at q4
    obtain ⟨s', e1, q5⟩ := forS_cons q5
    have q4' := q4.perm (O' := ⟨ps[i], true, ([cs[i], 0] : List Int).map enc⟩ :: (Of s ++ potsOs (ps.drop (i + 1)) (cs.drop (i + 1)))) List.perm_middle
    exact body _ s s' e1 _ F2 H' ps[i] (potsOs (ps.drop (i + 1)) (cs.drop (i + 1))) q1 (EnvR.seta q3 j) q4' _ _ fun σ' F' H2 ff E' S' => ⟨F', s', q1.trans ff, E', S', q5⟩
  · obtain ⟨F2, s, q1, q3, q4, q5⟩ := q
    rw [hlen, hl, List.drop_length] at q5
    have := forS_nil q5
    subst this
    exact kn σ F2 H q1 q3 (q4.sub (List.sublist_append_left _ _))
end
end TL

namespace TL
open PySem L2
/-- it is told, and what is told is so -/
def Ok {α : Type} (m : Option α) (P : α → Prop) : Prop := ∃ r, m = some r ∧ P r
namespace Ok
variable {α β γ S R : Type}
theorem pure {P : α → Prop} {r : α} (h : P r) : Ok (some r) P := ⟨r, rfl, h⟩
theorem bind {m : Option α} {f : α → Option β} {P : α → Prop} {Q : β → Prop} (h : Ok m P) (k : ∀ r, P r → Ok (f r) Q) : Ok (m.bind f) Q := by
  obtain ⟨r, e, p⟩ := h
  subst e
  exact k r p
theorem bindE {m : Option α} {f : α → Option β} {P : α → Prop} {Q : β → Prop} (h : Ok m P) (k : ∀ r, m = some r → P r → Ok (f r) Q) : Ok (m.bind f) Q := by
  obtain ⟨r, e, p⟩ := h
  have := k r e p
  subst e
  exact this
theorem lt {x : α} {f : α → Option β} {Q : β → Prop} (k : Ok (f x) Q) : Ok ((some x).bind f) Q := k
theorem mono {m : Option α} {P Q : α → Prop} (h : Ok m P) (k : ∀ r, P r → Q r) : Ok m Q := by
  obtain ⟨r, e, p⟩ := h
  exact ⟨r, e, k r p⟩
theorem ite {c : Prop} [Decidable c] {a b : Option α} {Q : α → Prop} (h : c → Ok a Q) (k : ¬c → Ok b Q) : Ok (if c then a else b) Q := by
  split
  · exact h ‹_›
  · exact k ‹_›
theorem eqv {m : Option α} {P : α → Prop} {v : α} (h : Ok m P) (k : ∀ r, P r → r = v) : m = some v := by
  obtain ⟨r, e, p⟩ := h
  rw [e, k r p]
theorem forS {f : α → S → Option S} (I : S → Prop) : ∀ (xs : List α) (s : S), I s → (∀ x ∈ xs, ∀ s, I s → Ok (f x s) I) → Ok (forS f xs s) I
  | [], s, h, _ => ⟨s, rfl, h⟩
  | x :: xs, s, h, k => bind (k x (List.mem_cons_self ..) s h) fun s' h' => Ok.forS I xs s' h' fun y hy => k y (List.mem_cons_of_mem _ hy)
/-- the state by what was gone through -/
theorem forSd {f : α → S → Option S} (I : List α → S → Prop) : ∀ (xs ds : List α) (s : S), I ds s → (∀ x ds rs s, I ds s → ds ++ x :: rs = ds ++ xs.drop (ds.length - ds.length) ∨ True → x ∈ xs → Ok (f x s) (I (ds ++ [x]))) → Ok (TL.forS f xs s) (I (ds ++ xs))
  | [], ds, s, h, _ => ⟨s, rfl, by rw [List.append_nil]; exact h⟩
  | x :: xs, ds, s, h, k => bind (k x ds xs s h (.inr trivial) (List.mem_cons_self ..)) fun s' h' => by
      have := Ok.forSd I xs (ds ++ [x]) s' h' fun y ds' rs s q _ m => k y ds' rs s q (.inr trivial) (List.mem_cons_of_mem _ m)
      rw [List.append_assoc] at this
      exact this
/-- the state by how many were gone through -/
theorem forSi {f : α → S → Option S} (I : Nat → S → Prop) : ∀ (xs : List α) (n : Nat) (s : S), I n s → (∀ (i : Nat) (x : α) (s : S), xs[i]? = some x → I (n + i) s → Ok (f x s) (I (n + i + 1))) → Ok (TL.forS f xs s) (I (n + xs.length))
  | [], n, s, h, _ => ⟨s, rfl, h⟩
  | x :: xs, n, s, h, k => bind (k 0 x s rfl h) fun s' h' => by
      have := Ok.forSi I xs (n + 1) s' h' fun i y s e q => by
        have := k (i + 1) y s e (by rw [show n + (i + 1) = n + 1 + i by omega]; exact q)
        rw [show n + (i + 1) + 1 = n + 1 + i + 1 by omega] at this
        exact this
      rw [show n + 1 + xs.length = n + (x :: xs).length by simp; omega] at this
      exact this
/-- gone through whole -/
theorem forF {f : α → S → Option (Fl S R)} (I : S → Prop) : ∀ (xs : List α) (s : S), I s → (∀ x ∈ xs, ∀ s, I s → Ok (f x s) fun r => ∃ s', r = .nx s' ∧ I s') → Ok (forF f xs s) fun r => ∃ s', r = .nx s' ∧ I s'
  | [], s, h, _ => ⟨.nx s, rfl, s, rfl, h⟩
  | x :: xs, s, h, k => by
    obtain ⟨r, e, s', rfl, h'⟩ := k x (List.mem_cons_self ..) s h
    have := Ok.forF I xs s' h' fun y hy => k y (List.mem_cons_of_mem _ hy)
    unfold TL.forF
    rw [e]
    exact this
theorem mapO {f : α → Option β} {P : α → β → Prop} : ∀ (xs : List α), (∀ x ∈ xs, Ok (f x) (P x)) → Ok (mapO f xs) fun ys => ys.length = xs.length ∧ ∀ (i : Nat) x y, xs[i]? = some x → ys[i]? = some y → P x y
  | [], _ => ⟨[], rfl, rfl, fun i x y h => by simp at h⟩
  | x :: xs, h => bind (h x (List.mem_cons_self ..)) fun y hy => bind (Ok.mapO xs fun z hz => h z (List.mem_cons_of_mem _ hz)) fun ys hys => ⟨_, rfl, by simp [hys.1], fun i u v hu hv => by
    cases i with
    | zero => simp at hu hv; subst hu; subst hv; exact hy
    | succ i => exact hys.2 i u v hu hv⟩
theorem mapS {f : α → S → Option (β × S)} (P : α → β → Prop) (I : S → Prop) : ∀ (xs : List α) (s : S), I s → (∀ x ∈ xs, ∀ s, I s → Ok (f x s) fun r => P x r.1 ∧ I r.2) → Ok (mapS f xs s) fun r => I r.2 ∧ r.1.length = xs.length ∧ ∀ (i : Nat) x y, xs[i]? = some x → r.1[i]? = some y → P x y
  | [], s, h, _ => ⟨([], s), rfl, h, rfl, fun i x y h => by simp at h⟩
  | x :: xs, s, h, k => bind (k x (List.mem_cons_self ..) s h) fun r hr => bind (Ok.mapS P I xs r.2 hr.2 fun z hz => k z (List.mem_cons_of_mem _ hz)) fun ys hys => ⟨_, rfl, hys.1, by simp [hys.2.1], fun i u v hu hv => by
    cases i with
    | zero => simp at hu hv; subst hu; subst hv; exact hr.1
    | succ i => exact hys.2.2 i u v hu hv⟩
theorem atI {xs : List α} {i : Int} (h0 : 0 ≤ i) (h1 : i < xs.length) : Ok (atI xs i) fun x => xs[i.toNat]? = some x := by
  unfold L2.atI ixN
  rw [if_pos h0, if_pos h1]
  have : i.toNat < xs.length := by omega
  exact ⟨xs[i.toNat], by simp [this], by simp [this]⟩
theorem atIN {xs : List α} {i : Int} (h0 : i < 0) (h1 : 0 ≤ i + xs.length) : Ok (L2.atI xs i) fun x => xs[(i + xs.length).toNat]? = some x := by
  unfold L2.atI ixN
  rw [if_neg (by omega), if_pos (by omega)]
  have : (i + xs.length).toNat < xs.length := by omega
  exact ⟨xs[(i + xs.length).toNat], by simp [this], by simp [this]⟩
theorem setO {xs : List α} {i : Int} {x : α} (h0 : 0 ≤ i) (h1 : i < xs.length) : Ok (setO xs i x) fun r => r = xs.set i.toNat x := by
  unfold TL.setO ixN
  rw [if_pos h0, if_pos h1]
  exact ⟨_, rfl, rfl⟩
theorem appO {xs : List α} {x : α} (h : xs.length < 16777216) : Ok (appO xs x) fun r => r = xs ++ [x] := by
  unfold TL.appO
  rw [if_pos h]
  exact ⟨_, rfl, rfl⟩
theorem modO {i j : Int} (h : 0 < j) : Ok (modO i j) fun r => r = i % j ∧ 0 ≤ r ∧ r < j := by
  unfold TL.modO
  rw [if_pos h]
  exact ⟨_, rfl, rfl, Int.emod_nonneg _ (by omega), Int.emod_lt_of_pos _ h⟩
theorem fdivO {i j : Int} (h : 0 < j) (h1 : j < 1073741824) : Ok (fdivO i j) fun r => r = i / j := by
  unfold TL.fdivO
  rw [if_pos ⟨h, h1⟩]
  exact ⟨_, rfl, rfl⟩
theorem mulO {i j : Int} (h : -18446744073709551616 < i) (h1 : i < 18446744073709551616) : Ok (mulO i j) fun r => r = i * j := by
  unfold TL.mulO
  rw [if_pos (.inl ⟨h, h1⟩)]
  exact ⟨_, rfl, rfl⟩
theorem rngO {n : Int} (h : -4611686018427387904 ≤ n) (h1 : n ≤ 16777216) : Ok (rngO n) fun r => r = rngL 0 n.toNat := by
  unfold TL.rngO
  rw [if_pos ⟨h, h1⟩]
  exact ⟨_, rfl, rfl⟩
theorem repO1 {x : α} {i : Int} (h : -9223372036854775808 ≤ i) (h1 : i ≤ 16777216) : Ok (repO [x] i) fun r => r = List.replicate i.toNat x := by
  unfold TL.repO
  rw [if_pos ⟨by simp; omega, by omega, by omega⟩]
  refine ⟨_, rfl, ?_⟩
  generalize i.toNat = n
  induction n with
  | zero => rfl
  | succ n ih => rw [List.replicate_succ, List.replicate_succ, List.flatten_cons, ih]; rfl
theorem maxO {xs : List Int} (h : xs ≠ []) : Ok (maxO xs) fun m => m ∈ xs ∧ ∀ x ∈ xs, x ≤ m := by
  unfold TL.maxO
  cases e : xs.max? with
  | none => rw [List.max?_eq_none_iff] at e; exact absurd e h
  | some m =>
    rw [List.max?_eq_some_iff] at e
    exact ⟨m, rfl, e⟩
theorem eqO [Enc α] [DecidableEq α] [EqD α] {x y : α} (h : EqD.ok x = true) (h1 : EqD.ok y = true) : Ok (eqO x y) fun r => r = decide (x = y) := by
  unfold TL.eqO
  rw [if_pos ⟨h, h1⟩]
  exact ⟨_, rfl, rfl⟩
end Ok
theorem mem_rngL {x lo : Int} {n : Nat} : x ∈ rngL lo n ↔ lo ≤ x ∧ x < lo + n := by
  unfold rngL
  rw [List.mem_map]
  constructor
  · rintro ⟨i, hi, rfl⟩
    rw [List.mem_range] at hi
    omega
  · rintro ⟨h1, h2⟩
    exact ⟨(x - lo).toNat, List.mem_range.mpr (by omega), by omega⟩
theorem rngL_get {x lo : Int} {n i : Nat} (h : (rngL lo n)[i]? = some x) : i < n ∧ x = lo + i := by
  unfold rngL at h
  rw [List.getElem?_map] at h
  have hi : i < n := by
    rcases Nat.lt_or_ge i n with q | q
    · exact q
    · rw [List.getElem?_eq_none (by simp; exact q)] at h; cases h
  rw [List.getElem?_eq_getElem (by simp; exact hi)] at h
  simp at h
  exact ⟨hi, h.symm⟩
theorem mem_get {α : Type} {xs : List α} {x : α} (h : x ∈ xs) : ∃ i : Nat, xs[i]? = some x := List.mem_iff_getElem?.mp h
theorem get_mem {α : Type} {xs : List α} {x : α} {i : Nat} (h : xs[i]? = some x) : x ∈ xs := List.mem_iff_getElem?.mpr ⟨i, h⟩
theorem get_lt {α : Type} {xs : List α} {x : α} {i : Nat} (h : xs[i]? = some x) : i < xs.length := by
  rcases Nat.lt_or_ge i xs.length with q | q
  · exact q
  · rw [List.getElem?_eq_none q] at h; cases h
theorem lt_get {α : Type} {xs : List α} {i : Nat} (h : i < xs.length) : ∃ x, xs[i]? = some x := ⟨xs[i], List.getElem?_eq_getElem h⟩
theorem cutL_to {α : Type} (xs : List α) (n : Int) (h : 0 ≤ n) : cutL xs none (some n) = xs.take n.toNat := by
  unfold cutL HT.sIx
  simp only
  rw [if_neg (by omega)]
  simp only [List.drop_zero, Nat.sub_zero]
  rcases Nat.le_total n.toNat xs.length with q | q
  · rw [Nat.min_eq_left q]
  · rw [Nat.min_eq_right q, List.take_of_length_le (Nat.le_refl _), List.take_of_length_le q]
/-- each y of the told list belongs to an x -/
theorem all_of {α β : Type} {xs : List α} {ys : List β} {P : α → β → Prop} (hl : ys.length = xs.length) (h : ∀ (i : Nat) x y, xs[i]? = some x → ys[i]? = some y → P x y) : ∀ y ∈ ys, ∃ x ∈ xs, P x y := fun y hy => by
  obtain ⟨i, e⟩ := mem_get hy
  obtain ⟨x, ex⟩ := lt_get (xs := xs) (i := i) (by rw [← hl]; exact get_lt e)
  exact ⟨x, get_mem ex, h i x y ex e⟩
theorem all_to {α β : Type} {xs : List α} {ys : List β} {P : α → β → Prop} (hl : ys.length = xs.length) (h : ∀ (i : Nat) x y, xs[i]? = some x → ys[i]? = some y → P x y) : ∀ x ∈ xs, ∃ y ∈ ys, P x y := fun x hx => by
  obtain ⟨i, e⟩ := mem_get hx
  obtain ⟨y, ey⟩ := lt_get (xs := ys) (i := i) (by rw [hl]; exact get_lt e)
  exact ⟨y, get_mem ey, h i x y e ey⟩
end TL
namespace TL
theorem mem_dec {α : Type} (P : α → Prop) [DecidablePred P] {xs : List α} (h : xs.all (fun x => decide (P x)) = true) : ∀ x ∈ xs, P x := fun x hx => of_decide_eq_true (List.all_eq_true.mp h x hx)
end TL
namespace TL
open PySem L2
/-- an item of a list of whole numbers, 0 outside -/
def at0 (D : List Int) (i : Int) : Int := (D[i.toNat]?).getD 0
theorem at0_of {D : List Int} {i : Int} {x : Int} (h : D[i.toNat]? = some x) : at0 D i = x := by unfold at0; rw [h]; rfl
theorem at0_app (D : List Int) (x i : Int) (h0 : 0 ≤ i) : at0 (D ++ [x]) i = if i < D.length then at0 D i else if i = D.length then x else 0 := by
  unfold at0
  rw [List.getElem?_append]
  split
  · rw [if_pos (by omega)]
  · rw [if_neg (by omega)]
    split
    · rename_i h; rw [show i.toNat - D.length = 0 by omega]; rfl
    · rw [List.getElem?_eq_none (by simp; omega)]; rfl
theorem at0_set (D : List Int) (x i j : Int) (h0 : 0 ≤ i) (h1 : i < D.length) (h2 : 0 ≤ j) : at0 (D.set i.toNat x) j = if j = i then x else at0 D j := by
  unfold at0
  rw [List.getElem?_set]
  by_cases e : j = i
  · subst e; rw [if_pos rfl, if_pos rfl, if_pos (by omega)]; rfl
  · rw [if_neg (by omega), if_neg e]
theorem at0_rep (n : Nat) (x i : Int) (h0 : 0 ≤ i) (h1 : i < n) : at0 (List.replicate n x) i = x := by
  unfold at0
  rw [List.getElem?_replicate, if_pos (by omega)]; rfl
theorem Ok.at0 {xs : List Int} {i : Int} (h0 : 0 ≤ i) (h1 : i < xs.length) : Ok (L2.atI xs i) fun x => x = at0 xs i := (Ok.atI h0 h1).mono fun x h => (at0_of h).symm
theorem rngC_get {a c x : Int} {n i : Nat} (h : (rngC a c n)[i]? = some x) : i < n ∧ x = a + i * c := by
  unfold rngC at h
  rw [List.getElem?_map] at h
  have hi : i < n := by
    rcases Nat.lt_or_ge i n with q | q
    · exact q
    · rw [List.getElem?_eq_none (by simp; exact q)] at h; cases h
  rw [List.getElem?_eq_getElem (by simp; exact hi)] at h
  simp at h
  exact ⟨hi, h.symm⟩
theorem rngC_length (a c : Int) (n : Nat) : (rngC a c n).length = n := by unfold rngC; simp
theorem Ok.rngDownO {a b : Int} (h1 : -16777216 ≤ a) (h2 : a ≤ 16777216) (h3 : -16777216 ≤ b) (h4 : b ≤ 16777216) (h5 : a - b ≤ 16777216) : Ok (rngDownO a b) fun r => r = rngC a (-1) (a - b).toNat := by
  unfold TL.rngDownO
  rw [if_pos ⟨h1, h2, h3, h4, h5⟩]
  exact ⟨_, rfl, rfl⟩
end TL

namespace W
open PySem L2 TL
open Enc
def top (i : Nat) : Stmt := PySem.Challenge.pw_bearfaults_k23_surest_of_turning_gates.main.body.getD i (.Pass ⟨0, 0, 0, 0⟩)
structure Bi (mg : Str → Option Value) : Prop where
  triv : True
  enumerate : mg "enumerate" = none
  int : mg "int" = none
  isinstance : mg "isinstance" = none
  len : mg "len" = none
  list : mg "list" = none
  min : mg "min" = none
  range : mg "range" = none
  sum : mg "sum" = none
  tuple : mg "tuple" = none
  zip : mg "zip" = none

def m__law_next (v_pot : (List Int)) (v_many : Int) : Option (Int × List Int) :=
(atI v_pot (1 : Int)).bind fun t1 =>
(setO v_pot (1 : Int) (t1 + (1 : Int))).bind fun u3 =>
(atI u3 (0 : Int)).bind fun t5 =>
if (decide (((10 : Int) ^ (18 : Int).toNat) ≤ t5)) = true then (
(fdivO t5 v_many).bind fun t7 =>
(setO u3 (0 : Int) t7).bind fun u9 =>
(modO t5 v_many).bind fun t13 =>
some (t13, u9))
else (
(atI u3 (1 : Int)).bind fun t15 =>
(some ((((t5 * (69621 : Int)) + (t15 * (7919 : Int))) + (13 : Int)) % (2147483647 : Int))).bind fun v17 =>
(mulO v17 v17).bind fun t19 =>
(some (t19 % (2147483629 : Int))).bind fun v21 =>
(atI u3 (1 : Int)).bind fun t27 =>
(modO ((((v21 * (48271 : Int)) + (t27 * (40692 : Int))) % (2147483587 : Int)) / (8 : Int)) v_many).bind fun t29 =>
some (t29, u3))
def R__law_next : List PyData → List PyData → PyData → List PyData → Prop := fun c ds d c' => ∃ (v_pot : (List Int)) (v_many : Int) (r : Int × List Int), c = v_pot.map enc ∧ ds = [enc (v_many : Int)] ∧ d = enc (r.1 : Int) ∧ c' = r.2.map enc ∧ m__law_next v_pot v_many = some r
def m__law_some_net (v_pot : (List Int)) (v_pots : List Int) : Option ((T3 (List (Str × Int)) (List (T3 Str (Tp Int) Bool)) (List (Str × (Tp Int)))) × List Int) :=
(m__law_next v_pot (6 : Int)).bind fun r1 =>
(some (cutL ([("a" : Str), ("bb" : Str), ("signal" : Str), ("x" : Str), ("yes" : Str), ("abcdefgh" : Str)] : (List Str)) none (some ((1 : Int) + r1.1)))).bind fun v3 =>
(some ([] : (List (T3 Str (Tp Int) Bool)))).bind fun v5 =>
(forS (S := List (T3 Str (Tp Int) Bool)) (fun (c10 : Int) (s9 : List (T3 Str (Tp Int) Bool)) => (
(some ((v3.length : Int) + (s9.length : Int))).bind fun v13 =>
(m__law_next ([c10, 0] : List Int) (min2 v13 (6 : Int))).bind fun r15 =>
(some ((Tp.mk [((v13 - (1 : Int)) - r15.1)]) : (Tp Int))).bind fun v17 =>
(some ("not" : Str)).bind fun v19 =>
(m__law_next r15.2 (3 : Int)).bind fun r21 =>
(if (decide ((0 : Int) < r21.1)) = true then (
(some ("xor" : Str)).bind fun v25 =>
(m__law_next r21.2 v13).bind fun r27 =>
(extO v17.l ((Tp.mk [r27.1]) : (Tp Int)).l).bind fun t29 =>
(some (Tp.mk t29)).bind fun v31 =>
some (v25, v31, r27.2))
else (
some (v19, v17, r21.2)) : Option (Str × (Tp Int) × List Int)).bind fun j23 =>
(m__law_next j23.2.2 (6 : Int)).bind fun r33 =>
(appO s9 (T3.mk j23.1 j23.2.1 (decide (r33.1 = (0 : Int))))).bind fun u35 =>
some u35 : Option (List (T3 Str (Tp Int) Bool)))) v_pots v5).bind fun s37 =>
(some ((v3.length : Int) + (s37.length : Int))).bind fun v39 =>
(some ([] : (List (Str × (Tp Int))))).bind fun v41 =>
(m__law_next r1.2 (6 : Int)).bind fun r44 =>
(rngO ((1 : Int) + r44.1)).bind fun l46 =>
(forS (S := List (Str × (Tp Int)) × List Int) (fun (x50 : Int) (s49 : List (Str × (Tp Int)) × List Int) => (
(signAt ("abcdef" : Str) x50).bind fun t54 =>
(catSO ("o" : Str) t54).bind fun t56 =>
(atI ([v39, (min2 v39 (8 : Int))] : (List Int)) (x50 % (2 : Int))).bind fun t58 =>
(m__law_next s49.2 t58).bind fun r60 =>
(appO s49.1 (t56, ((Tp.mk [((v39 - (1 : Int)) - r60.1)]) : (Tp Int)))).bind fun u62 =>
some (u62, r60.2) : Option (List (Str × (Tp Int)) × List Int))) l46 (v41, r44.2)).bind fun s64 =>
some ((T3.mk (v3.map (fun (x70 : Str) => ((x70, (1 : Int)) : (Str × Int)))) s37 s64.1), s64.2)
def R__law_some_net : List PyData → List Int → PyData → List PyData → Prop := fun c cs d c' => ∃ (v_pot : (List Int)) (v_pots : List Int) (r : (T3 (List (Str × Int)) (List (T3 Str (Tp Int) Bool)) (List (Str × (Tp Int)))) × List Int), c = v_pot.map enc ∧ v_pots = cs ∧ d = enc (r.1 : (T3 (List (Str × Int)) (List (T3 Str (Tp Int) Bool)) (List (Str × (Tp Int))))) ∧ c' = r.2.map enc ∧ m__law_some_net v_pot v_pots = some r
def m_all_inputs (v_net : (T3 (List (Str × Int)) (List (T3 Str (Tp Int) Bool)) (List (Str × (Tp Int))))) : Option (((List Int) × Int)) :=
(shlO (1 : Int) (v_net.a.length : Int)).bind fun t1 =>
(some ([] : (List Int))).bind fun v3 =>
(forS (S := List Int) (fun (x8 : Int) (s7 : List Int) => (
(some (((v_net.a.length : Int) - (1 : Int)) - x8)).bind fun v12 =>
(rngO t1).bind fun l14 =>
(mapO (fun (x17 : Int) => (shrO x17 v12).bind fun t24 => (shlO (Builtin.bitAnd t24 (1 : Int)) x17).bind fun t26 => some (t26 : Int)) l14).bind fun l28 =>
(appO s7 l28.sum).bind fun u30 =>
some u30 : Option (List Int))) (rngL 0 v_net.a.length) v3).bind fun s32 =>
(shlO (1 : Int) t1).bind fun t35 =>
some (s32, (t35 - (1 : Int)))
def R_all_inputs : List PyData → PyData → Prop := fun ds d => ∃ (v_net : (T3 (List (Str × Int)) (List (T3 Str (Tp Int) Bool)) (List (Str × (Tp Int))))) (r : ((List Int) × Int)), ds = [enc (v_net : (T3 (List (Str × Int)) (List (T3 Str (Tp Int) Bool)) (List (Str × (Tp Int)))))] ∧ d = enc (r : ((List Int) × Int)) ∧ m_all_inputs v_net = some r
def m_gate_bits (v_kind : Str) (v_some : (Sq Int)) (v_ones : Int) : Option (Int) :=
if (decide (v_kind = ("not" : Str))) = true then (
(atI v_some.l (0 : Int)).bind fun t3 =>
some (Builtin.bitXor v_ones t3))
else (
if (decide (v_kind = ("and" : Str))) = true then (
(atI v_some.l (0 : Int)).bind fun t9 =>
(atI v_some.l (1 : Int)).bind fun t11 =>
some (Builtin.bitAnd t9 t11))
else (
if (decide (v_kind = ("or" : Str))) = true then (
(atI v_some.l (0 : Int)).bind fun t17 =>
(atI v_some.l (1 : Int)).bind fun t19 =>
some (Builtin.bitOr t17 t19))
else (
if (decide (v_kind = ("xor" : Str))) = true then (
(atI v_some.l (0 : Int)).bind fun t25 =>
(atI v_some.l (1 : Int)).bind fun t27 =>
some (Builtin.bitXor t25 t27))
else (
(atI v_some.l (0 : Int)).bind fun t41 =>
(atI v_some.l (1 : Int)).bind fun t43 =>
(atI v_some.l (0 : Int)).bind fun t45 =>
(atI v_some.l (2 : Int)).bind fun t47 =>
(atI v_some.l (1 : Int)).bind fun t49 =>
(atI v_some.l (2 : Int)).bind fun t51 =>
some (Builtin.bitOr (Builtin.bitOr (Builtin.bitAnd t41 t43) (Builtin.bitAnd t45 t47)) (Builtin.bitAnd t49 t51))))))
def R_gate_bits : List PyData → PyData → Prop := fun ds d => ∃ (v_kind : Str) (v_some : (Sq Int)) (v_ones : Int) (r : Int), ds = [enc (v_kind : Str), enc (v_some : (Sq Int)), enc (v_ones : Int)] ∧ d = enc (r : Int) ∧ m_gate_bits v_kind v_some v_ones = some r
def m_how_many_ahead (v_net : (T3 (List (Str × Int)) (List (T3 Str (Tp Int) Bool)) (List (Str × (Tp Int))))) : Option (Int) :=
some ((v_net.a.map (fun (x6 : (Str × Int)) => (x6.2 : Int))).sum)
def R_how_many_ahead : List PyData → PyData → Prop := fun ds d => ∃ (v_net : (T3 (List (Str × Int)) (List (T3 Str (Tp Int) Bool)) (List (Str × (Tp Int))))) (r : Int), ds = [enc (v_net : (T3 (List (Str × Int)) (List (T3 Str (Tp Int) Bool)) (List (Str × (Tp Int)))))] ∧ d = enc (r : Int) ∧ m_how_many_ahead v_net = some r
def m_gone_on (v_net : (T3 (List (Str × Int)) (List (T3 Str (Tp Int) Bool)) (List (Str × (Tp Int))))) (v_first : (List Int)) (v_ones : Int) (v_turned : (Tp Int)) : Option ((List Int)) :=
(m_how_many_ahead v_net).bind fun r2 =>
(rng2O ((v_first.length : Int) - r2) (v_net.b.length : Int)).bind fun l4 =>
(forS (S := List Int) (fun (x8 : Int) (s7 : List Int) => (
(atI v_net.b x8).bind fun t12 =>
(mapO (fun (x15 : Int) => (atI s7 x15).bind fun t20 => some (t20 : Int)) t12.b.l).bind fun l22 =>
(m_gate_bits t12.a (Sq.mk false l22) v_ones).bind fun r24 =>
(if (decide (x8 ∈ v_turned.l)) = true then (
(some (Builtin.bitXor v_ones r24)).bind fun v28 =>
some v28)
else (
some r24) : Option (Int)).bind fun j26 =>
(appO s7 j26).bind fun u30 =>
some u30 : Option (List Int))) l4 v_first).bind fun s32 =>
some s32
def R_gone_on : List PyData → List PyData → Prop := fun ds es => ∃ (v_net : (T3 (List (Str × Int)) (List (T3 Str (Tp Int) Bool)) (List (Str × (Tp Int))))) (v_first : (List Int)) (v_ones : Int) (v_turned : (Tp Int)) (r : (List Int)), ds = [enc (v_net : (T3 (List (Str × Int)) (List (T3 Str (Tp Int) Bool)) (List (Str × (Tp Int))))), enc (v_first : (List Int)), enc (v_ones : Int), enc (v_turned : (Tp Int))] ∧ es = r.map enc ∧ m_gone_on v_net v_first v_ones v_turned = some r
def m_ins_wires (v_net : (T3 (List (Str × Int)) (List (T3 Str (Tp Int) Bool)) (List (Str × (Tp Int))))) (v_own : (Sq Int)) (v_ones : Int) (v_bad : (Tp Int)) : Option ((List Int)) :=
(some ([] : (List Int))).bind fun v1 =>
(forS (S := List Int) (fun (x6 : ((Str × Int) × Int)) (s5 : List Int) => (
(rngO x6.1.2).bind fun l10 =>
(forS (S := List Int) (fun (x14 : Int) (s13 : List Int) => (
(if (decide ((s13.length : Int) ∈ v_bad.l)) = true then (
(appO s13 (Builtin.bitXor v_ones x6.2)).bind fun u20 =>
some u20)
else (
(appO s13 x6.2).bind fun u22 =>
some u22) : Option (List Int)).bind fun j18 =>
some j18 : Option (List Int))) l10 s5).bind fun s24 =>
some s24 : Option (List Int))) (v_net.a.zip v_own.l) v1).bind fun s25 =>
some s25
def R_ins_wires : List PyData → List PyData → Prop := fun ds es => ∃ (v_net : (T3 (List (Str × Int)) (List (T3 Str (Tp Int) Bool)) (List (Str × (Tp Int))))) (v_own : (Sq Int)) (v_ones : Int) (v_bad : (Tp Int)) (r : (List Int)), ds = [enc (v_net : (T3 (List (Str × Int)) (List (T3 Str (Tp Int) Bool)) (List (Str × (Tp Int))))), enc (v_own : (Sq Int)), enc (v_ones : Int), enc (v_bad : (Tp Int))] ∧ es = r.map enc ∧ m_ins_wires v_net v_own v_ones v_bad = some r
def m_all_wires (v_net : (T3 (List (Str × Int)) (List (T3 Str (Tp Int) Bool)) (List (Str × (Tp Int))))) : Option (((List Int) × Int)) :=
(m_all_inputs v_net).bind fun r1 =>
(m_ins_wires v_net (Sq.mk false r1.1) r1.2 ((Tp.mk []) : (Tp Int))).bind fun r7 =>
(m_gone_on v_net r7 r1.2 ((Tp.mk []) : (Tp Int))).bind fun r9 =>
some (r9, r1.2)
def R_all_wires : List PyData → PyData → Prop := fun ds d => ∃ (v_net : (T3 (List (Str × Int)) (List (T3 Str (Tp Int) Bool)) (List (Str × (Tp Int))))) (r : ((List Int) × Int)), ds = [enc (v_net : (T3 (List (Str × Int)) (List (T3 Str (Tp Int) Bool)) (List (Str × (Tp Int)))))] ∧ d = enc (r : ((List Int) × Int)) ∧ m_all_wires v_net = some r
def m_sets_of (v_places : (List Int)) (v_size : Int) : Option ((List (Tp Int))) :=
(some ([((Tp.mk []) : (Tp Int))] : (List (Tp Int)))).bind fun v1 =>
(rngO v_size).bind fun l3 =>
(forS (S := (List (Tp Int))) (fun (x7 : Int) (s6 : (List (Tp Int))) => (
(some ([] : (List (Tp Int)))).bind fun v11 =>
(forS (S := List (Tp Int)) (fun (x16 : (Tp Int)) (s15 : List (Tp Int)) => (
(filtO (fun (x21 : Int) => (if (decide ((x16 : (Tp Int)) = ((Tp.mk []) : (Tp Int)))) = true then some true else ((atI x16.l (-(1 : Int))).bind fun t31 => some (decide (t31 < x21)))).bind fun b33 => some b33) (fun (x21 : Int) => (extO x16.l ((Tp.mk [x21]) : (Tp Int)).l).bind fun t34 => some ((Tp.mk t34) : (Tp Int))) v_places).bind fun l36 =>
(extO s15 l36).bind fun u38 =>
some u38 : Option (List (Tp Int)))) s6 v11).bind fun s40 =>
some s40 : Option ((List (Tp Int))))) l3 v1).bind fun s41 =>
some s41
def R_sets_of : List PyData → PyData → Prop := fun ds d => ∃ (v_places : (List Int)) (v_size : Int) (r : (List (Tp Int))), ds = [enc (v_places : (List Int)), enc (v_size : Int)] ∧ d = enc (r : (List (Tp Int))) ∧ m_sets_of v_places v_size = some r
def m_free_places (v_net : (T3 (List (Str × Int)) (List (T3 Str (Tp Int) Bool)) (List (Str × (Tp Int))))) : Option ((List Int)) :=
some (((enumL v_net.b).filter (fun (x6 : (Int × (T3 Str (Tp Int) Bool))) => (!x6.2.c))).map (fun (x6 : (Int × (T3 Str (Tp Int) Bool))) => (x6.1 : Int)))
def R_free_places : List PyData → List PyData → Prop := fun ds es => ∃ (v_net : (T3 (List (Str × Int)) (List (T3 Str (Tp Int) Bool)) (List (Str × (Tp Int))))) (r : (List Int)), ds = [enc (v_net : (T3 (List (Str × Int)) (List (T3 Str (Tp Int) Bool)) (List (Str × (Tp Int)))))] ∧ es = r.map enc ∧ m_free_places v_net = some r
def m_has_within (v_sets : (List (Tp Int))) (v_some : (Tp Int)) : Option (Bool) :=
(forF (S := Unit) (R := Bool) (fun (x3 : (Tp Int)) (s2 : Unit) => (
if (decide ((((x3.l.filter (fun (x8 : Int) => (!decide (x8 ∈ v_some.l)))).map (fun (x8 : Int) => (x8 : Int))) : (List Int)) = ([] : (List Int)))) = true then (
some (.rt true))
else (
some (.nx ())) : Option (Fl (Unit) (Bool)))) v_sets ()).bind fun fl4 =>
flK fl4 (fun s11 =>
some false) some
def R_has_within : List PyData → PyData → Prop := fun ds d => ∃ (v_sets : (List (Tp Int))) (v_some : (Tp Int)) (r : Bool), ds = [enc (v_sets : (List (Tp Int))), enc (v_some : (Tp Int))] ∧ d = enc (r : Bool) ∧ m_has_within v_sets v_some = some r
def m_read_bits (v_some : (Sq Int)) : Option ((Int × Int)) :=
if (decide ((v_some.l.length : Int) = (1 : Int))) = true then (
(atI v_some.l (0 : Int)).bind fun t3 =>
some (t3, (0 : Int)))
else (
if (decide ((v_some.l.length : Int) = (2 : Int))) = true then (
(atI v_some.l (0 : Int)).bind fun t13 =>
(atI v_some.l (1 : Int)).bind fun t15 =>
(atI v_some.l (0 : Int)).bind fun t17 =>
(atI v_some.l (1 : Int)).bind fun t19 =>
some ((Builtin.bitAnd t13 t15), (Builtin.bitXor t17 t19)))
else (
(m_gate_bits ("vote" : Str) v_some (0 : Int)).bind fun r23 =>
some (r23, (0 : Int))))
def R_read_bits : List PyData → PyData → Prop := fun ds d => ∃ (v_some : (Sq Int)) (r : (Int × Int)), ds = [enc (v_some : (Sq Int))] ∧ d = enc (r : (Int × Int)) ∧ m_read_bits v_some = some r
def m_outs_read (v_net : (T3 (List (Str × Int)) (List (T3 Str (Tp Int) Bool)) (List (Str × (Tp Int))))) (v_wires : (List Int)) : Option ((List (Int × Int))) :=
(mapO (fun (x32 : (Str × (Tp Int))) => (mapO (fun (x48 : Int) => (atI v_wires x48).bind fun t53 => some (t53 : Int)) x32.2.l).bind fun l55 => (m_read_bits (Sq.mk false l55)).bind fun r57 => some (r57 : (Int × Int))) v_net.c).bind fun l59 =>
some l59
def R_outs_read : List PyData → List PyData → Prop := fun ds es => ∃ (v_net : (T3 (List (Str × Int)) (List (T3 Str (Tp Int) Bool)) (List (Str × (Tp Int))))) (v_wires : (List Int)) (r : (List (Int × Int))), ds = [enc (v_net : (T3 (List (Str × Int)) (List (T3 Str (Tp Int) Bool)) (List (Str × (Tp Int))))), enc (v_wires : (List Int))] ∧ es = r.map enc ∧ m_outs_read v_net v_wires = some r
def m_reads_with (v_net : (T3 (List (Str × Int)) (List (T3 Str (Tp Int) Bool)) (List (Str × (Tp Int))))) (v_plain : (List Int)) (v_ones : Int) (v_turned : (Tp Int)) : Option ((List (Int × Int))) :=
(if (!decide ((v_turned : (Tp Int)) = ((Tp.mk []) : (Tp Int)))) = true then (
(m_how_many_ahead v_net).bind fun r3 =>
(atI v_turned.l (0 : Int)).bind fun t5 =>
(some (cutL v_plain none (some (r3 + t5)))).bind fun v7 =>
some v7)
else (
some v_plain) : Option ((List Int))).bind fun j1 =>
(m_gone_on v_net j1 v_ones v_turned).bind fun r13 =>
(m_outs_read v_net r13).bind fun r15 =>
some r15
def R_reads_with : List PyData → List PyData → Prop := fun ds es => ∃ (v_net : (T3 (List (Str × Int)) (List (T3 Str (Tp Int) Bool)) (List (Str × (Tp Int))))) (v_plain : (List Int)) (v_ones : Int) (v_turned : (Tp Int)) (r : (List (Int × Int))), ds = [enc (v_net : (T3 (List (Str × Int)) (List (T3 Str (Tp Int) Bool)) (List (Str × (Tp Int))))), enc (v_plain : (List Int)), enc (v_ones : Int), enc (v_turned : (Tp Int))] ∧ es = r.map enc ∧ m_reads_with v_net v_plain v_ones v_turned = some r
def m_spoilt (v_net : (T3 (List (Str × Int)) (List (T3 Str (Tp Int) Bool)) (List (Str × (Tp Int))))) (v_plain : (List Int)) (v_ones : Int) (v_turned : (Tp Int)) : Option ((Int × Int)) :=
(m_reads_with v_net v_plain v_ones v_turned).bind fun r1 =>
(m_outs_read v_net v_plain).bind fun r3 =>
(forS (S := Int × Int) (fun (x7 : ((Int × Int) × (Int × Int))) (s6 : Int × Int) => (
(some (Builtin.bitOr s6.1 (Builtin.bitAnd (Builtin.bitXor x7.1.1 x7.2.1) (Builtin.bitXor v_ones x7.1.2)))).bind fun v11 =>
(some (Builtin.bitOr s6.2 x7.1.2)).bind fun v13 =>
some (v11, v13) : Option (Int × Int))) (r1.zip r3) ((0 : Int), (0 : Int))).bind fun s15 =>
some (s15.1, s15.2)
def R_spoilt : List PyData → PyData → Prop := fun ds d => ∃ (v_net : (T3 (List (Str × Int)) (List (T3 Str (Tp Int) Bool)) (List (Str × (Tp Int))))) (v_plain : (List Int)) (v_ones : Int) (v_turned : (Tp Int)) (r : (Int × Int)), ds = [enc (v_net : (T3 (List (Str × Int)) (List (T3 Str (Tp Int) Bool)) (List (Str × (Tp Int))))), enc (v_plain : (List Int)), enc (v_ones : Int), enc (v_turned : (Tp Int))] ∧ d = enc (r : (Int × Int)) ∧ m_spoilt v_net v_plain v_ones v_turned = some r
def m_broken_at (v_net : (T3 (List (Str × Int)) (List (T3 Str (Tp Int) Bool)) (List (Str × (Tp Int))))) (v_plain : (List Int)) (v_ones : Int) (v_turned : (Tp Int)) (v_level : Str) : Option (Int) :=
(m_spoilt v_net v_plain v_ones v_turned).bind fun r1 =>
if (decide (v_level = ("right" : Str))) = true then (
some (Builtin.bitOr r1.1 r1.2))
else (
some r1.1)
def R_broken_at : List PyData → PyData → Prop := fun ds d => ∃ (v_net : (T3 (List (Str × Int)) (List (T3 Str (Tp Int) Bool)) (List (Str × (Tp Int))))) (v_plain : (List Int)) (v_ones : Int) (v_turned : (Tp Int)) (v_level : Str) (r : Int), ds = [enc (v_net : (T3 (List (Str × Int)) (List (T3 Str (Tp Int) Bool)) (List (Str × (Tp Int))))), enc (v_plain : (List Int)), enc (v_ones : Int), enc (v_turned : (Tp Int)), enc (v_level : Str)] ∧ d = enc (r : Int) ∧ m_broken_at v_net v_plain v_ones v_turned v_level = some r
def m_breaking (v_net : (T3 (List (Str × Int)) (List (T3 Str (Tp Int) Bool)) (List (Str × (Tp Int))))) (v_many : Int) (v_level : Str) : Option ((List (Tp Int))) :=
(m_all_wires v_net).bind fun r1 =>
(some ([] : (List (Tp Int)))).bind fun v3 =>
(rng2O (1 : Int) (v_many + (1 : Int))).bind fun l6 =>
(forS (S := List (Tp Int)) (fun (x10 : Int) (s9 : List (Tp Int)) => (
(m_free_places v_net).bind fun r14 =>
(m_sets_of r14 x10).bind fun r16 =>
(forS (S := List (Tp Int)) (fun (x20 : (Tp Int)) (s19 : List (Tp Int)) => (
(m_has_within s9 x20).bind fun r24 =>
(if (!r24) = true then ((m_broken_at v_net r1.1 r1.2 x20 v_level).bind fun r27 => some (!decide (r27 = (0 : Int)))) else some false).bind fun b29 =>
(if b29 = true then (
(appO s19 x20).bind fun u32 =>
some u32)
else (
some s19) : Option (List (Tp Int))).bind fun j30 =>
some j30 : Option (List (Tp Int)))) r16 s9).bind fun s34 =>
some s34 : Option (List (Tp Int)))) l6 v3).bind fun s35 =>
some s35
def R_breaking : List PyData → List PyData → Prop := fun ds es => ∃ (v_net : (T3 (List (Str × Int)) (List (T3 Str (Tp Int) Bool)) (List (Str × (Tp Int))))) (v_many : Int) (v_level : Str) (r : (List (Tp Int))), ds = [enc (v_net : (T3 (List (Str × Int)) (List (T3 Str (Tp Int) Bool)) (List (Str × (Tp Int))))), enc (v_many : Int), enc (v_level : Str)] ∧ es = r.map enc ∧ m_breaking v_net v_many v_level = some r
def m_without (v_sets : (List (Tp Int))) (v_place : Int) : Option ((List (Tp Int))) :=
some ((v_sets.filter (fun (x6 : (Tp Int)) => (!decide (v_place ∈ x6.l)))).map (fun (x6 : (Tp Int)) => (x6 : (Tp Int))))
def R_without : List PyData → List PyData → Prop := fun ds es => ∃ (v_sets : (List (Tp Int))) (v_place : Int) (r : (List (Tp Int))), ds = [enc (v_sets : (List (Tp Int))), enc (v_place : Int)] ∧ es = r.map enc ∧ m_without v_sets v_place = some r
def m_can_be_met : Nat → (List (Tp Int)) → Int → Option (Bool)
  | 0, _, _ => none
  | n + 1, v_sets, v_many => (
if (decide ((v_sets : (List (Tp Int))) = ([] : (List (Tp Int))))) = true then (
some true)
else (
if (decide ((0 : Int) < v_many)) = true then (
(atI v_sets (0 : Int)).bind fun t1 =>
(forF (S := Unit) (R := Bool) (fun (x5 : Int) (s4 : Unit) => (
(m_without v_sets x5).bind fun r9 =>
(m_can_be_met n r9 (v_many - (1 : Int))).bind fun r11 =>
if r11 = true then (
some (.rt true))
else (
some (.nx ())) : Option (Fl (Unit) (Bool)))) t1.l ()).bind fun fl6 =>
flK fl6 (fun s13 =>
some false) some)
else (
some false)))
def R_can_be_met (n : Nat) : List PyData → PyData → Prop := fun ds d => ∃ (v_sets : (List (Tp Int))) (v_many : Int) (r : Bool), ds = [enc (v_sets : (List (Tp Int))), enc (v_many : Int)] ∧ d = enc (r : Bool) ∧ m_can_be_met n v_sets v_many = some r
def m_surest (v_net : (T3 (List (Str × Int)) (List (T3 Str (Tp Int) Bool)) (List (Str × (Tp Int))))) (v_many : Int) (v_level : Str) : Option ((Tp Int)) :=
(m_breaking v_net v_many v_level).bind fun r1 =>
(whileS (S := Int) (fun (s4 : Int) => (m_can_be_met 48 r1 s4).bind fun r10 => some (!r10)) (fun (s4 : Int) => (
some (s4 + (1 : Int)) : Option (Int))) FUEL (0 : Int)).bind fun s12 =>
(some ((Tp.mk []) : (Tp Int))).bind fun v13 =>
(m_free_places v_net).bind fun r15 =>
(forS (S := (Tp Int) × (List (Tp Int)) × Int) (fun (x19 : Int) (s18 : (Tp Int) × (List (Tp Int)) × Int) => (
(m_without s18.2.1 x19).bind fun r23 =>
(if (decide ((r23.length : Int) < (s18.2.1.length : Int))) = true then ((m_can_be_met 48 r23 (s18.2.2 - (1 : Int))).bind fun r26 => some r26) else some false).bind fun b28 =>
(if b28 = true then (
(extO s18.1.l ((Tp.mk [x19]) : (Tp Int)).l).bind fun t31 =>
(some (Tp.mk t31)).bind fun v33 =>
some (v33, r23, (s18.2.2 - (1 : Int))))
else (
some (s18.1, s18.2.1, s18.2.2)) : Option ((Tp Int) × (List (Tp Int)) × Int)).bind fun j29 =>
some (j29.1, j29.2.1, j29.2.2) : Option ((Tp Int) × (List (Tp Int)) × Int))) r15 (v13, r1, s12)).bind fun s35 =>
some s35.1
def R_surest : List PyData → PyData → Prop := fun ds d => ∃ (v_net : (T3 (List (Str × Int)) (List (T3 Str (Tp Int) Bool)) (List (Str × (Tp Int))))) (v_many : Int) (v_level : Str) (r : (Tp Int)), ds = [enc (v_net : (T3 (List (Str × Int)) (List (T3 Str (Tp Int) Bool)) (List (Str × (Tp Int))))), enc (v_many : Int), enc (v_level : Str)] ∧ d = enc (r : (Tp Int)) ∧ m_surest v_net v_many v_level = some r
def m__law_turning (v_net : (T3 (List (Str × Int)) (List (T3 Str (Tp Int) Bool)) (List (Str × (Tp Int))))) : Option ((List Int)) :=
(repO ([(0 : Int)] : (List Int)) ((v_net.a.length : Int) + (v_net.b.length : Int))).bind fun t1 =>
(forS (S := List Int) (fun (x6 : (Int × (Str × (Tp Int)))) (s5 : List Int) => (
(atI x6.2.2.l (0 : Int)).bind fun t10 =>
(atI s5 t10).bind fun t12 =>
(shlO (1 : Int) x6.1).bind fun t14 =>
(atI x6.2.2.l (0 : Int)).bind fun t16 =>
(setO s5 t16 (Builtin.bitXor t12 t14)).bind fun u18 =>
some u18 : Option (List Int))) (enumL v_net.c) t1).bind fun s20 =>
(rngDownO ((v_net.b.length : Int) - (1 : Int)) (-(1 : Int))).bind fun l21 =>
(forS (S := List Int) (fun (x25 : Int) (s24 : List Int) => (
(atI v_net.b x25).bind fun t29 =>
(forS (S := List Int) (fun (x33 : Int) (s32 : List Int) => (
(atI s32 x33).bind fun t37 =>
(atI s32 ((v_net.a.length : Int) + x25)).bind fun t39 =>
(setO s32 x33 (Builtin.bitXor t37 t39)).bind fun u41 =>
some u41 : Option (List Int))) t29.b.l s24).bind fun s43 =>
some s43 : Option (List Int))) l21 s20).bind fun s44 =>
some (cutL s44 (some (v_net.a.length : Int)) none)
def R__law_turning : List PyData → List PyData → Prop := fun ds es => ∃ (v_net : (T3 (List (Str × Int)) (List (T3 Str (Tp Int) Bool)) (List (Str × (Tp Int))))) (r : (List Int)), ds = [enc (v_net : (T3 (List (Str × Int)) (List (T3 Str (Tp Int) Bool)) (List (Str × (Tp Int)))))] ∧ es = r.map enc ∧ m__law_turning v_net = some r
def m_law (v_script : (List Int)) : Option (Bool) :=
((potsL (cutL v_script none (some (41 : Int)))).head?).bind fun c1 =>
(m__law_some_net ([c1, 0] : List Int) (potsL (cutL v_script none (some (41 : Int)))).tail).bind fun r6 =>
(some (((1 : Int) + (b2n (decide ((r6.1.b.length : Int) ≤ (16 : Int))))) + (b2n (decide ((r6.1.b.length : Int) ≤ (12 : Int)))))).bind fun v8 =>
(m__law_next r6.2 v8).bind fun r10 =>
(some ((1 : Int) + r10.1)).bind fun v12 =>
(m__law_next r10.2 (2 : Int)).bind fun r14 =>
(atI ([("right" : Str), ("safe" : Str)] : (List Str)) r14.1).bind fun t16 =>
(m__law_turning r6.1).bind fun r18 =>
(filtO (fun (x21 : (Int × Int)) => (if (!decide (x21.2 = (0 : Int))) = true then ((atI r6.1.b x21.1).bind fun t29 => some (!t29.c)) else some false).bind fun b31 => some b31) (fun (x21 : (Int × Int)) => some (x21.1 : Int)) (enumL r18)).bind fun l32 =>
(m_surest r6.1 v12 t16).bind fun r34 =>
if ((!true) || (!decide ((r34 : (Tp Int)) = (Tp.mk l32)))) = true then (
some false)
else (
(m_breaking r6.1 v12 t16).bind fun r43 =>
some (decide ((r43 : (List (Tp Int))) = (l32.map (fun (x46 : Int) => (((Tp.mk [x46]) : (Tp Int)) : (Tp Int)))))))
def R_law : List PyData → PyData → Prop := fun ds d => ∃ (v_script : (List Int)) (r : Bool), ds = [enc (v_script : (List Int))] ∧ d = enc (r : Bool) ∧ m_law v_script = some r
section
variable {P : Program} {w : World} {K : Fg} {mg : Str → Option Value} {base : Heap}
theorem sc__law_pots : FnScope ["script", "cell"] ["script"] (defScope (top 23)) := ⟨rfl, rfl, rfl, by decide +kernel, rfl, by decide +kernel, by decide +kernel⟩
theorem ok__law_pots (B : Bi mg) (D : Dfn K mg "_law_pots" (top 23) ["script"]) : Cal P w K mg base 1 "_law_pots" ["script"] (SpPots K) := by
  refine D.cal sc__law_pots spots_len fun f cdv A outer s H vs Q E hr h => ?_
  refine ⟨_, (pss_cons (ps_if (pt_cmpR op_eq (pe_callB (k_len_seq K) (by rfl) B.len PySem.boot_len (pa_cons (pv 0) pa_nil)) pe_int (nomark _)) (pss_one (ps_ret (pe_lst (pa_cons (pe_lst (pa_cons pe_int (pa_cons pe_int pa_nil))) pa_nil)))) pss_nil) (pss_one (ps_ret (pe_lc (own := [(("cell" : Str), 1)]) (g := (gName 1)) (tt := tYes) rfl sc__law_pots.nd (k_pi_list K (pe_slice (k_sl_list K) (pv 0) po_none (po_some pe_int))) (blkOk_by (by kernel_rfl)) (fun _ _ _ _ _ => (pg_name (i := 1) sc__law_pots.nd rfl (Or.inl rfl))) (fun _ _ _ _ _ => pts_nil) (fun _ _ _ _ _ => (pe_lst (pa_cons (pv 1) (pa_cons pe_int pa_nil)))))))), ?_⟩
  obtain ⟨F, v_script, hw, hF, k⟩ := h
  have E : EnvR K F _ [.val (enc (v_script : (List Int))), .un] := EnvR.start (N := ["script", "cell"]) (AsR.of_all hw)
  have S := Hx.start (K := K) hF
  with_reducible refine sq ?_
  try (with_reducible refine nxD ?_)
  refine st_if (b := (decide ((v_script.length : Int) = (0 : Int)))) (rt_val (rx_eqi (len_nat (f := enc) (RX.s (rx_var (d := enc (v_script : (List Int))) rfl))) rx_int)) E S (fun hc F H f E S => ?_) (fun hc F H f E S => ?_)
  · have hp : potsL v_script = [0] := if_pos (Int.ofNat_eq_zero.mp (of_decide_eq_true hc))
    exact pots_one fun L ps H' a b c d e f g h => k L ps H' (S.same.trans a) (S.noh0 b) c (fun p hp => S.noh0 (d p hp)) e (by rw [hp]; exact f) g (by rw [hp]; exact h)
  · refine nxt ?_
    try (with_reducible refine nxD ?_)
    have hp : potsL v_script = cutL v_script none (some 63) := if_neg (fun z => of_decide_eq_false hc (Int.ofNat_eq_zero.mpr z))
    exact pots_lc (cs := cutL v_script none (some 63)) (by decide) (by exact Nat.lt_succ_self 1) (RXo.frz (rxo_sliceM (f := enc) (RX.s (rx_var (d := enc (v_script : (List Int))) rfl)) ro_none (ro_some rx_int))) E S.fh fun L ps H' a b c d e f g h => k L ps H' (S.same.trans a) (S.noh0 b) c (fun p hp => S.noh0 (d p hp)) e (by rw [hp]; exact f) g (by rw [hp]; exact h)
theorem sc__law_next : FnScope ["pot", "many", "cell", "stir"] ["pot", "many"] (defScope (top 22)) := ⟨rfl, rfl, rfl, by decide +kernel, rfl, by decide +kernel, by decide +kernel⟩
theorem ok__law_next (D : Dfn K mg "_law_next" (top 22) ["pot", "many"]) : Cal P w K mg base 1 "_law_next" ["pot", "many"] (SpPo K R__law_next) := by
  refine D.cal sc__law_next (spo_len fun c ds d c' h => by obtain ⟨_, _, _, _, rfl, _⟩ := h; rfl) fun f cdv A outer s H vs Q E hr h => ?_
  refine ⟨_, (pss_cons (ps_asg (pe_op op_add (pe_ix (k_ix_list K) (pv 0) pe_int (fun _ _ => rfl)) pe_int) (pg_sub (pv 0) pe_int set_list)) (pss_cons (ps_set (i := 2) sc__law_next.nd rfl (Or.inl rfl) (pe_ix (k_ix_list K) (pv 0) pe_int (fun _ _ => rfl))) (pss_cons (ps_if (pt_cmpR op_ge (pv 2) (pe_op op_pow pe_int pe_int) (nomark _)) (pss_cons (ps_asg (pe_op op_fdiv (pv 2) (pv 1)) (pg_sub (pv 0) pe_int set_list)) (pss_one (ps_ret (pe_op op_mod (pv 2) (pv 1))))) pss_nil) (pss_cons (ps_set (i := 3) sc__law_next.nd rfl (Or.inl rfl) (pe_op op_mod (pe_op op_add (pe_op op_add (pe_op op_mul (pv 2) pe_int) (pe_op op_mul (pe_ix (k_ix_list K) (pv 0) pe_int (fun _ _ => rfl)) pe_int)) pe_int) pe_int)) (pss_cons (ps_set (i := 3) sc__law_next.nd rfl (Or.inl rfl) (pe_op op_mod (pe_op op_mul (pv 3) (pv 3)) pe_int)) (pss_one (ps_ret (pe_op op_mod (pe_op op_fdiv (pe_op op_mod (pe_op op_add (pe_op op_mul (pv 3) pe_int) (pe_op op_mul (pe_ix (k_ix_list K) (pv 0) pe_int (fun _ _ => rfl)) pe_int)) pe_int) pe_int) (pv 1))))))))), ?_⟩
  obtain ⟨F, p_pot, ws, xs, c, ds, d, c', rfl, hw, hF, hp, hH, hz, hc, ⟨v_pot, v_many, rr, rfl, rfl, rfl, rfl, hm0⟩, k⟩ := h
  have E : EnvR K F _ [.adr p_pot, .val (enc (v_many : Int)), .un, .un] := EnvR.start (N := ["pot", "many", "cell", "stir"]) (AsR.adr (AsR.of_all hw))
  have S := Hx.start1 hF hp hH hz hc
  have fc : Same F F := Same.refl F
  unfold m__law_next at hm0
  obtain ⟨t1, h2, hm0⟩ := bindE hm0
  obtain ⟨u3, h4, hm0⟩ := bindE hm0
  try (with_reducible refine nxD ?_)
  with_reducible refine sq ?_
  refine st_put (j := 0) (ds := v_pot.map enc) (d := enc ((t1 + (1 : Int)) : Int)) (setO_map enc h4) (rx_add (rx_ix (atI_map enc h2) (rxs_own (j := 0) (ds := v_pot.map enc) rfl rfl) rx_int) rx_int) rfl rx_int rfl E S fun F H f E S => ?_
  replace fc := fc.trans f
  have E : EnvR K _ _ [.adr p_pot, .val (enc (v_many : Int)), .un, .un] := E
  have S : Hx K _ _ _ _ [⟨p_pot, false, u3.map enc⟩] _ := S
  obtain ⟨t5, h6, hm0⟩ := bindE hm0
  try (with_reducible refine nxD ?_)
  with_reducible refine sq ?_
  refine st_set (i := 2) (d := enc (t5 : Int)) (rx_ix (atI_map enc h6) (rxs_own (j := 0) (ds := u3.map enc) rfl rfl) rx_int) E S fun σ F H f E S => ?_
  replace fc := fc.trans f
  have E : EnvR K _ _ [.adr p_pot, .val (enc (v_many : Int)), .val (enc (t5 : Int)), .un] := E
  have S : Hx K _ _ _ _ [⟨p_pot, false, u3.map enc⟩] _ := S
  try (with_reducible refine nxD ?_)
  with_reducible refine sq ?_
  refine st_if (b := (decide (((10 : Int) ^ (18 : Int).toNat) ≤ t5))) (rt_val (rx_ge (rx_var (d := enc (t5 : Int)) rfl) (rx_pow rx_int rx_int ⟨by decide, by decide, by decide⟩))) E S (fun hc F H f E S => ?_) (fun hc F H f E S => ?_)
  · rw [if_pos hc] at hm0
    replace fc := fc.trans f
    obtain ⟨t7, h8, hm0⟩ := bindE hm0
    obtain ⟨u9, h10, hm0⟩ := bindE hm0
    try (with_reducible refine nxD ?_)
    with_reducible refine sq ?_
    refine st_put (j := 0) (ds := u3.map enc) (d := enc (t7 : Int)) (setO_map enc h10) (rx_fdivO h8 (rx_var (d := enc (t5 : Int)) rfl) (rx_var (d := enc (v_many : Int)) rfl)) rfl rx_int rfl E S fun F H f E S => ?_
    replace fc := fc.trans f
    have E : EnvR K _ _ [.adr p_pot, .val (enc (v_many : Int)), .val (enc (t5 : Int)), .un] := E
    have S : Hx K _ _ _ _ [⟨p_pot, false, u9.map enc⟩] _ := S
    obtain ⟨t13, h14, hm0⟩ := bindE hm0
    obtain rfl := Option.some.inj hm0
    -- return
    try (with_reducible refine nxD ?_)
    refine st_ret (d := enc (t13 : Int)) (rx_modO h14 (rx_var (d := enc (t5 : Int)) rfl) (rx_var (d := enc (v_many : Int)) rfl)) E S fun v F H f S r => ?_
    obtain ⟨g1, g2, g3, ys, g4, g5, g6⟩ := S.get (j := 0) rfl
    exact k v F H ys S.stp g1 g4 g5 g6 r
  · rw [if_neg (by rw [hc]; decide)] at hm0
    replace fc := fc.trans f
    refine nxt ?_
    obtain ⟨t15, h16, hm0⟩ := bindE hm0
    obtain ⟨v17, h18, hm0⟩ := letE hm0
    try (with_reducible refine nxD ?_)
    with_reducible refine sq ?_
    refine st_set (i := 3) (d := enc (v17 : Int)) (rx_as (x := (((((t5 * (69621 : Int)) + (t15 * (7919 : Int))) + (13 : Int)) % (2147483647 : Int)) : Int)) h18 (rx_mod (rx_add (rx_add (rx_mul (rx_var (d := enc (t5 : Int)) rfl) rx_int (.inr (by decide))) (rx_mul (rx_ix (atI_map enc h16) (rxs_own (j := 0) (ds := u3.map enc) rfl rfl) rx_int) rx_int (.inr (by decide)))) rx_int) rx_int (by decide))) E S fun σ F H f E S => ?_
    replace fc := fc.trans f
    have E : EnvR K _ _ [.adr p_pot, .val (enc (v_many : Int)), .val (enc (t5 : Int)), .val (enc (v17 : Int))] := E
    have S : Hx K _ _ _ _ [⟨p_pot, false, u3.map enc⟩] _ := S
    obtain ⟨t19, h20, hm0⟩ := bindE hm0
    obtain ⟨v21, h22, hm0⟩ := letE hm0
    try (with_reducible refine nxD ?_)
    with_reducible refine sq ?_
    refine st_set (i := 3) (d := enc (v21 : Int)) (rx_as (x := ((t19 % (2147483629 : Int)) : Int)) h22 (rx_mod (rx_mulO h20 (rx_var (d := enc (v17 : Int)) rfl) (rx_var (d := enc (v17 : Int)) rfl)) rx_int (by decide))) E S fun σ F H f E S => ?_
    replace fc := fc.trans f
    have E : EnvR K _ _ [.adr p_pot, .val (enc (v_many : Int)), .val (enc (t5 : Int)), .val (enc (v21 : Int))] := E
    have S : Hx K _ _ _ _ [⟨p_pot, false, u3.map enc⟩] _ := S
    obtain ⟨t27, h28, hm0⟩ := bindE hm0
    obtain ⟨t29, h30, hm0⟩ := bindE hm0
    obtain rfl := Option.some.inj hm0
    -- return
    try (with_reducible refine nxD ?_)
    refine st_ret (d := enc (t29 : Int)) (rx_modO h30 (rx_fdiv (rx_mod (rx_add (rx_mul (rx_var (d := enc (v21 : Int)) rfl) rx_int (.inr (by decide))) (rx_mul (rx_ix (atI_map enc h28) (rxs_own (j := 0) (ds := u3.map enc) rfl rfl) rx_int) rx_int (.inr (by decide)))) rx_int (by decide)) rx_int ⟨by decide, by decide⟩) (rx_var (d := enc (v_many : Int)) rfl)) E S fun v F H f S r => ?_
    obtain ⟨g1, g2, g3, ys, g4, g5, g6⟩ := S.get (j := 0) rfl
    exact k v F H ys S.stp g1 g4 g5 g6 r
theorem sc__law_some_net : FnScope ["pot", "pots", "names", "gates", "one", "many", "wires", "kind", "outs", "k", "name"] ["pot", "pots"] (defScope (top 24)) := ⟨rfl, rfl, rfl, by decide +kernel, rfl, by decide +kernel, by decide +kernel⟩
theorem ok__law_some_net (B : Bi mg) (D : Dfn K mg "_law_some_net" (top 24) ["pot", "pots"]) (C__law_next : Cal P w K mg base 1 "_law_next" ["pot", "many"] (SpPo K R__law_next)) : Cal P w K mg base 2 "_law_some_net" ["pot", "pots"] (SpW K R__law_some_net) := by
  refine D.cal sc__law_some_net (spw_len) fun f cdv A outer s H vs Q E hr h => ?_
  refine ⟨_, (pss_cons (ps_set (i := 2) sc__law_some_net.nd rfl (Or.inl rfl) (pe_slice (k_sl_list K) (pe_lst (pa_cons pe_str (pa_cons pe_str (pa_cons pe_str (pa_cons pe_str (pa_cons pe_str (pa_cons pe_str pa_nil))))))) po_none (po_some (pe_op op_add pe_int (pe_cal C__law_next hr (pa_cons (pv 0) (pa_cons pe_int pa_nil))))))) (pss_cons (ps_set (i := 3) sc__law_some_net.nd rfl (Or.inl rfl) (pe_lst pa_nil)) (pss_cons (ps_for PassesOwn.never rfl (k_pi_list K (pv 1)) (pg_name (i := 4) sc__law_some_net.nd rfl (Or.inl rfl)) (pss_cons (ps_set (i := 5) sc__law_some_net.nd rfl (Or.inl rfl) (pe_op op_add (pe_callB (k_len_seq K) (by rfl) B.len PySem.boot_len (pa_cons (pv 2) pa_nil)) (pe_callB (k_len_seq K) (by rfl) B.len PySem.boot_len (pa_cons (pv 3) pa_nil)))) (pss_cons (ps_set (i := 6) sc__law_some_net.nd rfl (Or.inl rfl) (pe_tup (pa_cons (pe_op op_sub (pe_op op_sub (pv 5) pe_int) (pe_cal C__law_next hr (pa_cons (pv 4) (pa_cons (pe_callB (call_min2 rfl) (by rfl) B.min (by decide +kernel) (pa_cons (pv 5) (pa_cons pe_int pa_nil))) pa_nil)))) pa_nil))) (pss_cons (ps_set (i := 7) sc__law_some_net.nd rfl (Or.inl rfl) pe_str) (pss_cons (ps_if (pt_cmpR op_gt (pe_cal C__law_next hr (pa_cons (pv 4) (pa_cons pe_int pa_nil))) pe_int (nomark _)) (pss_cons (ps_set (i := 7) sc__law_some_net.nd rfl (Or.inl rfl) pe_str) (pss_one (ps_set (i := 6) sc__law_some_net.nd rfl (Or.inl rfl) (pe_op (k_catA K) (pv 6) (pe_tup (pa_cons (pe_cal C__law_next hr (pa_cons (pv 4) (pa_cons (pv 5) pa_nil))) pa_nil)))))) pss_nil) (pss_one (ps_expr (pe_bm PySem.F.plainAttrs_list PySem.F.slot_list_append PySem.F.type_list_append mt_append (pv 3) (pa_cons (pe_tup (pa_cons (pv 7) (pa_cons (pv 6) (pa_cons (pe_cmpR op_eq (pe_cal C__law_next hr (pa_cons (pv 4) (pa_cons pe_int pa_nil))) pe_int (nomark _)) pa_nil)))) pa_nil))))))))) (pss_cons (ps_set (i := 5) sc__law_some_net.nd rfl (Or.inl rfl) (pe_op op_add (pe_callB (k_len_seq K) (by rfl) B.len PySem.boot_len (pa_cons (pv 2) pa_nil)) (pe_callB (k_len_seq K) (by rfl) B.len PySem.boot_len (pa_cons (pv 3) pa_nil)))) (pss_cons (ps_set (i := 8) sc__law_some_net.nd rfl (Or.inl rfl) (pe_lst pa_nil)) (pss_cons (ps_for PassesOwn.never rfl (pi_range1 rfl B.range (pa_cons (pe_op op_add pe_int (pe_cal C__law_next hr (pa_cons (pv 0) (pa_cons pe_int pa_nil)))) pa_nil)) (pg_name (i := 9) sc__law_some_net.nd rfl (Or.inl rfl)) (pss_one (ps_expr (pe_bm PySem.F.plainAttrs_list PySem.F.slot_list_append PySem.F.type_list_append mt_append (pv 8) (pa_cons (pe_tup (pa_cons (pe_op op_add_str pe_str (pe_ix ix_str pe_str (pv 9) (fun _ _ => rfl))) (pa_cons (pe_tup (pa_cons (pe_op op_sub (pe_op op_sub (pv 5) pe_int) (pe_cal C__law_next hr (pa_cons (pv 0) (pa_cons (pe_ix (k_ix_list K) (pe_lst (pa_cons (pv 5) (pa_cons (pe_callB (call_min2 rfl) (by rfl) B.min (by decide +kernel) (pa_cons (pv 5) (pa_cons pe_int pa_nil))) pa_nil))) (pe_op op_mod (pv 9) pe_int) (fun _ _ => rfl)) pa_nil)))) pa_nil)) pa_nil))) pa_nil))))) (pss_one (ps_ret (pe_tup (pa_cons (pe_lc (own := [(("name" : Str), 10)]) (g := (gName 10)) (tt := tYes) rfl sc__law_some_net.nd (k_pi_list K (pv 2)) (blkOk_by (by kernel_rfl)) (fun _ _ _ _ _ => (pg_name (i := 10) sc__law_some_net.nd rfl (Or.inl rfl))) (fun _ _ _ _ _ => pts_nil) (fun _ _ _ _ _ => (pe_tup (pa_cons (pv 10) (pa_cons pe_int pa_nil))))) (pa_cons (pv 3) (pa_cons (pv 8) pa_nil)))))))))))), ?_⟩
  obtain ⟨F, H1, D1, p_pot, L, c, ps_pots, cs, d, c', rfl, S, ⟨hL, hz, hl_pots⟩, ⟨v_pot, v_pots, rr, rfl, rfl, rfl, rfl, hm0⟩, k⟩ := h
  have E : EnvR K F _ [.adr p_pot, .lol ps_pots, .un, .un, .un, .un, .un, .un, .un, .un, .un] := EnvR.startW (N := ["pot", "pots", "names", "gates", "one", "many", "wires", "kind", "outs", "k", "name"]) hL hz
  have fc : Same F F := Same.refl F
  unfold m__law_some_net at hm0
  obtain ⟨r1, h2, hm0⟩ := bindE hm0
  obtain ⟨v3, h4, hm0⟩ := letE hm0
  try (with_reducible refine nxD ?_)
  with_reducible refine sq ?_
  refine st_set (i := 2) (d := enc (v3 : (List Str))) (rx_as (x := ((cutL ([("a" : Str), ("bb" : Str), ("signal" : Str), ("x" : Str), ("yes" : Str), ("abcdefgh" : Str)] : (List Str)) none (some ((1 : Int) + r1.1))) : (List Str))) h4 (RXo.frz (rxo_sliceFM (f := enc) (RXo.frz (rxo_lst (ds := [enc (("a" : Str) : Str), enc (("bb" : Str) : Str), enc (("signal" : Str) : Str), enc (("x" : Str) : Str), enc (("yes" : Str) : Str), enc (("abcdefgh" : Str) : Str)]) (ra_cons (rx_str (x := ("a" : Str))) (ra_cons (rx_str (x := ("bb" : Str))) (ra_cons (rx_str (x := ("signal" : Str))) (ra_cons (rx_str (x := ("x" : Str))) (ra_cons (rx_str (x := ("yes" : Str))) (ra_cons (rx_str (x := ("abcdefgh" : Str))) ra_nil)))))))) ro_none (ro_some (rx_add rx_int (rx_callo (j := 0) (ds := [enc ((6 : Int) : Int)]) (c := v_pot.map enc) (c' := r1.2.map enc) (d := enc (r1.1 : Int)) (ra_own rfl (ra_cons rx_int ra_nil)) rfl ⟨_, _, r1, rfl, rfl, rfl, rfl, h2⟩)))))) E S fun σ F H f E S => ?_
  replace fc := fc.trans f
  have E : EnvR K _ _ [.adr p_pot, .lol ps_pots, .val (enc (v3 : (List Str))), .un, .un, .un, .un, .un, .un, .un, .un] := E
  have S : Hx K _ _ _ _ (⟨p_pot, true, r1.2.map enc⟩ :: (potsOs ps_pots v_pots)) _ := S
  obtain ⟨v5, h6, hm0⟩ := letE hm0
  try (with_reducible refine nxD ?_)
  with_reducible refine sq ?_
  refine st_setO (i := 3) (ds := v5.map enc) (rxo_as (f := enc) h6 (rxo_lst (ds := []) ra_nil)) E S fun p_gates7 σ F H f E S => ?_
  replace fc := fc.trans f
  have E : EnvR K _ _ [.adr p_pot, .lol ps_pots, .val (enc (v3 : (List Str))), .adr p_gates7, .un, .un, .un, .un, .un, .un, .un] := E
  have S : Hx K _ _ _ _ (⟨p_gates7, true, v5.map enc⟩ :: ⟨p_pot, true, r1.2.map enc⟩ :: (potsOs ps_pots v_pots)) _ := S
  obtain ⟨s37, h38, hm0⟩ := bindE hm0
  try (with_reducible refine nxD ?_)
  with_reducible refine sq ?_
  refine st_forPS (i := 1) (j := 4) (fun s9 => [.adr p_pot, .lol ps_pots, .val (enc (v3 : (List Str))), .adr p_gates7, .un, .un, .un, .un, .un, .un, .un]) (fun s9 => [⟨p_gates7, true, s9.map enc⟩, ⟨p_pot, true, r1.2.map enc⟩]) rfl E S hl_pots h38 ⟨.inl rfl, .inl rfl, .inl rfl, .inl rfl, .inr rfl, .inr rfl, .inr rfl, .inr rfl, .inr rfl, .inr rfl, .inr rfl, trivial⟩ (fun σ F H f E S => ?_) (fun c10 s9 s' h8 σ F H p_one11 Or12 _ E S N B hN => ?_)
  · replace fc := fc.trans f
    have E : EnvR K _ _ [.adr p_pot, .lol ps_pots, .val (enc (v3 : (List Str))), .adr p_gates7, .un, .un, .un, .un, .un, .un, .un] := E
    have S : Hx K _ _ _ _ [⟨p_gates7, true, s37.map enc⟩, ⟨p_pot, true, r1.2.map enc⟩] _ := S
    obtain ⟨v39, h40, hm0⟩ := letE hm0
    try (with_reducible refine nxD ?_)
    with_reducible refine sq ?_
    refine st_set (i := 5) (d := enc (v39 : Int)) (rx_as (x := (((v3.length : Int) + (s37.length : Int)) : Int)) h40 (rx_add (len_nat (f := enc) (RX.s (rx_var (d := enc (v3 : (List Str))) rfl))) (len_nat (f := enc) (rxs_own (j := 0) (ds := s37.map enc) rfl rfl)))) E S fun σ F H f E S => ?_
    replace fc := fc.trans f
    have E : EnvR K _ _ [.adr p_pot, .lol ps_pots, .val (enc (v3 : (List Str))), .adr p_gates7, .un, .val (enc (v39 : Int)), .un, .un, .un, .un, .un] := E
    have S : Hx K _ _ _ _ [⟨p_gates7, true, s37.map enc⟩, ⟨p_pot, true, r1.2.map enc⟩] _ := S
    obtain ⟨v41, h42, hm0⟩ := letE hm0
    try (with_reducible refine nxD ?_)
    with_reducible refine sq ?_
    refine st_setO (i := 8) (ds := v41.map enc) (rxo_as (f := enc) h42 (rxo_lst (ds := []) ra_nil)) E S fun p_outs43 σ F H f E S => ?_
    replace fc := fc.trans f
    have E : EnvR K _ _ [.adr p_pot, .lol ps_pots, .val (enc (v3 : (List Str))), .adr p_gates7, .un, .val (enc (v39 : Int)), .un, .un, .adr p_outs43, .un, .un] := E
    have S : Hx K _ _ _ _ [⟨p_outs43, true, v41.map enc⟩, ⟨p_gates7, true, s37.map enc⟩, ⟨p_pot, true, r1.2.map enc⟩] _ := S
    obtain ⟨r44, h45, hm0⟩ := bindE hm0
    obtain ⟨l46, h47, hm0⟩ := bindE hm0
    obtain ⟨s64, h52, hm0⟩ := bindE hm0
    try (with_reducible refine nxD ?_)
    with_reducible refine sq ?_
    refine st_forS (eα := enc) (fun s49 => [.adr p_pot, .lol ps_pots, .val (enc (v3 : (List Str))), .adr p_gates7, .un, .val (enc (v39 : Int)), .un, .un, .adr p_outs43, .un, .un]) (fun s49 => [⟨p_outs43, true, s49.1.map enc⟩, ⟨p_gates7, true, s37.map enc⟩, ⟨p_pot, true, s49.2.map enc⟩]) E S (ri_range h47 (rx_add rx_int (rx_callo (j := 2) (ds := [enc ((6 : Int) : Int)]) (c := r1.2.map enc) (c' := r44.2.map enc) (d := enc (r44.1 : Int)) (ra_own rfl (ra_cons rx_int ra_nil)) rfl ⟨_, _, r44, rfl, rfl, rfl, rfl, h45⟩))) h52 ⟨.inl rfl, .inl rfl, .inl rfl, .inl rfl, .inr rfl, .inl rfl, .inr rfl, .inr rfl, .inl rfl, .inr rfl, .inr rfl, trivial⟩ (fun σ F H f E S => ?_) (fun x50 _ s49 s' h48 σ F H v _ E S r N B hN => ?_)
    · replace fc := fc.trans f
      have E : EnvR K _ _ [.adr p_pot, .lol ps_pots, .val (enc (v3 : (List Str))), .adr p_gates7, .un, .val (enc (v39 : Int)), .un, .un, .adr p_outs43, .un, .un] := E
      have S : Hx K _ _ _ _ [⟨p_outs43, true, s64.1.map enc⟩, ⟨p_gates7, true, s37.map enc⟩, ⟨p_pot, true, s64.2.map enc⟩] _ := S
      obtain ⟨F, f, E, S⟩ := frz_at (i := 3) (j := 1) rfl rfl E S
      have E : EnvR K F _ [.adr p_pot, .lol ps_pots, .val (enc (v3 : (List Str))), .val (enc (s37 : (List (T3 Str (Tp Int) Bool)))), .un, .val (enc (v39 : Int)), .un, .un, .adr p_outs43, .un, .un] := E
      have S : Hx K _ _ _ F [⟨p_outs43, true, s64.1.map enc⟩, ⟨p_pot, true, s64.2.map enc⟩] _ := S
      replace fc := fc.trans f
      obtain ⟨F, f, E, S⟩ := frz_at (i := 8) (j := 0) rfl rfl E S
      have E : EnvR K F _ [.adr p_pot, .lol ps_pots, .val (enc (v3 : (List Str))), .val (enc (s37 : (List (T3 Str (Tp Int) Bool)))), .un, .val (enc (v39 : Int)), .un, .un, .val (enc (s64.1 : (List (Str × (Tp Int))))), .un, .un] := E
      have S : Hx K _ _ _ F [⟨p_pot, true, s64.2.map enc⟩] _ := S
      replace fc := fc.trans f
      obtain rfl := Option.some.inj hm0
      -- return
      try (with_reducible refine nxD ?_)
      refine st_ret (d := enc ((T3.mk (v3.map (fun (x70 : Str) => ((x70, (1 : Int)) : (Str × Int)))) s37 s64.1) : (T3 (List (Str × Int)) (List (T3 Str (Tp Int) Bool)) (List (Str × (Tp Int)))))) (rx_tup (ds := [enc ((v3.map (fun (x70 : Str) => ((x70, (1 : Int)) : (Str × Int)))) : (List (Str × Int))), enc (s37 : (List (T3 Str (Tp Int) Bool))), enc (s64.1 : (List (Str × (Tp Int))))]) (ra_cons (RXo.frz (rxo_map (eα := enc) (eβ := enc) (f := (fun (x70 : Str) => ((x70, (1 : Int)) : (Str × Int)))) (fun x70 => [.adr p_pot, .lol ps_pots, .val (enc (v3 : (List Str))), .val (enc (s37 : (List (T3 Str (Tp Int) Bool)))), .un, .val (enc (v39 : Int)), .un, .un, .val (enc (s64.1 : (List (Str × (Tp Int))))), .un, .val (enc (x70 : Str))]) [10] (ri_list (ys := v3.map enc) (rx_var (d := enc (v3 : (List Str))) rfl)) (by decide) (fun x70 _ => (rg_name (i := 10) (d := enc (x70 : Str)))) (fun x70 _ D71 acc72 => (rx_tup (ds := [enc (x70 : Str), enc ((1 : Int) : Int)]) (ra_cons (rx_var (d := enc (x70 : Str)) rfl) (ra_cons rx_int ra_nil)))))) (ra_cons (rx_var (d := enc (s37 : (List (T3 Str (Tp Int) Bool)))) rfl) (ra_cons (rx_var (d := enc (s64.1 : (List (Str × (Tp Int))))) rfl) ra_nil)))) E S fun v F H f S r => ?_
      exact k v F H (fc.trans f) (S.sub (List.singleton_sublist.mpr (List.mem_of_getElem? (i := 0) rfl))) r
    · refine ((rg_name (i := 9) (d := enc (x50 : Int)))).run _ _ _ _ _ E r S.fh fun σ E _ => ?_
      have E : EnvR K _ _ [.adr p_pot, .lol ps_pots, .val (enc (v3 : (List Str))), .adr p_gates7, .un, .val (enc (v39 : Int)), .un, .un, .adr p_outs43, .val (enc (x50 : Int)), .un] := E
      have S : Hx K _ _ _ _ [⟨p_outs43, true, s49.1.map enc⟩, ⟨p_gates7, true, s37.map enc⟩, ⟨p_pot, true, s49.2.map enc⟩] _ := S
      have fc : Same F F := Same.refl F
      obtain ⟨t54, h55, h48⟩ := bindE h48
      obtain ⟨t56, h57, h48⟩ := bindE h48
      obtain ⟨t58, h59, h48⟩ := bindE h48
      obtain ⟨r60, h61, h48⟩ := bindE h48
      obtain ⟨u62, h63, h48⟩ := bindE h48
      try (with_reducible refine nxD ?_)
      refine (st_app (j := 0) (ds := s49.1.map enc) (d := enc ((t56, ((Tp.mk [((v39 - (1 : Int)) - r60.1)]) : (Tp Int))) : (Str × (Tp Int)))) (appO_map enc h63) rfl (rx_tup (ds := [enc (t56 : Str), enc (((Tp.mk [((v39 - (1 : Int)) - r60.1)]) : (Tp Int)) : (Tp Int))]) (ra_cons (rx_catS h57 (rx_str (x := ("o" : Str))) (rx_ixS h55 (rx_str (x := ("abcdef" : Str))) (rx_var (d := enc (x50 : Int)) rfl))) (ra_cons (rx_tup (ds := [enc (((v39 - (1 : Int)) - r60.1) : Int)]) (ra_cons (rx_sub (rx_sub (rx_var (d := enc (v39 : Int)) rfl) rx_int) (rx_callo (j := 2) (ds := [enc (t58 : Int)]) (c := s49.2.map enc) (c' := r60.2.map enc) (d := enc (r60.1 : Int)) (ra_own rfl (ra_cons (rx_ix (ds := List.map enc ([v39, (min2 v39 (8 : Int))] : (List Int))) (d := enc (t58 : Int)) (atI_map enc h59) (RXo.s (rxo_lst (ds := [enc (v39 : Int), enc ((min2 v39 (8 : Int)) : Int)]) (ra_cons (rx_var (d := enc (v39 : Int)) rfl) (ra_cons (rx_min2 (rx_var (d := enc (v39 : Int)) rfl) rx_int) ra_nil)))) (rx_mod (rx_var (d := enc (x50 : Int)) rfl) rx_int (by decide))) ra_nil)) rfl ⟨_, _, r60, rfl, rfl, rfl, rfl, h61⟩)) ra_nil)) ra_nil))) ⟨_, rfl⟩ rfl E S fun F H f E S => ?_)
      replace fc := fc.trans f
      have E : EnvR K _ _ [.adr p_pot, .lol ps_pots, .val (enc (v3 : (List Str))), .adr p_gates7, .un, .val (enc (v39 : Int)), .un, .un, .adr p_outs43, .val (enc (x50 : Int)), .un] := E
      have S : Hx K _ _ _ _ [⟨p_outs43, true, u62.map enc⟩, ⟨p_gates7, true, s37.map enc⟩, ⟨p_pot, true, r60.2.map enc⟩] _ := S
      obtain rfl := Option.some.inj h48
      exact hN _ _ _ fc (E.weak ⟨.inl rfl, .inl rfl, .inl rfl, .inl rfl, .inr rfl, .inl rfl, .inr rfl, .inr rfl, .inl rfl, .inr rfl, .inr rfl, trivial⟩) S
  · have E : EnvR K _ _ [.adr p_pot, .lol ps_pots, .val (enc (v3 : (List Str))), .adr p_gates7, .adr p_one11, .un, .un, .un, .un, .un, .un] := E
    have S : Hx K _ _ _ _ (⟨p_one11, true, ([c10, 0] : List Int).map enc⟩ :: ⟨p_gates7, true, s9.map enc⟩ :: ⟨p_pot, true, r1.2.map enc⟩ :: Or12) _ := S
    have fc : Same F F := Same.refl F
    obtain ⟨v13, h14, h8⟩ := letE h8
    try (with_reducible refine nxD ?_)
    with_reducible refine sq ?_
    refine st_set (i := 5) (d := enc (v13 : Int)) (rx_as (x := (((v3.length : Int) + (s9.length : Int)) : Int)) h14 (rx_add (len_nat (f := enc) (RX.s (rx_var (d := enc (v3 : (List Str))) rfl))) (len_nat (f := enc) (rxs_own (j := 1) (ds := s9.map enc) rfl rfl)))) E S fun σ F H f E S => ?_
    replace fc := fc.trans f
    have E : EnvR K _ _ [.adr p_pot, .lol ps_pots, .val (enc (v3 : (List Str))), .adr p_gates7, .adr p_one11, .val (enc (v13 : Int)), .un, .un, .un, .un, .un] := E
    have S : Hx K _ _ _ _ (⟨p_one11, true, ([c10, 0] : List Int).map enc⟩ :: ⟨p_gates7, true, s9.map enc⟩ :: ⟨p_pot, true, r1.2.map enc⟩ :: Or12) _ := S
    obtain ⟨r15, h16, h8⟩ := bindE h8
    obtain ⟨v17, h18, h8⟩ := letE h8
    try (with_reducible refine nxD ?_)
    with_reducible refine sq ?_
    refine st_set (i := 6) (d := enc (v17 : (Tp Int))) (rx_as (x := (((Tp.mk [((v13 - (1 : Int)) - r15.1)]) : (Tp Int)) : (Tp Int))) h18 (rx_tup (ds := [enc (((v13 - (1 : Int)) - r15.1) : Int)]) (ra_cons (rx_sub (rx_sub (rx_var (d := enc (v13 : Int)) rfl) rx_int) (rx_callo (j := 0) (ds := [enc ((min2 v13 (6 : Int)) : Int)]) (c := ([c10, 0] : List Int).map enc) (c' := r15.2.map enc) (d := enc (r15.1 : Int)) (ra_own rfl (ra_cons (rx_min2 (rx_var (d := enc (v13 : Int)) rfl) rx_int) ra_nil)) rfl ⟨_, _, r15, rfl, rfl, rfl, rfl, h16⟩)) ra_nil))) E S fun σ F H f E S => ?_
    replace fc := fc.trans f
    have E : EnvR K _ _ [.adr p_pot, .lol ps_pots, .val (enc (v3 : (List Str))), .adr p_gates7, .adr p_one11, .val (enc (v13 : Int)), .val (enc (v17 : (Tp Int))), .un, .un, .un, .un] := E
    have S : Hx K _ _ _ _ (⟨p_one11, true, r15.2.map enc⟩ :: ⟨p_gates7, true, s9.map enc⟩ :: ⟨p_pot, true, r1.2.map enc⟩ :: Or12) _ := S
    obtain ⟨v19, h20, h8⟩ := letE h8
    try (with_reducible refine nxD ?_)
    with_reducible refine sq ?_
    refine st_set (i := 7) (d := enc (v19 : Str)) (rx_as (x := (("not" : Str) : Str)) h20 (rx_str (x := ("not" : Str)))) E S fun σ F H f E S => ?_
    replace fc := fc.trans f
    have E : EnvR K _ _ [.adr p_pot, .lol ps_pots, .val (enc (v3 : (List Str))), .adr p_gates7, .adr p_one11, .val (enc (v13 : Int)), .val (enc (v17 : (Tp Int))), .val (enc (v19 : Str)), .un, .un, .un] := E
    have S : Hx K _ _ _ _ (⟨p_one11, true, r15.2.map enc⟩ :: ⟨p_gates7, true, s9.map enc⟩ :: ⟨p_pot, true, r1.2.map enc⟩ :: Or12) _ := S
    obtain ⟨r21, h22, h8⟩ := bindE h8
    obtain ⟨j23, h24, h8⟩ := bindE h8
    try (with_reducible refine nxD ?_)
    with_reducible refine sq ?_
    refine st_ifJ (b := (decide ((0 : Int) < r21.1))) [.adr p_pot, .lol ps_pots, .val (enc (v3 : (List Str))), .adr p_gates7, .adr p_one11, .val (enc (v13 : Int)), .val (enc (j23.2.1 : (Tp Int))), .val (enc (j23.1 : Str)), .un, .un, .un] (⟨p_one11, true, j23.2.2.map enc⟩ :: ⟨p_gates7, true, s9.map enc⟩ :: ⟨p_pot, true, r1.2.map enc⟩ :: Or12) (rt_val (rx_gt (rx_callo (j := 0) (ds := [enc ((3 : Int) : Int)]) (c := r15.2.map enc) (c' := r21.2.map enc) (d := enc (r21.1 : Int)) (ra_own rfl (ra_cons rx_int ra_nil)) rfl ⟨_, _, r21, rfl, rfl, rfl, rfl, h22⟩) rx_int)) E S (fun σ F H f E S => ?_) (fun hc F H rest f E S => ?_) (fun hc F H rest f E S => ?_)
    · replace fc := fc.trans f
      obtain ⟨r33, h34, h8⟩ := bindE h8
      obtain ⟨u35, h36, h8⟩ := bindE h8
      try (with_reducible refine nxD ?_)
      refine (st_app (j := 1) (ds := s9.map enc) (d := enc ((T3.mk j23.1 j23.2.1 (decide (r33.1 = (0 : Int)))) : (T3 Str (Tp Int) Bool))) (appO_map enc h36) rfl (rx_tup (ds := [enc (j23.1 : Str), enc (j23.2.1 : (Tp Int)), enc ((decide (r33.1 = (0 : Int))) : Bool)]) (ra_cons (rx_var (d := enc (j23.1 : Str)) rfl) (ra_cons (rx_var (d := enc (j23.2.1 : (Tp Int))) rfl) (ra_cons (rx_eqi (rx_callo (j := 0) (ds := [enc ((6 : Int) : Int)]) (c := j23.2.2.map enc) (c' := r33.2.map enc) (d := enc (r33.1 : Int)) (ra_own rfl (ra_cons rx_int ra_nil)) rfl ⟨_, _, r33, rfl, rfl, rfl, rfl, h34⟩) rx_int) ra_nil)))) ⟨_, rfl⟩ rfl E S fun F H f E S => ?_)
      replace fc := fc.trans f
      have E : EnvR K _ _ [.adr p_pot, .lol ps_pots, .val (enc (v3 : (List Str))), .adr p_gates7, .adr p_one11, .val (enc (v13 : Int)), .val (enc (j23.2.1 : (Tp Int))), .val (enc (j23.1 : Str)), .un, .un, .un] := E
      have S : Hx K _ _ _ _ (⟨p_one11, true, r33.2.map enc⟩ :: ⟨p_gates7, true, u35.map enc⟩ :: ⟨p_pot, true, r1.2.map enc⟩ :: Or12) _ := S
      obtain rfl := Option.some.inj h8
      exact hN _ _ _ fc (E.weak ⟨.inl rfl, .inl rfl, .inl rfl, .inl rfl, .inr rfl, .inr rfl, .inr rfl, .inr rfl, .inr rfl, .inr rfl, .inr rfl, trivial⟩) (S.drop 0)
    · rw [if_pos hc] at h24
      have fc := f
      obtain ⟨v25, h26, h24⟩ := letE h24
      try (with_reducible refine nxD ?_)
      with_reducible refine sq ?_
      refine st_set (i := 7) (d := enc (v25 : Str)) (rx_as (x := (("xor" : Str) : Str)) h26 (rx_str (x := ("xor" : Str)))) E S fun σ F H f E S => ?_
      replace fc := fc.trans f
      have E : EnvR K _ _ [.adr p_pot, .lol ps_pots, .val (enc (v3 : (List Str))), .adr p_gates7, .adr p_one11, .val (enc (v13 : Int)), .val (enc (v17 : (Tp Int))), .val (enc (v25 : Str)), .un, .un, .un] := E
      have S : Hx K _ _ _ _ (⟨p_one11, true, r21.2.map enc⟩ :: ⟨p_gates7, true, s9.map enc⟩ :: ⟨p_pot, true, r1.2.map enc⟩ :: Or12) _ := S
      obtain ⟨r27, h28, h24⟩ := bindE h24
      obtain ⟨t29, h30, h24⟩ := bindE h24
      obtain ⟨v31, h32, h24⟩ := letE h24
      try (with_reducible refine nxD ?_)
      refine (st_set (i := 6) (d := enc (v31 : (Tp Int))) (rx_as (x := ((Tp.mk t29) : (Tp Int))) h32 (rx_catTO (f := enc) h30 (rx_var (d := enc (v17 : (Tp Int))) rfl) (rx_tup (ds := [enc (r27.1 : Int)]) (ra_cons (rx_callo (j := 0) (ds := [enc (v13 : Int)]) (c := r21.2.map enc) (c' := r27.2.map enc) (d := enc (r27.1 : Int)) (ra_own rfl (ra_cons (rx_var (d := enc (v13 : Int)) rfl) ra_nil)) rfl ⟨_, _, r27, rfl, rfl, rfl, rfl, h28⟩) ra_nil)))) E S fun σ F H f E S => ?_)
      replace fc := fc.trans f
      have E : EnvR K _ _ [.adr p_pot, .lol ps_pots, .val (enc (v3 : (List Str))), .adr p_gates7, .adr p_one11, .val (enc (v13 : Int)), .val (enc (v31 : (Tp Int))), .val (enc (v25 : Str)), .un, .un, .un] := E
      have S : Hx K _ _ _ _ (⟨p_one11, true, r27.2.map enc⟩ :: ⟨p_gates7, true, s9.map enc⟩ :: ⟨p_pot, true, r1.2.map enc⟩ :: Or12) _ := S
      obtain rfl := Option.some.inj h24
      exact rest _ _ _ fc (E.weak ⟨.inl rfl, .inl rfl, .inl rfl, .inl rfl, .inl rfl, .inl rfl, .inl rfl, .inl rfl, .inr rfl, .inr rfl, .inr rfl, trivial⟩) S
    · rw [if_neg (by rw [hc]; decide)] at h24
      have fc := f
      refine nxt ?_
      obtain rfl := Option.some.inj h24
      exact rest _ _ _ fc (E.weak ⟨.inl rfl, .inl rfl, .inl rfl, .inl rfl, .inl rfl, .inl rfl, .inl rfl, .inl rfl, .inr rfl, .inr rfl, .inr rfl, trivial⟩) S
theorem sc_all_inputs : FnScope ["net", "many", "own", "k", "place", "number"] ["net"] (defScope (top 5)) := ⟨rfl, rfl, rfl, by decide +kernel, rfl, by decide +kernel, by decide +kernel⟩
theorem ok_all_inputs (B : Bi mg) (D : Dfn K mg "all_inputs" (top 5) ["net"]) : Cal P w K mg base 1 "all_inputs" ["net"] (SpP K R_all_inputs) := by
  refine D.cal sc_all_inputs (sp_len fun ds d h => by obtain ⟨_, _, rfl, _⟩ := h; rfl) fun f cdv A outer s H vs Q E hr h => ?_
  refine ⟨_, (pss_cons (ps_set (i := 1) sc_all_inputs.nd rfl (Or.inl rfl) (pe_op op_shl pe_int (pe_callB (k_len_seq K) (by rfl) B.len PySem.boot_len (pa_cons (pe_ix (k_ix_tup K) (pv 0) pe_int (fun _ _ => rfl)) pa_nil)))) (pss_cons (ps_set (i := 2) sc_all_inputs.nd rfl (Or.inl rfl) (pe_lst pa_nil)) (pss_cons (ps_for PassesOwn.never rfl (pi_range1 rfl B.range (pa_cons (pe_callB (k_len_seq K) (by rfl) B.len PySem.boot_len (pa_cons (pe_ix (k_ix_tup K) (pv 0) pe_int (fun _ _ => rfl)) pa_nil)) pa_nil)) (pg_name (i := 3) sc_all_inputs.nd rfl (Or.inl rfl)) (pss_cons (ps_set (i := 4) sc_all_inputs.nd rfl (Or.inr rfl) (pe_op op_sub (pe_op op_sub (pe_callB (k_len_seq K) (by rfl) B.len PySem.boot_len (pa_cons (pe_ix (k_ix_tup K) (pv 0) pe_int (fun _ _ => rfl)) pa_nil)) pe_int) (pv 3))) (pss_one (ps_expr (pe_bm PySem.F.plainAttrs_list PySem.F.slot_list_append PySem.F.type_list_append mt_append (pv 2) (pa_cons (pe_callB (k_sum K rfl) (by rfl) B.sum (by decide +kernel) (pa_cons (pe_lc (own := [(("number" : Str), 5)]) (g := (gName 5)) (tt := tYes) rfl sc_all_inputs.nd (pi_range1 rfl B.range (pa_cons (pv 1) pa_nil)) (blkOk_by (by kernel_rfl)) (fun _ _ _ _ _ => (pg_name (i := 5) sc_all_inputs.nd rfl (Or.inl rfl))) (fun _ _ _ _ _ => pts_nil) (fun _ _ _ _ _ => (pe_op op_shl (pe_op op_and (pe_op op_shr (pv 5) (pv 4)) pe_int) (pv 5)))) pa_nil)) pa_nil)))))) (pss_one (ps_ret (pe_tup (pa_cons (pv 2) (pa_cons (pe_op op_sub (pe_op op_shl pe_int (pv 1)) pe_int) pa_nil)))))))), ?_⟩
  obtain ⟨F, ds, d, hw, hF, ⟨v_net, rr, rfl, rfl, hm0⟩, k⟩ := h
  have E : EnvR K F _ [.val (enc (v_net : (T3 (List (Str × Int)) (List (T3 Str (Tp Int) Bool)) (List (Str × (Tp Int)))))), .un, .un, .un, .un, .un] := EnvR.start (N := ["net", "many", "own", "k", "place", "number"]) (AsR.of_all hw)
  have S := Hx.start (K := K) hF
  have fc : Same F F := Same.refl F
  unfold m_all_inputs at hm0
  obtain ⟨t1, h2, hm0⟩ := bindE hm0
  try (with_reducible refine nxD ?_)
  with_reducible refine sq ?_
  refine st_set (i := 1) (d := enc (t1 : Int)) (rx_shlO h2 rx_int (len_nat (f := enc) (RX.s (rx_ixT (ds := [enc (v_net.a : (List (Str × Int))), enc (v_net.b : (List (T3 Str (Tp Int) Bool))), enc (v_net.c : (List (Str × (Tp Int))))]) (d := enc (v_net.a : (List (Str × Int)))) rfl (rx_var (d := enc (v_net : (T3 (List (Str × Int)) (List (T3 Str (Tp Int) Bool)) (List (Str × (Tp Int)))))) rfl) rx_int)))) E S fun σ F H f E S => ?_
  replace fc := fc.trans f
  have E : EnvR K _ _ [.val (enc (v_net : (T3 (List (Str × Int)) (List (T3 Str (Tp Int) Bool)) (List (Str × (Tp Int)))))), .val (enc (t1 : Int)), .un, .un, .un, .un] := E
  have S : Hx K _ _ _ _ [] _ := S
  obtain ⟨v3, h4, hm0⟩ := letE hm0
  try (with_reducible refine nxD ?_)
  with_reducible refine sq ?_
  refine st_setO (i := 2) (ds := v3.map enc) (rxo_as (f := enc) h4 (rxo_lst (ds := []) ra_nil)) E S fun p_own5 σ F H f E S => ?_
  replace fc := fc.trans f
  have E : EnvR K _ _ [.val (enc (v_net : (T3 (List (Str × Int)) (List (T3 Str (Tp Int) Bool)) (List (Str × (Tp Int)))))), .val (enc (t1 : Int)), .adr p_own5, .un, .un, .un] := E
  have S : Hx K _ _ _ _ [⟨p_own5, true, v3.map enc⟩] _ := S
  obtain ⟨s32, h10, hm0⟩ := bindE hm0
  try (with_reducible refine nxD ?_)
  with_reducible refine sq ?_
  refine st_forS (eα := enc) (fun s7 => [.val (enc (v_net : (T3 (List (Str × Int)) (List (T3 Str (Tp Int) Bool)) (List (Str × (Tp Int)))))), .val (enc (t1 : Int)), .adr p_own5, .un, .un, .un]) (fun s7 => [⟨p_own5, true, s7.map enc⟩]) E S (ri_rangeLenM (f := enc) (RX.s (rx_ixT (ds := [enc (v_net.a : (List (Str × Int))), enc (v_net.b : (List (T3 Str (Tp Int) Bool))), enc (v_net.c : (List (Str × (Tp Int))))]) (d := enc (v_net.a : (List (Str × Int)))) rfl (rx_var (d := enc (v_net : (T3 (List (Str × Int)) (List (T3 Str (Tp Int) Bool)) (List (Str × (Tp Int)))))) rfl) rx_int))) h10 ⟨.inl rfl, .inl rfl, .inl rfl, .inr rfl, .inr rfl, .inr rfl, trivial⟩ (fun σ F H f E S => ?_) (fun x8 _ s7 s' h6 σ F H v _ E S r N B hN => ?_)
  · replace fc := fc.trans f
    have E : EnvR K _ _ [.val (enc (v_net : (T3 (List (Str × Int)) (List (T3 Str (Tp Int) Bool)) (List (Str × (Tp Int)))))), .val (enc (t1 : Int)), .adr p_own5, .un, .un, .un] := E
    have S : Hx K _ _ _ _ [⟨p_own5, true, s32.map enc⟩] _ := S
    obtain ⟨F, f, E, S⟩ := frz_at (i := 2) (j := 0) rfl rfl E S
    have E : EnvR K F _ [.val (enc (v_net : (T3 (List (Str × Int)) (List (T3 Str (Tp Int) Bool)) (List (Str × (Tp Int)))))), .val (enc (t1 : Int)), .val (enc (s32 : (List Int))), .un, .un, .un] := E
    have S : Hx K _ _ _ F [] _ := S
    replace fc := fc.trans f
    obtain ⟨t35, h36, hm0⟩ := bindE hm0
    obtain rfl := Option.some.inj hm0
    -- return
    try (with_reducible refine nxD ?_)
    refine st_ret (d := enc ((s32, (t35 - (1 : Int))) : ((List Int) × Int))) (rx_tup (ds := [enc (s32 : (List Int)), enc ((t35 - (1 : Int)) : Int)]) (ra_cons (rx_var (d := enc (s32 : (List Int))) rfl) (ra_cons (rx_sub (rx_shlO h36 rx_int (rx_var (d := enc (t1 : Int)) rfl)) rx_int) ra_nil))) E S fun v F H f S r => ?_
    exact k v F H S.stp r
  · refine ((rg_name (i := 3) (d := enc (x8 : Int)))).run _ _ _ _ _ E r S.fh fun σ E _ => ?_
    have E : EnvR K _ _ [.val (enc (v_net : (T3 (List (Str × Int)) (List (T3 Str (Tp Int) Bool)) (List (Str × (Tp Int)))))), .val (enc (t1 : Int)), .adr p_own5, .val (enc (x8 : Int)), .un, .un] := E
    have S : Hx K _ _ _ _ [⟨p_own5, true, s7.map enc⟩] _ := S
    have fc : Same F F := Same.refl F
    obtain ⟨v12, h13, h6⟩ := letE h6
    try (with_reducible refine nxD ?_)
    with_reducible refine sq ?_
    refine st_set (i := 4) (d := enc (v12 : Int)) (rx_as (x := ((((v_net.a.length : Int) - (1 : Int)) - x8) : Int)) h13 (rx_sub (rx_sub (len_nat (f := enc) (RX.s (rx_ixT (ds := [enc (v_net.a : (List (Str × Int))), enc (v_net.b : (List (T3 Str (Tp Int) Bool))), enc (v_net.c : (List (Str × (Tp Int))))]) (d := enc (v_net.a : (List (Str × Int)))) rfl (rx_var (d := enc (v_net : (T3 (List (Str × Int)) (List (T3 Str (Tp Int) Bool)) (List (Str × (Tp Int)))))) rfl) rx_int))) rx_int) (rx_var (d := enc (x8 : Int)) rfl))) E S fun σ F H f E S => ?_
    replace fc := fc.trans f
    have E : EnvR K _ _ [.val (enc (v_net : (T3 (List (Str × Int)) (List (T3 Str (Tp Int) Bool)) (List (Str × (Tp Int)))))), .val (enc (t1 : Int)), .adr p_own5, .val (enc (x8 : Int)), .val (enc (v12 : Int)), .un] := E
    have S : Hx K _ _ _ _ [⟨p_own5, true, s7.map enc⟩] _ := S
    obtain ⟨l14, h15, h6⟩ := bindE h6
    obtain ⟨l28, h29, h6⟩ := bindE h6
    obtain ⟨u30, h31, h6⟩ := bindE h6
    try (with_reducible refine nxD ?_)
    refine (st_app (j := 0) (ds := s7.map enc) (d := enc (l28.sum : Int)) (appO_map enc h31) rfl (rx_sum (RXo.s (rxo_mapO (eα := enc) (eβ := enc) (fun x17 => [.val (enc (v_net : (T3 (List (Str × Int)) (List (T3 Str (Tp Int) Bool)) (List (Str × (Tp Int)))))), .val (enc (t1 : Int)), .adr p_own5, .val (enc (x8 : Int)), .val (enc (v12 : Int)), .val (enc (x17 : Int))]) [5] (ri_range h15 (rx_var (d := enc (t1 : Int)) rfl)) h29 (by decide) (fun x17 _ => (rg_name (i := 5) (d := enc (x17 : Int)))) (fun x17 _ y h16 D18 acc19 => by obtain ⟨t24, h25, h16⟩ := bindE h16; obtain ⟨t26, h27, h16⟩ := bindE h16; obtain rfl := Option.some.inj h16; exact (rx_shlO h27 (rx_band (rx_shrO h25 (rx_var (d := enc (x17 : Int)) rfl) (rx_var (d := enc (v12 : Int)) rfl)) rx_int) (rx_var (d := enc (x17 : Int)) rfl)))))) ⟨_, rfl⟩ rfl E S fun F H f E S => ?_)
    replace fc := fc.trans f
    have E : EnvR K _ _ [.val (enc (v_net : (T3 (List (Str × Int)) (List (T3 Str (Tp Int) Bool)) (List (Str × (Tp Int)))))), .val (enc (t1 : Int)), .adr p_own5, .val (enc (x8 : Int)), .val (enc (v12 : Int)), .un] := E
    have S : Hx K _ _ _ _ [⟨p_own5, true, u30.map enc⟩] _ := S
    obtain rfl := Option.some.inj h6
    exact hN _ _ _ fc (E.weak ⟨.inl rfl, .inl rfl, .inl rfl, .inr rfl, .inr rfl, .inr rfl, trivial⟩) S
theorem sc_gate_bits : FnScope ["kind", "some", "ones"] ["kind", "some", "ones"] (defScope (top 1)) := ⟨rfl, rfl, rfl, by decide +kernel, rfl, by decide +kernel, by decide +kernel⟩
theorem ok_gate_bits (D : Dfn K mg "gate_bits" (top 1) ["kind", "some", "ones"]) : Cal P w K mg base 1 "gate_bits" ["kind", "some", "ones"] (SpP K R_gate_bits) := by
  refine D.cal sc_gate_bits (sp_len fun ds d h => by obtain ⟨_, _, _, _, rfl, _⟩ := h; rfl) fun f cdv A outer s H vs Q E hr h => ?_
  refine ⟨_, (pss_cons (ps_if (pt_cmpR op_eq (pv 0) pe_str (nomark _)) (pss_one (ps_ret (pe_op op_xor (pv 2) (pe_ix (k_ix_seq K) (pv 1) pe_int (fun _ _ => rfl))))) pss_nil) (pss_cons (ps_if (pt_cmpR op_eq (pv 0) pe_str (nomark _)) (pss_one (ps_ret (pe_op op_and (pe_ix (k_ix_seq K) (pv 1) pe_int (fun _ _ => rfl)) (pe_ix (k_ix_seq K) (pv 1) pe_int (fun _ _ => rfl))))) pss_nil) (pss_cons (ps_if (pt_cmpR op_eq (pv 0) pe_str (nomark _)) (pss_one (ps_ret (pe_op op_or (pe_ix (k_ix_seq K) (pv 1) pe_int (fun _ _ => rfl)) (pe_ix (k_ix_seq K) (pv 1) pe_int (fun _ _ => rfl))))) pss_nil) (pss_cons (ps_if (pt_cmpR op_eq (pv 0) pe_str (nomark _)) (pss_one (ps_ret (pe_op op_xor (pe_ix (k_ix_seq K) (pv 1) pe_int (fun _ _ => rfl)) (pe_ix (k_ix_seq K) (pv 1) pe_int (fun _ _ => rfl))))) pss_nil) (pss_one (ps_ret (pe_op op_or (pe_op op_or (pe_op op_and (pe_ix (k_ix_seq K) (pv 1) pe_int (fun _ _ => rfl)) (pe_ix (k_ix_seq K) (pv 1) pe_int (fun _ _ => rfl))) (pe_op op_and (pe_ix (k_ix_seq K) (pv 1) pe_int (fun _ _ => rfl)) (pe_ix (k_ix_seq K) (pv 1) pe_int (fun _ _ => rfl)))) (pe_op op_and (pe_ix (k_ix_seq K) (pv 1) pe_int (fun _ _ => rfl)) (pe_ix (k_ix_seq K) (pv 1) pe_int (fun _ _ => rfl)))))))))), ?_⟩
  obtain ⟨F, ds, d, hw, hF, ⟨v_kind, v_some, v_ones, rr, rfl, rfl, hm0⟩, k⟩ := h
  have E : EnvR K F _ [.val (enc (v_kind : Str)), .val (enc (v_some : (Sq Int))), .val (enc (v_ones : Int))] := EnvR.start (N := ["kind", "some", "ones"]) (AsR.of_all hw)
  have S := Hx.start (K := K) hF
  have fc : Same F F := Same.refl F
  unfold m_gate_bits at hm0
  try (with_reducible refine nxD ?_)
  with_reducible refine sq ?_
  refine st_if (b := (decide (v_kind = ("not" : Str)))) (rt_val (rx_eqs (rx_var (d := enc (v_kind : Str)) rfl) (rx_str (x := ("not" : Str))))) E S (fun hc F H f E S => ?_) (fun hc F H f E S => ?_)
  · rw [if_pos hc] at hm0
    replace fc := fc.trans f
    obtain ⟨t3, h4, hm0⟩ := bindE hm0
    obtain rfl := Option.some.inj hm0
    -- return
    try (with_reducible refine nxD ?_)
    refine st_ret (d := enc ((Builtin.bitXor v_ones t3) : Int)) (rx_bxor (rx_var (d := enc (v_ones : Int)) rfl) (rx_ixQ h4 (rx_var (d := enc (v_some : (Sq Int))) rfl) rx_int)) E S fun v F H f S r => ?_
    exact k v F H S.stp r
  · rw [if_neg (by rw [hc]; decide)] at hm0
    replace fc := fc.trans f
    refine nxt ?_
    try (with_reducible refine nxD ?_)
    with_reducible refine sq ?_
    refine st_if (b := (decide (v_kind = ("and" : Str)))) (rt_val (rx_eqs (rx_var (d := enc (v_kind : Str)) rfl) (rx_str (x := ("and" : Str))))) E S (fun hc F H f E S => ?_) (fun hc F H f E S => ?_)
    · rw [if_pos hc] at hm0
      replace fc := fc.trans f
      obtain ⟨t9, h10, hm0⟩ := bindE hm0
      obtain ⟨t11, h12, hm0⟩ := bindE hm0
      obtain rfl := Option.some.inj hm0
      -- return
      try (with_reducible refine nxD ?_)
      refine st_ret (d := enc ((Builtin.bitAnd t9 t11) : Int)) (rx_band (rx_ixQ h10 (rx_var (d := enc (v_some : (Sq Int))) rfl) rx_int) (rx_ixQ h12 (rx_var (d := enc (v_some : (Sq Int))) rfl) rx_int)) E S fun v F H f S r => ?_
      exact k v F H S.stp r
    · rw [if_neg (by rw [hc]; decide)] at hm0
      replace fc := fc.trans f
      refine nxt ?_
      try (with_reducible refine nxD ?_)
      with_reducible refine sq ?_
      refine st_if (b := (decide (v_kind = ("or" : Str)))) (rt_val (rx_eqs (rx_var (d := enc (v_kind : Str)) rfl) (rx_str (x := ("or" : Str))))) E S (fun hc F H f E S => ?_) (fun hc F H f E S => ?_)
      · rw [if_pos hc] at hm0
        replace fc := fc.trans f
        obtain ⟨t17, h18, hm0⟩ := bindE hm0
        obtain ⟨t19, h20, hm0⟩ := bindE hm0
        obtain rfl := Option.some.inj hm0
        -- return
        try (with_reducible refine nxD ?_)
        refine st_ret (d := enc ((Builtin.bitOr t17 t19) : Int)) (rx_bor (rx_ixQ h18 (rx_var (d := enc (v_some : (Sq Int))) rfl) rx_int) (rx_ixQ h20 (rx_var (d := enc (v_some : (Sq Int))) rfl) rx_int)) E S fun v F H f S r => ?_
        exact k v F H S.stp r
      · rw [if_neg (by rw [hc]; decide)] at hm0
        replace fc := fc.trans f
        refine nxt ?_
        try (with_reducible refine nxD ?_)
        with_reducible refine sq ?_
        refine st_if (b := (decide (v_kind = ("xor" : Str)))) (rt_val (rx_eqs (rx_var (d := enc (v_kind : Str)) rfl) (rx_str (x := ("xor" : Str))))) E S (fun hc F H f E S => ?_) (fun hc F H f E S => ?_)
        · rw [if_pos hc] at hm0
          replace fc := fc.trans f
          obtain ⟨t25, h26, hm0⟩ := bindE hm0
          obtain ⟨t27, h28, hm0⟩ := bindE hm0
          obtain rfl := Option.some.inj hm0
          -- return
          try (with_reducible refine nxD ?_)
          refine st_ret (d := enc ((Builtin.bitXor t25 t27) : Int)) (rx_bxor (rx_ixQ h26 (rx_var (d := enc (v_some : (Sq Int))) rfl) rx_int) (rx_ixQ h28 (rx_var (d := enc (v_some : (Sq Int))) rfl) rx_int)) E S fun v F H f S r => ?_
          exact k v F H S.stp r
        · rw [if_neg (by rw [hc]; decide)] at hm0
          replace fc := fc.trans f
          refine nxt ?_
          obtain ⟨t41, h42, hm0⟩ := bindE hm0
          obtain ⟨t43, h44, hm0⟩ := bindE hm0
          obtain ⟨t45, h46, hm0⟩ := bindE hm0
          obtain ⟨t47, h48, hm0⟩ := bindE hm0
          obtain ⟨t49, h50, hm0⟩ := bindE hm0
          obtain ⟨t51, h52, hm0⟩ := bindE hm0
          obtain rfl := Option.some.inj hm0
          -- return
          try (with_reducible refine nxD ?_)
          refine st_ret (d := enc ((Builtin.bitOr (Builtin.bitOr (Builtin.bitAnd t41 t43) (Builtin.bitAnd t45 t47)) (Builtin.bitAnd t49 t51)) : Int)) (rx_bor (rx_bor (rx_band (rx_ixQ h42 (rx_var (d := enc (v_some : (Sq Int))) rfl) rx_int) (rx_ixQ h44 (rx_var (d := enc (v_some : (Sq Int))) rfl) rx_int)) (rx_band (rx_ixQ h46 (rx_var (d := enc (v_some : (Sq Int))) rfl) rx_int) (rx_ixQ h48 (rx_var (d := enc (v_some : (Sq Int))) rfl) rx_int))) (rx_band (rx_ixQ h50 (rx_var (d := enc (v_some : (Sq Int))) rfl) rx_int) (rx_ixQ h52 (rx_var (d := enc (v_some : (Sq Int))) rfl) rx_int))) E S fun v F H f S r => ?_
          exact k v F H S.stp r
theorem sc_how_many_ahead : FnScope ["net", "name", "width"] ["net"] (defScope (top 3)) := ⟨rfl, rfl, rfl, by decide +kernel, rfl, by decide +kernel, by decide +kernel⟩
theorem ok_how_many_ahead (B : Bi mg) (D : Dfn K mg "how_many_ahead" (top 3) ["net"]) : Cal P w K mg base 1 "how_many_ahead" ["net"] (SpP K R_how_many_ahead) := by
  refine D.cal sc_how_many_ahead (sp_len fun ds d h => by obtain ⟨_, _, rfl, _⟩ := h; rfl) fun f cdv A outer s H vs Q E hr h => ?_
  refine ⟨_, (pss_one (ps_ret (pe_callB (k_sum K rfl) (by rfl) B.sum (by decide +kernel) (pa_cons (pe_lc (own := [(("name" : Str), 1), (("width" : Str), 2)]) (g := (gTup K 2 (gCons (gName 1) (gCons (gName 2) gNil)))) (tt := tYes) rfl sc_how_many_ahead.nd (k_pi_list K (pe_ix (k_ix_tup K) (pv 0) pe_int (fun _ _ => rfl))) (blkOk_by (by kernel_rfl)) (fun _ _ _ _ _ => (pg_tup rfl (pgs_cons (pg_name (i := 1) sc_how_many_ahead.nd rfl (Or.inl rfl)) (pgs_cons (pg_name (i := 2) sc_how_many_ahead.nd rfl (Or.inl rfl)) pgs_nil)))) (fun _ _ _ _ _ => pts_nil) (fun _ _ _ _ _ => (pv 2))) pa_nil)))), ?_⟩
  obtain ⟨F, ds, d, hw, hF, ⟨v_net, rr, rfl, rfl, hm0⟩, k⟩ := h
  have E : EnvR K F _ [.val (enc (v_net : (T3 (List (Str × Int)) (List (T3 Str (Tp Int) Bool)) (List (Str × (Tp Int)))))), .un, .un] := EnvR.start (N := ["net", "name", "width"]) (AsR.of_all hw)
  have S := Hx.start (K := K) hF
  have fc : Same F F := Same.refl F
  unfold m_how_many_ahead at hm0
  obtain rfl := Option.some.inj hm0
  -- return
  try (with_reducible refine nxD ?_)
  refine st_ret (d := enc ((v_net.a.map (fun (x6 : (Str × Int)) => (x6.2 : Int))).sum : Int)) (rx_sum (RXo.s (rxo_map (eα := enc) (eβ := enc) (f := (fun (x6 : (Str × Int)) => (x6.2 : Int))) (fun x6 => [.val (enc (v_net : (T3 (List (Str × Int)) (List (T3 Str (Tp Int) Bool)) (List (Str × (Tp Int)))))), .val (enc (x6.1 : Str)), .val (enc (x6.2 : Int))]) [1, 2] (ri_list (ys := v_net.a.map enc) (rx_ixT (ds := [enc (v_net.a : (List (Str × Int))), enc (v_net.b : (List (T3 Str (Tp Int) Bool))), enc (v_net.c : (List (Str × (Tp Int))))]) (d := enc (v_net.a : (List (Str × Int)))) rfl (rx_var (d := enc (v_net : (T3 (List (Str × Int)) (List (T3 Str (Tp Int) Bool)) (List (Str × (Tp Int)))))) rfl) rx_int)) (by decide) (fun x6 _ => (rg_tup (ds := [enc (x6.1 : Str), enc (x6.2 : Int)]) (RGs.cons (rg_name (i := 1) (d := enc (x6.1 : Str))) (RGs.cons (rg_name (i := 2) (d := enc (x6.2 : Int))) RGs.nil)))) (fun x6 _ D7 acc8 => (rx_var (d := enc (x6.2 : Int)) rfl))))) E S fun v F H f S r => ?_
  exact k v F H S.stp r
theorem sc_gone_on : FnScope ["net", "first", "ones", "turned", "wires", "place", "kind", "own", "sure", "bits", "one"] ["net", "first", "ones", "turned"] (defScope (top 4)) := ⟨rfl, rfl, rfl, by decide +kernel, rfl, by decide +kernel, by decide +kernel⟩
theorem ok_gone_on (B : Bi mg) (D : Dfn K mg "gone_on" (top 4) ["net", "first", "ones", "turned"]) (C_gate_bits : Cal P w K mg base 1 "gate_bits" ["kind", "some", "ones"] (SpP K R_gate_bits)) (C_how_many_ahead : Cal P w K mg base 1 "how_many_ahead" ["net"] (SpP K R_how_many_ahead)) : Cal P w K mg base 2 "gone_on" ["net", "first", "ones", "turned"] (SpN K R_gone_on) := by
  refine D.cal sc_gone_on (sn_len fun ds d h => by obtain ⟨_, _, _, _, _, rfl, _⟩ := h; rfl) fun f cdv A outer s H vs Q E hr h => ?_
  refine ⟨_, (pss_cons (ps_set (i := 4) sc_gone_on.nd rfl (Or.inr rfl) (pe_callTy (k_list_of K) (by rfl) B.list (by decide +kernel) (pa_cons (pv 1) pa_nil))) (pss_cons (ps_for PassesOwn.never rfl (pi_range2 rfl B.range (pa_cons (pe_op op_sub (pe_callB (k_len_seq K) (by rfl) B.len PySem.boot_len (pa_cons (pv 4) pa_nil)) (pe_cal C_how_many_ahead hr (pa_cons (pv 0) pa_nil))) (pa_cons (pe_callB (k_len_seq K) (by rfl) B.len PySem.boot_len (pa_cons (pe_ix (k_ix_tup K) (pv 0) pe_int (fun _ _ => rfl)) pa_nil)) pa_nil))) (pg_name (i := 5) sc_gone_on.nd rfl (Or.inl rfl)) (pss_cons (ps_asg (pe_ix (k_ix_list K) (pe_ix (k_ix_tup K) (pv 0) pe_int (fun _ _ => rfl)) (pv 5) (fun _ _ => rfl)) (pg_tup rfl (pgs_cons (pg_name (i := 6) sc_gone_on.nd rfl (Or.inl rfl)) (pgs_cons (pg_name (i := 7) sc_gone_on.nd rfl (Or.inl rfl)) (pgs_cons (pg_name (i := 8) sc_gone_on.nd rfl (Or.inl rfl)) pgs_nil))))) (pss_cons (ps_set (i := 9) sc_gone_on.nd rfl (Or.inl rfl) (pe_cal C_gate_bits hr (pa_cons (pv 6) (pa_cons (pe_lc (own := [(("one" : Str), 10)]) (g := (gName 10)) (tt := tYes) rfl sc_gone_on.nd (k_pi_tup K (pv 7)) (blkOk_by (by kernel_rfl)) (fun _ _ _ _ _ => (pg_name (i := 10) sc_gone_on.nd rfl (Or.inl rfl))) (fun _ _ _ _ _ => pts_nil) (fun _ _ _ _ _ => (pe_ix (k_ix_list K) (pv 4) (pv 10) (fun _ _ => rfl)))) (pa_cons (pv 2) pa_nil))))) (pss_cons (ps_if (pt_cmpR (k_in_seq K) (pv 5) (pv 3) (by rfl)) (pss_one (ps_set (i := 9) sc_gone_on.nd rfl (Or.inl rfl) (pe_op op_xor (pv 2) (pv 9)))) pss_nil) (pss_one (ps_expr (pe_bm PySem.F.plainAttrs_list PySem.F.slot_list_append PySem.F.type_list_append mt_append (pv 4) (pa_cons (pv 9) pa_nil)))))))) (pss_one (ps_ret (pv 4))))), ?_⟩
  obtain ⟨F, ds, es, hw, hF, ⟨v_net, v_first, v_ones, v_turned, rr, rfl, rfl, hm0⟩, k⟩ := h
  have E : EnvR K F _ [.val (enc (v_net : (T3 (List (Str × Int)) (List (T3 Str (Tp Int) Bool)) (List (Str × (Tp Int)))))), .val (enc (v_first : (List Int))), .val (enc (v_ones : Int)), .val (enc (v_turned : (Tp Int))), .un, .un, .un, .un, .un, .un, .un] := EnvR.start (N := ["net", "first", "ones", "turned", "wires", "place", "kind", "own", "sure", "bits", "one"]) (AsR.of_all hw)
  have S := Hx.start (K := K) hF
  have fc : Same F F := Same.refl F
  unfold m_gone_on at hm0
  try (with_reducible refine nxD ?_)
  with_reducible refine sq ?_
  refine st_setO (i := 4) (ds := v_first.map enc) (rxo_list (RX.s (rx_var (d := enc (v_first : (List Int))) rfl))) E S fun p_wires1 σ F H f E S => ?_
  replace fc := fc.trans f
  have E : EnvR K _ _ [.val (enc (v_net : (T3 (List (Str × Int)) (List (T3 Str (Tp Int) Bool)) (List (Str × (Tp Int)))))), .val (enc (v_first : (List Int))), .val (enc (v_ones : Int)), .val (enc (v_turned : (Tp Int))), .adr p_wires1, .un, .un, .un, .un, .un, .un] := E
  have S : Hx K _ _ _ _ [⟨p_wires1, true, v_first.map enc⟩] _ := S
  obtain ⟨r2, h3, hm0⟩ := bindE hm0
  obtain ⟨l4, h5, hm0⟩ := bindE hm0
  obtain ⟨s32, h10, hm0⟩ := bindE hm0
  try (with_reducible refine nxD ?_)
  with_reducible refine sq ?_
  refine st_forS (eα := enc) (fun s7 => [.val (enc (v_net : (T3 (List (Str × Int)) (List (T3 Str (Tp Int) Bool)) (List (Str × (Tp Int)))))), .val (enc (v_first : (List Int))), .val (enc (v_ones : Int)), .val (enc (v_turned : (Tp Int))), .adr p_wires1, .un, .un, .un, .un, .un, .un]) (fun s7 => [⟨p_wires1, true, s7.map enc⟩]) E S (ri_range2 h5 (rx_sub (len_nat (f := enc) (rxs_own (j := 0) (ds := v_first.map enc) rfl rfl)) (rx_call (ds := [enc (v_net : (T3 (List (Str × Int)) (List (T3 Str (Tp Int) Bool)) (List (Str × (Tp Int)))))]) (d := enc (r2 : Int)) ⟨_, r2, rfl, rfl, h3⟩ (ra_cons (rx_var (d := enc (v_net : (T3 (List (Str × Int)) (List (T3 Str (Tp Int) Bool)) (List (Str × (Tp Int)))))) rfl) ra_nil))) (len_nat (f := enc) (RX.s (rx_ixT (ds := [enc (v_net.a : (List (Str × Int))), enc (v_net.b : (List (T3 Str (Tp Int) Bool))), enc (v_net.c : (List (Str × (Tp Int))))]) (d := enc (v_net.b : (List (T3 Str (Tp Int) Bool)))) rfl (rx_var (d := enc (v_net : (T3 (List (Str × Int)) (List (T3 Str (Tp Int) Bool)) (List (Str × (Tp Int)))))) rfl) rx_int)))) h10 ⟨.inl rfl, .inl rfl, .inl rfl, .inl rfl, .inl rfl, .inr rfl, .inr rfl, .inr rfl, .inr rfl, .inr rfl, .inr rfl, trivial⟩ (fun σ F H f E S => ?_) (fun x8 _ s7 s' h6 σ F H v _ E S r N B hN => ?_)
  · replace fc := fc.trans f
    have E : EnvR K _ _ [.val (enc (v_net : (T3 (List (Str × Int)) (List (T3 Str (Tp Int) Bool)) (List (Str × (Tp Int)))))), .val (enc (v_first : (List Int))), .val (enc (v_ones : Int)), .val (enc (v_turned : (Tp Int))), .adr p_wires1, .un, .un, .un, .un, .un, .un] := E
    have S : Hx K _ _ _ _ [⟨p_wires1, true, s32.map enc⟩] _ := S
    obtain rfl := Option.some.inj hm0
    -- return
    try (with_reducible refine nxD ?_)
    refine st_retA rfl E ?_
    obtain ⟨n1, n2, n3, zs, n4, n5, n6⟩ := S.get (j := 0) rfl
    exact k _ _ _ zs S.stp (n2 rfl) n1 n4 n5 n6
  · refine ((rg_name (i := 5) (d := enc (x8 : Int)))).run _ _ _ _ _ E r S.fh fun σ E _ => ?_
    have E : EnvR K _ _ [.val (enc (v_net : (T3 (List (Str × Int)) (List (T3 Str (Tp Int) Bool)) (List (Str × (Tp Int)))))), .val (enc (v_first : (List Int))), .val (enc (v_ones : Int)), .val (enc (v_turned : (Tp Int))), .adr p_wires1, .val (enc (x8 : Int)), .un, .un, .un, .un, .un] := E
    have S : Hx K _ _ _ _ [⟨p_wires1, true, s7.map enc⟩] _ := S
    have fc : Same F F := Same.refl F
    obtain ⟨t12, h13, h6⟩ := bindE h6
    try (with_reducible refine nxD ?_)
    with_reducible refine sq ?_
    refine st_unp (d := enc (t12 : (T3 Str (Tp Int) Bool))) (rx_ix (atI_map enc h13) (RX.s (rx_ixT (ds := [enc (v_net.a : (List (Str × Int))), enc (v_net.b : (List (T3 Str (Tp Int) Bool))), enc (v_net.c : (List (Str × (Tp Int))))]) (d := enc (v_net.b : (List (T3 Str (Tp Int) Bool)))) rfl (rx_var (d := enc (v_net : (T3 (List (Str × Int)) (List (T3 Str (Tp Int) Bool)) (List (Str × (Tp Int)))))) rfl) rx_int)) (rx_var (d := enc (x8 : Int)) rfl)) (rg_tup (ds := [enc (t12.a : Str), enc (t12.b : (Tp Int)), enc (t12.c : Bool)]) (RGs.cons (rg_name (i := 6) (d := enc (t12.a : Str))) (RGs.cons (rg_name (i := 7) (d := enc (t12.b : (Tp Int)))) (RGs.cons (rg_name (i := 8) (d := enc (t12.c : Bool))) RGs.nil)))) E S fun σ F H f E S => ?_
    replace fc := fc.trans f
    have E : EnvR K _ _ [.val (enc (v_net : (T3 (List (Str × Int)) (List (T3 Str (Tp Int) Bool)) (List (Str × (Tp Int)))))), .val (enc (v_first : (List Int))), .val (enc (v_ones : Int)), .val (enc (v_turned : (Tp Int))), .adr p_wires1, .val (enc (x8 : Int)), .val (enc (t12.a : Str)), .val (enc (t12.b : (Tp Int))), .val (enc (t12.c : Bool)), .un, .un] := E
    have S : Hx K _ _ _ _ [⟨p_wires1, true, s7.map enc⟩] _ := S
    obtain ⟨l22, h23, h6⟩ := bindE h6
    obtain ⟨r24, h25, h6⟩ := bindE h6
    try (with_reducible refine nxD ?_)
    with_reducible refine sq ?_
    refine st_set (i := 9) (d := enc (r24 : Int)) (rx_call (ds := [enc (t12.a : Str), enc ((Sq.mk false l22) : (Sq Int)), enc (v_ones : Int)]) (d := enc (r24 : Int)) ⟨_, _, _, r24, rfl, rfl, h25⟩ (ra_cons (rx_var (d := enc (t12.a : Str)) rfl) (ra_cons (RXo.frz (rxo_mapO (eα := enc) (eβ := enc) (fun x15 => [.val (enc (v_net : (T3 (List (Str × Int)) (List (T3 Str (Tp Int) Bool)) (List (Str × (Tp Int)))))), .val (enc (v_first : (List Int))), .val (enc (v_ones : Int)), .val (enc (v_turned : (Tp Int))), .adr p_wires1, .val (enc (x8 : Int)), .val (enc (t12.a : Str)), .val (enc (t12.b : (Tp Int))), .val (enc (t12.c : Bool)), .un, .val (enc (x15 : Int))]) [10] (ri_tup (ys := t12.b.l.map enc) (rx_var (d := enc (t12.b : (Tp Int))) rfl)) h23 (by decide) (fun x15 _ => (rg_name (i := 10) (d := enc (x15 : Int)))) (fun x15 _ y h14 D16 acc17 => by obtain ⟨t20, h21, h14⟩ := bindE h14; obtain rfl := Option.some.inj h14; exact (rx_ix (atI_map enc h21) (rxs_own (j := 1) (ds := s7.map enc) rfl rfl) (rx_var (d := enc (x15 : Int)) rfl))))) (ra_cons (rx_var (d := enc (v_ones : Int)) rfl) ra_nil)))) E S fun σ F H f E S => ?_
    replace fc := fc.trans f
    have E : EnvR K _ _ [.val (enc (v_net : (T3 (List (Str × Int)) (List (T3 Str (Tp Int) Bool)) (List (Str × (Tp Int)))))), .val (enc (v_first : (List Int))), .val (enc (v_ones : Int)), .val (enc (v_turned : (Tp Int))), .adr p_wires1, .val (enc (x8 : Int)), .val (enc (t12.a : Str)), .val (enc (t12.b : (Tp Int))), .val (enc (t12.c : Bool)), .val (enc (r24 : Int)), .un] := E
    have S : Hx K _ _ _ _ [⟨p_wires1, true, s7.map enc⟩] _ := S
    obtain ⟨j26, h27, h6⟩ := bindE h6
    try (with_reducible refine nxD ?_)
    with_reducible refine sq ?_
    refine st_ifJ (b := (decide (x8 ∈ v_turned.l))) [.val (enc (v_net : (T3 (List (Str × Int)) (List (T3 Str (Tp Int) Bool)) (List (Str × (Tp Int)))))), .val (enc (v_first : (List Int))), .val (enc (v_ones : Int)), .val (enc (v_turned : (Tp Int))), .adr p_wires1, .val (enc (x8 : Int)), .val (enc (t12.a : Str)), .val (enc (t12.b : (Tp Int))), .val (enc (t12.c : Bool)), .val (enc (j26 : Int)), .un] [⟨p_wires1, true, s7.map enc⟩] (rt_val (rx_inIT (neg := false) (rx_var (d := enc (x8 : Int)) rfl) (rx_var (d := enc (v_turned : (Tp Int))) rfl))) E S (fun σ F H f E S => ?_) (fun hc F H rest f E S => ?_) (fun hc F H rest f E S => ?_)
    · replace fc := fc.trans f
      obtain ⟨u30, h31, h6⟩ := bindE h6
      try (with_reducible refine nxD ?_)
      refine (st_app (j := 0) (ds := s7.map enc) (d := enc (j26 : Int)) (appO_map enc h31) rfl (rx_var (d := enc (j26 : Int)) rfl) ⟨_, rfl⟩ rfl E S fun F H f E S => ?_)
      replace fc := fc.trans f
      have E : EnvR K _ _ [.val (enc (v_net : (T3 (List (Str × Int)) (List (T3 Str (Tp Int) Bool)) (List (Str × (Tp Int)))))), .val (enc (v_first : (List Int))), .val (enc (v_ones : Int)), .val (enc (v_turned : (Tp Int))), .adr p_wires1, .val (enc (x8 : Int)), .val (enc (t12.a : Str)), .val (enc (t12.b : (Tp Int))), .val (enc (t12.c : Bool)), .val (enc (j26 : Int)), .un] := E
      have S : Hx K _ _ _ _ [⟨p_wires1, true, u30.map enc⟩] _ := S
      obtain rfl := Option.some.inj h6
      exact hN _ _ _ fc (E.weak ⟨.inl rfl, .inl rfl, .inl rfl, .inl rfl, .inl rfl, .inr rfl, .inr rfl, .inr rfl, .inr rfl, .inr rfl, .inr rfl, trivial⟩) S
    · rw [if_pos hc] at h27
      have fc := f
      obtain ⟨v28, h29, h27⟩ := letE h27
      try (with_reducible refine nxD ?_)
      refine (st_set (i := 9) (d := enc (v28 : Int)) (rx_as (x := ((Builtin.bitXor v_ones r24) : Int)) h29 (rx_bxor (rx_var (d := enc (v_ones : Int)) rfl) (rx_var (d := enc (r24 : Int)) rfl))) E S fun σ F H f E S => ?_)
      replace fc := fc.trans f
      have E : EnvR K _ _ [.val (enc (v_net : (T3 (List (Str × Int)) (List (T3 Str (Tp Int) Bool)) (List (Str × (Tp Int)))))), .val (enc (v_first : (List Int))), .val (enc (v_ones : Int)), .val (enc (v_turned : (Tp Int))), .adr p_wires1, .val (enc (x8 : Int)), .val (enc (t12.a : Str)), .val (enc (t12.b : (Tp Int))), .val (enc (t12.c : Bool)), .val (enc (v28 : Int)), .un] := E
      have S : Hx K _ _ _ _ [⟨p_wires1, true, s7.map enc⟩] _ := S
      obtain rfl := Option.some.inj h27
      exact rest _ _ _ fc (E.weak ⟨.inl rfl, .inl rfl, .inl rfl, .inl rfl, .inl rfl, .inl rfl, .inl rfl, .inl rfl, .inl rfl, .inl rfl, .inr rfl, trivial⟩) S
    · rw [if_neg (by rw [hc]; decide)] at h27
      have fc := f
      refine nxt ?_
      obtain rfl := Option.some.inj h27
      exact rest _ _ _ fc (E.weak ⟨.inl rfl, .inl rfl, .inl rfl, .inl rfl, .inl rfl, .inl rfl, .inl rfl, .inl rfl, .inl rfl, .inl rfl, .inr rfl, trivial⟩) S
theorem sc_ins_wires : FnScope ["net", "own", "ones", "bad", "wires", "name", "width", "bits", "k"] ["net", "own", "ones", "bad"] (defScope (top 2)) := ⟨rfl, rfl, rfl, by decide +kernel, rfl, by decide +kernel, by decide +kernel⟩
theorem ok_ins_wires (B : Bi mg) (D : Dfn K mg "ins_wires" (top 2) ["net", "own", "ones", "bad"]) : Cal P w K mg base 1 "ins_wires" ["net", "own", "ones", "bad"] (SpN K R_ins_wires) := by
  refine D.cal sc_ins_wires (sn_len fun ds d h => by obtain ⟨_, _, _, _, _, rfl, _⟩ := h; rfl) fun f cdv A outer s H vs Q E hr h => ?_
  refine ⟨_, (pss_cons (ps_set (i := 4) sc_ins_wires.nd rfl (Or.inl rfl) (pe_lst pa_nil)) (pss_cons (ps_for PassesOwn.never rfl (k_pi_any K (by rfl) B.zip (pa_cons (pe_ix (k_ix_tup K) (pv 0) pe_int (fun _ _ => rfl)) (pa_cons (pv 1) pa_nil))) (pg_tup rfl (pgs_cons (pg_tup rfl (pgs_cons (pg_name (i := 5) sc_ins_wires.nd rfl (Or.inl rfl)) (pgs_cons (pg_name (i := 6) sc_ins_wires.nd rfl (Or.inl rfl)) pgs_nil))) (pgs_cons (pg_name (i := 7) sc_ins_wires.nd rfl (Or.inl rfl)) pgs_nil))) (pss_one (ps_for PassesOwn.never rfl (pi_range1 rfl B.range (pa_cons (pv 6) pa_nil)) (pg_name (i := 8) sc_ins_wires.nd rfl (Or.inl rfl)) (pss_one (ps_if (pt_cmpR (k_in_seq K) (pe_callB (k_len_seq K) (by rfl) B.len PySem.boot_len (pa_cons (pv 4) pa_nil)) (pv 3) (by rfl)) (pss_one (ps_expr (pe_bm PySem.F.plainAttrs_list PySem.F.slot_list_append PySem.F.type_list_append mt_append (pv 4) (pa_cons (pe_op op_xor (pv 2) (pv 7)) pa_nil)))) (pss_one (ps_expr (pe_bm PySem.F.plainAttrs_list PySem.F.slot_list_append PySem.F.type_list_append mt_append (pv 4) (pa_cons (pv 7) pa_nil))))))))) (pss_one (ps_ret (pv 4))))), ?_⟩
  obtain ⟨F, ds, es, hw, hF, ⟨v_net, v_own, v_ones, v_bad, rr, rfl, rfl, hm0⟩, k⟩ := h
  have E : EnvR K F _ [.val (enc (v_net : (T3 (List (Str × Int)) (List (T3 Str (Tp Int) Bool)) (List (Str × (Tp Int)))))), .val (enc (v_own : (Sq Int))), .val (enc (v_ones : Int)), .val (enc (v_bad : (Tp Int))), .un, .un, .un, .un, .un] := EnvR.start (N := ["net", "own", "ones", "bad", "wires", "name", "width", "bits", "k"]) (AsR.of_all hw)
  have S := Hx.start (K := K) hF
  have fc : Same F F := Same.refl F
  unfold m_ins_wires at hm0
  obtain ⟨v1, h2, hm0⟩ := letE hm0
  try (with_reducible refine nxD ?_)
  with_reducible refine sq ?_
  refine st_setO (i := 4) (ds := v1.map enc) (rxo_as (f := enc) h2 (rxo_lst (ds := []) ra_nil)) E S fun p_wires3 σ F H f E S => ?_
  replace fc := fc.trans f
  have E : EnvR K _ _ [.val (enc (v_net : (T3 (List (Str × Int)) (List (T3 Str (Tp Int) Bool)) (List (Str × (Tp Int)))))), .val (enc (v_own : (Sq Int))), .val (enc (v_ones : Int)), .val (enc (v_bad : (Tp Int))), .adr p_wires3, .un, .un, .un, .un] := E
  have S : Hx K _ _ _ _ [⟨p_wires3, true, v1.map enc⟩] _ := S
  obtain ⟨s25, h8, hm0⟩ := bindE hm0
  try (with_reducible refine nxD ?_)
  with_reducible refine sq ?_
  refine st_forS (eα := enc) (fun s5 => [.val (enc (v_net : (T3 (List (Str × Int)) (List (T3 Str (Tp Int) Bool)) (List (Str × (Tp Int)))))), .val (enc (v_own : (Sq Int))), .val (enc (v_ones : Int)), .val (enc (v_bad : (Tp Int))), .adr p_wires3, .un, .un, .un, .un]) (fun s5 => [⟨p_wires3, true, s5.map enc⟩]) E S (ri_any (rx_ixT (ds := [enc (v_net.a : (List (Str × Int))), enc (v_net.b : (List (T3 Str (Tp Int) Bool))), enc (v_net.c : (List (Str × (Tp Int))))]) (d := enc (v_net.a : (List (Str × Int)))) rfl (rx_var (d := enc (v_net : (T3 (List (Str × Int)) (List (T3 Str (Tp Int) Bool)) (List (Str × (Tp Int)))))) rfl) rx_int) (rx_var (d := enc (v_own : (Sq Int))) rfl)) h8 ⟨.inl rfl, .inl rfl, .inl rfl, .inl rfl, .inl rfl, .inr rfl, .inr rfl, .inr rfl, .inr rfl, trivial⟩ (fun σ F H f E S => ?_) (fun x6 _ s5 s' h4 σ F H v _ E S r N B hN => ?_)
  · replace fc := fc.trans f
    have E : EnvR K _ _ [.val (enc (v_net : (T3 (List (Str × Int)) (List (T3 Str (Tp Int) Bool)) (List (Str × (Tp Int)))))), .val (enc (v_own : (Sq Int))), .val (enc (v_ones : Int)), .val (enc (v_bad : (Tp Int))), .adr p_wires3, .un, .un, .un, .un] := E
    have S : Hx K _ _ _ _ [⟨p_wires3, true, s25.map enc⟩] _ := S
    obtain rfl := Option.some.inj hm0
    -- return
    try (with_reducible refine nxD ?_)
    refine st_retA rfl E ?_
    obtain ⟨n1, n2, n3, zs, n4, n5, n6⟩ := S.get (j := 0) rfl
    exact k _ _ _ zs S.stp (n2 rfl) n1 n4 n5 n6
  · refine ((rg_tup (ds := [enc (x6.1 : (Str × Int)), enc (x6.2 : Int)]) (RGs.cons (rg_tup (ds := [enc (x6.1.1 : Str), enc (x6.1.2 : Int)]) (RGs.cons (rg_name (i := 5) (d := enc (x6.1.1 : Str))) (RGs.cons (rg_name (i := 6) (d := enc (x6.1.2 : Int))) RGs.nil))) (RGs.cons (rg_name (i := 7) (d := enc (x6.2 : Int))) RGs.nil)))).run _ _ _ _ _ E r S.fh fun σ E _ => ?_
    have E : EnvR K _ _ [.val (enc (v_net : (T3 (List (Str × Int)) (List (T3 Str (Tp Int) Bool)) (List (Str × (Tp Int)))))), .val (enc (v_own : (Sq Int))), .val (enc (v_ones : Int)), .val (enc (v_bad : (Tp Int))), .adr p_wires3, .val (enc (x6.1.1 : Str)), .val (enc (x6.1.2 : Int)), .val (enc (x6.2 : Int)), .un] := E
    have S : Hx K _ _ _ _ [⟨p_wires3, true, s5.map enc⟩] _ := S
    have fc : Same F F := Same.refl F
    obtain ⟨l10, h11, h4⟩ := bindE h4
    obtain ⟨s24, h16, h4⟩ := bindE h4
    try (with_reducible refine nxD ?_)
    refine (st_forS (eα := enc) (fun s13 => [.val (enc (v_net : (T3 (List (Str × Int)) (List (T3 Str (Tp Int) Bool)) (List (Str × (Tp Int)))))), .val (enc (v_own : (Sq Int))), .val (enc (v_ones : Int)), .val (enc (v_bad : (Tp Int))), .adr p_wires3, .val (enc (x6.1.1 : Str)), .val (enc (x6.1.2 : Int)), .val (enc (x6.2 : Int)), .un]) (fun s13 => [⟨p_wires3, true, s13.map enc⟩]) E S (ri_range h11 (rx_var (d := enc (x6.1.2 : Int)) rfl)) h16 ⟨.inl rfl, .inl rfl, .inl rfl, .inl rfl, .inl rfl, .inl rfl, .inl rfl, .inl rfl, .inr rfl, trivial⟩ (fun σ F H f E S => ?_) (fun x14 _ s13 s' h12 σ F H v _ E S r N B hN => ?_))
    · replace fc := fc.trans f
      have E : EnvR K _ _ [.val (enc (v_net : (T3 (List (Str × Int)) (List (T3 Str (Tp Int) Bool)) (List (Str × (Tp Int)))))), .val (enc (v_own : (Sq Int))), .val (enc (v_ones : Int)), .val (enc (v_bad : (Tp Int))), .adr p_wires3, .val (enc (x6.1.1 : Str)), .val (enc (x6.1.2 : Int)), .val (enc (x6.2 : Int)), .un] := E
      have S : Hx K _ _ _ _ [⟨p_wires3, true, s24.map enc⟩] _ := S
      obtain rfl := Option.some.inj h4
      exact hN _ _ _ fc (E.weak ⟨.inl rfl, .inl rfl, .inl rfl, .inl rfl, .inl rfl, .inr rfl, .inr rfl, .inr rfl, .inr rfl, trivial⟩) S
    · refine ((rg_name (i := 8) (d := enc (x14 : Int)))).run _ _ _ _ _ E r S.fh fun σ E _ => ?_
      have E : EnvR K _ _ [.val (enc (v_net : (T3 (List (Str × Int)) (List (T3 Str (Tp Int) Bool)) (List (Str × (Tp Int)))))), .val (enc (v_own : (Sq Int))), .val (enc (v_ones : Int)), .val (enc (v_bad : (Tp Int))), .adr p_wires3, .val (enc (x6.1.1 : Str)), .val (enc (x6.1.2 : Int)), .val (enc (x6.2 : Int)), .val (enc (x14 : Int))] := E
      have S : Hx K _ _ _ _ [⟨p_wires3, true, s13.map enc⟩] _ := S
      have fc : Same F F := Same.refl F
      obtain ⟨j18, h19, h12⟩ := bindE h12
      try (with_reducible refine nxD ?_)
      refine (st_ifJ (b := (decide ((s13.length : Int) ∈ v_bad.l))) [.val (enc (v_net : (T3 (List (Str × Int)) (List (T3 Str (Tp Int) Bool)) (List (Str × (Tp Int)))))), .val (enc (v_own : (Sq Int))), .val (enc (v_ones : Int)), .val (enc (v_bad : (Tp Int))), .adr p_wires3, .val (enc (x6.1.1 : Str)), .val (enc (x6.1.2 : Int)), .val (enc (x6.2 : Int)), .val (enc (x14 : Int))] [⟨p_wires3, true, j18.map enc⟩] (rt_val (rx_inIT (neg := false) (len_nat (f := enc) (rxs_own (j := 0) (ds := s13.map enc) rfl rfl)) (rx_var (d := enc (v_bad : (Tp Int))) rfl))) E S (fun σ F H f E S => ?_) (fun hc F H rest f E S => ?_) (fun hc F H rest f E S => ?_))
      · replace fc := fc.trans f
        obtain rfl := Option.some.inj h12
        exact hN _ _ _ fc (E.weak ⟨.inl rfl, .inl rfl, .inl rfl, .inl rfl, .inl rfl, .inl rfl, .inl rfl, .inl rfl, .inr rfl, trivial⟩) S
      · rw [if_pos hc] at h19
        have fc := f
        obtain ⟨u20, h21, h19⟩ := bindE h19
        try (with_reducible refine nxD ?_)
        refine (st_app (j := 0) (ds := s13.map enc) (d := enc ((Builtin.bitXor v_ones x6.2) : Int)) (appO_map enc h21) rfl (rx_bxor (rx_var (d := enc (v_ones : Int)) rfl) (rx_var (d := enc (x6.2 : Int)) rfl)) ⟨_, rfl⟩ rfl E S fun F H f E S => ?_)
        replace fc := fc.trans f
        have E : EnvR K _ _ [.val (enc (v_net : (T3 (List (Str × Int)) (List (T3 Str (Tp Int) Bool)) (List (Str × (Tp Int)))))), .val (enc (v_own : (Sq Int))), .val (enc (v_ones : Int)), .val (enc (v_bad : (Tp Int))), .adr p_wires3, .val (enc (x6.1.1 : Str)), .val (enc (x6.1.2 : Int)), .val (enc (x6.2 : Int)), .val (enc (x14 : Int))] := E
        have S : Hx K _ _ _ _ [⟨p_wires3, true, u20.map enc⟩] _ := S
        obtain rfl := Option.some.inj h19
        exact rest _ _ _ fc (E.weak ⟨.inl rfl, .inl rfl, .inl rfl, .inl rfl, .inl rfl, .inl rfl, .inl rfl, .inl rfl, .inl rfl, trivial⟩) S
      · rw [if_neg (by rw [hc]; decide)] at h19
        have fc := f
        obtain ⟨u22, h23, h19⟩ := bindE h19
        try (with_reducible refine nxD ?_)
        refine (st_app (j := 0) (ds := s13.map enc) (d := enc (x6.2 : Int)) (appO_map enc h23) rfl (rx_var (d := enc (x6.2 : Int)) rfl) ⟨_, rfl⟩ rfl E S fun F H f E S => ?_)
        replace fc := fc.trans f
        have E : EnvR K _ _ [.val (enc (v_net : (T3 (List (Str × Int)) (List (T3 Str (Tp Int) Bool)) (List (Str × (Tp Int)))))), .val (enc (v_own : (Sq Int))), .val (enc (v_ones : Int)), .val (enc (v_bad : (Tp Int))), .adr p_wires3, .val (enc (x6.1.1 : Str)), .val (enc (x6.1.2 : Int)), .val (enc (x6.2 : Int)), .val (enc (x14 : Int))] := E
        have S : Hx K _ _ _ _ [⟨p_wires3, true, u22.map enc⟩] _ := S
        obtain rfl := Option.some.inj h19
        exact rest _ _ _ fc (E.weak ⟨.inl rfl, .inl rfl, .inl rfl, .inl rfl, .inl rfl, .inl rfl, .inl rfl, .inl rfl, .inl rfl, trivial⟩) S
theorem sc_all_wires : FnScope ["net", "own", "ones"] ["net"] (defScope (top 6)) := ⟨rfl, rfl, rfl, by decide +kernel, rfl, by decide +kernel, by decide +kernel⟩
theorem ok_all_wires (D : Dfn K mg "all_wires" (top 6) ["net"]) (C_all_inputs : Cal P w K mg base 1 "all_inputs" ["net"] (SpP K R_all_inputs)) (C_gone_on : Cal P w K mg base 2 "gone_on" ["net", "first", "ones", "turned"] (SpN K R_gone_on)) (C_ins_wires : Cal P w K mg base 1 "ins_wires" ["net", "own", "ones", "bad"] (SpN K R_ins_wires)) : Cal P w K mg base 3 "all_wires" ["net"] (SpP K R_all_wires) := by
  refine D.cal sc_all_wires (sp_len fun ds d h => by obtain ⟨_, _, rfl, _⟩ := h; rfl) fun f cdv A outer s H vs Q E hr h => ?_
  refine ⟨_, (pss_cons (ps_asg (pe_cal C_all_inputs hr (pa_cons (pv 0) pa_nil)) (pg_tup rfl (pgs_cons (pg_name (i := 1) sc_all_wires.nd rfl (Or.inl rfl)) (pgs_cons (pg_name (i := 2) sc_all_wires.nd rfl (Or.inl rfl)) pgs_nil)))) (pss_one (ps_ret (pe_tup (pa_cons (pe_cal C_gone_on hr (pa_cons (pv 0) (pa_cons (pe_cal C_ins_wires hr (pa_cons (pv 0) (pa_cons (pv 1) (pa_cons (pv 2) (pa_cons (pe_tup pa_nil) pa_nil))))) (pa_cons (pv 2) (pa_cons (pe_tup pa_nil) pa_nil))))) (pa_cons (pv 2) pa_nil)))))), ?_⟩
  obtain ⟨F, ds, d, hw, hF, ⟨v_net, rr, rfl, rfl, hm0⟩, k⟩ := h
  have E : EnvR K F _ [.val (enc (v_net : (T3 (List (Str × Int)) (List (T3 Str (Tp Int) Bool)) (List (Str × (Tp Int)))))), .un, .un] := EnvR.start (N := ["net", "own", "ones"]) (AsR.of_all hw)
  have S := Hx.start (K := K) hF
  have fc : Same F F := Same.refl F
  unfold m_all_wires at hm0
  obtain ⟨r1, h2, hm0⟩ := bindE hm0
  try (with_reducible refine nxD ?_)
  with_reducible refine sq ?_
  refine st_unp (d := enc (r1 : ((List Int) × Int))) (rx_call (ds := [enc (v_net : (T3 (List (Str × Int)) (List (T3 Str (Tp Int) Bool)) (List (Str × (Tp Int)))))]) (d := enc (r1 : ((List Int) × Int))) ⟨_, r1, rfl, rfl, h2⟩ (ra_cons (rx_var (d := enc (v_net : (T3 (List (Str × Int)) (List (T3 Str (Tp Int) Bool)) (List (Str × (Tp Int)))))) rfl) ra_nil)) (rg_tup (ds := [enc (r1.1 : (List Int)), enc (r1.2 : Int)]) (RGs.cons (rg_name (i := 1) (d := enc (r1.1 : (List Int)))) (RGs.cons (rg_name (i := 2) (d := enc (r1.2 : Int))) RGs.nil))) E S fun σ F H f E S => ?_
  replace fc := fc.trans f
  have E : EnvR K _ _ [.val (enc (v_net : (T3 (List (Str × Int)) (List (T3 Str (Tp Int) Bool)) (List (Str × (Tp Int)))))), .val (enc (r1.1 : (List Int))), .val (enc (r1.2 : Int))] := E
  have S : Hx K _ _ _ _ [] _ := S
  obtain ⟨r7, h8, hm0⟩ := bindE hm0
  obtain ⟨r9, h10, hm0⟩ := bindE hm0
  obtain rfl := Option.some.inj hm0
  -- return
  try (with_reducible refine nxD ?_)
  refine st_ret (d := enc ((r9, r1.2) : ((List Int) × Int))) (rx_tup (ds := [enc (r9 : (List Int)), enc (r1.2 : Int)]) (ra_cons (RXo.frz (rxo_call (ds := [enc (v_net : (T3 (List (Str × Int)) (List (T3 Str (Tp Int) Bool)) (List (Str × (Tp Int))))), enc (r7 : (List Int)), enc (r1.2 : Int), enc (((Tp.mk []) : (Tp Int)) : (Tp Int))]) (es := r9.map enc) ⟨_, _, _, _, r9, rfl, rfl, h10⟩ (ra_cons (rx_var (d := enc (v_net : (T3 (List (Str × Int)) (List (T3 Str (Tp Int) Bool)) (List (Str × (Tp Int)))))) rfl) (ra_cons (RXo.frz (rxo_call (ds := [enc (v_net : (T3 (List (Str × Int)) (List (T3 Str (Tp Int) Bool)) (List (Str × (Tp Int))))), enc ((Sq.mk false r1.1) : (Sq Int)), enc (r1.2 : Int), enc (((Tp.mk []) : (Tp Int)) : (Tp Int))]) (es := r7.map enc) ⟨_, _, _, _, r7, rfl, rfl, h8⟩ (ra_cons (rx_var (d := enc (v_net : (T3 (List (Str × Int)) (List (T3 Str (Tp Int) Bool)) (List (Str × (Tp Int)))))) rfl) (ra_cons (rx_var (d := enc (r1.1 : (List Int))) rfl) (ra_cons (rx_var (d := enc (r1.2 : Int)) rfl) (ra_cons (rx_tup (ds := []) ra_nil) ra_nil)))))) (ra_cons (rx_var (d := enc (r1.2 : Int)) rfl) (ra_cons (rx_tup (ds := []) ra_nil) ra_nil)))))) (ra_cons (rx_var (d := enc (r1.2 : Int)) rfl) ra_nil))) E S fun v F H f S r => ?_
  exact k v F H S.stp r
theorem sc_sets_of : FnScope ["places", "size", "found", "k", "wider", "some", "place"] ["places", "size"] (defScope (top 11)) := ⟨rfl, rfl, rfl, by decide +kernel, rfl, by decide +kernel, by decide +kernel⟩
theorem ok_sets_of (B : Bi mg) (D : Dfn K mg "sets_of" (top 11) ["places", "size"]) : Cal P w K mg base 1 "sets_of" ["places", "size"] (SpP K R_sets_of) := by
  refine D.cal sc_sets_of (sp_len fun ds d h => by obtain ⟨_, _, _, rfl, _⟩ := h; rfl) fun f cdv A outer s H vs Q E hr h => ?_
  refine ⟨_, (pss_cons (ps_set (i := 2) sc_sets_of.nd rfl (Or.inl rfl) (pe_lst (pa_cons (pe_tup pa_nil) pa_nil))) (pss_cons (ps_for PassesOwn.never rfl (pi_range1 rfl B.range (pa_cons (pv 1) pa_nil)) (pg_name (i := 3) sc_sets_of.nd rfl (Or.inl rfl)) (pss_cons (ps_set (i := 4) sc_sets_of.nd rfl (Or.inl rfl) (pe_lst pa_nil)) (pss_cons (ps_for PassesOwn.never rfl (k_pi_list K (pv 2)) (pg_name (i := 5) sc_sets_of.nd rfl (Or.inr rfl)) (pss_one (ps_expr (pe_bm PySem.F.plainAttrs_list PySem.F.slot_list_extend PySem.F.type_list_extend mt_extR (pv 4) (pa_cons (pe_lc (own := [(("place" : Str), 6)]) (g := (gName 6)) rfl sc_sets_of.nd (k_pi_list K (pv 0)) (blkOk_by (by kernel_rfl)) (fun _ _ _ _ _ => (pg_name (i := 6) sc_sets_of.nd rfl (Or.inl rfl))) (fun _ _ _ _ _ => (pts_one (PW.pt (pw_or (pt_cmpR (k_eqD K hr.units) (pv 5) (pe_tup pa_nil) (nomark _)) (pw_or1 (pt_cmpR op_gt (pv 6) (pe_ix (k_ix_tup K) (pv 5) (pe_un un_neg pe_int) (fun _ _ => rfl)) (nomark _))))))) (fun _ _ _ _ _ => (pe_op (k_catA K) (pv 5) (pe_tup (pa_cons (pv 6) pa_nil))))) pa_nil))))) (pss_one (ps_set (i := 2) sc_sets_of.nd rfl (Or.inl rfl) (pv 4)))))) (pss_one (ps_ret (pv 2))))), ?_⟩
  obtain ⟨F, ds, d, hw, hF, ⟨v_places, v_size, rr, rfl, rfl, hm0⟩, k⟩ := h
  have E : EnvR K F _ [.val (enc (v_places : (List Int))), .val (enc (v_size : Int)), .un, .un, .un, .un, .un] := EnvR.start (N := ["places", "size", "found", "k", "wider", "some", "place"]) (AsR.of_all hw)
  have S := Hx.start (K := K) hF
  have fc : Same F F := Same.refl F
  unfold m_sets_of at hm0
  obtain ⟨v1, h2, hm0⟩ := letE hm0
  try (with_reducible refine nxD ?_)
  with_reducible refine sq ?_
  refine st_set (i := 2) (d := enc (v1 : (List (Tp Int)))) (rx_as (x := (([((Tp.mk []) : (Tp Int))] : (List (Tp Int))) : (List (Tp Int)))) h2 (RXo.frz (rxo_lst (ds := [enc (((Tp.mk []) : (Tp Int)) : (Tp Int))]) (ra_cons (rx_tup (ds := []) ra_nil) ra_nil)))) E S fun σ F H f E S => ?_
  replace fc := fc.trans f
  have E : EnvR K _ _ [.val (enc (v_places : (List Int))), .val (enc (v_size : Int)), .val (enc (v1 : (List (Tp Int)))), .un, .un, .un, .un] := E
  have S : Hx K _ _ _ _ [] _ := S
  obtain ⟨l3, h4, hm0⟩ := bindE hm0
  obtain ⟨s41, h9, hm0⟩ := bindE hm0
  try (with_reducible refine nxD ?_)
  with_reducible refine sq ?_
  refine st_forS (eα := enc) (fun s6 => [.val (enc (v_places : (List Int))), .val (enc (v_size : Int)), .val (enc (s6 : (List (Tp Int)))), .un, .un, .un, .un]) (fun s6 => []) E S (ri_range h4 (rx_var (d := enc (v_size : Int)) rfl)) h9 ⟨.inl rfl, .inl rfl, .inl rfl, .inr rfl, .inr rfl, .inr rfl, .inr rfl, trivial⟩ (fun σ F H f E S => ?_) (fun x7 _ s6 s' h5 σ F H v _ E S r N B hN => ?_)
  · replace fc := fc.trans f
    have E : EnvR K _ _ [.val (enc (v_places : (List Int))), .val (enc (v_size : Int)), .val (enc (s41 : (List (Tp Int)))), .un, .un, .un, .un] := E
    have S : Hx K _ _ _ _ [] _ := S
    obtain rfl := Option.some.inj hm0
    -- return
    try (with_reducible refine nxD ?_)
    refine st_ret (d := enc (s41 : (List (Tp Int)))) (rx_var (d := enc (s41 : (List (Tp Int)))) rfl) E S fun v F H f S r => ?_
    exact k v F H S.stp r
  · refine ((rg_name (i := 3) (d := enc (x7 : Int)))).run _ _ _ _ _ E r S.fh fun σ E _ => ?_
    have E : EnvR K _ _ [.val (enc (v_places : (List Int))), .val (enc (v_size : Int)), .val (enc (s6 : (List (Tp Int)))), .val (enc (x7 : Int)), .un, .un, .un] := E
    have S : Hx K _ _ _ _ [] _ := S
    have fc : Same F F := Same.refl F
    obtain ⟨v11, h12, h5⟩ := letE h5
    try (with_reducible refine nxD ?_)
    with_reducible refine sq ?_
    refine st_setO (i := 4) (ds := v11.map enc) (rxo_as (f := enc) h12 (rxo_lst (ds := []) ra_nil)) E S fun p_wider13 σ F H f E S => ?_
    replace fc := fc.trans f
    have E : EnvR K _ _ [.val (enc (v_places : (List Int))), .val (enc (v_size : Int)), .val (enc (s6 : (List (Tp Int)))), .val (enc (x7 : Int)), .adr p_wider13, .un, .un] := E
    have S : Hx K _ _ _ _ [⟨p_wider13, true, v11.map enc⟩] _ := S
    obtain ⟨s40, h18, h5⟩ := bindE h5
    try (with_reducible refine nxD ?_)
    with_reducible refine sq ?_
    refine st_forS (eα := enc) (fun s15 => [.val (enc (v_places : (List Int))), .val (enc (v_size : Int)), .val (enc (s6 : (List (Tp Int)))), .val (enc (x7 : Int)), .adr p_wider13, .un, .un]) (fun s15 => [⟨p_wider13, true, s15.map enc⟩]) E S (ri_list (ys := s6.map enc) (rx_var (d := enc (s6 : (List (Tp Int)))) rfl)) h18 ⟨.inl rfl, .inl rfl, .inl rfl, .inl rfl, .inl rfl, .inr rfl, .inr rfl, trivial⟩ (fun σ F H f E S => ?_) (fun x16 _ s15 s' h14 σ F H v _ E S r N B hN => ?_)
    · replace fc := fc.trans f
      have E : EnvR K _ _ [.val (enc (v_places : (List Int))), .val (enc (v_size : Int)), .val (enc (s6 : (List (Tp Int)))), .val (enc (x7 : Int)), .adr p_wider13, .un, .un] := E
      have S : Hx K _ _ _ _ [⟨p_wider13, true, s40.map enc⟩] _ := S
      obtain ⟨F, f, E, S⟩ := frz_at (i := 4) (j := 0) rfl rfl E S
      have E : EnvR K F _ [.val (enc (v_places : (List Int))), .val (enc (v_size : Int)), .val (enc (s6 : (List (Tp Int)))), .val (enc (x7 : Int)), .val (enc (s40 : (List (Tp Int)))), .un, .un] := E
      have S : Hx K _ _ _ F [] _ := S
      replace fc := fc.trans f
      try (with_reducible refine nxD ?_)
      refine (st_set (i := 2) (d := enc (s40 : (List (Tp Int)))) (rx_var (d := enc (s40 : (List (Tp Int)))) rfl) E S fun σ F H f E S => ?_)
      replace fc := fc.trans f
      have E : EnvR K _ _ [.val (enc (v_places : (List Int))), .val (enc (v_size : Int)), .val (enc (s40 : (List (Tp Int)))), .val (enc (x7 : Int)), .val (enc (s40 : (List (Tp Int)))), .un, .un] := E
      have S : Hx K _ _ _ _ [] _ := S
      obtain rfl := Option.some.inj h5
      exact hN _ _ _ fc (E.weak ⟨.inl rfl, .inl rfl, .inl rfl, .inr rfl, .inr rfl, .inr rfl, .inr rfl, trivial⟩) S
    · refine ((rg_name (i := 5) (d := enc (x16 : (Tp Int))))).run _ _ _ _ _ E r S.fh fun σ E _ => ?_
      have E : EnvR K _ _ [.val (enc (v_places : (List Int))), .val (enc (v_size : Int)), .val (enc (s6 : (List (Tp Int)))), .val (enc (x7 : Int)), .adr p_wider13, .val (enc (x16 : (Tp Int))), .un] := E
      have S : Hx K _ _ _ _ [⟨p_wider13, true, s15.map enc⟩] _ := S
      have fc : Same F F := Same.refl F
      obtain ⟨l36, h37, h14⟩ := bindE h14
      obtain ⟨u38, h39, h14⟩ := bindE h14
      try (with_reducible refine nxD ?_)
      refine (st_ext (j := 0) (ds := s15.map enc) (es := l36.map enc) (extO_map enc h39) rfl (RXo.frz (rxo_filtO (eα := enc) (eβ := enc) (fun x21 => [.val (enc (v_places : (List Int))), .val (enc (v_size : Int)), .val (enc (s6 : (List (Tp Int)))), .val (enc (x7 : Int)), .adr p_wider13, .val (enc (x16 : (Tp Int))), .val (enc (x21 : Int))]) [6] (ri_list (ys := v_places.map enc) (rx_var (d := enc (v_places : (List Int))) rfl)) h37 (by decide) (fun x21 _ => (rg_name (i := 6) (d := enc (x21 : Int)))) (fun x21 _ y h20 D22 acc23 => by obtain ⟨b33, h30, h20⟩ := bindE h20; obtain rfl := Option.some.inj h20; exact (rt_or (a := (decide ((x16 : (Tp Int)) = ((Tp.mk []) : (Tp Int))))) (c := b33) (rt_val (rx_eqT (x := (x16 : (Tp Int))) (y := (((Tp.mk []) : (Tp Int)) : (Tp Int))) (RX.h (rx_var (d := enc (x16 : (Tp Int))) rfl)) (RX.h (rx_tup (ds := []) ra_nil)))) (fun ha => by rw [if_neg (by rw [ha]; decide)] at h30; obtain ⟨t31, h32, h30⟩ := bindE h30; obtain rfl := Option.some.inj h30; exact (rt_val (rx_gt (rx_var (d := enc (x21 : Int)) rfl) (rx_ixT (atI_map enc h32) (rx_var (d := enc (x16 : (Tp Int))) rfl) (rx_usub rx_int))))) (fun ha => by rw [if_pos ha] at h30; obtain rfl := Option.some.inj h30; exact ⟨rfl, rfl⟩))) (fun x21 _ y h20 D22 acc23 => by obtain ⟨t34, h35, h20⟩ := bindE h20; obtain rfl := Option.some.inj h20; exact (rx_catTO (f := enc) h35 (rx_var (d := enc (x16 : (Tp Int))) rfl) (rx_tup (ds := [enc (x21 : Int)]) (ra_cons (rx_var (d := enc (x21 : Int)) rfl) ra_nil)))))) ⟨_, rfl⟩ rfl E S fun F H f E S => ?_)
      replace fc := fc.trans f
      have E : EnvR K _ _ [.val (enc (v_places : (List Int))), .val (enc (v_size : Int)), .val (enc (s6 : (List (Tp Int)))), .val (enc (x7 : Int)), .adr p_wider13, .val (enc (x16 : (Tp Int))), .un] := E
      have S : Hx K _ _ _ _ [⟨p_wider13, true, u38.map enc⟩] _ := S
      obtain rfl := Option.some.inj h14
      exact hN _ _ _ fc (E.weak ⟨.inl rfl, .inl rfl, .inl rfl, .inl rfl, .inl rfl, .inr rfl, .inr rfl, trivial⟩) S
theorem sc_free_places : FnScope ["net", "place", "gate"] ["net"] (defScope (top 10)) := ⟨rfl, rfl, rfl, by decide +kernel, rfl, by decide +kernel, by decide +kernel⟩
theorem ok_free_places (B : Bi mg) (D : Dfn K mg "free_places" (top 10) ["net"]) : Cal P w K mg base 1 "free_places" ["net"] (SpN K R_free_places) := by
  refine D.cal sc_free_places (sn_len fun ds d h => by obtain ⟨_, _, rfl, _⟩ := h; rfl) fun f cdv A outer s H vs Q E hr h => ?_
  refine ⟨_, (pss_one (ps_ret (pe_lc (own := [(("place" : Str), 1), (("gate" : Str), 2)]) (g := (gTup K 2 (gCons (gName 1) (gCons (gName 2) gNil)))) rfl sc_free_places.nd (k_pi_enum K (by rfl) B.enumerate (pa_cons (pe_ix (k_ix_tup K) (pv 0) pe_int (fun _ _ => rfl)) pa_nil)) (blkOk_by (by kernel_rfl)) (fun _ _ _ _ _ => (pg_tup rfl (pgs_cons (pg_name (i := 1) sc_free_places.nd rfl (Or.inl rfl)) (pgs_cons (pg_name (i := 2) sc_free_places.nd rfl (Or.inl rfl)) pgs_nil)))) (fun _ _ _ _ _ => (pts_one (pt_not (pt_val (pe_ix (k_ix_tup K) (pv 2) pe_int (fun _ _ => rfl)))))) (fun _ _ _ _ _ => (pv 1))))), ?_⟩
  obtain ⟨F, ds, es, hw, hF, ⟨v_net, rr, rfl, rfl, hm0⟩, k⟩ := h
  have E : EnvR K F _ [.val (enc (v_net : (T3 (List (Str × Int)) (List (T3 Str (Tp Int) Bool)) (List (Str × (Tp Int)))))), .un, .un] := EnvR.start (N := ["net", "place", "gate"]) (AsR.of_all hw)
  have S := Hx.start (K := K) hF
  have fc : Same F F := Same.refl F
  unfold m_free_places at hm0
  obtain rfl := Option.some.inj hm0
  -- return
  try (with_reducible refine nxD ?_)
  refine st_retO (ds := (((enumL v_net.b).filter (fun (x6 : (Int × (T3 Str (Tp Int) Bool))) => (!x6.2.c))).map (fun (x6 : (Int × (T3 Str (Tp Int) Bool))) => (x6.1 : Int))).map enc) (rxo_filt (eα := enc) (eβ := enc) (p := (fun (x6 : (Int × (T3 Str (Tp Int) Bool))) => (!x6.2.c))) (f := (fun (x6 : (Int × (T3 Str (Tp Int) Bool))) => (x6.1 : Int))) (fun x6 => [.val (enc (v_net : (T3 (List (Str × Int)) (List (T3 Str (Tp Int) Bool)) (List (Str × (Tp Int)))))), .val (enc (x6.1 : Int)), .val (enc (x6.2 : (T3 Str (Tp Int) Bool)))]) [1, 2] (ri_enumT (rx_ixT (ds := [enc (v_net.a : (List (Str × Int))), enc (v_net.b : (List (T3 Str (Tp Int) Bool))), enc (v_net.c : (List (Str × (Tp Int))))]) (d := enc (v_net.b : (List (T3 Str (Tp Int) Bool)))) rfl (rx_var (d := enc (v_net : (T3 (List (Str × Int)) (List (T3 Str (Tp Int) Bool)) (List (Str × (Tp Int)))))) rfl) rx_int)) (by decide) (fun x6 _ => (rg_tup (ds := [enc (x6.1 : Int), enc (x6.2 : (T3 Str (Tp Int) Bool))]) (RGs.cons (rg_name (i := 1) (d := enc (x6.1 : Int))) (RGs.cons (rg_name (i := 2) (d := enc (x6.2 : (T3 Str (Tp Int) Bool)))) RGs.nil)))) (fun x6 _ D7 acc8 => (rt_not (rt_b (rx_ixT (ds := [enc (x6.2.a : Str), enc (x6.2.b : (Tp Int)), enc (x6.2.c : Bool)]) (d := enc (x6.2.c : Bool)) rfl (rx_var (d := enc (x6.2 : (T3 Str (Tp Int) Bool))) rfl) rx_int)))) (fun x6 _ D7 acc8 => (rx_var (d := enc (x6.1 : Int)) rfl))) E S fun p F H f S => ?_
  obtain ⟨n1, n2, n3, zs, n4, n5, n6⟩ := S.get (j := 0) rfl
  exact k _ _ _ zs S.stp (n2 rfl) n1 n4 n5 n6
theorem sc_has_within : FnScope ["sets", "some", "one", "place"] ["sets", "some"] (defScope (top 16)) := ⟨rfl, rfl, rfl, by decide +kernel, rfl, by decide +kernel, by decide +kernel⟩
theorem ok_has_within (D : Dfn K mg "has_within" (top 16) ["sets", "some"]) : Cal P w K mg base 1 "has_within" ["sets", "some"] (SpP K R_has_within) := by
  refine D.cal sc_has_within (sp_len fun ds d h => by obtain ⟨_, _, _, rfl, _⟩ := h; rfl) fun f cdv A outer s H vs Q E hr h => ?_
  refine ⟨_, (pss_cons (ps_for PassesOwn.never rfl (k_pi_list K (pv 0)) (pg_name (i := 2) sc_has_within.nd rfl (Or.inl rfl)) (pss_one (ps_if (pt_cmpR (k_eqD K hr.units) (pe_lc (own := [(("place" : Str), 3)]) (g := (gName 3)) rfl sc_has_within.nd (k_pi_tup K (pv 2)) (blkOk_by (by kernel_rfl)) (fun _ _ _ _ _ => (pg_name (i := 3) sc_has_within.nd rfl (Or.inl rfl))) (fun _ _ _ _ _ => (pts_one (pt_cmpR (k_notIn_seq K) (pv 3) (pv 1) (by rfl)))) (fun _ _ _ _ _ => (pv 3))) (pe_lst pa_nil) (nomark _)) (pss_one (ps_ret pe_bl)) pss_nil))) (pss_one (ps_ret pe_bl))), ?_⟩
  obtain ⟨F, ds, d, hw, hF, ⟨v_sets, v_some, rr, rfl, rfl, hm0⟩, k⟩ := h
  have E : EnvR K F _ [.val (enc (v_sets : (List (Tp Int)))), .val (enc (v_some : (Tp Int))), .un, .un] := EnvR.start (N := ["sets", "some", "one", "place"]) (AsR.of_all hw)
  have S := Hx.start (K := K) hF
  have fc : Same F F := Same.refl F
  unfold m_has_within at hm0
  obtain ⟨fl4, h5, hm0⟩ := bindE hm0
  try (with_reducible refine nxD ?_)
  with_reducible refine sq ?_
  refine st_forF (eα := enc) (fun s2 => [.val (enc (v_sets : (List (Tp Int)))), .val (enc (v_some : (Tp Int))), .un, .un]) (fun s2 => []) E S (ri_list (ys := v_sets.map enc) (rx_var (d := enc (v_sets : (List (Tp Int)))) rfl)) h5 ⟨.inl rfl, .inl rfl, .inr rfl, .inr rfl, trivial⟩ (fun s11 e σ F H f E S => ?_) (fun x3 _ s2 out h1 hrt6 σ F H v _ E S r N B hN hB => ?_)
  · subst e
    replace fc := fc.trans f
    simp only [flK] at hm0
    obtain rfl := Option.some.inj hm0
    -- return
    try (with_reducible refine nxD ?_)
    refine st_ret (d := enc (false : Bool)) rx_bl E S fun v F H f S r => ?_
    exact k v F H S.stp r
  · refine ((rg_name (i := 2) (d := enc (x3 : (Tp Int))))).run _ _ _ _ _ E r S.fh fun σ E _ => ?_
    have E : EnvR K _ _ [.val (enc (v_sets : (List (Tp Int)))), .val (enc (v_some : (Tp Int))), .val (enc (x3 : (Tp Int))), .un] := E
    have S : Hx K _ _ _ _ [] _ := S
    have fc : Same F F := Same.refl F
    try (with_reducible refine nxD ?_)
    refine (st_if (b := (decide ((((x3.l.filter (fun (x8 : Int) => (!decide (x8 ∈ v_some.l)))).map (fun (x8 : Int) => (x8 : Int))) : (List Int)) = ([] : (List Int))))) (rt_val (rx_eqT (x := (((x3.l.filter (fun (x8 : Int) => (!decide (x8 ∈ v_some.l)))).map (fun (x8 : Int) => (x8 : Int))) : (List Int))) (y := (([] : (List Int)) : (List Int))) (RX.h (RXo.frz (rxo_filt (eα := enc) (eβ := enc) (p := (fun (x8 : Int) => (!decide (x8 ∈ v_some.l)))) (f := (fun (x8 : Int) => (x8 : Int))) (fun x8 => [.val (enc (v_sets : (List (Tp Int)))), .val (enc (v_some : (Tp Int))), .val (enc (x3 : (Tp Int))), .val (enc (x8 : Int))]) [3] (ri_tup (ys := x3.l.map enc) (rx_var (d := enc (x3 : (Tp Int))) rfl)) (by decide) (fun x8 _ => (rg_name (i := 3) (d := enc (x8 : Int)))) (fun x8 _ D9 acc10 => (rt_val (rx_inIT (neg := true) (rx_var (d := enc (x8 : Int)) rfl) (rx_var (d := enc (v_some : (Tp Int))) rfl)))) (fun x8 _ D9 acc10 => (rx_var (d := enc (x8 : Int)) rfl))))) (RX.h (RXo.frz (rxo_lst (ds := []) ra_nil))))) E S (fun hc F H f E S => ?_) (fun hc F H f E S => ?_))
    · rw [if_pos hc] at h1
      replace fc := fc.trans f
      obtain rfl := Option.some.inj h1
      obtain rfl := hrt6 _ rfl
      obtain rfl := Option.some.inj hm0
      -- return
      try (with_reducible refine nxD ?_)
      refine st_ret (d := enc (true : Bool)) rx_bl E S fun v F H f S r => ?_
      exact k v F H S.stp r
    · rw [if_neg (by rw [hc]; decide)] at h1
      replace fc := fc.trans f
      refine nxt ?_
      obtain rfl := Option.some.inj h1
      exact hN _ rfl _ _ _ fc (E.weak ⟨.inl rfl, .inl rfl, .inr rfl, .inr rfl, trivial⟩) S
theorem sc_read_bits : FnScope ["some"] ["some"] (defScope (top 7)) := ⟨rfl, rfl, rfl, by decide +kernel, rfl, by decide +kernel, by decide +kernel⟩
theorem ok_read_bits (B : Bi mg) (D : Dfn K mg "read_bits" (top 7) ["some"]) (C_gate_bits : Cal P w K mg base 1 "gate_bits" ["kind", "some", "ones"] (SpP K R_gate_bits)) : Cal P w K mg base 2 "read_bits" ["some"] (SpP K R_read_bits) := by
  refine D.cal sc_read_bits (sp_len fun ds d h => by obtain ⟨_, _, rfl, _⟩ := h; rfl) fun f cdv A outer s H vs Q E hr h => ?_
  refine ⟨_, (pss_cons (ps_if (pt_cmpR op_eq (pe_callB (k_len_seq K) (by rfl) B.len PySem.boot_len (pa_cons (pv 0) pa_nil)) pe_int (nomark _)) (pss_one (ps_ret (pe_tup (pa_cons (pe_ix (k_ix_seq K) (pv 0) pe_int (fun _ _ => rfl)) (pa_cons pe_int pa_nil))))) pss_nil) (pss_cons (ps_if (pt_cmpR op_eq (pe_callB (k_len_seq K) (by rfl) B.len PySem.boot_len (pa_cons (pv 0) pa_nil)) pe_int (nomark _)) (pss_one (ps_ret (pe_tup (pa_cons (pe_op op_and (pe_ix (k_ix_seq K) (pv 0) pe_int (fun _ _ => rfl)) (pe_ix (k_ix_seq K) (pv 0) pe_int (fun _ _ => rfl))) (pa_cons (pe_op op_xor (pe_ix (k_ix_seq K) (pv 0) pe_int (fun _ _ => rfl)) (pe_ix (k_ix_seq K) (pv 0) pe_int (fun _ _ => rfl))) pa_nil))))) pss_nil) (pss_one (ps_ret (pe_tup (pa_cons (pe_cal C_gate_bits hr (pa_cons pe_str (pa_cons (pv 0) (pa_cons pe_int pa_nil)))) (pa_cons pe_int pa_nil))))))), ?_⟩
  obtain ⟨F, ds, d, hw, hF, ⟨v_some, rr, rfl, rfl, hm0⟩, k⟩ := h
  have E : EnvR K F _ [.val (enc (v_some : (Sq Int)))] := EnvR.start (N := ["some"]) (AsR.of_all hw)
  have S := Hx.start (K := K) hF
  have fc : Same F F := Same.refl F
  unfold m_read_bits at hm0
  try (with_reducible refine nxD ?_)
  with_reducible refine sq ?_
  refine st_if (b := (decide ((v_some.l.length : Int) = (1 : Int)))) (rt_val (rx_eqi (rx_lenQ (rx_var (d := enc (v_some : (Sq Int))) rfl)) rx_int)) E S (fun hc F H f E S => ?_) (fun hc F H f E S => ?_)
  · rw [if_pos hc] at hm0
    replace fc := fc.trans f
    obtain ⟨t3, h4, hm0⟩ := bindE hm0
    obtain rfl := Option.some.inj hm0
    -- return
    try (with_reducible refine nxD ?_)
    refine st_ret (d := enc ((t3, (0 : Int)) : (Int × Int))) (rx_tup (ds := [enc (t3 : Int), enc ((0 : Int) : Int)]) (ra_cons (rx_ixQ h4 (rx_var (d := enc (v_some : (Sq Int))) rfl) rx_int) (ra_cons rx_int ra_nil))) E S fun v F H f S r => ?_
    exact k v F H S.stp r
  · rw [if_neg (by rw [hc]; decide)] at hm0
    replace fc := fc.trans f
    refine nxt ?_
    try (with_reducible refine nxD ?_)
    with_reducible refine sq ?_
    refine st_if (b := (decide ((v_some.l.length : Int) = (2 : Int)))) (rt_val (rx_eqi (rx_lenQ (rx_var (d := enc (v_some : (Sq Int))) rfl)) rx_int)) E S (fun hc F H f E S => ?_) (fun hc F H f E S => ?_)
    · rw [if_pos hc] at hm0
      replace fc := fc.trans f
      obtain ⟨t13, h14, hm0⟩ := bindE hm0
      obtain ⟨t15, h16, hm0⟩ := bindE hm0
      obtain ⟨t17, h18, hm0⟩ := bindE hm0
      obtain ⟨t19, h20, hm0⟩ := bindE hm0
      obtain rfl := Option.some.inj hm0
      -- return
      try (with_reducible refine nxD ?_)
      refine st_ret (d := enc (((Builtin.bitAnd t13 t15), (Builtin.bitXor t17 t19)) : (Int × Int))) (rx_tup (ds := [enc ((Builtin.bitAnd t13 t15) : Int), enc ((Builtin.bitXor t17 t19) : Int)]) (ra_cons (rx_band (rx_ixQ h14 (rx_var (d := enc (v_some : (Sq Int))) rfl) rx_int) (rx_ixQ h16 (rx_var (d := enc (v_some : (Sq Int))) rfl) rx_int)) (ra_cons (rx_bxor (rx_ixQ h18 (rx_var (d := enc (v_some : (Sq Int))) rfl) rx_int) (rx_ixQ h20 (rx_var (d := enc (v_some : (Sq Int))) rfl) rx_int)) ra_nil))) E S fun v F H f S r => ?_
      exact k v F H S.stp r
    · rw [if_neg (by rw [hc]; decide)] at hm0
      replace fc := fc.trans f
      refine nxt ?_
      obtain ⟨r23, h24, hm0⟩ := bindE hm0
      obtain rfl := Option.some.inj hm0
      -- return
      try (with_reducible refine nxD ?_)
      refine st_ret (d := enc ((r23, (0 : Int)) : (Int × Int))) (rx_tup (ds := [enc (r23 : Int), enc ((0 : Int) : Int)]) (ra_cons (rx_call (ds := [enc (("vote" : Str) : Str), enc (v_some : (Sq Int)), enc ((0 : Int) : Int)]) (d := enc (r23 : Int)) ⟨_, _, _, r23, rfl, rfl, h24⟩ (ra_cons (rx_str (x := ("vote" : Str))) (ra_cons (rx_var (d := enc (v_some : (Sq Int))) rfl) (ra_cons rx_int ra_nil)))) (ra_cons rx_int ra_nil))) E S fun v F H f S r => ?_
      exact k v F H S.stp r
theorem sc_outs_read : FnScope ["net", "wires", "name", "own", "one"] ["net", "wires"] (defScope (top 8)) := ⟨rfl, rfl, rfl, by decide +kernel, rfl, by decide +kernel, by decide +kernel⟩
theorem ok_outs_read (D : Dfn K mg "outs_read" (top 8) ["net", "wires"]) (C_read_bits : Cal P w K mg base 2 "read_bits" ["some"] (SpP K R_read_bits)) : Cal P w K mg base 3 "outs_read" ["net", "wires"] (SpN K R_outs_read) := by
  refine D.cal sc_outs_read (sn_len fun ds d h => by obtain ⟨_, _, _, rfl, _⟩ := h; rfl) fun f cdv A outer s H vs Q E hr h => ?_
  refine ⟨_, (pss_one (ps_ret (pe_lc (own := [(("name" : Str), 2), (("own" : Str), 3)]) (g := (gTup K 2 (gCons (gName 2) (gCons (gName 3) gNil)))) (tt := tYes) rfl sc_outs_read.nd (k_pi_list K (pe_ix (k_ix_tup K) (pv 0) pe_int (fun _ _ => rfl))) (blkOk_by (by kernel_rfl)) (fun _ _ _ _ _ => (pg_tup rfl (pgs_cons (pg_name (i := 2) sc_outs_read.nd rfl (Or.inl rfl)) (pgs_cons (pg_name (i := 3) sc_outs_read.nd rfl (Or.inl rfl)) pgs_nil)))) (fun _ _ _ _ _ => pts_nil) (fun _ _ _ _ _ => (pe_cal C_read_bits hr (pa_cons (pe_lc (own := [(("one" : Str), 4)]) (g := (gName 4)) (tt := tYes) rfl sc_outs_read.nd (k_pi_tup K (pv 3)) (blkOk_by (by kernel_rfl)) (fun _ _ _ _ _ => (pg_name (i := 4) sc_outs_read.nd rfl (Or.inl rfl))) (fun _ _ _ _ _ => pts_nil) (fun _ _ _ _ _ => (pe_ix (k_ix_list K) (pv 1) (pv 4) (fun _ _ => rfl)))) pa_nil)))))), ?_⟩
  obtain ⟨F, ds, es, hw, hF, ⟨v_net, v_wires, rr, rfl, rfl, hm0⟩, k⟩ := h
  have E : EnvR K F _ [.val (enc (v_net : (T3 (List (Str × Int)) (List (T3 Str (Tp Int) Bool)) (List (Str × (Tp Int)))))), .val (enc (v_wires : (List Int))), .un, .un, .un] := EnvR.start (N := ["net", "wires", "name", "own", "one"]) (AsR.of_all hw)
  have S := Hx.start (K := K) hF
  have fc : Same F F := Same.refl F
  unfold m_outs_read at hm0
  obtain ⟨l59, h60, hm0⟩ := bindE hm0
  obtain rfl := Option.some.inj hm0
  -- return
  try (with_reducible refine nxD ?_)
  refine st_retO (ds := l59.map enc) (rxo_mapO (eα := enc) (eβ := enc) (fun x32 => [.val (enc (v_net : (T3 (List (Str × Int)) (List (T3 Str (Tp Int) Bool)) (List (Str × (Tp Int)))))), .val (enc (v_wires : (List Int))), .val (enc (x32.1 : Str)), .val (enc (x32.2 : (Tp Int))), .un]) [2, 3] (ri_list (ys := v_net.c.map enc) (rx_ixT (ds := [enc (v_net.a : (List (Str × Int))), enc (v_net.b : (List (T3 Str (Tp Int) Bool))), enc (v_net.c : (List (Str × (Tp Int))))]) (d := enc (v_net.c : (List (Str × (Tp Int))))) rfl (rx_var (d := enc (v_net : (T3 (List (Str × Int)) (List (T3 Str (Tp Int) Bool)) (List (Str × (Tp Int)))))) rfl) rx_int)) h60 (by decide) (fun x32 _ => (rg_tup (ds := [enc (x32.1 : Str), enc (x32.2 : (Tp Int))]) (RGs.cons (rg_name (i := 2) (d := enc (x32.1 : Str))) (RGs.cons (rg_name (i := 3) (d := enc (x32.2 : (Tp Int)))) RGs.nil)))) (fun x32 _ y h31 D33 acc34 => by obtain ⟨l55, h56, h31⟩ := bindE h31; obtain ⟨r57, h58, h31⟩ := bindE h31; obtain rfl := Option.some.inj h31; exact (rx_call (ds := [enc ((Sq.mk false l55) : (Sq Int))]) (d := enc (r57 : (Int × Int))) ⟨_, r57, rfl, rfl, h58⟩ (ra_cons (RXo.frz (rxo_mapO (eα := enc) (eβ := enc) (fun x48 => [.val (enc (v_net : (T3 (List (Str × Int)) (List (T3 Str (Tp Int) Bool)) (List (Str × (Tp Int)))))), .val (enc (v_wires : (List Int))), .val (enc (x32.1 : Str)), .val (enc (x32.2 : (Tp Int))), .val (enc (x48 : Int))]) [4] (ri_tup (ys := x32.2.l.map enc) (rx_var (d := enc (x32.2 : (Tp Int))) rfl)) h56 (by decide) (fun x48 _ => (rg_name (i := 4) (d := enc (x48 : Int)))) (fun x48 _ y h47 D49 acc50 => by obtain ⟨t53, h54, h47⟩ := bindE h47; obtain rfl := Option.some.inj h47; exact (rx_ix (atI_map enc h54) (RX.s (rx_var (d := enc (v_wires : (List Int))) rfl)) (rx_var (d := enc (x48 : Int)) rfl))))) ra_nil)))) E S fun p F H f S => ?_
  obtain ⟨n1, n2, n3, zs, n4, n5, n6⟩ := S.get (j := 0) rfl
  exact k _ _ _ zs S.stp (n2 rfl) n1 n4 n5 n6
theorem sc_reads_with : FnScope ["net", "plain", "ones", "turned", "first"] ["net", "plain", "ones", "turned"] (defScope (top 12)) := ⟨rfl, rfl, rfl, by decide +kernel, rfl, by decide +kernel, by decide +kernel⟩
theorem ok_reads_with (D : Dfn K mg "reads_with" (top 12) ["net", "plain", "ones", "turned"]) (C_gone_on : Cal P w K mg base 2 "gone_on" ["net", "first", "ones", "turned"] (SpN K R_gone_on)) (C_how_many_ahead : Cal P w K mg base 1 "how_many_ahead" ["net"] (SpP K R_how_many_ahead)) (C_outs_read : Cal P w K mg base 3 "outs_read" ["net", "wires"] (SpN K R_outs_read)) : Cal P w K mg base 4 "reads_with" ["net", "plain", "ones", "turned"] (SpN K R_reads_with) := by
  refine D.cal sc_reads_with (sn_len fun ds d h => by obtain ⟨_, _, _, _, _, rfl, _⟩ := h; rfl) fun f cdv A outer s H vs Q E hr h => ?_
  refine ⟨_, (pss_cons (ps_set (i := 4) sc_reads_with.nd rfl (Or.inl rfl) (pv 1)) (pss_cons (ps_if (pt_cmpR (k_neD K hr.units) (pv 3) (pe_tup pa_nil) (nomark _)) (pss_one (ps_set (i := 4) sc_reads_with.nd rfl (Or.inl rfl) (pe_slice (k_sl_list K) (pv 1) po_none (po_some (pe_op op_add (pe_cal C_how_many_ahead hr (pa_cons (pv 0) pa_nil)) (pe_ix (k_ix_tup K) (pv 3) pe_int (fun _ _ => rfl))))))) pss_nil) (pss_one (ps_ret (pe_cal C_outs_read hr (pa_cons (pv 0) (pa_cons (pe_cal C_gone_on hr (pa_cons (pv 0) (pa_cons (pv 4) (pa_cons (pv 2) (pa_cons (pv 3) pa_nil))))) pa_nil))))))), ?_⟩
  obtain ⟨F, ds, es, hw, hF, ⟨v_net, v_plain, v_ones, v_turned, rr, rfl, rfl, hm0⟩, k⟩ := h
  have E : EnvR K F _ [.val (enc (v_net : (T3 (List (Str × Int)) (List (T3 Str (Tp Int) Bool)) (List (Str × (Tp Int)))))), .val (enc (v_plain : (List Int))), .val (enc (v_ones : Int)), .val (enc (v_turned : (Tp Int))), .un] := EnvR.start (N := ["net", "plain", "ones", "turned", "first"]) (AsR.of_all hw)
  have S := Hx.start (K := K) hF
  have fc : Same F F := Same.refl F
  unfold m_reads_with at hm0
  try (with_reducible refine nxD ?_)
  with_reducible refine sq ?_
  refine st_set (i := 4) (d := enc (v_plain : (List Int))) (rx_var (d := enc (v_plain : (List Int))) rfl) E S fun σ F H f E S => ?_
  replace fc := fc.trans f
  have E : EnvR K _ _ [.val (enc (v_net : (T3 (List (Str × Int)) (List (T3 Str (Tp Int) Bool)) (List (Str × (Tp Int)))))), .val (enc (v_plain : (List Int))), .val (enc (v_ones : Int)), .val (enc (v_turned : (Tp Int))), .val (enc (v_plain : (List Int)))] := E
  have S : Hx K _ _ _ _ [] _ := S
  obtain ⟨j1, h2, hm0⟩ := bindE hm0
  try (with_reducible refine nxD ?_)
  with_reducible refine sq ?_
  refine st_ifJ (b := (!decide ((v_turned : (Tp Int)) = ((Tp.mk []) : (Tp Int))))) [.val (enc (v_net : (T3 (List (Str × Int)) (List (T3 Str (Tp Int) Bool)) (List (Str × (Tp Int)))))), .val (enc (v_plain : (List Int))), .val (enc (v_ones : Int)), .val (enc (v_turned : (Tp Int))), .val (enc (j1 : (List Int)))] [] (rt_val (rx_neT (x := (v_turned : (Tp Int))) (y := (((Tp.mk []) : (Tp Int)) : (Tp Int))) (RX.h (rx_var (d := enc (v_turned : (Tp Int))) rfl)) (RX.h (rx_tup (ds := []) ra_nil)))) E S (fun σ F H f E S => ?_) (fun hc F H rest f E S => ?_) (fun hc F H rest f E S => ?_)
  · replace fc := fc.trans f
    obtain ⟨r13, h14, hm0⟩ := bindE hm0
    obtain ⟨r15, h16, hm0⟩ := bindE hm0
    obtain rfl := Option.some.inj hm0
    -- return
    try (with_reducible refine nxD ?_)
    refine st_retO (ds := r15.map enc) (rxo_call (ds := [enc (v_net : (T3 (List (Str × Int)) (List (T3 Str (Tp Int) Bool)) (List (Str × (Tp Int))))), enc (r13 : (List Int))]) (es := r15.map enc) ⟨_, _, r15, rfl, rfl, h16⟩ (ra_cons (rx_var (d := enc (v_net : (T3 (List (Str × Int)) (List (T3 Str (Tp Int) Bool)) (List (Str × (Tp Int)))))) rfl) (ra_cons (RXo.frz (rxo_call (ds := [enc (v_net : (T3 (List (Str × Int)) (List (T3 Str (Tp Int) Bool)) (List (Str × (Tp Int))))), enc (j1 : (List Int)), enc (v_ones : Int), enc (v_turned : (Tp Int))]) (es := r13.map enc) ⟨_, _, _, _, r13, rfl, rfl, h14⟩ (ra_cons (rx_var (d := enc (v_net : (T3 (List (Str × Int)) (List (T3 Str (Tp Int) Bool)) (List (Str × (Tp Int)))))) rfl) (ra_cons (rx_var (d := enc (j1 : (List Int))) rfl) (ra_cons (rx_var (d := enc (v_ones : Int)) rfl) (ra_cons (rx_var (d := enc (v_turned : (Tp Int))) rfl) ra_nil)))))) ra_nil))) E S fun p F H f S => ?_
    obtain ⟨n1, n2, n3, zs, n4, n5, n6⟩ := S.get (j := 0) rfl
    exact k _ _ _ zs S.stp (n2 rfl) n1 n4 n5 n6
  · rw [if_pos hc] at h2
    have fc := f
    obtain ⟨r3, h4, h2⟩ := bindE h2
    obtain ⟨t5, h6, h2⟩ := bindE h2
    obtain ⟨v7, h8, h2⟩ := letE h2
    try (with_reducible refine nxD ?_)
    refine (st_set (i := 4) (d := enc (v7 : (List Int))) (rx_as (x := ((cutL v_plain none (some (r3 + t5))) : (List Int))) h8 (RXo.frz (rxo_sliceM (f := enc) (RX.s (rx_var (d := enc (v_plain : (List Int))) rfl)) ro_none (ro_some (rx_add (rx_call (ds := [enc (v_net : (T3 (List (Str × Int)) (List (T3 Str (Tp Int) Bool)) (List (Str × (Tp Int)))))]) (d := enc (r3 : Int)) ⟨_, r3, rfl, rfl, h4⟩ (ra_cons (rx_var (d := enc (v_net : (T3 (List (Str × Int)) (List (T3 Str (Tp Int) Bool)) (List (Str × (Tp Int)))))) rfl) ra_nil)) (rx_ixT (atI_map enc h6) (rx_var (d := enc (v_turned : (Tp Int))) rfl) rx_int)))))) E S fun σ F H f E S => ?_)
    replace fc := fc.trans f
    have E : EnvR K _ _ [.val (enc (v_net : (T3 (List (Str × Int)) (List (T3 Str (Tp Int) Bool)) (List (Str × (Tp Int)))))), .val (enc (v_plain : (List Int))), .val (enc (v_ones : Int)), .val (enc (v_turned : (Tp Int))), .val (enc (v7 : (List Int)))] := E
    have S : Hx K _ _ _ _ [] _ := S
    obtain rfl := Option.some.inj h2
    exact rest _ _ _ fc (E.weak ⟨.inl rfl, .inl rfl, .inl rfl, .inl rfl, .inl rfl, trivial⟩) S
  · rw [if_neg (by rw [hc]; decide)] at h2
    have fc := f
    refine nxt ?_
    obtain rfl := Option.some.inj h2
    exact rest _ _ _ fc (E.weak ⟨.inl rfl, .inl rfl, .inl rfl, .inl rfl, .inl rfl, trivial⟩) S
theorem sc_spoilt : FnScope ["net", "plain", "ones", "turned", "wrong", "none", "value", "unlike", "due", "nothing"] ["net", "plain", "ones", "turned"] (defScope (top 13)) := ⟨rfl, rfl, rfl, by decide +kernel, rfl, by decide +kernel, by decide +kernel⟩
theorem ok_spoilt (B : Bi mg) (D : Dfn K mg "spoilt" (top 13) ["net", "plain", "ones", "turned"]) (C_outs_read : Cal P w K mg base 3 "outs_read" ["net", "wires"] (SpN K R_outs_read)) (C_reads_with : Cal P w K mg base 4 "reads_with" ["net", "plain", "ones", "turned"] (SpN K R_reads_with)) : Cal P w K mg base 5 "spoilt" ["net", "plain", "ones", "turned"] (SpP K R_spoilt) := by
  refine D.cal sc_spoilt (sp_len fun ds d h => by obtain ⟨_, _, _, _, _, rfl, _⟩ := h; rfl) fun f cdv A outer s H vs Q E hr h => ?_
  refine ⟨_, (pss_cons (ps_set (i := 4) sc_spoilt.nd rfl (Or.inl rfl) pe_int) (pss_cons (ps_set (i := 5) sc_spoilt.nd rfl (Or.inl rfl) pe_int) (pss_cons (ps_for PassesOwn.never rfl (k_pi_zip K (by rfl) B.zip (pa_cons (pe_cal C_reads_with hr (pa_cons (pv 0) (pa_cons (pv 1) (pa_cons (pv 2) (pa_cons (pv 3) pa_nil))))) (pa_cons (pe_cal C_outs_read hr (pa_cons (pv 0) (pa_cons (pv 1) pa_nil))) pa_nil))) (pg_tup rfl (pgs_cons (pg_tup rfl (pgs_cons (pg_name (i := 6) sc_spoilt.nd rfl (Or.inl rfl)) (pgs_cons (pg_name (i := 7) sc_spoilt.nd rfl (Or.inl rfl)) pgs_nil))) (pgs_cons (pg_tup rfl (pgs_cons (pg_name (i := 8) sc_spoilt.nd rfl (Or.inl rfl)) (pgs_cons (pg_name (i := 9) sc_spoilt.nd rfl (Or.inl rfl)) pgs_nil))) pgs_nil))) (pss_cons (ps_set (i := 4) sc_spoilt.nd rfl (Or.inl rfl) (pe_op op_or (pv 4) (pe_op op_and (pe_op op_xor (pv 6) (pv 8)) (pe_op op_xor (pv 2) (pv 7))))) (pss_one (ps_set (i := 5) sc_spoilt.nd rfl (Or.inl rfl) (pe_op op_or (pv 5) (pv 7)))))) (pss_one (ps_ret (pe_tup (pa_cons (pv 4) (pa_cons (pv 5) pa_nil)))))))), ?_⟩
  obtain ⟨F, ds, d, hw, hF, ⟨v_net, v_plain, v_ones, v_turned, rr, rfl, rfl, hm0⟩, k⟩ := h
  have E : EnvR K F _ [.val (enc (v_net : (T3 (List (Str × Int)) (List (T3 Str (Tp Int) Bool)) (List (Str × (Tp Int)))))), .val (enc (v_plain : (List Int))), .val (enc (v_ones : Int)), .val (enc (v_turned : (Tp Int))), .un, .un, .un, .un, .un, .un] := EnvR.start (N := ["net", "plain", "ones", "turned", "wrong", "none", "value", "unlike", "due", "nothing"]) (AsR.of_all hw)
  have S := Hx.start (K := K) hF
  have fc : Same F F := Same.refl F
  unfold m_spoilt at hm0
  try (with_reducible refine nxD ?_)
  with_reducible refine sq ?_
  refine st_set (i := 4) (d := enc ((0 : Int) : Int)) rx_int E S fun σ F H f E S => ?_
  replace fc := fc.trans f
  have E : EnvR K _ _ [.val (enc (v_net : (T3 (List (Str × Int)) (List (T3 Str (Tp Int) Bool)) (List (Str × (Tp Int)))))), .val (enc (v_plain : (List Int))), .val (enc (v_ones : Int)), .val (enc (v_turned : (Tp Int))), .val (enc ((0 : Int) : Int)), .un, .un, .un, .un, .un] := E
  have S : Hx K _ _ _ _ [] _ := S
  try (with_reducible refine nxD ?_)
  with_reducible refine sq ?_
  refine st_set (i := 5) (d := enc ((0 : Int) : Int)) rx_int E S fun σ F H f E S => ?_
  replace fc := fc.trans f
  have E : EnvR K _ _ [.val (enc (v_net : (T3 (List (Str × Int)) (List (T3 Str (Tp Int) Bool)) (List (Str × (Tp Int)))))), .val (enc (v_plain : (List Int))), .val (enc (v_ones : Int)), .val (enc (v_turned : (Tp Int))), .val (enc ((0 : Int) : Int)), .val (enc ((0 : Int) : Int)), .un, .un, .un, .un] := E
  have S : Hx K _ _ _ _ [] _ := S
  obtain ⟨r1, h2, hm0⟩ := bindE hm0
  obtain ⟨r3, h4, hm0⟩ := bindE hm0
  obtain ⟨s15, h9, hm0⟩ := bindE hm0
  try (with_reducible refine nxD ?_)
  with_reducible refine sq ?_
  refine st_forS (eα := enc) (fun s6 => [.val (enc (v_net : (T3 (List (Str × Int)) (List (T3 Str (Tp Int) Bool)) (List (Str × (Tp Int)))))), .val (enc (v_plain : (List Int))), .val (enc (v_ones : Int)), .val (enc (v_turned : (Tp Int))), .val (enc (s6.1 : Int)), .val (enc (s6.2 : Int)), .un, .un, .un, .un]) (fun s6 => []) E S (ri_zipT (RXo.frz (rxo_call (ds := [enc (v_net : (T3 (List (Str × Int)) (List (T3 Str (Tp Int) Bool)) (List (Str × (Tp Int))))), enc (v_plain : (List Int)), enc (v_ones : Int), enc (v_turned : (Tp Int))]) (es := r1.map enc) ⟨_, _, _, _, r1, rfl, rfl, h2⟩ (ra_cons (rx_var (d := enc (v_net : (T3 (List (Str × Int)) (List (T3 Str (Tp Int) Bool)) (List (Str × (Tp Int)))))) rfl) (ra_cons (rx_var (d := enc (v_plain : (List Int))) rfl) (ra_cons (rx_var (d := enc (v_ones : Int)) rfl) (ra_cons (rx_var (d := enc (v_turned : (Tp Int))) rfl) ra_nil)))))) (RXo.frz (rxo_call (ds := [enc (v_net : (T3 (List (Str × Int)) (List (T3 Str (Tp Int) Bool)) (List (Str × (Tp Int))))), enc (v_plain : (List Int))]) (es := r3.map enc) ⟨_, _, r3, rfl, rfl, h4⟩ (ra_cons (rx_var (d := enc (v_net : (T3 (List (Str × Int)) (List (T3 Str (Tp Int) Bool)) (List (Str × (Tp Int)))))) rfl) (ra_cons (rx_var (d := enc (v_plain : (List Int))) rfl) ra_nil))))) h9 ⟨.inl rfl, .inl rfl, .inl rfl, .inl rfl, .inl rfl, .inl rfl, .inr rfl, .inr rfl, .inr rfl, .inr rfl, trivial⟩ (fun σ F H f E S => ?_) (fun x7 _ s6 s' h5 σ F H v _ E S r N B hN => ?_)
  · replace fc := fc.trans f
    have E : EnvR K _ _ [.val (enc (v_net : (T3 (List (Str × Int)) (List (T3 Str (Tp Int) Bool)) (List (Str × (Tp Int)))))), .val (enc (v_plain : (List Int))), .val (enc (v_ones : Int)), .val (enc (v_turned : (Tp Int))), .val (enc (s15.1 : Int)), .val (enc (s15.2 : Int)), .un, .un, .un, .un] := E
    have S : Hx K _ _ _ _ [] _ := S
    obtain rfl := Option.some.inj hm0
    -- return
    try (with_reducible refine nxD ?_)
    refine st_ret (d := enc ((s15.1, s15.2) : (Int × Int))) (rx_tup (ds := [enc (s15.1 : Int), enc (s15.2 : Int)]) (ra_cons (rx_var (d := enc (s15.1 : Int)) rfl) (ra_cons (rx_var (d := enc (s15.2 : Int)) rfl) ra_nil))) E S fun v F H f S r => ?_
    exact k v F H S.stp r
  · refine ((rg_tup (ds := [enc (x7.1 : (Int × Int)), enc (x7.2 : (Int × Int))]) (RGs.cons (rg_tup (ds := [enc (x7.1.1 : Int), enc (x7.1.2 : Int)]) (RGs.cons (rg_name (i := 6) (d := enc (x7.1.1 : Int))) (RGs.cons (rg_name (i := 7) (d := enc (x7.1.2 : Int))) RGs.nil))) (RGs.cons (rg_tup (ds := [enc (x7.2.1 : Int), enc (x7.2.2 : Int)]) (RGs.cons (rg_name (i := 8) (d := enc (x7.2.1 : Int))) (RGs.cons (rg_name (i := 9) (d := enc (x7.2.2 : Int))) RGs.nil))) RGs.nil)))).run _ _ _ _ _ E r S.fh fun σ E _ => ?_
    have E : EnvR K _ _ [.val (enc (v_net : (T3 (List (Str × Int)) (List (T3 Str (Tp Int) Bool)) (List (Str × (Tp Int)))))), .val (enc (v_plain : (List Int))), .val (enc (v_ones : Int)), .val (enc (v_turned : (Tp Int))), .val (enc (s6.1 : Int)), .val (enc (s6.2 : Int)), .val (enc (x7.1.1 : Int)), .val (enc (x7.1.2 : Int)), .val (enc (x7.2.1 : Int)), .val (enc (x7.2.2 : Int))] := E
    have S : Hx K _ _ _ _ [] _ := S
    have fc : Same F F := Same.refl F
    obtain ⟨v11, h12, h5⟩ := letE h5
    try (with_reducible refine nxD ?_)
    with_reducible refine sq ?_
    refine st_set (i := 4) (d := enc (v11 : Int)) (rx_as (x := ((Builtin.bitOr s6.1 (Builtin.bitAnd (Builtin.bitXor x7.1.1 x7.2.1) (Builtin.bitXor v_ones x7.1.2))) : Int)) h12 (rx_bor (rx_var (d := enc (s6.1 : Int)) rfl) (rx_band (rx_bxor (rx_var (d := enc (x7.1.1 : Int)) rfl) (rx_var (d := enc (x7.2.1 : Int)) rfl)) (rx_bxor (rx_var (d := enc (v_ones : Int)) rfl) (rx_var (d := enc (x7.1.2 : Int)) rfl))))) E S fun σ F H f E S => ?_
    replace fc := fc.trans f
    have E : EnvR K _ _ [.val (enc (v_net : (T3 (List (Str × Int)) (List (T3 Str (Tp Int) Bool)) (List (Str × (Tp Int)))))), .val (enc (v_plain : (List Int))), .val (enc (v_ones : Int)), .val (enc (v_turned : (Tp Int))), .val (enc (v11 : Int)), .val (enc (s6.2 : Int)), .val (enc (x7.1.1 : Int)), .val (enc (x7.1.2 : Int)), .val (enc (x7.2.1 : Int)), .val (enc (x7.2.2 : Int))] := E
    have S : Hx K _ _ _ _ [] _ := S
    obtain ⟨v13, h14, h5⟩ := letE h5
    try (with_reducible refine nxD ?_)
    refine (st_set (i := 5) (d := enc (v13 : Int)) (rx_as (x := ((Builtin.bitOr s6.2 x7.1.2) : Int)) h14 (rx_bor (rx_var (d := enc (s6.2 : Int)) rfl) (rx_var (d := enc (x7.1.2 : Int)) rfl))) E S fun σ F H f E S => ?_)
    replace fc := fc.trans f
    have E : EnvR K _ _ [.val (enc (v_net : (T3 (List (Str × Int)) (List (T3 Str (Tp Int) Bool)) (List (Str × (Tp Int)))))), .val (enc (v_plain : (List Int))), .val (enc (v_ones : Int)), .val (enc (v_turned : (Tp Int))), .val (enc (v11 : Int)), .val (enc (v13 : Int)), .val (enc (x7.1.1 : Int)), .val (enc (x7.1.2 : Int)), .val (enc (x7.2.1 : Int)), .val (enc (x7.2.2 : Int))] := E
    have S : Hx K _ _ _ _ [] _ := S
    obtain rfl := Option.some.inj h5
    exact hN _ _ _ fc (E.weak ⟨.inl rfl, .inl rfl, .inl rfl, .inl rfl, .inl rfl, .inl rfl, .inr rfl, .inr rfl, .inr rfl, .inr rfl, trivial⟩) S
theorem sc_broken_at : FnScope ["net", "plain", "ones", "turned", "level", "wrong", "none"] ["net", "plain", "ones", "turned", "level"] (defScope (top 14)) := ⟨rfl, rfl, rfl, by decide +kernel, rfl, by decide +kernel, by decide +kernel⟩
theorem ok_broken_at (D : Dfn K mg "broken_at" (top 14) ["net", "plain", "ones", "turned", "level"]) (C_spoilt : Cal P w K mg base 5 "spoilt" ["net", "plain", "ones", "turned"] (SpP K R_spoilt)) : Cal P w K mg base 6 "broken_at" ["net", "plain", "ones", "turned", "level"] (SpP K R_broken_at) := by
  refine D.cal sc_broken_at (sp_len fun ds d h => by obtain ⟨_, _, _, _, _, _, rfl, _⟩ := h; rfl) fun f cdv A outer s H vs Q E hr h => ?_
  refine ⟨_, (pss_cons (ps_asg (pe_cal C_spoilt hr (pa_cons (pv 0) (pa_cons (pv 1) (pa_cons (pv 2) (pa_cons (pv 3) pa_nil))))) (pg_tup rfl (pgs_cons (pg_name (i := 5) sc_broken_at.nd rfl (Or.inl rfl)) (pgs_cons (pg_name (i := 6) sc_broken_at.nd rfl (Or.inl rfl)) pgs_nil)))) (pss_cons (ps_if (pt_cmpR op_eq (pv 4) pe_str (nomark _)) (pss_one (ps_ret (pe_op op_or (pv 5) (pv 6)))) pss_nil) (pss_one (ps_ret (pv 5))))), ?_⟩
  obtain ⟨F, ds, d, hw, hF, ⟨v_net, v_plain, v_ones, v_turned, v_level, rr, rfl, rfl, hm0⟩, k⟩ := h
  have E : EnvR K F _ [.val (enc (v_net : (T3 (List (Str × Int)) (List (T3 Str (Tp Int) Bool)) (List (Str × (Tp Int)))))), .val (enc (v_plain : (List Int))), .val (enc (v_ones : Int)), .val (enc (v_turned : (Tp Int))), .val (enc (v_level : Str)), .un, .un] := EnvR.start (N := ["net", "plain", "ones", "turned", "level", "wrong", "none"]) (AsR.of_all hw)
  have S := Hx.start (K := K) hF
  have fc : Same F F := Same.refl F
  unfold m_broken_at at hm0
  obtain ⟨r1, h2, hm0⟩ := bindE hm0
  try (with_reducible refine nxD ?_)
  with_reducible refine sq ?_
  refine st_unp (d := enc (r1 : (Int × Int))) (rx_call (ds := [enc (v_net : (T3 (List (Str × Int)) (List (T3 Str (Tp Int) Bool)) (List (Str × (Tp Int))))), enc (v_plain : (List Int)), enc (v_ones : Int), enc (v_turned : (Tp Int))]) (d := enc (r1 : (Int × Int))) ⟨_, _, _, _, r1, rfl, rfl, h2⟩ (ra_cons (rx_var (d := enc (v_net : (T3 (List (Str × Int)) (List (T3 Str (Tp Int) Bool)) (List (Str × (Tp Int)))))) rfl) (ra_cons (rx_var (d := enc (v_plain : (List Int))) rfl) (ra_cons (rx_var (d := enc (v_ones : Int)) rfl) (ra_cons (rx_var (d := enc (v_turned : (Tp Int))) rfl) ra_nil))))) (rg_tup (ds := [enc (r1.1 : Int), enc (r1.2 : Int)]) (RGs.cons (rg_name (i := 5) (d := enc (r1.1 : Int))) (RGs.cons (rg_name (i := 6) (d := enc (r1.2 : Int))) RGs.nil))) E S fun σ F H f E S => ?_
  replace fc := fc.trans f
  have E : EnvR K _ _ [.val (enc (v_net : (T3 (List (Str × Int)) (List (T3 Str (Tp Int) Bool)) (List (Str × (Tp Int)))))), .val (enc (v_plain : (List Int))), .val (enc (v_ones : Int)), .val (enc (v_turned : (Tp Int))), .val (enc (v_level : Str)), .val (enc (r1.1 : Int)), .val (enc (r1.2 : Int))] := E
  have S : Hx K _ _ _ _ [] _ := S
  try (with_reducible refine nxD ?_)
  with_reducible refine sq ?_
  refine st_if (b := (decide (v_level = ("right" : Str)))) (rt_val (rx_eqs (rx_var (d := enc (v_level : Str)) rfl) (rx_str (x := ("right" : Str))))) E S (fun hc F H f E S => ?_) (fun hc F H f E S => ?_)
  · rw [if_pos hc] at hm0
    replace fc := fc.trans f
    obtain rfl := Option.some.inj hm0
    -- return
    try (with_reducible refine nxD ?_)
    refine st_ret (d := enc ((Builtin.bitOr r1.1 r1.2) : Int)) (rx_bor (rx_var (d := enc (r1.1 : Int)) rfl) (rx_var (d := enc (r1.2 : Int)) rfl)) E S fun v F H f S r => ?_
    exact k v F H S.stp r
  · rw [if_neg (by rw [hc]; decide)] at hm0
    replace fc := fc.trans f
    refine nxt ?_
    obtain rfl := Option.some.inj hm0
    -- return
    try (with_reducible refine nxD ?_)
    refine st_ret (d := enc (r1.1 : Int)) (rx_var (d := enc (r1.1 : Int)) rfl) E S fun v F H f S r => ?_
    exact k v F H S.stp r
theorem sc_breaking : FnScope ["net", "many", "level", "plain", "ones", "found", "size", "smaller", "some"] ["net", "many", "level"] (defScope (top 17)) := ⟨rfl, rfl, rfl, by decide +kernel, rfl, by decide +kernel, by decide +kernel⟩
theorem ok_breaking (B : Bi mg) (D : Dfn K mg "breaking" (top 17) ["net", "many", "level"]) (C_all_wires : Cal P w K mg base 3 "all_wires" ["net"] (SpP K R_all_wires)) (C_broken_at : Cal P w K mg base 6 "broken_at" ["net", "plain", "ones", "turned", "level"] (SpP K R_broken_at)) (C_free_places : Cal P w K mg base 1 "free_places" ["net"] (SpN K R_free_places)) (C_has_within : Cal P w K mg base 1 "has_within" ["sets", "some"] (SpP K R_has_within)) (C_sets_of : Cal P w K mg base 1 "sets_of" ["places", "size"] (SpP K R_sets_of)) : Cal P w K mg base 7 "breaking" ["net", "many", "level"] (SpN K R_breaking) := by
  refine D.cal sc_breaking (sn_len fun ds d h => by obtain ⟨_, _, _, _, rfl, _⟩ := h; rfl) fun f cdv A outer s H vs Q E hr h => ?_
  refine ⟨_, (pss_cons (ps_asg (pe_cal C_all_wires hr (pa_cons (pv 0) pa_nil)) (pg_tup rfl (pgs_cons (pg_name (i := 3) sc_breaking.nd rfl (Or.inl rfl)) (pgs_cons (pg_name (i := 4) sc_breaking.nd rfl (Or.inl rfl)) pgs_nil)))) (pss_cons (ps_set (i := 5) sc_breaking.nd rfl (Or.inl rfl) (pe_lst pa_nil)) (pss_cons (ps_for PassesOwn.never rfl (pi_range2 rfl B.range (pa_cons pe_int (pa_cons (pe_op op_add (pv 1) pe_int) pa_nil))) (pg_name (i := 6) sc_breaking.nd rfl (Or.inl rfl)) (pss_cons (ps_set (i := 7) sc_breaking.nd rfl (Or.inl rfl) (pe_callTy (k_list_of K) (by rfl) B.list (by decide +kernel) (pa_cons (pv 5) pa_nil))) (pss_one (ps_for PassesOwn.never rfl (k_pi_list K (pe_cal C_sets_of hr (pa_cons (pe_cal C_free_places hr (pa_cons (pv 0) pa_nil)) (pa_cons (pv 6) pa_nil)))) (pg_name (i := 8) sc_breaking.nd rfl (Or.inl rfl)) (pss_one (ps_if (PW.pt (pw_and (pt_not (pt_val (pe_cal C_has_within hr (pa_cons (pv 7) (pa_cons (pv 8) pa_nil))))) (pw_and1 (pt_cmpR op_ne (pe_cal C_broken_at hr (pa_cons (pv 0) (pa_cons (pv 3) (pa_cons (pv 4) (pa_cons (pv 8) (pa_cons (pv 2) pa_nil)))))) pe_int (nomark _))))) (pss_one (ps_expr (pe_bm PySem.F.plainAttrs_list PySem.F.slot_list_append PySem.F.type_list_append mt_append (pv 5) (pa_cons (pv 8) pa_nil)))) pss_nil)))))) (pss_one (ps_ret (pv 5)))))), ?_⟩
  obtain ⟨F, ds, es, hw, hF, ⟨v_net, v_many, v_level, rr, rfl, rfl, hm0⟩, k⟩ := h
  have E : EnvR K F _ [.val (enc (v_net : (T3 (List (Str × Int)) (List (T3 Str (Tp Int) Bool)) (List (Str × (Tp Int)))))), .val (enc (v_many : Int)), .val (enc (v_level : Str)), .un, .un, .un, .un, .un, .un] := EnvR.start (N := ["net", "many", "level", "plain", "ones", "found", "size", "smaller", "some"]) (AsR.of_all hw)
  have S := Hx.start (K := K) hF
  have fc : Same F F := Same.refl F
  unfold m_breaking at hm0
  obtain ⟨r1, h2, hm0⟩ := bindE hm0
  try (with_reducible refine nxD ?_)
  with_reducible refine sq ?_
  refine st_unp (d := enc (r1 : ((List Int) × Int))) (rx_call (ds := [enc (v_net : (T3 (List (Str × Int)) (List (T3 Str (Tp Int) Bool)) (List (Str × (Tp Int)))))]) (d := enc (r1 : ((List Int) × Int))) ⟨_, r1, rfl, rfl, h2⟩ (ra_cons (rx_var (d := enc (v_net : (T3 (List (Str × Int)) (List (T3 Str (Tp Int) Bool)) (List (Str × (Tp Int)))))) rfl) ra_nil)) (rg_tup (ds := [enc (r1.1 : (List Int)), enc (r1.2 : Int)]) (RGs.cons (rg_name (i := 3) (d := enc (r1.1 : (List Int)))) (RGs.cons (rg_name (i := 4) (d := enc (r1.2 : Int))) RGs.nil))) E S fun σ F H f E S => ?_
  replace fc := fc.trans f
  have E : EnvR K _ _ [.val (enc (v_net : (T3 (List (Str × Int)) (List (T3 Str (Tp Int) Bool)) (List (Str × (Tp Int)))))), .val (enc (v_many : Int)), .val (enc (v_level : Str)), .val (enc (r1.1 : (List Int))), .val (enc (r1.2 : Int)), .un, .un, .un, .un] := E
  have S : Hx K _ _ _ _ [] _ := S
  obtain ⟨v3, h4, hm0⟩ := letE hm0
  try (with_reducible refine nxD ?_)
  with_reducible refine sq ?_
  refine st_setO (i := 5) (ds := v3.map enc) (rxo_as (f := enc) h4 (rxo_lst (ds := []) ra_nil)) E S fun p_found5 σ F H f E S => ?_
  replace fc := fc.trans f
  have E : EnvR K _ _ [.val (enc (v_net : (T3 (List (Str × Int)) (List (T3 Str (Tp Int) Bool)) (List (Str × (Tp Int)))))), .val (enc (v_many : Int)), .val (enc (v_level : Str)), .val (enc (r1.1 : (List Int))), .val (enc (r1.2 : Int)), .adr p_found5, .un, .un, .un] := E
  have S : Hx K _ _ _ _ [⟨p_found5, true, v3.map enc⟩] _ := S
  obtain ⟨l6, h7, hm0⟩ := bindE hm0
  obtain ⟨s35, h12, hm0⟩ := bindE hm0
  try (with_reducible refine nxD ?_)
  with_reducible refine sq ?_
  refine st_forS (eα := enc) (fun s9 => [.val (enc (v_net : (T3 (List (Str × Int)) (List (T3 Str (Tp Int) Bool)) (List (Str × (Tp Int)))))), .val (enc (v_many : Int)), .val (enc (v_level : Str)), .val (enc (r1.1 : (List Int))), .val (enc (r1.2 : Int)), .adr p_found5, .un, .un, .un]) (fun s9 => [⟨p_found5, true, s9.map enc⟩]) E S (ri_range2 h7 rx_int (rx_add (rx_var (d := enc (v_many : Int)) rfl) rx_int)) h12 ⟨.inl rfl, .inl rfl, .inl rfl, .inl rfl, .inl rfl, .inl rfl, .inr rfl, .inr rfl, .inr rfl, trivial⟩ (fun σ F H f E S => ?_) (fun x10 _ s9 s' h8 σ F H v _ E S r N B hN => ?_)
  · replace fc := fc.trans f
    have E : EnvR K _ _ [.val (enc (v_net : (T3 (List (Str × Int)) (List (T3 Str (Tp Int) Bool)) (List (Str × (Tp Int)))))), .val (enc (v_many : Int)), .val (enc (v_level : Str)), .val (enc (r1.1 : (List Int))), .val (enc (r1.2 : Int)), .adr p_found5, .un, .un, .un] := E
    have S : Hx K _ _ _ _ [⟨p_found5, true, s35.map enc⟩] _ := S
    obtain rfl := Option.some.inj hm0
    -- return
    try (with_reducible refine nxD ?_)
    refine st_retA rfl E ?_
    obtain ⟨n1, n2, n3, zs, n4, n5, n6⟩ := S.get (j := 0) rfl
    exact k _ _ _ zs S.stp (n2 rfl) n1 n4 n5 n6
  · refine ((rg_name (i := 6) (d := enc (x10 : Int)))).run _ _ _ _ _ E r S.fh fun σ E _ => ?_
    have E : EnvR K _ _ [.val (enc (v_net : (T3 (List (Str × Int)) (List (T3 Str (Tp Int) Bool)) (List (Str × (Tp Int)))))), .val (enc (v_many : Int)), .val (enc (v_level : Str)), .val (enc (r1.1 : (List Int))), .val (enc (r1.2 : Int)), .adr p_found5, .val (enc (x10 : Int)), .un, .un] := E
    have S : Hx K _ _ _ _ [⟨p_found5, true, s9.map enc⟩] _ := S
    have fc : Same F F := Same.refl F
    try (with_reducible refine nxD ?_)
    with_reducible refine sq ?_
    refine st_set (i := 7) (d := enc (s9 : (List (Tp Int)))) (RXo.frz (rxo_list (rxs_own (j := 0) (ds := s9.map enc) rfl rfl))) E S fun σ F H f E S => ?_
    replace fc := fc.trans f
    have E : EnvR K _ _ [.val (enc (v_net : (T3 (List (Str × Int)) (List (T3 Str (Tp Int) Bool)) (List (Str × (Tp Int)))))), .val (enc (v_many : Int)), .val (enc (v_level : Str)), .val (enc (r1.1 : (List Int))), .val (enc (r1.2 : Int)), .adr p_found5, .val (enc (x10 : Int)), .val (enc (s9 : (List (Tp Int)))), .un] := E
    have S : Hx K _ _ _ _ [⟨p_found5, true, s9.map enc⟩] _ := S
    obtain ⟨r14, h15, h8⟩ := bindE h8
    obtain ⟨r16, h17, h8⟩ := bindE h8
    obtain ⟨s34, h22, h8⟩ := bindE h8
    try (with_reducible refine nxD ?_)
    refine (st_forS (eα := enc) (fun s19 => [.val (enc (v_net : (T3 (List (Str × Int)) (List (T3 Str (Tp Int) Bool)) (List (Str × (Tp Int)))))), .val (enc (v_many : Int)), .val (enc (v_level : Str)), .val (enc (r1.1 : (List Int))), .val (enc (r1.2 : Int)), .adr p_found5, .val (enc (x10 : Int)), .val (enc (s9 : (List (Tp Int)))), .un]) (fun s19 => [⟨p_found5, true, s19.map enc⟩]) E S (ri_list (ys := r16.map enc) (rx_call (ds := [enc (r14 : (List Int)), enc (x10 : Int)]) (d := enc (r16 : (List (Tp Int)))) ⟨_, _, r16, rfl, rfl, h17⟩ (ra_cons (RXo.frz (rxo_call (ds := [enc (v_net : (T3 (List (Str × Int)) (List (T3 Str (Tp Int) Bool)) (List (Str × (Tp Int)))))]) (es := r14.map enc) ⟨_, r14, rfl, rfl, h15⟩ (ra_cons (rx_var (d := enc (v_net : (T3 (List (Str × Int)) (List (T3 Str (Tp Int) Bool)) (List (Str × (Tp Int)))))) rfl) ra_nil))) (ra_cons (rx_var (d := enc (x10 : Int)) rfl) ra_nil)))) h22 ⟨.inl rfl, .inl rfl, .inl rfl, .inl rfl, .inl rfl, .inl rfl, .inl rfl, .inl rfl, .inr rfl, trivial⟩ (fun σ F H f E S => ?_) (fun x20 _ s19 s' h18 σ F H v _ E S r N B hN => ?_))
    · replace fc := fc.trans f
      have E : EnvR K _ _ [.val (enc (v_net : (T3 (List (Str × Int)) (List (T3 Str (Tp Int) Bool)) (List (Str × (Tp Int)))))), .val (enc (v_many : Int)), .val (enc (v_level : Str)), .val (enc (r1.1 : (List Int))), .val (enc (r1.2 : Int)), .adr p_found5, .val (enc (x10 : Int)), .val (enc (s9 : (List (Tp Int)))), .un] := E
      have S : Hx K _ _ _ _ [⟨p_found5, true, s34.map enc⟩] _ := S
      obtain rfl := Option.some.inj h8
      exact hN _ _ _ fc (E.weak ⟨.inl rfl, .inl rfl, .inl rfl, .inl rfl, .inl rfl, .inl rfl, .inr rfl, .inr rfl, .inr rfl, trivial⟩) S
    · refine ((rg_name (i := 8) (d := enc (x20 : (Tp Int))))).run _ _ _ _ _ E r S.fh fun σ E _ => ?_
      have E : EnvR K _ _ [.val (enc (v_net : (T3 (List (Str × Int)) (List (T3 Str (Tp Int) Bool)) (List (Str × (Tp Int)))))), .val (enc (v_many : Int)), .val (enc (v_level : Str)), .val (enc (r1.1 : (List Int))), .val (enc (r1.2 : Int)), .adr p_found5, .val (enc (x10 : Int)), .val (enc (s9 : (List (Tp Int)))), .val (enc (x20 : (Tp Int)))] := E
      have S : Hx K _ _ _ _ [⟨p_found5, true, s19.map enc⟩] _ := S
      have fc : Same F F := Same.refl F
      obtain ⟨r24, h25, h18⟩ := bindE h18
      obtain ⟨b29, h26, h18⟩ := bindE h18
      obtain ⟨j30, h31, h18⟩ := bindE h18
      try (with_reducible refine nxD ?_)
      refine (st_ifJ (b := b29) [.val (enc (v_net : (T3 (List (Str × Int)) (List (T3 Str (Tp Int) Bool)) (List (Str × (Tp Int)))))), .val (enc (v_many : Int)), .val (enc (v_level : Str)), .val (enc (r1.1 : (List Int))), .val (enc (r1.2 : Int)), .adr p_found5, .val (enc (x10 : Int)), .val (enc (s9 : (List (Tp Int)))), .val (enc (x20 : (Tp Int)))] [⟨p_found5, true, j30.map enc⟩] (rt_and (a := (!r24)) (c := b29) (rt_not (rt_b (rx_call (ds := [enc (s9 : (List (Tp Int))), enc (x20 : (Tp Int))]) (d := enc (r24 : Bool)) ⟨_, _, r24, rfl, rfl, h25⟩ (ra_cons (rx_var (d := enc (s9 : (List (Tp Int)))) rfl) (ra_cons (rx_var (d := enc (x20 : (Tp Int))) rfl) ra_nil))))) (fun ha => by rw [if_pos ha] at h26; obtain ⟨r27, h28, h26⟩ := bindE h26; obtain rfl := Option.some.inj h26; exact (rt_val (rx_nei (rx_call (ds := [enc (v_net : (T3 (List (Str × Int)) (List (T3 Str (Tp Int) Bool)) (List (Str × (Tp Int))))), enc (r1.1 : (List Int)), enc (r1.2 : Int), enc (x20 : (Tp Int)), enc (v_level : Str)]) (d := enc (r27 : Int)) ⟨_, _, _, _, _, r27, rfl, rfl, h28⟩ (ra_cons (rx_var (d := enc (v_net : (T3 (List (Str × Int)) (List (T3 Str (Tp Int) Bool)) (List (Str × (Tp Int)))))) rfl) (ra_cons (rx_var (d := enc (r1.1 : (List Int))) rfl) (ra_cons (rx_var (d := enc (r1.2 : Int)) rfl) (ra_cons (rx_var (d := enc (x20 : (Tp Int))) rfl) (ra_cons (rx_var (d := enc (v_level : Str)) rfl) ra_nil)))))) rx_int))) (fun ha => by rw [if_neg (by rw [ha]; decide)] at h26; obtain rfl := Option.some.inj h26; exact ⟨rfl, rfl⟩)) E S (fun σ F H f E S => ?_) (fun hc F H rest f E S => ?_) (fun hc F H rest f E S => ?_))
      · replace fc := fc.trans f
        obtain rfl := Option.some.inj h18
        exact hN _ _ _ fc (E.weak ⟨.inl rfl, .inl rfl, .inl rfl, .inl rfl, .inl rfl, .inl rfl, .inl rfl, .inl rfl, .inr rfl, trivial⟩) S
      · rw [if_pos hc] at h31
        have fc := f
        obtain ⟨u32, h33, h31⟩ := bindE h31
        try (with_reducible refine nxD ?_)
        refine (st_app (j := 0) (ds := s19.map enc) (d := enc (x20 : (Tp Int))) (appO_map enc h33) rfl (rx_var (d := enc (x20 : (Tp Int))) rfl) ⟨_, rfl⟩ rfl E S fun F H f E S => ?_)
        replace fc := fc.trans f
        have E : EnvR K _ _ [.val (enc (v_net : (T3 (List (Str × Int)) (List (T3 Str (Tp Int) Bool)) (List (Str × (Tp Int)))))), .val (enc (v_many : Int)), .val (enc (v_level : Str)), .val (enc (r1.1 : (List Int))), .val (enc (r1.2 : Int)), .adr p_found5, .val (enc (x10 : Int)), .val (enc (s9 : (List (Tp Int)))), .val (enc (x20 : (Tp Int)))] := E
        have S : Hx K _ _ _ _ [⟨p_found5, true, u32.map enc⟩] _ := S
        obtain rfl := Option.some.inj h31
        exact rest _ _ _ fc (E.weak ⟨.inl rfl, .inl rfl, .inl rfl, .inl rfl, .inl rfl, .inl rfl, .inl rfl, .inl rfl, .inl rfl, trivial⟩) S
      · rw [if_neg (by rw [hc]; decide)] at h31
        have fc := f
        refine nxt ?_
        obtain rfl := Option.some.inj h31
        exact rest _ _ _ fc (E.weak ⟨.inl rfl, .inl rfl, .inl rfl, .inl rfl, .inl rfl, .inl rfl, .inl rfl, .inl rfl, .inl rfl, trivial⟩) S
theorem sc_without : FnScope ["sets", "place", "one"] ["sets", "place"] (defScope (top 18)) := ⟨rfl, rfl, rfl, by decide +kernel, rfl, by decide +kernel, by decide +kernel⟩
theorem ok_without (D : Dfn K mg "without" (top 18) ["sets", "place"]) : Cal P w K mg base 1 "without" ["sets", "place"] (SpN K R_without) := by
  refine D.cal sc_without (sn_len fun ds d h => by obtain ⟨_, _, _, rfl, _⟩ := h; rfl) fun f cdv A outer s H vs Q E hr h => ?_
  refine ⟨_, (pss_one (ps_ret (pe_lc (own := [(("one" : Str), 2)]) (g := (gName 2)) rfl sc_without.nd (k_pi_list K (pv 0)) (blkOk_by (by kernel_rfl)) (fun _ _ _ _ _ => (pg_name (i := 2) sc_without.nd rfl (Or.inl rfl))) (fun _ _ _ _ _ => (pts_one (pt_cmpR (k_notIn_seq K) (pv 1) (pv 2) (by rfl)))) (fun _ _ _ _ _ => (pv 2))))), ?_⟩
  obtain ⟨F, ds, es, hw, hF, ⟨v_sets, v_place, rr, rfl, rfl, hm0⟩, k⟩ := h
  have E : EnvR K F _ [.val (enc (v_sets : (List (Tp Int)))), .val (enc (v_place : Int)), .un] := EnvR.start (N := ["sets", "place", "one"]) (AsR.of_all hw)
  have S := Hx.start (K := K) hF
  have fc : Same F F := Same.refl F
  unfold m_without at hm0
  obtain rfl := Option.some.inj hm0
  -- return
  try (with_reducible refine nxD ?_)
  refine st_retO (ds := ((v_sets.filter (fun (x6 : (Tp Int)) => (!decide (v_place ∈ x6.l)))).map (fun (x6 : (Tp Int)) => (x6 : (Tp Int)))).map enc) (rxo_filt (eα := enc) (eβ := enc) (p := (fun (x6 : (Tp Int)) => (!decide (v_place ∈ x6.l)))) (f := (fun (x6 : (Tp Int)) => (x6 : (Tp Int)))) (fun x6 => [.val (enc (v_sets : (List (Tp Int)))), .val (enc (v_place : Int)), .val (enc (x6 : (Tp Int)))]) [2] (ri_list (ys := v_sets.map enc) (rx_var (d := enc (v_sets : (List (Tp Int)))) rfl)) (by decide) (fun x6 _ => (rg_name (i := 2) (d := enc (x6 : (Tp Int))))) (fun x6 _ D7 acc8 => (rt_val (rx_inIT (neg := true) (rx_var (d := enc (v_place : Int)) rfl) (rx_var (d := enc (x6 : (Tp Int))) rfl)))) (fun x6 _ D7 acc8 => (rx_var (d := enc (x6 : (Tp Int))) rfl))) E S fun p F H f S => ?_
  obtain ⟨n1, n2, n3, zs, n4, n5, n6⟩ := S.get (j := 0) rfl
  exact k _ _ _ zs S.stp (n2 rfl) n1 n4 n5 n6
theorem sc_can_be_met : FnScope ["sets", "many", "place"] ["sets", "many"] (defScope (top 19)) := ⟨rfl, rfl, rfl, by decide +kernel, rfl, by decide +kernel, by decide +kernel⟩
theorem ok_can_be_met (D : Dfn K mg "can_be_met" (top 19) ["sets", "many"]) (C_without : Cal P w K mg base 1 "without" ["sets", "place"] (SpN K R_without)) : ∀ n : Nat, Cal P w K mg base (2 * n + 2) "can_be_met" ["sets", "many"] (SpP K (R_can_be_met n))
  | 0 => by
    refine ((Cal.never D sc_can_be_met).imp fun vs H Q E h => ?_).mono (by omega)
    obtain ⟨F, ds, d, hw, hF, ⟨v_sets, v_many, rr, rfl, rfl, hm0⟩, k⟩ := h
    cases hm0
  | n + 1 => by
    have C_can_be_met := ok_can_be_met D C_without n
    refine D.cal sc_can_be_met (sp_len fun ds d h => by obtain ⟨_, _, _, rfl, _⟩ := h; rfl) fun f cdv A outer s H vs Q E hr h => ?_
    refine ⟨_, (pss_cons (ps_if (pt_cmpR (k_eqD K hr.units) (pv 0) (pe_lst pa_nil) (nomark _)) (pss_one (ps_ret pe_bl)) pss_nil) (pss_cons (ps_if (pt_cmpR op_gt (pv 1) pe_int (nomark _)) (pss_one (ps_for PassesOwn.never rfl (k_pi_tup K (pe_ix (k_ix_list K) (pv 0) pe_int (fun _ _ => rfl))) (pg_name (i := 2) sc_can_be_met.nd rfl (Or.inl rfl)) (pss_one (ps_if (pt_val (pe_cal C_can_be_met hr (pa_cons (pe_cal C_without hr (pa_cons (pv 0) (pa_cons (pv 2) pa_nil)) (by omega)) (pa_cons (pe_op op_sub (pv 1) pe_int) pa_nil)) (by omega))) (pss_one (ps_ret pe_bl)) pss_nil)))) pss_nil) (pss_one (ps_ret pe_bl)))), ?_⟩
    obtain ⟨F, ds, d, hw, hF, ⟨v_sets, v_many, rr, rfl, rfl, hm0⟩, k⟩ := h
    have E : EnvR K F _ [.val (enc (v_sets : (List (Tp Int)))), .val (enc (v_many : Int)), .un] := EnvR.start (N := ["sets", "many", "place"]) (AsR.of_all hw)
    have S := Hx.start (K := K) hF
    have fc : Same F F := Same.refl F
    unfold m_can_be_met at hm0
    try (with_reducible refine nxD ?_)
    with_reducible refine sq ?_
    refine st_if (b := (decide ((v_sets : (List (Tp Int))) = ([] : (List (Tp Int)))))) (rt_val (rx_eqT (x := (v_sets : (List (Tp Int)))) (y := (([] : (List (Tp Int))) : (List (Tp Int)))) (RX.h (rx_var (d := enc (v_sets : (List (Tp Int)))) rfl)) (RX.h (RXo.frz (rxo_lst (ds := []) ra_nil))))) E S (fun hc F H f E S => ?_) (fun hc F H f E S => ?_)
    · rw [if_pos hc] at hm0
      replace fc := fc.trans f
      obtain rfl := Option.some.inj hm0
      -- return
      try (with_reducible refine nxD ?_)
      refine st_ret (d := enc (true : Bool)) rx_bl E S fun v F H f S r => ?_
      exact k v F H S.stp r
    · rw [if_neg (by rw [hc]; decide)] at hm0
      replace fc := fc.trans f
      refine nxt ?_
      try (with_reducible refine nxD ?_)
      with_reducible refine sq ?_
      refine st_if (b := (decide ((0 : Int) < v_many))) (rt_val (rx_gt (rx_var (d := enc (v_many : Int)) rfl) rx_int)) E S (fun hc F H f E S => ?_) (fun hc F H f E S => ?_)
      · rw [if_pos hc] at hm0
        replace fc := fc.trans f
        obtain ⟨t1, h2, hm0⟩ := bindE hm0
        obtain ⟨fl6, h7, hm0⟩ := bindE hm0
        try (with_reducible refine nxD ?_)
        refine (st_forF (eα := enc) (fun s4 => [.val (enc (v_sets : (List (Tp Int)))), .val (enc (v_many : Int)), .un]) (fun s4 => []) E S (ri_tup (ys := t1.l.map enc) (rx_ix (atI_map enc h2) (RX.s (rx_var (d := enc (v_sets : (List (Tp Int)))) rfl)) rx_int)) h7 ⟨.inl rfl, .inl rfl, .inr rfl, trivial⟩ (fun s13 e σ F H f E S => ?_) (fun x5 _ s4 out h3 hrt8 σ F H v _ E S r N B hN hB => ?_))
        · subst e
          replace fc := fc.trans f
          simp only [flK] at hm0
          obtain rfl := Option.some.inj hm0
          -- return
          try (with_reducible refine nxD ?_)
          refine st_ret (d := enc (false : Bool)) rx_bl E S fun v F H f S r => ?_
          exact k v F H S.stp r
        · refine ((rg_name (i := 2) (d := enc (x5 : Int)))).run _ _ _ _ _ E r S.fh fun σ E _ => ?_
          have E : EnvR K _ _ [.val (enc (v_sets : (List (Tp Int)))), .val (enc (v_many : Int)), .val (enc (x5 : Int))] := E
          have S : Hx K _ _ _ _ [] _ := S
          have fc : Same F F := Same.refl F
          obtain ⟨r9, h10, h3⟩ := bindE h3
          obtain ⟨r11, h12, h3⟩ := bindE h3
          try (with_reducible refine nxD ?_)
          refine (st_if (b := r11) (rt_b (rx_call (ds := [enc (r9 : (List (Tp Int))), enc ((v_many - (1 : Int)) : Int)]) (d := enc (r11 : Bool)) ⟨_, _, r11, rfl, rfl, h12⟩ (ra_cons (RXo.frz (rxo_call (ds := [enc (v_sets : (List (Tp Int))), enc (x5 : Int)]) (es := r9.map enc) ⟨_, _, r9, rfl, rfl, h10⟩ (ra_cons (rx_var (d := enc (v_sets : (List (Tp Int)))) rfl) (ra_cons (rx_var (d := enc (x5 : Int)) rfl) ra_nil)))) (ra_cons (rx_sub (rx_var (d := enc (v_many : Int)) rfl) rx_int) ra_nil)))) E S (fun hc F H f E S => ?_) (fun hc F H f E S => ?_))
          · rw [if_pos hc] at h3
            replace fc := fc.trans f
            obtain rfl := Option.some.inj h3
            obtain rfl := hrt8 _ rfl
            obtain rfl := Option.some.inj hm0
            -- return
            try (with_reducible refine nxD ?_)
            refine st_ret (d := enc (true : Bool)) rx_bl E S fun v F H f S r => ?_
            exact k v F H S.stp r
          · rw [if_neg (by rw [hc]; decide)] at h3
            replace fc := fc.trans f
            refine nxt ?_
            obtain rfl := Option.some.inj h3
            exact hN _ rfl _ _ _ fc (E.weak ⟨.inl rfl, .inl rfl, .inr rfl, trivial⟩) S
      · rw [if_neg (by rw [hc]; decide)] at hm0
        replace fc := fc.trans f
        refine nxt ?_
        obtain rfl := Option.some.inj hm0
        -- return
        try (with_reducible refine nxD ?_)
        refine st_ret (d := enc (false : Bool)) rx_bl E S fun v F H f S r => ?_
        exact k v F H S.stp r
theorem sc_surest : FnScope ["net", "many", "level", "sets", "left", "found", "place", "others"] ["net", "many", "level"] (defScope (top 20)) := ⟨rfl, rfl, rfl, by decide +kernel, rfl, by decide +kernel, by decide +kernel⟩
theorem ok_surest (B : Bi mg) (D : Dfn K mg "surest" (top 20) ["net", "many", "level"]) (C_breaking : Cal P w K mg base 7 "breaking" ["net", "many", "level"] (SpN K R_breaking)) (C_can_be_met : Cal P w K mg base 98 "can_be_met" ["sets", "many"] (SpP K (R_can_be_met 48))) (C_free_places : Cal P w K mg base 1 "free_places" ["net"] (SpN K R_free_places)) (C_without : Cal P w K mg base 1 "without" ["sets", "place"] (SpN K R_without)) : Cal P w K mg base 99 "surest" ["net", "many", "level"] (SpP K R_surest) := by
  refine D.cal sc_surest (sp_len fun ds d h => by obtain ⟨_, _, _, _, rfl, _⟩ := h; rfl) fun f cdv A outer s H vs Q E hr h => ?_
  refine ⟨_, (pss_cons (ps_set (i := 3) sc_surest.nd rfl (Or.inl rfl) (pe_cal C_breaking hr (pa_cons (pv 0) (pa_cons (pv 1) (pa_cons (pv 2) pa_nil))))) (pss_cons (ps_set (i := 4) sc_surest.nd rfl (Or.inl rfl) pe_int) (pss_cons (ps_while PassesOwn.never (pt_not (pt_val (pe_cal C_can_be_met hr (pa_cons (pv 3) (pa_cons (pv 4) pa_nil))))) (pss_one (ps_aug (i := 4) sc_surest.nd rfl (Or.inl rfl) pe_int ip_add))) (pss_cons (ps_set (i := 5) sc_surest.nd rfl (Or.inl rfl) (pe_tup pa_nil)) (pss_cons (ps_for PassesOwn.never rfl (k_pi_list K (pe_cal C_free_places hr (pa_cons (pv 0) pa_nil))) (pg_name (i := 6) sc_surest.nd rfl (Or.inl rfl)) (pss_cons (ps_set (i := 7) sc_surest.nd rfl (Or.inl rfl) (pe_cal C_without hr (pa_cons (pv 3) (pa_cons (pv 6) pa_nil)))) (pss_one (ps_if (PW.pt (pw_and (pt_cmpR op_lt (pe_callB (k_len_seq K) (by rfl) B.len PySem.boot_len (pa_cons (pv 7) pa_nil)) (pe_callB (k_len_seq K) (by rfl) B.len PySem.boot_len (pa_cons (pv 3) pa_nil)) (nomark _)) (pw_and1 (pt_val (pe_cal C_can_be_met hr (pa_cons (pv 7) (pa_cons (pe_op op_sub (pv 4) pe_int) pa_nil))))))) (pss_cons (ps_set (i := 5) sc_surest.nd rfl (Or.inl rfl) (pe_op (k_catA K) (pv 5) (pe_tup (pa_cons (pv 6) pa_nil)))) (pss_cons (ps_set (i := 3) sc_surest.nd rfl (Or.inl rfl) (pv 7)) (pss_one (ps_aug (i := 4) sc_surest.nd rfl (Or.inl rfl) pe_int ip_sub)))) pss_nil)))) (pss_one (ps_ret (pv 5)))))))), ?_⟩
  obtain ⟨F, ds, d, hw, hF, ⟨v_net, v_many, v_level, rr, rfl, rfl, hm0⟩, k⟩ := h
  have E : EnvR K F _ [.val (enc (v_net : (T3 (List (Str × Int)) (List (T3 Str (Tp Int) Bool)) (List (Str × (Tp Int)))))), .val (enc (v_many : Int)), .val (enc (v_level : Str)), .un, .un, .un, .un, .un] := EnvR.start (N := ["net", "many", "level", "sets", "left", "found", "place", "others"]) (AsR.of_all hw)
  have S := Hx.start (K := K) hF
  have fc : Same F F := Same.refl F
  unfold m_surest at hm0
  obtain ⟨r1, h2, hm0⟩ := bindE hm0
  try (with_reducible refine nxD ?_)
  with_reducible refine sq ?_
  refine st_set (i := 3) (d := enc (r1 : (List (Tp Int)))) (RXo.frz (rxo_call (ds := [enc (v_net : (T3 (List (Str × Int)) (List (T3 Str (Tp Int) Bool)) (List (Str × (Tp Int))))), enc (v_many : Int), enc (v_level : Str)]) (es := r1.map enc) ⟨_, _, _, r1, rfl, rfl, h2⟩ (ra_cons (rx_var (d := enc (v_net : (T3 (List (Str × Int)) (List (T3 Str (Tp Int) Bool)) (List (Str × (Tp Int)))))) rfl) (ra_cons (rx_var (d := enc (v_many : Int)) rfl) (ra_cons (rx_var (d := enc (v_level : Str)) rfl) ra_nil))))) E S fun σ F H f E S => ?_
  replace fc := fc.trans f
  have E : EnvR K _ _ [.val (enc (v_net : (T3 (List (Str × Int)) (List (T3 Str (Tp Int) Bool)) (List (Str × (Tp Int)))))), .val (enc (v_many : Int)), .val (enc (v_level : Str)), .val (enc (r1 : (List (Tp Int)))), .un, .un, .un, .un] := E
  have S : Hx K _ _ _ _ [] _ := S
  try (with_reducible refine nxD ?_)
  with_reducible refine sq ?_
  refine st_set (i := 4) (d := enc ((0 : Int) : Int)) rx_int E S fun σ F H f E S => ?_
  replace fc := fc.trans f
  have E : EnvR K _ _ [.val (enc (v_net : (T3 (List (Str × Int)) (List (T3 Str (Tp Int) Bool)) (List (Str × (Tp Int)))))), .val (enc (v_many : Int)), .val (enc (v_level : Str)), .val (enc (r1 : (List (Tp Int)))), .val (enc ((0 : Int) : Int)), .un, .un, .un] := E
  have S : Hx K _ _ _ _ [] _ := S
  obtain ⟨s12, h7, hm0⟩ := bindE hm0
  try (with_reducible refine nxD ?_)
  with_reducible refine sq ?_
  refine st_whileS (fun s4 => [.val (enc (v_net : (T3 (List (Str × Int)) (List (T3 Str (Tp Int) Bool)) (List (Str × (Tp Int)))))), .val (enc (v_many : Int)), .val (enc (v_level : Str)), .val (enc (r1 : (List (Tp Int)))), .val (enc (s4 : Int)), .un, .un, .un]) (fun s4 => []) E S h7 (fun s4 b h9 => by obtain ⟨r10, h11, h9⟩ := bindE h9; obtain rfl := Option.some.inj h9; exact (rt_not (rt_b (rx_call (ds := [enc (r1 : (List (Tp Int))), enc (s4 : Int)]) (d := enc (r10 : Bool)) ⟨_, _, r10, rfl, rfl, h11⟩ (ra_cons (rx_var (d := enc (r1 : (List (Tp Int)))) rfl) (ra_cons (rx_var (d := enc (s4 : Int)) rfl) ra_nil)))))) ⟨.inl rfl, .inl rfl, .inl rfl, .inl rfl, .inl rfl, .inr rfl, .inr rfl, .inr rfl, trivial⟩ (fun σ F H f E S => ?_) (fun s4 s' _ h3 σ F H _ E S N B hN => ?_)
  · replace fc := fc.trans f
    have E : EnvR K _ _ [.val (enc (v_net : (T3 (List (Str × Int)) (List (T3 Str (Tp Int) Bool)) (List (Str × (Tp Int)))))), .val (enc (v_many : Int)), .val (enc (v_level : Str)), .val (enc (r1 : (List (Tp Int)))), .val (enc (s12 : Int)), .un, .un, .un] := E
    have S : Hx K _ _ _ _ [] _ := S
    obtain ⟨v13, h14, hm0⟩ := letE hm0
    try (with_reducible refine nxD ?_)
    with_reducible refine sq ?_
    refine st_set (i := 5) (d := enc (v13 : (Tp Int))) (rx_as (x := (((Tp.mk []) : (Tp Int)) : (Tp Int))) h14 (rx_tup (ds := []) ra_nil)) E S fun σ F H f E S => ?_
    replace fc := fc.trans f
    have E : EnvR K _ _ [.val (enc (v_net : (T3 (List (Str × Int)) (List (T3 Str (Tp Int) Bool)) (List (Str × (Tp Int)))))), .val (enc (v_many : Int)), .val (enc (v_level : Str)), .val (enc (r1 : (List (Tp Int)))), .val (enc (s12 : Int)), .val (enc (v13 : (Tp Int))), .un, .un] := E
    have S : Hx K _ _ _ _ [] _ := S
    obtain ⟨r15, h16, hm0⟩ := bindE hm0
    obtain ⟨s35, h21, hm0⟩ := bindE hm0
    try (with_reducible refine nxD ?_)
    with_reducible refine sq ?_
    refine st_forS (eα := enc) (fun s18 => [.val (enc (v_net : (T3 (List (Str × Int)) (List (T3 Str (Tp Int) Bool)) (List (Str × (Tp Int)))))), .val (enc (v_many : Int)), .val (enc (v_level : Str)), .val (enc (s18.2.1 : (List (Tp Int)))), .val (enc (s18.2.2 : Int)), .val (enc (s18.1 : (Tp Int))), .un, .un]) (fun s18 => []) E S (ri_list (ys := r15.map enc) (RXo.frz (rxo_call (ds := [enc (v_net : (T3 (List (Str × Int)) (List (T3 Str (Tp Int) Bool)) (List (Str × (Tp Int)))))]) (es := r15.map enc) ⟨_, r15, rfl, rfl, h16⟩ (ra_cons (rx_var (d := enc (v_net : (T3 (List (Str × Int)) (List (T3 Str (Tp Int) Bool)) (List (Str × (Tp Int)))))) rfl) ra_nil)))) h21 ⟨.inl rfl, .inl rfl, .inl rfl, .inl rfl, .inl rfl, .inl rfl, .inr rfl, .inr rfl, trivial⟩ (fun σ F H f E S => ?_) (fun x19 _ s18 s' h17 σ F H v _ E S r N B hN => ?_)
    · replace fc := fc.trans f
      have E : EnvR K _ _ [.val (enc (v_net : (T3 (List (Str × Int)) (List (T3 Str (Tp Int) Bool)) (List (Str × (Tp Int)))))), .val (enc (v_many : Int)), .val (enc (v_level : Str)), .val (enc (s35.2.1 : (List (Tp Int)))), .val (enc (s35.2.2 : Int)), .val (enc (s35.1 : (Tp Int))), .un, .un] := E
      have S : Hx K _ _ _ _ [] _ := S
      obtain rfl := Option.some.inj hm0
      -- return
      try (with_reducible refine nxD ?_)
      refine st_ret (d := enc (s35.1 : (Tp Int))) (rx_var (d := enc (s35.1 : (Tp Int))) rfl) E S fun v F H f S r => ?_
      exact k v F H S.stp r
    · refine ((rg_name (i := 6) (d := enc (x19 : Int)))).run _ _ _ _ _ E r S.fh fun σ E _ => ?_
      have E : EnvR K _ _ [.val (enc (v_net : (T3 (List (Str × Int)) (List (T3 Str (Tp Int) Bool)) (List (Str × (Tp Int)))))), .val (enc (v_many : Int)), .val (enc (v_level : Str)), .val (enc (s18.2.1 : (List (Tp Int)))), .val (enc (s18.2.2 : Int)), .val (enc (s18.1 : (Tp Int))), .val (enc (x19 : Int)), .un] := E
      have S : Hx K _ _ _ _ [] _ := S
      have fc : Same F F := Same.refl F
      obtain ⟨r23, h24, h17⟩ := bindE h17
      try (with_reducible refine nxD ?_)
      with_reducible refine sq ?_
      refine st_set (i := 7) (d := enc (r23 : (List (Tp Int)))) (RXo.frz (rxo_call (ds := [enc (s18.2.1 : (List (Tp Int))), enc (x19 : Int)]) (es := r23.map enc) ⟨_, _, r23, rfl, rfl, h24⟩ (ra_cons (rx_var (d := enc (s18.2.1 : (List (Tp Int)))) rfl) (ra_cons (rx_var (d := enc (x19 : Int)) rfl) ra_nil)))) E S fun σ F H f E S => ?_
      replace fc := fc.trans f
      have E : EnvR K _ _ [.val (enc (v_net : (T3 (List (Str × Int)) (List (T3 Str (Tp Int) Bool)) (List (Str × (Tp Int)))))), .val (enc (v_many : Int)), .val (enc (v_level : Str)), .val (enc (s18.2.1 : (List (Tp Int)))), .val (enc (s18.2.2 : Int)), .val (enc (s18.1 : (Tp Int))), .val (enc (x19 : Int)), .val (enc (r23 : (List (Tp Int))))] := E
      have S : Hx K _ _ _ _ [] _ := S
      obtain ⟨b28, h25, h17⟩ := bindE h17
      obtain ⟨j29, h30, h17⟩ := bindE h17
      try (with_reducible refine nxD ?_)
      refine (st_ifJ (b := b28) [.val (enc (v_net : (T3 (List (Str × Int)) (List (T3 Str (Tp Int) Bool)) (List (Str × (Tp Int)))))), .val (enc (v_many : Int)), .val (enc (v_level : Str)), .val (enc (j29.2.1 : (List (Tp Int)))), .val (enc (j29.2.2 : Int)), .val (enc (j29.1 : (Tp Int))), .val (enc (x19 : Int)), .val (enc (r23 : (List (Tp Int))))] [] (rt_and (a := (decide ((r23.length : Int) < (s18.2.1.length : Int)))) (c := b28) (rt_val (rx_lt (len_nat (f := enc) (RX.s (rx_var (d := enc (r23 : (List (Tp Int)))) rfl))) (len_nat (f := enc) (RX.s (rx_var (d := enc (s18.2.1 : (List (Tp Int)))) rfl))))) (fun ha => by rw [if_pos ha] at h25; obtain ⟨r26, h27, h25⟩ := bindE h25; obtain rfl := Option.some.inj h25; exact (rt_b (rx_call (ds := [enc (r23 : (List (Tp Int))), enc ((s18.2.2 - (1 : Int)) : Int)]) (d := enc (r26 : Bool)) ⟨_, _, r26, rfl, rfl, h27⟩ (ra_cons (rx_var (d := enc (r23 : (List (Tp Int)))) rfl) (ra_cons (rx_sub (rx_var (d := enc (s18.2.2 : Int)) rfl) rx_int) ra_nil))))) (fun ha => by rw [if_neg (by rw [ha]; decide)] at h25; obtain rfl := Option.some.inj h25; exact ⟨rfl, rfl⟩)) E S (fun σ F H f E S => ?_) (fun hc F H rest f E S => ?_) (fun hc F H rest f E S => ?_))
      · replace fc := fc.trans f
        obtain rfl := Option.some.inj h17
        exact hN _ _ _ fc (E.weak ⟨.inl rfl, .inl rfl, .inl rfl, .inl rfl, .inl rfl, .inl rfl, .inr rfl, .inr rfl, trivial⟩) S
      · rw [if_pos hc] at h30
        have fc := f
        obtain ⟨t31, h32, h30⟩ := bindE h30
        obtain ⟨v33, h34, h30⟩ := letE h30
        try (with_reducible refine nxD ?_)
        with_reducible refine sq ?_
        refine st_set (i := 5) (d := enc (v33 : (Tp Int))) (rx_as (x := ((Tp.mk t31) : (Tp Int))) h34 (rx_catTO (f := enc) h32 (rx_var (d := enc (s18.1 : (Tp Int))) rfl) (rx_tup (ds := [enc (x19 : Int)]) (ra_cons (rx_var (d := enc (x19 : Int)) rfl) ra_nil)))) E S fun σ F H f E S => ?_
        replace fc := fc.trans f
        have E : EnvR K _ _ [.val (enc (v_net : (T3 (List (Str × Int)) (List (T3 Str (Tp Int) Bool)) (List (Str × (Tp Int)))))), .val (enc (v_many : Int)), .val (enc (v_level : Str)), .val (enc (s18.2.1 : (List (Tp Int)))), .val (enc (s18.2.2 : Int)), .val (enc (v33 : (Tp Int))), .val (enc (x19 : Int)), .val (enc (r23 : (List (Tp Int))))] := E
        have S : Hx K _ _ _ _ [] _ := S
        try (with_reducible refine nxD ?_)
        with_reducible refine sq ?_
        refine st_set (i := 3) (d := enc (r23 : (List (Tp Int)))) (rx_var (d := enc (r23 : (List (Tp Int)))) rfl) E S fun σ F H f E S => ?_
        replace fc := fc.trans f
        have E : EnvR K _ _ [.val (enc (v_net : (T3 (List (Str × Int)) (List (T3 Str (Tp Int) Bool)) (List (Str × (Tp Int)))))), .val (enc (v_many : Int)), .val (enc (v_level : Str)), .val (enc (r23 : (List (Tp Int)))), .val (enc (s18.2.2 : Int)), .val (enc (v33 : (Tp Int))), .val (enc (x19 : Int)), .val (enc (r23 : (List (Tp Int))))] := E
        have S : Hx K _ _ _ _ [] _ := S
        try (with_reducible refine nxD ?_)
        refine (st_aug (i := 4) (x := s18.2.2) (y := (1 : Int)) rfl rx_int E S fun σ F H f E S => ?_)
        replace fc := fc.trans f
        have E : EnvR K _ _ [.val (enc (v_net : (T3 (List (Str × Int)) (List (T3 Str (Tp Int) Bool)) (List (Str × (Tp Int)))))), .val (enc (v_many : Int)), .val (enc (v_level : Str)), .val (enc (r23 : (List (Tp Int)))), .val (enc ((s18.2.2 - (1 : Int)) : Int)), .val (enc (v33 : (Tp Int))), .val (enc (x19 : Int)), .val (enc (r23 : (List (Tp Int))))] := E
        have S : Hx K _ _ _ _ [] _ := S
        obtain rfl := Option.some.inj h30
        exact rest _ _ _ fc (E.weak ⟨.inl rfl, .inl rfl, .inl rfl, .inl rfl, .inl rfl, .inl rfl, .inl rfl, .inl rfl, trivial⟩) S
      · rw [if_neg (by rw [hc]; decide)] at h30
        have fc := f
        refine nxt ?_
        obtain rfl := Option.some.inj h30
        exact rest _ _ _ fc (E.weak ⟨.inl rfl, .inl rfl, .inl rfl, .inl rfl, .inl rfl, .inl rfl, .inl rfl, .inl rfl, trivial⟩) S
  · have fc : Same F F := Same.refl F
    try (with_reducible refine nxD ?_)
    refine (st_aug (i := 4) (x := s4) (y := (1 : Int)) rfl rx_int E S fun σ F H f E S => ?_)
    replace fc := fc.trans f
    have E : EnvR K _ _ [.val (enc (v_net : (T3 (List (Str × Int)) (List (T3 Str (Tp Int) Bool)) (List (Str × (Tp Int)))))), .val (enc (v_many : Int)), .val (enc (v_level : Str)), .val (enc (r1 : (List (Tp Int)))), .val (enc ((s4 + (1 : Int)) : Int)), .un, .un, .un] := E
    have S : Hx K _ _ _ _ [] _ := S
    obtain rfl := Option.some.inj h3
    exact hN _ _ _ fc (E.weak ⟨.inl rfl, .inl rfl, .inl rfl, .inl rfl, .inl rfl, .inr rfl, .inr rfl, .inr rfl, trivial⟩) S
theorem sc__law_turning : FnScope ["net", "ins", "gates", "outs", "masks", "k", "name", "wires", "place", "wire"] ["net"] (defScope (top 25)) := ⟨rfl, rfl, rfl, by decide +kernel, rfl, by decide +kernel, by decide +kernel⟩
theorem ok__law_turning (B : Bi mg) (D : Dfn K mg "_law_turning" (top 25) ["net"]) : Cal P w K mg base 1 "_law_turning" ["net"] (SpN K R__law_turning) := by
  refine D.cal sc__law_turning (sn_len fun ds d h => by obtain ⟨_, _, rfl, _⟩ := h; rfl) fun f cdv A outer s H vs Q E hr h => ?_
  refine ⟨_, (pss_cons (ps_asg (pv 0) (pg_tup rfl (pgs_cons (pg_name (i := 1) sc__law_turning.nd rfl (Or.inl rfl)) (pgs_cons (pg_name (i := 2) sc__law_turning.nd rfl (Or.inl rfl)) (pgs_cons (pg_name (i := 3) sc__law_turning.nd rfl (Or.inl rfl)) pgs_nil))))) (pss_cons (ps_set (i := 4) sc__law_turning.nd rfl (Or.inl rfl) (pe_op op_rep (pe_lst (pa_cons pe_int pa_nil)) (pe_op op_add (pe_callB (k_len_seq K) (by rfl) B.len PySem.boot_len (pa_cons (pv 1) pa_nil)) (pe_callB (k_len_seq K) (by rfl) B.len PySem.boot_len (pa_cons (pv 2) pa_nil))))) (pss_cons (ps_for PassesOwn.never rfl (k_pi_enum K (by rfl) B.enumerate (pa_cons (pv 3) pa_nil)) (pg_tup rfl (pgs_cons (pg_name (i := 5) sc__law_turning.nd rfl (Or.inl rfl)) (pgs_cons (pg_tup rfl (pgs_cons (pg_name (i := 6) sc__law_turning.nd rfl (Or.inl rfl)) (pgs_cons (pg_name (i := 7) sc__law_turning.nd rfl (Or.inl rfl)) pgs_nil))) pgs_nil))) (pss_one (ps_asg (pe_op op_xor (pe_ix (k_ix_list K) (pv 4) (pe_ix (k_ix_tup K) (pv 7) pe_int (fun _ _ => rfl)) (fun _ _ => rfl)) (pe_op op_shl pe_int (pv 5))) (pg_sub (pv 4) (pe_ix (k_ix_tup K) (pv 7) pe_int (fun _ _ => rfl)) set_list)))) (pss_cons (ps_for PassesOwn.never rfl (pi_range3 rfl B.range (pa_cons (pe_op op_sub (pe_callB (k_len_seq K) (by rfl) B.len PySem.boot_len (pa_cons (pv 2) pa_nil)) pe_int) (pa_cons (pe_un un_neg pe_int) (pa_cons (pe_un un_neg pe_int) pa_nil)))) (pg_name (i := 8) sc__law_turning.nd rfl (Or.inl rfl)) (pss_one (ps_for PassesOwn.never rfl (k_pi_tup K (pe_ix (k_ix_tup K) (pe_ix (k_ix_list K) (pv 2) (pv 8) (fun _ _ => rfl)) pe_int (fun _ _ => rfl))) (pg_name (i := 9) sc__law_turning.nd rfl (Or.inl rfl)) (pss_one (ps_asg (pe_op op_xor (pe_ix (k_ix_list K) (pv 4) (pv 9) (fun _ _ => rfl)) (pe_ix (k_ix_list K) (pv 4) (pe_op op_add (pe_callB (k_len_seq K) (by rfl) B.len PySem.boot_len (pa_cons (pv 1) pa_nil)) (pv 8)) (fun _ _ => rfl))) (pg_sub (pv 4) (pv 9) set_list)))))) (pss_one (ps_ret (pe_slice (k_sl_list K) (pv 4) (po_some (pe_callB (k_len_seq K) (by rfl) B.len PySem.boot_len (pa_cons (pv 1) pa_nil))) po_none))))))), ?_⟩
  obtain ⟨F, ds, es, hw, hF, ⟨v_net, rr, rfl, rfl, hm0⟩, k⟩ := h
  have E : EnvR K F _ [.val (enc (v_net : (T3 (List (Str × Int)) (List (T3 Str (Tp Int) Bool)) (List (Str × (Tp Int)))))), .un, .un, .un, .un, .un, .un, .un, .un, .un] := EnvR.start (N := ["net", "ins", "gates", "outs", "masks", "k", "name", "wires", "place", "wire"]) (AsR.of_all hw)
  have S := Hx.start (K := K) hF
  have fc : Same F F := Same.refl F
  unfold m__law_turning at hm0
  try (with_reducible refine nxD ?_)
  with_reducible refine sq ?_
  refine st_unp (d := enc (v_net : (T3 (List (Str × Int)) (List (T3 Str (Tp Int) Bool)) (List (Str × (Tp Int)))))) (rx_var (d := enc (v_net : (T3 (List (Str × Int)) (List (T3 Str (Tp Int) Bool)) (List (Str × (Tp Int)))))) rfl) (rg_tup (ds := [enc (v_net.a : (List (Str × Int))), enc (v_net.b : (List (T3 Str (Tp Int) Bool))), enc (v_net.c : (List (Str × (Tp Int))))]) (RGs.cons (rg_name (i := 1) (d := enc (v_net.a : (List (Str × Int))))) (RGs.cons (rg_name (i := 2) (d := enc (v_net.b : (List (T3 Str (Tp Int) Bool))))) (RGs.cons (rg_name (i := 3) (d := enc (v_net.c : (List (Str × (Tp Int)))))) RGs.nil)))) E S fun σ F H f E S => ?_
  replace fc := fc.trans f
  have E : EnvR K _ _ [.val (enc (v_net : (T3 (List (Str × Int)) (List (T3 Str (Tp Int) Bool)) (List (Str × (Tp Int)))))), .val (enc (v_net.a : (List (Str × Int)))), .val (enc (v_net.b : (List (T3 Str (Tp Int) Bool)))), .val (enc (v_net.c : (List (Str × (Tp Int))))), .un, .un, .un, .un, .un, .un] := E
  have S : Hx K _ _ _ _ [] _ := S
  obtain ⟨t1, h2, hm0⟩ := bindE hm0
  try (with_reducible refine nxD ?_)
  with_reducible refine sq ?_
  refine st_setO (i := 4) (ds := t1.map enc) (rxo_repO (f := enc) h2 (rxo_lst (ds := [enc ((0 : Int) : Int)]) (ra_cons rx_int ra_nil)) (fun _ => (rx_add (len_nat (f := enc) (RX.s (rx_var (d := enc (v_net.a : (List (Str × Int)))) rfl))) (len_nat (f := enc) (RX.s (rx_var (d := enc (v_net.b : (List (T3 Str (Tp Int) Bool)))) rfl)))))) E S fun p_masks3 σ F H f E S => ?_
  replace fc := fc.trans f
  have E : EnvR K _ _ [.val (enc (v_net : (T3 (List (Str × Int)) (List (T3 Str (Tp Int) Bool)) (List (Str × (Tp Int)))))), .val (enc (v_net.a : (List (Str × Int)))), .val (enc (v_net.b : (List (T3 Str (Tp Int) Bool)))), .val (enc (v_net.c : (List (Str × (Tp Int))))), .adr p_masks3, .un, .un, .un, .un, .un] := E
  have S : Hx K _ _ _ _ [⟨p_masks3, true, t1.map enc⟩] _ := S
  obtain ⟨s20, h8, hm0⟩ := bindE hm0
  try (with_reducible refine nxD ?_)
  with_reducible refine sq ?_
  refine st_forS (eα := enc) (fun s5 => [.val (enc (v_net : (T3 (List (Str × Int)) (List (T3 Str (Tp Int) Bool)) (List (Str × (Tp Int)))))), .val (enc (v_net.a : (List (Str × Int)))), .val (enc (v_net.b : (List (T3 Str (Tp Int) Bool)))), .val (enc (v_net.c : (List (Str × (Tp Int))))), .adr p_masks3, .un, .un, .un, .un, .un]) (fun s5 => [⟨p_masks3, true, s5.map enc⟩]) E S (ri_enumT (rx_var (d := enc (v_net.c : (List (Str × (Tp Int))))) rfl)) h8 ⟨.inl rfl, .inl rfl, .inl rfl, .inl rfl, .inl rfl, .inr rfl, .inr rfl, .inr rfl, .inr rfl, .inr rfl, trivial⟩ (fun σ F H f E S => ?_) (fun x6 _ s5 s' h4 σ F H v _ E S r N B hN => ?_)
  · replace fc := fc.trans f
    have E : EnvR K _ _ [.val (enc (v_net : (T3 (List (Str × Int)) (List (T3 Str (Tp Int) Bool)) (List (Str × (Tp Int)))))), .val (enc (v_net.a : (List (Str × Int)))), .val (enc (v_net.b : (List (T3 Str (Tp Int) Bool)))), .val (enc (v_net.c : (List (Str × (Tp Int))))), .adr p_masks3, .un, .un, .un, .un, .un] := E
    have S : Hx K _ _ _ _ [⟨p_masks3, true, s20.map enc⟩] _ := S
    obtain ⟨l21, h22, hm0⟩ := bindE hm0
    obtain ⟨s44, h27, hm0⟩ := bindE hm0
    try (with_reducible refine nxD ?_)
    with_reducible refine sq ?_
    refine st_forS (eα := enc) (fun s24 => [.val (enc (v_net : (T3 (List (Str × Int)) (List (T3 Str (Tp Int) Bool)) (List (Str × (Tp Int)))))), .val (enc (v_net.a : (List (Str × Int)))), .val (enc (v_net.b : (List (T3 Str (Tp Int) Bool)))), .val (enc (v_net.c : (List (Str × (Tp Int))))), .adr p_masks3, .un, .un, .un, .un, .un]) (fun s24 => [⟨p_masks3, true, s24.map enc⟩]) E S (ri_rangeDown h22 (rx_sub (len_nat (f := enc) (RX.s (rx_var (d := enc (v_net.b : (List (T3 Str (Tp Int) Bool)))) rfl))) rx_int) (rx_usub rx_int) (rx_usub rx_int)) h27 ⟨.inl rfl, .inl rfl, .inl rfl, .inl rfl, .inl rfl, .inr rfl, .inr rfl, .inr rfl, .inr rfl, .inr rfl, trivial⟩ (fun σ F H f E S => ?_) (fun x25 _ s24 s' h23 σ F H v _ E S r N B hN => ?_)
    · replace fc := fc.trans f
      have E : EnvR K _ _ [.val (enc (v_net : (T3 (List (Str × Int)) (List (T3 Str (Tp Int) Bool)) (List (Str × (Tp Int)))))), .val (enc (v_net.a : (List (Str × Int)))), .val (enc (v_net.b : (List (T3 Str (Tp Int) Bool)))), .val (enc (v_net.c : (List (Str × (Tp Int))))), .adr p_masks3, .un, .un, .un, .un, .un] := E
      have S : Hx K _ _ _ _ [⟨p_masks3, true, s44.map enc⟩] _ := S
      obtain rfl := Option.some.inj hm0
      -- return
      try (with_reducible refine nxD ?_)
      refine st_retO (ds := (cutL s44 (some (v_net.a.length : Int)) none).map enc) (rxo_sliceM (f := enc) (rxs_own (j := 0) (ds := s44.map enc) rfl rfl) (ro_some (len_nat (f := enc) (RX.s (rx_var (d := enc (v_net.a : (List (Str × Int)))) rfl)))) ro_none) E S fun p F H f S => ?_
      obtain ⟨n1, n2, n3, zs, n4, n5, n6⟩ := S.get (j := 0) rfl
      exact k _ _ _ zs S.stp (n2 rfl) n1 n4 n5 n6
    · refine ((rg_name (i := 8) (d := enc (x25 : Int)))).run _ _ _ _ _ E r S.fh fun σ E _ => ?_
      have E : EnvR K _ _ [.val (enc (v_net : (T3 (List (Str × Int)) (List (T3 Str (Tp Int) Bool)) (List (Str × (Tp Int)))))), .val (enc (v_net.a : (List (Str × Int)))), .val (enc (v_net.b : (List (T3 Str (Tp Int) Bool)))), .val (enc (v_net.c : (List (Str × (Tp Int))))), .adr p_masks3, .un, .un, .un, .val (enc (x25 : Int)), .un] := E
      have S : Hx K _ _ _ _ [⟨p_masks3, true, s24.map enc⟩] _ := S
      have fc : Same F F := Same.refl F
      obtain ⟨t29, h30, h23⟩ := bindE h23
      obtain ⟨s43, h35, h23⟩ := bindE h23
      try (with_reducible refine nxD ?_)
      refine (st_forS (eα := enc) (fun s32 => [.val (enc (v_net : (T3 (List (Str × Int)) (List (T3 Str (Tp Int) Bool)) (List (Str × (Tp Int)))))), .val (enc (v_net.a : (List (Str × Int)))), .val (enc (v_net.b : (List (T3 Str (Tp Int) Bool)))), .val (enc (v_net.c : (List (Str × (Tp Int))))), .adr p_masks3, .un, .un, .un, .val (enc (x25 : Int)), .un]) (fun s32 => [⟨p_masks3, true, s32.map enc⟩]) E S (ri_tup (ys := t29.b.l.map enc) (rx_ixT (ds := [enc (t29.a : Str), enc (t29.b : (Tp Int)), enc (t29.c : Bool)]) (d := enc (t29.b : (Tp Int))) rfl (rx_ix (atI_map enc h30) (RX.s (rx_var (d := enc (v_net.b : (List (T3 Str (Tp Int) Bool)))) rfl)) (rx_var (d := enc (x25 : Int)) rfl)) rx_int)) h35 ⟨.inl rfl, .inl rfl, .inl rfl, .inl rfl, .inl rfl, .inr rfl, .inr rfl, .inr rfl, .inl rfl, .inr rfl, trivial⟩ (fun σ F H f E S => ?_) (fun x33 _ s32 s' h31 σ F H v _ E S r N B hN => ?_))
      · replace fc := fc.trans f
        have E : EnvR K _ _ [.val (enc (v_net : (T3 (List (Str × Int)) (List (T3 Str (Tp Int) Bool)) (List (Str × (Tp Int)))))), .val (enc (v_net.a : (List (Str × Int)))), .val (enc (v_net.b : (List (T3 Str (Tp Int) Bool)))), .val (enc (v_net.c : (List (Str × (Tp Int))))), .adr p_masks3, .un, .un, .un, .val (enc (x25 : Int)), .un] := E
        have S : Hx K _ _ _ _ [⟨p_masks3, true, s43.map enc⟩] _ := S
        obtain rfl := Option.some.inj h23
        exact hN _ _ _ fc (E.weak ⟨.inl rfl, .inl rfl, .inl rfl, .inl rfl, .inl rfl, .inr rfl, .inr rfl, .inr rfl, .inr rfl, .inr rfl, trivial⟩) S
      · refine ((rg_name (i := 9) (d := enc (x33 : Int)))).run _ _ _ _ _ E r S.fh fun σ E _ => ?_
        have E : EnvR K _ _ [.val (enc (v_net : (T3 (List (Str × Int)) (List (T3 Str (Tp Int) Bool)) (List (Str × (Tp Int)))))), .val (enc (v_net.a : (List (Str × Int)))), .val (enc (v_net.b : (List (T3 Str (Tp Int) Bool)))), .val (enc (v_net.c : (List (Str × (Tp Int))))), .adr p_masks3, .un, .un, .un, .val (enc (x25 : Int)), .val (enc (x33 : Int))] := E
        have S : Hx K _ _ _ _ [⟨p_masks3, true, s32.map enc⟩] _ := S
        have fc : Same F F := Same.refl F
        obtain ⟨t37, h38, h31⟩ := bindE h31
        obtain ⟨t39, h40, h31⟩ := bindE h31
        obtain ⟨u41, h42, h31⟩ := bindE h31
        try (with_reducible refine nxD ?_)
        refine (st_put (j := 0) (ds := s32.map enc) (d := enc ((Builtin.bitXor t37 t39) : Int)) (setO_map enc h42) (rx_bxor (rx_ix (atI_map enc h38) (rxs_own (j := 0) (ds := s32.map enc) rfl rfl) (rx_var (d := enc (x33 : Int)) rfl)) (rx_ix (atI_map enc h40) (rxs_own (j := 0) (ds := s32.map enc) rfl rfl) (rx_add (len_nat (f := enc) (RX.s (rx_var (d := enc (v_net.a : (List (Str × Int)))) rfl))) (rx_var (d := enc (x25 : Int)) rfl)))) rfl (rx_var (d := enc (x33 : Int)) rfl) rfl E S fun F H f E S => ?_)
        replace fc := fc.trans f
        have E : EnvR K _ _ [.val (enc (v_net : (T3 (List (Str × Int)) (List (T3 Str (Tp Int) Bool)) (List (Str × (Tp Int)))))), .val (enc (v_net.a : (List (Str × Int)))), .val (enc (v_net.b : (List (T3 Str (Tp Int) Bool)))), .val (enc (v_net.c : (List (Str × (Tp Int))))), .adr p_masks3, .un, .un, .un, .val (enc (x25 : Int)), .val (enc (x33 : Int))] := E
        have S : Hx K _ _ _ _ [⟨p_masks3, true, u41.map enc⟩] _ := S
        obtain rfl := Option.some.inj h31
        exact hN _ _ _ fc (E.weak ⟨.inl rfl, .inl rfl, .inl rfl, .inl rfl, .inl rfl, .inr rfl, .inr rfl, .inr rfl, .inl rfl, .inr rfl, trivial⟩) S
  · refine ((rg_tup (ds := [enc (x6.1 : Int), enc (x6.2 : (Str × (Tp Int)))]) (RGs.cons (rg_name (i := 5) (d := enc (x6.1 : Int))) (RGs.cons (rg_tup (ds := [enc (x6.2.1 : Str), enc (x6.2.2 : (Tp Int))]) (RGs.cons (rg_name (i := 6) (d := enc (x6.2.1 : Str))) (RGs.cons (rg_name (i := 7) (d := enc (x6.2.2 : (Tp Int)))) RGs.nil))) RGs.nil)))).run _ _ _ _ _ E r S.fh fun σ E _ => ?_
    have E : EnvR K _ _ [.val (enc (v_net : (T3 (List (Str × Int)) (List (T3 Str (Tp Int) Bool)) (List (Str × (Tp Int)))))), .val (enc (v_net.a : (List (Str × Int)))), .val (enc (v_net.b : (List (T3 Str (Tp Int) Bool)))), .val (enc (v_net.c : (List (Str × (Tp Int))))), .adr p_masks3, .val (enc (x6.1 : Int)), .val (enc (x6.2.1 : Str)), .val (enc (x6.2.2 : (Tp Int))), .un, .un] := E
    have S : Hx K _ _ _ _ [⟨p_masks3, true, s5.map enc⟩] _ := S
    have fc : Same F F := Same.refl F
    obtain ⟨t10, h11, h4⟩ := bindE h4
    obtain ⟨t12, h13, h4⟩ := bindE h4
    obtain ⟨t14, h15, h4⟩ := bindE h4
    obtain ⟨t16, h17, h4⟩ := bindE h4
    obtain ⟨u18, h19, h4⟩ := bindE h4
    try (with_reducible refine nxD ?_)
    refine (st_put (j := 0) (ds := s5.map enc) (d := enc ((Builtin.bitXor t12 t14) : Int)) (setO_map enc h19) (rx_bxor (rx_ix (atI_map enc h13) (rxs_own (j := 0) (ds := s5.map enc) rfl rfl) (rx_ixT (atI_map enc h11) (rx_var (d := enc (x6.2.2 : (Tp Int))) rfl) rx_int)) (rx_shlO h15 rx_int (rx_var (d := enc (x6.1 : Int)) rfl))) rfl (rx_ixT (atI_map enc h17) (rx_var (d := enc (x6.2.2 : (Tp Int))) rfl) rx_int) rfl E S fun F H f E S => ?_)
    replace fc := fc.trans f
    have E : EnvR K _ _ [.val (enc (v_net : (T3 (List (Str × Int)) (List (T3 Str (Tp Int) Bool)) (List (Str × (Tp Int)))))), .val (enc (v_net.a : (List (Str × Int)))), .val (enc (v_net.b : (List (T3 Str (Tp Int) Bool)))), .val (enc (v_net.c : (List (Str × (Tp Int))))), .adr p_masks3, .val (enc (x6.1 : Int)), .val (enc (x6.2.1 : Str)), .val (enc (x6.2.2 : (Tp Int))), .un, .un] := E
    have S : Hx K _ _ _ _ [⟨p_masks3, true, u18.map enc⟩] _ := S
    obtain rfl := Option.some.inj h4
    exact hN _ _ _ fc (E.weak ⟨.inl rfl, .inl rfl, .inl rfl, .inl rfl, .inl rfl, .inr rfl, .inr rfl, .inr rfl, .inr rfl, .inr rfl, trivial⟩) S
theorem sc_law : FnScope ["script", "pots", "pot", "net", "most", "many", "level", "due", "heard", "place", "mask"] ["script"] (defScope (top 26)) := ⟨rfl, rfl, rfl, by decide +kernel, rfl, by decide +kernel, by decide +kernel⟩
theorem ok_law (B : Bi mg) {f_ : Addr} {fd_ : FuncData} (D : Fun K "law" "law" (top 26) f_ fd_) (C__law_next : Cal P w K mg base 1 "_law_next" ["pot", "many"] (SpPo K R__law_next)) (C__law_pots : Cal P w K mg base 1 "_law_pots" ["script"] (SpPots K)) (C__law_some_net : Cal P w K mg base 2 "_law_some_net" ["pot", "pots"] (SpW K R__law_some_net)) (C__law_turning : Cal P w K mg base 1 "_law_turning" ["net"] (SpN K R__law_turning)) (C_breaking : Cal P w K mg base 7 "breaking" ["net", "many", "level"] (SpN K R_breaking)) (C_surest : Cal P w K mg base 99 "surest" ["net", "many", "level"] (SpP K R_surest)) : FnOk P w K mg base CX0 100 f_ fd_ ["script"] (SpP K R_law) := by
  refine D.ok sc_law (sp_len fun ds d h => by obtain ⟨_, _, rfl, _⟩ := h; rfl) fun cdv A outer s H vs Q E hr h => ?_
  refine ⟨_, (pss_cons (ps_set (i := 1) sc_law.nd rfl (Or.inl rfl) (pe_cal C__law_pots hr (pa_cons (pe_slice (k_sl_list K) (pv 0) po_none (po_some pe_int)) pa_nil))) (pss_cons (ps_set (i := 2) sc_law.nd rfl (Or.inl rfl) (pe_ix (k_ix_list K) (pv 1) pe_int (fun _ _ => rfl))) (pss_cons (ps_set (i := 3) sc_law.nd rfl (Or.inr rfl) (pe_cal C__law_some_net hr (pa_cons (pv 2) (pa_cons (pe_slice (k_sl_list K) (pv 1) (po_some pe_int) po_none) pa_nil)))) (pss_cons (ps_set (i := 4) sc_law.nd rfl (Or.inl rfl) (pe_op op_add (pe_op op_add pe_int (pe_callTy call_int1 (by rfl) B.int (by decide +kernel) (pa_cons (pe_cmpR op_le (pe_callB (k_len_seq K) (by rfl) B.len PySem.boot_len (pa_cons (pe_ix (k_ix_tup K) (pv 3) pe_int (fun _ _ => rfl)) pa_nil)) pe_int (nomark _)) pa_nil))) (pe_callTy call_int1 (by rfl) B.int (by decide +kernel) (pa_cons (pe_cmpR op_le (pe_callB (k_len_seq K) (by rfl) B.len PySem.boot_len (pa_cons (pe_ix (k_ix_tup K) (pv 3) pe_int (fun _ _ => rfl)) pa_nil)) pe_int (nomark _)) pa_nil)))) (pss_cons (ps_set (i := 5) sc_law.nd rfl (Or.inl rfl) (pe_op op_add pe_int (pe_cal C__law_next hr (pa_cons (pv 2) (pa_cons (pv 4) pa_nil))))) (pss_cons (ps_set (i := 6) sc_law.nd rfl (Or.inl rfl) (pe_ix (k_ix_list K) (pe_lst (pa_cons pe_str (pa_cons pe_str pa_nil))) (pe_cal C__law_next hr (pa_cons (pv 2) (pa_cons pe_int pa_nil))) (fun _ _ => rfl))) (pss_cons (ps_setLc (i := 7) (own := [(("place" : Str), 9), (("mask" : Str), 10)]) (g := (gTup K 2 (gCons (gName 9) (gCons (gName 10) gNil)))) rfl sc_law.nd rfl rfl (sw_true rfl rfl rfl (by decide +kernel)) (k_pi_enum K (by rfl) B.enumerate (pa_cons (pe_cal C__law_turning hr (pa_cons (pv 3) pa_nil)) pa_nil)) (blkOk_by (by kernel_rfl)) (fun _ _ _ _ _ => (pg_tup rfl (pgs_cons (pg_name (i := 9) sc_law.nd rfl (Or.inl rfl)) (pgs_cons (pg_name (i := 10) sc_law.nd rfl (Or.inl rfl)) pgs_nil)))) (fun _ _ _ _ _ => (pts_one (PW.pt (pw_and (pt_cmpR op_ne (pv 10) pe_int (nomark _)) (pw_and1 (pt_not (pt_val (pe_ix (k_ix_tup K) (pe_ix (k_ix_list K) (pe_ix (k_ix_tup K) (pv 3) pe_int (fun _ _ => rfl)) (pv 9) (fun _ _ => rfl)) pe_int (fun _ _ => rfl))))))))) (fun _ _ _ _ _ => (pv 9))) (pss_cons (ps_set (i := 8) sc_law.nd rfl (Or.inl rfl) (pe_cal C_surest hr (pa_cons (pv 3) (pa_cons (pv 5) (pa_cons (pv 6) pa_nil))))) (pss_cons (ps_if (PW.pt (pw_or (pt_not (pt_val (pe_callB (k_isi K) (by rfl) B.isinstance (by decide +kernel) (pa_cons (pv 8) (pa_cons (pe_tyn (c := "tuple") (by rfl) B.tuple (by decide +kernel)) pa_nil))))) (pw_or1 (pt_cmpR (k_neD K hr.units) (pv 8) (pe_callTy (k_tuple_of K) (by rfl) B.tuple (by decide +kernel) (pa_cons (pv 7) pa_nil)) (nomark _))))) (pss_one (ps_ret pe_bl)) pss_nil) (pss_one (ps_ret (pe_cmpR (k_eqD K hr.units) (pe_cal C_breaking hr (pa_cons (pv 3) (pa_cons (pv 5) (pa_cons (pv 6) pa_nil)))) (pe_lc (own := [(("place" : Str), 9)]) (g := (gName 9)) (tt := tYes) rfl sc_law.nd (k_pi_list K (pv 7)) (blkOk_by (by kernel_rfl)) (fun _ _ _ _ _ => (pg_name (i := 9) sc_law.nd rfl (Or.inl rfl))) (fun _ _ _ _ _ => pts_nil) (fun _ _ _ _ _ => (pe_tup (pa_cons (pv 9) pa_nil)))) (nomark _))))))))))))), ?_⟩
  obtain ⟨F, ds, d, hw, hF, ⟨v_script, rr, rfl, rfl, hm0⟩, k⟩ := h
  have E : EnvR K F _ [.val (enc (v_script : (List Int))), .un, .un, .un, .un, .un, .un, .un, .un, .un, .un] := EnvR.start (N := ["script", "pots", "pot", "net", "most", "many", "level", "due", "heard", "place", "mask"]) (AsR.of_all hw)
  have S := Hx.start (K := K) hF
  have fc : Same F F := Same.refl F
  unfold m_law at hm0
  obtain ⟨c1, h2, hm0⟩ := bindE hm0
  try (with_reducible refine nxD ?_)
  with_reducible refine sq ?_
  refine st_pots1 (jp := 1) (ns := (cutL v_script none (some (41 : Int)))) h2 (RXo.frz (rxo_sliceM (f := enc) (RX.s (rx_var (d := enc (v_script : (List Int))) rfl)) ro_none (ro_some rx_int))) E S fun p_pots3 ps_pots4 σ F H hl5 f E S => ?_
  replace fc := fc.trans f
  have E : EnvR K _ _ [.val (enc (v_script : (List Int))), .lol (p_pots3 :: ps_pots4), .un, .un, .un, .un, .un, .un, .un, .un, .un] := E
  have S : Hx K _ _ _ _ (⟨p_pots3, true, ([c1, 0] : List Int).map enc⟩ :: (potsOs ps_pots4 (potsL (cutL v_script none (some (41 : Int)))).tail)) _ := S
  try (with_reducible refine nxD ?_)
  with_reducible refine sq ?_
  refine st_pot0 (i := 1) (j := 2) rfl E S fun σ E => ?_
  have E : EnvR K _ _ [.val (enc (v_script : (List Int))), .lol (p_pots3 :: ps_pots4), .adr p_pots3, .un, .un, .un, .un, .un, .un, .un, .un] := E
  obtain ⟨r6, h7, hm0⟩ := bindE hm0
  try (with_reducible refine nxD ?_)
  with_reducible refine sq ?_
  refine st_set (i := 3) (d := enc (r6.1 : (T3 (List (Str × Int)) (List (T3 Str (Tp Int) Bool)) (List (Str × (Tp Int)))))) (rx_callw (i := 2) (k := 1) (c := ([c1, 0] : List Int).map enc) (c' := r6.2.map enc) (cs := (potsL (cutL v_script none (some (41 : Int)))).tail) (d := enc (r6.1 : (T3 (List (Str × Int)) (List (T3 Str (Tp Int) Bool)) (List (Str × (Tp Int)))))) rfl rfl hl5 (ro_some rx_int) ro_none ⟨_, _, r6, rfl, rfl, rfl, rfl, h7⟩) E S fun σ F H f E S => ?_
  replace fc := fc.trans f
  have E : EnvR K _ _ [.val (enc (v_script : (List Int))), .lol (p_pots3 :: ps_pots4), .adr p_pots3, .val (enc (r6.1 : (T3 (List (Str × Int)) (List (T3 Str (Tp Int) Bool)) (List (Str × (Tp Int)))))), .un, .un, .un, .un, .un, .un, .un] := E
  have S : Hx K _ _ _ _ [⟨p_pots3, true, r6.2.map enc⟩] _ := S
  obtain ⟨v8, h9, hm0⟩ := letE hm0
  try (with_reducible refine nxD ?_)
  with_reducible refine sq ?_
  refine st_set (i := 4) (d := enc (v8 : Int)) (rx_as (x := ((((1 : Int) + (b2n (decide ((r6.1.b.length : Int) ≤ (16 : Int))))) + (b2n (decide ((r6.1.b.length : Int) ≤ (12 : Int))))) : Int)) h9 (rx_add (rx_add rx_int (rx_intB (rx_le (len_nat (f := enc) (RX.s (rx_ixT (ds := [enc (r6.1.a : (List (Str × Int))), enc (r6.1.b : (List (T3 Str (Tp Int) Bool))), enc (r6.1.c : (List (Str × (Tp Int))))]) (d := enc (r6.1.b : (List (T3 Str (Tp Int) Bool)))) rfl (rx_var (d := enc (r6.1 : (T3 (List (Str × Int)) (List (T3 Str (Tp Int) Bool)) (List (Str × (Tp Int)))))) rfl) rx_int))) rx_int))) (rx_intB (rx_le (len_nat (f := enc) (RX.s (rx_ixT (ds := [enc (r6.1.a : (List (Str × Int))), enc (r6.1.b : (List (T3 Str (Tp Int) Bool))), enc (r6.1.c : (List (Str × (Tp Int))))]) (d := enc (r6.1.b : (List (T3 Str (Tp Int) Bool)))) rfl (rx_var (d := enc (r6.1 : (T3 (List (Str × Int)) (List (T3 Str (Tp Int) Bool)) (List (Str × (Tp Int)))))) rfl) rx_int))) rx_int)))) E S fun σ F H f E S => ?_
  replace fc := fc.trans f
  have E : EnvR K _ _ [.val (enc (v_script : (List Int))), .lol (p_pots3 :: ps_pots4), .adr p_pots3, .val (enc (r6.1 : (T3 (List (Str × Int)) (List (T3 Str (Tp Int) Bool)) (List (Str × (Tp Int)))))), .val (enc (v8 : Int)), .un, .un, .un, .un, .un, .un] := E
  have S : Hx K _ _ _ _ [⟨p_pots3, true, r6.2.map enc⟩] _ := S
  obtain ⟨r10, h11, hm0⟩ := bindE hm0
  obtain ⟨v12, h13, hm0⟩ := letE hm0
  try (with_reducible refine nxD ?_)
  with_reducible refine sq ?_
  refine st_set (i := 5) (d := enc (v12 : Int)) (rx_as (x := (((1 : Int) + r10.1) : Int)) h13 (rx_add rx_int (rx_callo (j := 0) (ds := [enc (v8 : Int)]) (c := r6.2.map enc) (c' := r10.2.map enc) (d := enc (r10.1 : Int)) (ra_own rfl (ra_cons (rx_var (d := enc (v8 : Int)) rfl) ra_nil)) rfl ⟨_, _, r10, rfl, rfl, rfl, rfl, h11⟩))) E S fun σ F H f E S => ?_
  replace fc := fc.trans f
  have E : EnvR K _ _ [.val (enc (v_script : (List Int))), .lol (p_pots3 :: ps_pots4), .adr p_pots3, .val (enc (r6.1 : (T3 (List (Str × Int)) (List (T3 Str (Tp Int) Bool)) (List (Str × (Tp Int)))))), .val (enc (v8 : Int)), .val (enc (v12 : Int)), .un, .un, .un, .un, .un] := E
  have S : Hx K _ _ _ _ [⟨p_pots3, true, r10.2.map enc⟩] _ := S
  obtain ⟨r14, h15, hm0⟩ := bindE hm0
  obtain ⟨t16, h17, hm0⟩ := bindE hm0
  try (with_reducible refine nxD ?_)
  with_reducible refine sq ?_
  refine st_set (i := 6) (d := enc (t16 : Str)) (rx_ixF (atI_map enc h17) (RXo.frz (rxo_lst (ds := [enc (("right" : Str) : Str), enc (("safe" : Str) : Str)]) (ra_cons (rx_str (x := ("right" : Str))) (ra_cons (rx_str (x := ("safe" : Str))) ra_nil)))) (rx_callo (j := 0) (ds := [enc ((2 : Int) : Int)]) (c := r10.2.map enc) (c' := r14.2.map enc) (d := enc (r14.1 : Int)) (ra_own rfl (ra_cons rx_int ra_nil)) rfl ⟨_, _, r14, rfl, rfl, rfl, rfl, h15⟩)) E S fun σ F H f E S => ?_
  replace fc := fc.trans f
  have E : EnvR K _ _ [.val (enc (v_script : (List Int))), .lol (p_pots3 :: ps_pots4), .adr p_pots3, .val (enc (r6.1 : (T3 (List (Str × Int)) (List (T3 Str (Tp Int) Bool)) (List (Str × (Tp Int)))))), .val (enc (v8 : Int)), .val (enc (v12 : Int)), .val (enc (t16 : Str)), .un, .un, .un, .un] := E
  have S : Hx K _ _ _ _ [⟨p_pots3, true, r14.2.map enc⟩] _ := S
  obtain ⟨r18, h19, hm0⟩ := bindE hm0
  obtain ⟨l32, h33, hm0⟩ := bindE hm0
  try (with_reducible refine nxD ?_)
  with_reducible refine sq ?_
  refine st_set (i := 7) (d := enc (l32 : (List Int))) (RXo.frz (rxo_filtO (eα := enc) (eβ := enc) (fun x21 => [.val (enc (v_script : (List Int))), .lol (p_pots3 :: ps_pots4), .adr p_pots3, .val (enc (r6.1 : (T3 (List (Str × Int)) (List (T3 Str (Tp Int) Bool)) (List (Str × (Tp Int)))))), .val (enc (v8 : Int)), .val (enc (v12 : Int)), .val (enc (t16 : Str)), .un, .un, .val (enc (x21.1 : Int)), .val (enc (x21.2 : Int))]) [9, 10] (ri_enumT (RXo.frz (rxo_call (ds := [enc (r6.1 : (T3 (List (Str × Int)) (List (T3 Str (Tp Int) Bool)) (List (Str × (Tp Int)))))]) (es := r18.map enc) ⟨_, r18, rfl, rfl, h19⟩ (ra_cons (rx_var (d := enc (r6.1 : (T3 (List (Str × Int)) (List (T3 Str (Tp Int) Bool)) (List (Str × (Tp Int)))))) rfl) ra_nil)))) h33 (by decide) (fun x21 _ => (rg_tup (ds := [enc (x21.1 : Int), enc (x21.2 : Int)]) (RGs.cons (rg_name (i := 9) (d := enc (x21.1 : Int))) (RGs.cons (rg_name (i := 10) (d := enc (x21.2 : Int))) RGs.nil)))) (fun x21 _ y h20 D22 acc23 => by obtain ⟨b31, h28, h20⟩ := bindE h20; obtain rfl := Option.some.inj h20; exact (rt_and (a := (!decide (x21.2 = (0 : Int)))) (c := b31) (rt_val (rx_nei (rx_var (d := enc (x21.2 : Int)) rfl) rx_int)) (fun ha => by rw [if_pos ha] at h28; obtain ⟨t29, h30, h28⟩ := bindE h28; obtain rfl := Option.some.inj h28; exact (rt_not (rt_b (rx_ixT (ds := [enc (t29.a : Str), enc (t29.b : (Tp Int)), enc (t29.c : Bool)]) (d := enc (t29.c : Bool)) rfl (rx_ix (atI_map enc h30) (RX.s (rx_ixT (ds := [enc (r6.1.a : (List (Str × Int))), enc (r6.1.b : (List (T3 Str (Tp Int) Bool))), enc (r6.1.c : (List (Str × (Tp Int))))]) (d := enc (r6.1.b : (List (T3 Str (Tp Int) Bool)))) rfl (rx_var (d := enc (r6.1 : (T3 (List (Str × Int)) (List (T3 Str (Tp Int) Bool)) (List (Str × (Tp Int)))))) rfl) rx_int)) (rx_var (d := enc (x21.1 : Int)) rfl)) rx_int)))) (fun ha => by rw [if_neg (by rw [ha]; decide)] at h28; obtain rfl := Option.some.inj h28; exact ⟨rfl, rfl⟩))) (fun x21 _ y h20 D22 acc23 => by obtain rfl := Option.some.inj h20; exact (rx_var (d := enc (x21.1 : Int)) rfl)))) E S fun σ F H f E S => ?_
  replace fc := fc.trans f
  have E : EnvR K _ _ [.val (enc (v_script : (List Int))), .lol (p_pots3 :: ps_pots4), .adr p_pots3, .val (enc (r6.1 : (T3 (List (Str × Int)) (List (T3 Str (Tp Int) Bool)) (List (Str × (Tp Int)))))), .val (enc (v8 : Int)), .val (enc (v12 : Int)), .val (enc (t16 : Str)), .val (enc (l32 : (List Int))), .un, .un, .un] := E
  have S : Hx K _ _ _ _ [⟨p_pots3, true, r14.2.map enc⟩] _ := S
  obtain ⟨r34, h35, hm0⟩ := bindE hm0
  try (with_reducible refine nxD ?_)
  with_reducible refine sq ?_
  refine st_set (i := 8) (d := enc (r34 : (Tp Int))) (rx_call (ds := [enc (r6.1 : (T3 (List (Str × Int)) (List (T3 Str (Tp Int) Bool)) (List (Str × (Tp Int))))), enc (v12 : Int), enc (t16 : Str)]) (d := enc (r34 : (Tp Int))) ⟨_, _, _, r34, rfl, rfl, h35⟩ (ra_cons (rx_var (d := enc (r6.1 : (T3 (List (Str × Int)) (List (T3 Str (Tp Int) Bool)) (List (Str × (Tp Int)))))) rfl) (ra_cons (rx_var (d := enc (v12 : Int)) rfl) (ra_cons (rx_var (d := enc (t16 : Str)) rfl) ra_nil)))) E S fun σ F H f E S => ?_
  replace fc := fc.trans f
  have E : EnvR K _ _ [.val (enc (v_script : (List Int))), .lol (p_pots3 :: ps_pots4), .adr p_pots3, .val (enc (r6.1 : (T3 (List (Str × Int)) (List (T3 Str (Tp Int) Bool)) (List (Str × (Tp Int)))))), .val (enc (v8 : Int)), .val (enc (v12 : Int)), .val (enc (t16 : Str)), .val (enc (l32 : (List Int))), .val (enc (r34 : (Tp Int))), .un, .un] := E
  have S : Hx K _ _ _ _ [⟨p_pots3, true, r14.2.map enc⟩] _ := S
  try (with_reducible refine nxD ?_)
  with_reducible refine sq ?_
  refine st_if (b := ((!true) || (!decide ((r34 : (Tp Int)) = (Tp.mk l32))))) (rt_or2 (rt_not (rt_b (rx_isi (r := true) (rx_var (d := enc (r34 : (Tp Int))) rfl) (kit_at (t := "tuple") rfl (by decide +kernel))))) (rt_val (rx_neT (x := (r34 : (Tp Int))) (y := ((Tp.mk l32) : (Tp Int))) (RX.h (rx_var (d := enc (r34 : (Tp Int))) rfl)) (RX.h (rx_tuple (RX.s (rx_var (d := enc (l32 : (List Int))) rfl))))))) E S (fun hc F H f E S => ?_) (fun hc F H f E S => ?_)
  · rw [if_pos hc] at hm0
    replace fc := fc.trans f
    obtain rfl := Option.some.inj hm0
    -- return
    try (with_reducible refine nxD ?_)
    refine st_ret (d := enc (false : Bool)) rx_bl E S fun v F H f S r => ?_
    exact k v F H S.stp r
  · rw [if_neg (by rw [hc]; decide)] at hm0
    replace fc := fc.trans f
    refine nxt ?_
    obtain ⟨r43, h44, hm0⟩ := bindE hm0
    obtain rfl := Option.some.inj hm0
    -- return
    try (with_reducible refine nxD ?_)
    refine st_ret (d := enc ((decide ((r43 : (List (Tp Int))) = (l32.map (fun (x46 : Int) => (((Tp.mk [x46]) : (Tp Int)) : (Tp Int)))))) : Bool)) (rx_eqT (x := (r43 : (List (Tp Int)))) (y := ((l32.map (fun (x46 : Int) => (((Tp.mk [x46]) : (Tp Int)) : (Tp Int)))) : (List (Tp Int)))) (RX.h (RXo.frz (rxo_call (ds := [enc (r6.1 : (T3 (List (Str × Int)) (List (T3 Str (Tp Int) Bool)) (List (Str × (Tp Int))))), enc (v12 : Int), enc (t16 : Str)]) (es := r43.map enc) ⟨_, _, _, r43, rfl, rfl, h44⟩ (ra_cons (rx_var (d := enc (r6.1 : (T3 (List (Str × Int)) (List (T3 Str (Tp Int) Bool)) (List (Str × (Tp Int)))))) rfl) (ra_cons (rx_var (d := enc (v12 : Int)) rfl) (ra_cons (rx_var (d := enc (t16 : Str)) rfl) ra_nil)))))) (RX.h (RXo.frz (rxo_map (eα := enc) (eβ := enc) (f := (fun (x46 : Int) => (((Tp.mk [x46]) : (Tp Int)) : (Tp Int)))) (fun x46 => [.val (enc (v_script : (List Int))), .lol (p_pots3 :: ps_pots4), .adr p_pots3, .val (enc (r6.1 : (T3 (List (Str × Int)) (List (T3 Str (Tp Int) Bool)) (List (Str × (Tp Int)))))), .val (enc (v8 : Int)), .val (enc (v12 : Int)), .val (enc (t16 : Str)), .val (enc (l32 : (List Int))), .val (enc (r34 : (Tp Int))), .val (enc (x46 : Int)), .un]) [9] (ri_list (ys := l32.map enc) (rx_var (d := enc (l32 : (List Int))) rfl)) (by decide) (fun x46 _ => (rg_name (i := 9) (d := enc (x46 : Int)))) (fun x46 _ D47 acc48 => (rx_tup (ds := [enc (x46 : Int)]) (ra_cons (rx_var (d := enc (x46 : Int)) rfl) ra_nil))))))) E S fun v F H f S r => ?_
    exact k v F H S.stp r
end
end W

namespace TL
open PySem L2
/-! ### whole numbers as rows of bits -/
theorem bAnd (x y : Nat) : Builtin.bitAnd (x : Int) (y : Int) = ((x &&& y : Nat) : Int) := by
  unfold Builtin.bitAnd
  rw [decide_eq_true (by omega : (0 : Int) ≤ (x : Int)), decide_eq_true (by omega : (0 : Int) ≤ (y : Int))]
  simp only [Int.toNat_natCast]
theorem bNN (x : Int) : Builtin.bitNot (Builtin.bitNot x) = x := by unfold Builtin.bitNot; omega
theorem bOr (x y : Nat) : Builtin.bitOr (x : Int) (y : Int) = ((x ||| y : Nat) : Int) := by
  unfold Builtin.bitOr Builtin.bitAnd
  have h : ∀ z : Nat, decide ((0 : Int) ≤ Builtin.bitNot (z : Int)) = false := fun z => decide_eq_false (by unfold Builtin.bitNot; omega)
  rw [h, h]
  simp only [bNN, Int.toNat_natCast]
theorem or_xor_and : ∀ (x y : Nat), (x ||| y) = (x ^^^ y) + (x &&& y) := by
  intro x
  induction x using Nat.strongRecOn with
  | _ x ih =>
    intro y
    rcases Nat.eq_zero_or_pos x with e | e
    · subst e; simp
    · have h := ih (x / 2) (by omega) (y / 2)
      have a1 := Nat.div_add_mod (x ||| y) 2
      have a2 := Nat.div_add_mod (x ^^^ y) 2
      have a3 := Nat.div_add_mod (x &&& y) 2
      rw [Nat.or_div_two] at a1
      rw [Nat.xor_div_two] at a2
      rw [Nat.and_div_two] at a3
      have m : (x ||| y) % 2 = (x ^^^ y) % 2 + (x &&& y) % 2 := by
        have b : ∀ z : Nat, z % 2 = (z.testBit 0).toNat := fun z => by
          rw [Nat.testBit_zero]
          rcases Nat.mod_two_eq_zero_or_one z with e | e <;> rw [e] <;> rfl
        rw [b, b, b, Nat.testBit_or, Nat.testBit_xor, Nat.testBit_and]
        cases x.testBit 0 <;> cases y.testBit 0 <;> rfl
      omega
theorem bXor (x y : Nat) : Builtin.bitXor (x : Int) (y : Int) = ((x ^^^ y : Nat) : Int) := by
  unfold Builtin.bitXor
  rw [bOr, bAnd]
  have := or_xor_and x y
  omega
theorem bAndNot (x y : Nat) : Builtin.bitAnd (x : Int) (Builtin.bitNot (y : Int)) = (x : Int) - ((x &&& y : Nat) : Int) := by
  unfold Builtin.bitAnd
  rw [decide_eq_true (by omega : (0 : Int) ≤ (x : Int)), decide_eq_false (by unfold Builtin.bitNot; omega : ¬(0 : Int) ≤ Builtin.bitNot (y : Int))]
  simp only [bNN, Int.toNat_natCast]
/-- the number of n bits -/
def mkN : Nat → (Nat → Bool) → Nat
  | 0, _ => 0
  | n + 1, f => 2 ^ n * (f n).toNat + mkN n f
theorem mkN_lt : ∀ (n : Nat) (f : Nat → Bool), mkN n f < 2 ^ n
  | 0, _ => Nat.one_pos
  | n + 1, f => by
    have := mkN_lt n f
    unfold mkN
    rw [Nat.pow_succ]
    cases f n
    · simp only [Bool.toNat_false]; omega
    · simp only [Bool.toNat_true]; omega
theorem mkN_bit : ∀ (n : Nat) (f : Nat → Bool) (i : Nat), (mkN n f).testBit i = (decide (i < n) && f i)
  | 0, f, i => by unfold mkN; rw [Nat.zero_testBit]; simp
  | n + 1, f, i => by
    unfold mkN
    rw [Nat.testBit_two_pow_mul_add _ (mkN_lt n f), mkN_bit n f i]
    by_cases h : i < n
    · rw [if_pos h, decide_eq_true h, decide_eq_true (by omega)]
    · rw [if_neg h]
      by_cases e : i = n
      · subst e
        rw [decide_eq_true (by omega), Nat.sub_self]
        cases f i <;> rfl
      · rw [decide_eq_false (by omega)]
        obtain ⟨k, hk⟩ : ∃ k, i - n = k + 1 := ⟨i - n - 1, by omega⟩
        rw [hk]
        cases f n
        · simp
        · show Nat.testBit 1 (k + 1) = _
          rw [Nat.testBit_succ]; simp
theorem bits_eq {n x y : Nat} (hx : x < 2 ^ n) (hy : y < 2 ^ n) (h : ∀ i, i < n → x.testBit i = y.testBit i) : x = y := Nat.eq_of_testBit_eq fun i => by
  rcases Nat.lt_or_ge i n with q | q
  · exact h i q
  · rw [Nat.testBit_lt_two_pow (Nat.lt_of_lt_of_le hx (Nat.pow_le_pow_right (by omega) q)), Nat.testBit_lt_two_pow (Nat.lt_of_lt_of_le hy (Nat.pow_le_pow_right (by omega) q))]
theorem mkN_is {n x : Nat} {f : Nat → Bool} (hx : x < 2 ^ n) (h : ∀ i, i < n → x.testBit i = f i) : x = mkN n f := bits_eq hx (mkN_lt n f) fun i q => by rw [h i q, mkN_bit, decide_eq_true q]; rfl
def mk (n : Nat) (f : Nat → Bool) : Int := (mkN n f : Nat)
theorem mk_nn (n : Nat) (f : Nat → Bool) : 0 ≤ mk n f := Int.natCast_nonneg _
theorem mk_congr {n : Nat} {f g : Nat → Bool} (h : ∀ i, i < n → f i = g i) : mk n f = mk n g := by
  unfold mk
  rw [mkN_is (f := g) (mkN_lt n f) fun i q => by rw [mkN_bit, decide_eq_true q, h i q]; rfl]
theorem mk_inj {n : Nat} {f g : Nat → Bool} (h : mk n f = mk n g) : ∀ i, i < n → f i = g i := fun i q => by
  have e : mkN n f = mkN n g := Int.ofNat.inj h
  have := congrArg (fun x => x.testBit i) e
  simp only [mkN_bit, decide_eq_true q, Bool.true_and] at this
  exact this
theorem mk_and (n : Nat) (f g : Nat → Bool) : Builtin.bitAnd (mk n f) (mk n g) = mk n fun i => f i && g i := by
  unfold mk
  rw [bAnd, mkN_is (f := fun i => f i && g i) (Nat.and_lt_two_pow _ (mkN_lt n g)) fun i q => ?_]
  rw [Nat.testBit_and, mkN_bit, mkN_bit, decide_eq_true q]; rfl
theorem mk_or (n : Nat) (f g : Nat → Bool) : Builtin.bitOr (mk n f) (mk n g) = mk n fun i => f i || g i := by
  unfold mk
  rw [bOr, mkN_is (f := fun i => f i || g i) (Nat.or_lt_two_pow (mkN_lt n f) (mkN_lt n g)) fun i q => ?_]
  rw [Nat.testBit_or, mkN_bit, mkN_bit, decide_eq_true q]; rfl
theorem mk_xor (n : Nat) (f g : Nat → Bool) : Builtin.bitXor (mk n f) (mk n g) = mk n fun i => f i ^^ g i := by
  unfold mk
  rw [bXor, mkN_is (f := fun i => f i ^^ g i) (Nat.xor_lt_two_pow (mkN_lt n f) (mkN_lt n g)) fun i q => ?_]
  rw [Nat.testBit_xor, mkN_bit, mkN_bit, decide_eq_true q]; rfl
theorem mk_one (n : Nat) : (2 : Int) ^ n - 1 = mk n fun _ => true := by
  unfold mk
  have h := Nat.two_pow_pos n
  rw [← mkN_is (x := 2 ^ n - 1) (f := fun _ => true) (by omega) fun i q => by rw [Nat.testBit_two_pow_sub_one, decide_eq_true q]]
  rw [Int.natCast_sub h, Int.natCast_pow]; rfl
theorem mk_zero (n : Nat) : (0 : Int) = mk n fun _ => false := by
  unfold mk
  rw [← mkN_is (x := 0) (f := fun _ => false) (Nat.two_pow_pos n) fun i _ => Nat.zero_testBit i]; rfl
theorem mk_not (n : Nat) (f : Nat → Bool) : Builtin.bitXor (mk n fun _ => true) (mk n f) = mk n fun i => !f i := by
  rw [mk_xor]
  exact mk_congr fun i _ => by cases f i <;> rfl
theorem mk_andnot (n : Nat) (f g : Nat → Bool) : Builtin.bitAnd (mk n f) (Builtin.bitNot (mk n g)) = mk n fun i => f i && !g i := by
  have a := mk_and n f g
  unfold mk at a ⊢
  rw [bAndNot]
  rw [bAnd] at a
  rw [a]
  have e : mkN n f = mkN n (fun i => f i && !g i) + mkN n (fun i => f i && g i) := by
    clear a
    induction n with
    | zero => rfl
    | succ n ih =>
      show 2 ^ n * (f n).toNat + mkN n f = 2 ^ n * (f n && !g n).toNat + mkN n (fun i => f i && !g i) + (2 ^ n * (f n && g n).toNat + mkN n fun i => f i && g i)
      rw [ih]
      cases f n <;> cases g n <;> simp <;> omega
  omega
theorem mk_eq0 {n : Nat} {f : Nat → Bool} : mk n f = 0 ↔ ∀ i, i < n → f i = false :=
  ⟨fun h => mk_inj (h.trans (mk_zero n)), fun h => (mk_congr h).trans (mk_zero n).symm⟩
/-- one bit of a number -/
theorem bit1 (x k : Nat) : Builtin.bitAnd ((x : Int) / 2 ^ k) 1 = b2n (x.testBit k) := by
  have e : (x : Int) / 2 ^ k = ((x / 2 ^ k : Nat) : Int) := by rw [Int.natCast_ediv, Int.natCast_pow]; rfl
  rw [e, show (1 : Int) = ((1 : Nat) : Int) from rfl, bAnd, Nat.and_one_is_mod, Nat.testBit_eq_decide_div_mod_eq]
  rcases Nat.mod_two_eq_zero_or_one (x / 2 ^ k) with q | q <;> rw [q] <;> rfl
theorem mk_bit {n : Nat} {f : Nat → Bool} {k : Nat} (h : k < n) : Builtin.bitAnd (mk n f / 2 ^ k) 1 = b2n (f k) := by
  unfold mk
  rw [bit1, mkN_bit, decide_eq_true h]; rfl
theorem mk_succ (n : Nat) (f : Nat → Bool) : mk (n + 1) f = mk n f + b2n (f n) * 2 ^ n := by
  unfold mk
  show ((2 ^ n * (f n).toNat + mkN n f : Nat) : Int) = _
  rw [Int.natCast_add, Int.natCast_mul, Int.natCast_pow]
  cases f n
  · simp [b2n]
  · simp [b2n]; omega
theorem rngL_succ (lo : Int) (n : Nat) : rngL lo (n + 1) = rngL lo n ++ [lo + n] := by
  unfold rngL
  rw [List.range_succ, List.map_append]; rfl
theorem sum_mk (f : Nat → Bool) : ∀ n : Nat, ((rngL 0 n).map fun x : Int => b2n (f x.toNat) * 2 ^ x.toNat).sum = mk n f
  | 0 => rfl
  | n + 1 => by
    rw [rngL_succ, List.map_append, List.sum_append, sum_mk f n, mk_succ]
    simp
/-- how many bits are 1 -/
def cntB : Nat → (Nat → Bool) → Nat
  | 0, _ => 0
  | n + 1, f => cntB n f + (f n).toNat
theorem cntB_le : ∀ (n : Nat) (f : Nat → Bool), cntB n f ≤ n
  | 0, _ => Nat.le_refl _
  | n + 1, f => by have := cntB_le n f; unfold cntB; cases f n <;> simp <;> omega
theorem cntB_congr : ∀ {n : Nat} {f g : Nat → Bool}, (∀ i, i < n → f i = g i) → cntB n f = cntB n g
  | 0, _, _, _ => rfl
  | n + 1, f, g, h => by unfold cntB; rw [cntB_congr fun i q => h i (by omega), h n (by omega)]
theorem cntB_zero {n : Nat} {f : Nat → Bool} (h : ∀ i, i < n → f i = false) : cntB n f = 0 := by
  induction n with
  | zero => rfl
  | succ n ih => unfold cntB; rw [ih fun i q => h i (by omega), h n (by omega)]; rfl
theorem cntB_drop {f : Nat → Bool} {j : Nat} (hj : f j = true) : ∀ {n : Nat}, j < n → cntB n f = cntB n (fun i => f i && decide (i ≠ j)) + 1
  | 0, h => by omega
  | n + 1, h => by
    unfold cntB
    by_cases e : j = n
    · subst e
      rw [cntB_congr (g := fun i => f i && decide (i ≠ j)) fun i q => by rw [decide_eq_true (by omega)]; simp, hj]
      simp
    · rw [cntB_drop hj (by omega : j < n)]
      have z : (fun i => f i && decide (i ≠ j)) n = f n := by
        show (f n && decide (n ≠ j)) = f n
        rw [decide_eq_true (by omega : n ≠ j)]; simp
      rw [z]
      omega
/-- the first bit that is 1 -/
theorem low_bit : ∀ (n : Nat) (f : Nat → Bool), (∃ i, i < n ∧ f i = true) → ∃ j, j < n ∧ f j = true ∧ ∀ i, i < j → f i = false
  | 0, f, ⟨i, h, _⟩ => by omega
  | n + 1, f, ⟨i, h, q⟩ => by
    by_cases c : ∃ i, i < n ∧ f i = true
    · obtain ⟨j, a, b, d⟩ := low_bit n f c
      exact ⟨j, by omega, b, d⟩
    · have e : i = n := by
        rcases Nat.lt_or_ge i n with z | z
        · exact absurd ⟨i, z, q⟩ c
        · omega
      subst e
      refine ⟨i, h, q, fun k hk => ?_⟩
      cases z : f k with
      | false => rfl
      | true => exact absurd ⟨k, hk, z⟩ c
theorem clear_low {n : Nat} {f : Nat → Bool} {j : Nat} (h : j < n) (hj : f j = true) (hl : ∀ i, i < j → f i = false) : Builtin.bitAnd (mk n f) (mk n f - 1) = mk n fun i => f i && decide (i ≠ j) := by
  have x1 : mkN n f % 2 ^ (j + 1) = 2 ^ j := by
    apply Nat.eq_of_testBit_eq
    intro i
    rw [Nat.testBit_mod_two_pow, mkN_bit, Nat.testBit_two_pow]
    by_cases q : i < j
    · rw [hl i q, decide_eq_false (by omega : ¬j = i)]; simp
    · by_cases e : i = j
      · subst e; rw [hj]; simp; omega
      · rw [decide_eq_false (by omega : ¬i < j + 1), decide_eq_false (by omega : ¬j = i)]; simp
  have x2 := Nat.div_add_mod (mkN n f) (2 ^ (j + 1))
  rw [x1] at x2
  generalize ea : mkN n f / 2 ^ (j + 1) = a at x2
  have p := Nat.two_pow_pos j
  have pp : 2 ^ j < 2 ^ (j + 1) := by rw [Nat.pow_succ]; omega
  have x3 : mkN n f - 1 = 2 ^ (j + 1) * a + (2 ^ j - 1) := by omega
  have x4 : mk n f - 1 = ((mkN n f - 1 : Nat) : Int) := by unfold mk; omega
  rw [x4]
  unfold mk
  rw [bAnd]
  refine congrArg _ (mkN_is (Nat.lt_of_le_of_lt Nat.and_le_left (mkN_lt n f)) fun i q => ?_)
  rw [Nat.testBit_and, x3, Nat.testBit_two_pow_mul_add _ (by omega), mkN_bit, decide_eq_true q, Nat.testBit_two_pow_sub_one]
  by_cases c : i < j + 1
  · rw [if_pos c]
    by_cases e : i = j
    · subst e; simp
    · rw [hl i (by omega)]; simp
  · rw [if_neg c]
    have e1 : (mkN n f).testBit i = f i := by rw [mkN_bit, decide_eq_true q]; rfl
    rw [← x2, Nat.testBit_two_pow_mul_add _ pp, if_neg c] at e1
    rw [e1, decide_eq_true (by omega : i ≠ j)]
    cases f i <;> rfl
end TL

namespace W
open PySem L2 TL
open Enc
abbrev Net := T3 (List (Str × Int)) (List (T3 Str (Tp Int) Bool)) (List (Str × (Tp Int)))
abbrev Gt := T3 Str (Tp Int) Bool
theorem bq {α β : Type} {m : Option α} {x : α} {f : α → Option β} {y : Option β} (e : m = some x) (h : f x = y) : m.bind f = y := by
  subst e
  exact h
theorem oq {α β : Type} {m : Option α} {x : α} {f : α → Option β} {P : β → Prop} (e : m = some x) (h : Ok (f x) P) : Ok (m.bind f) P := by
  subst e
  exact h
theorem bsome {α : Type} (m : Option α) : (m.bind fun x => some x) = m := by cases m <;> rfl
theorem rngL_cons (lo : Int) (n : Nat) : rngL lo (n + 1) = lo :: rngL (lo + 1) n := by
  unfold rngL
  rw [List.range_succ_eq_map, List.map_cons, List.map_map]
  congr 1
  · simp
  · refine List.map_congr_left fun i _ => ?_
    show lo + ((i + 1 : Nat) : Int) = lo + 1 + (i : Int)
    omega
def kinds5 : List Str := [("not" : Str), ("and" : Str), ("or" : Str), ("xor" : Str), ("vote" : Str)]
def cnt (kd : Str) : Int := (dlit [(("not" : Str), (1 : Int)), (("vote" : Str), (3 : Int))] kd).getD (2 : Int)
def GtOk (top : Int) (g : Gt) : Prop := g.a ∈ kinds5 ∧ (g.b.l.length : Int) = cnt g.a ∧ ∀ w ∈ g.b.l, 0 ≤ w ∧ w < top
theorem cnt_in {kd : Str} (h : kd ∈ kinds5) : 1 ≤ cnt kd ∧ cnt kd ≤ 3 := mem_dec (xs := kinds5) (fun t => 1 ≤ cnt t ∧ cnt t ≤ 3) (by decide +kernel) kd h
theorem kd_ok {kd : Str} (h : kd ∈ kinds5) : EqD.ok kd = true := mem_dec (xs := kinds5) (fun t => EqD.ok t = true) (by decide +kernel) kd h
theorem gt_ok {top : Int} {g : Gt} (h : GtOk top g) : EqD.ok g = true := by
  show (EqD.ok g.a && (g.b.l.all (fun _ => true) && true)) = true
  rw [kd_ok h.1]; simp
def ah (n : Net) : Int := (n.a.map (fun x => x.2)).sum
/-- a net that can be run -/
structure Wf (n : Net) : Prop where
  al : n.a.length ≤ 6
  w : ∀ x ∈ n.a, 0 ≤ x.2 ∧ x.2 ≤ 3
  gl : n.b.length ≤ 400
  gs : ∀ (i : Nat) g, n.b[i]? = some g → GtOk (ah n + (i : Int)) g
  cl : n.c.length ≤ 1000
  os : ∀ o ∈ n.c, (1 ≤ o.2.l.length ∧ o.2.l.length ≤ 3) ∧ ∀ w ∈ o.2.l, 0 ≤ w ∧ w < ah n + (n.b.length : Int)
theorem sum_le3 {xs : List (Str × Int)} (h : ∀ x ∈ xs, 0 ≤ x.2 ∧ x.2 ≤ 3) : 0 ≤ (xs.map (fun x => x.2)).sum ∧ (xs.map (fun x => x.2)).sum ≤ 3 * (xs.length : Int) := by
  induction xs with
  | nil => simp
  | cons x xs ih =>
    have h1 := ih fun y hy => h y (List.mem_cons_of_mem _ hy)
    have h2 := h x (List.mem_cons_self ..)
    rw [List.map_cons, List.sum_cons, List.length_cons]
    omega
theorem Wf.ah {n : Net} (h : Wf n) : 0 ≤ ah n ∧ ah n ≤ 18 := by
  have := sum_le3 h.w
  have := h.al
  unfold W.ah
  omega
/-! ### what the wires tell at one input -/
abbrev Bs := List Bool
def atB (s : Bs) (w : Int) : Bool := s.getD w.toNat false
def gB (kd : Str) (l : Bs) : Bool :=
  if kd = ("not" : Str) then !l.getD 0 false
  else if kd = ("and" : Str) then l.getD 0 false && l.getD 1 false
  else if kd = ("or" : Str) then l.getD 0 false || l.getD 1 false
  else if kd = ("xor" : Str) then l.getD 0 false ^^ l.getD 1 false
  else (l.getD 0 false && l.getD 1 false || l.getD 0 false && l.getD 2 false) || l.getD 1 false && l.getD 2 false
def goB (T : Int → Bool) : List Gt → Int → Bs → Bs
  | [], _, s => s
  | g :: gs, p, s => goB T gs (p + 1) (s ++ [gB g.a (g.b.l.map (atB s)) ^^ T p])
def repB (B : Int → Bool) (v : Bool) : Nat → Bs → Bs
  | 0, s => s
  | m + 1, s => repB B v m (s ++ [v ^^ B s.length])
def insB (B : Int → Bool) : List (Str × Int) → Nat → Bs → Bs → Bs
  | [], _, _, s => s
  | x :: xs, k, b, s => insB B xs (k + 1) b (repB B (b.getD k false) x.2.toNat s)
def rdB (l : Bs) : Bool × Bool := if l.length = 1 then (l.getD 0 false, false) else if l.length = 2 then (l.getD 0 false && l.getD 1 false, l.getD 0 false ^^ l.getD 1 false) else (gB ("vote" : Str) l, false)
/-- all wires -/
def WB (n : Net) (b : Bs) (T B : Int → Bool) : Bs := goB T n.b 0 (insB B n.a 0 b [])
def no : Int → Bool := fun _ => false
def inT (l : List Int) : Int → Bool := fun p => decide (p ∈ l)
theorem inT_nil : inT [] = no := by funext p; simp [inT, no]
theorem goB_len (T : Int → Bool) : ∀ (gs : List Gt) (p : Int) (s : Bs), (goB T gs p s).length = s.length + gs.length
  | [], _, s => rfl
  | g :: gs, p, s => by unfold goB; rw [goB_len T gs]; simp; omega
theorem getD_app (s : Bs) (v : Bool) (k : Nat) : (s ++ [v]).getD k false = if k < s.length then s.getD k false else if k = s.length then v else false := by
  rw [List.getD_eq_getElem?_getD, List.getD_eq_getElem?_getD, List.getElem?_append]
  split
  · rfl
  · rename_i h
    split
    · rename_i e; subst e; simp
    · rw [List.getElem?_eq_none (by simp; omega)]; rfl
theorem atB_app (s : Bs) (v : Bool) (w : Int) (h0 : 0 ≤ w) : atB (s ++ [v]) w = if w < s.length then atB s w else if w = s.length then v else false := by
  unfold atB
  rw [getD_app]
  by_cases c : w < s.length
  · rw [if_pos c, if_pos (by omega)]
  · rw [if_neg c, if_neg (by omega)]
    by_cases e : w = s.length
    · rw [if_pos e, if_pos (by omega)]
    · rw [if_neg e, if_neg (by omega)]
theorem goB_low (T : Int → Bool) : ∀ (gs : List Gt) (p : Int) (s : Bs) (w : Int), 0 ≤ w → w < s.length → atB (goB T gs p s) w = atB s w
  | [], _, s, w, _, _ => rfl
  | g :: gs, p, s, w, h0, h1 => by
    unfold goB
    rw [goB_low T gs _ _ w h0 (by rw [List.length_append]; omega), atB_app _ _ _ h0, if_pos h1]
theorem goB_app (T : Int → Bool) : ∀ (gs hs : List Gt) (p : Int) (s : Bs), goB T (gs ++ hs) p s = goB T hs (p + gs.length) (goB T gs p s)
  | [], hs, p, s => by simp [goB]
  | g :: gs, hs, p, s => by
    show goB T (gs ++ hs) (p + 1) (s ++ [gB g.a (g.b.l.map (atB s)) ^^ T p]) = goB T hs _ (goB T gs (p + 1) (s ++ [gB g.a (g.b.l.map (atB s)) ^^ T p]))
    rw [goB_app T gs hs, List.length_cons, show p + 1 + (gs.length : Int) = p + ((gs.length + 1 : Nat) : Int) by omega]
theorem goB_congr {T U : Int → Bool} : ∀ (gs : List Gt) (p : Int) (s : Bs), (∀ q : Int, p ≤ q → q < p + gs.length → T q = U q) → goB T gs p s = goB U gs p s
  | [], _, _, _ => rfl
  | g :: gs, p, s, h => by
    unfold goB
    rw [h p (by omega) (by rw [List.length_cons]; omega)]
    exact goB_congr gs (p + 1) _ fun q a c => h q (by omega) (by rw [List.length_cons]; omega)
/-- the gates ahead of a place -/
theorem goB_take (T : Int → Bool) (gs : List Gt) (p : Int) (s : Bs) (k : Nat) (hk : k ≤ gs.length) : (goB T gs p s).take (s.length + k) = goB T (gs.take k) p s := by
  have e := goB_app T (gs.take k) (gs.drop k) p s
  rw [List.take_append_drop] at e
  have pre : ∀ (hs : List Gt) (q : Int) (t : Bs), ∃ u, goB T hs q t = t ++ u := by
    intro hs
    induction hs with
    | nil => exact fun q t => ⟨[], by simp [goB]⟩
    | cons h hs ih =>
      intro q t
      obtain ⟨u, hu⟩ := ih (q + 1) (t ++ [gB h.a (h.b.l.map (atB t)) ^^ T q])
      exact ⟨_, by unfold goB; rw [hu, List.append_assoc]⟩
  obtain ⟨u, hu⟩ := pre (gs.drop k) (p + (gs.take k).length) (goB T (gs.take k) p s)
  rw [e, hu, List.take_append_of_le_length (by rw [goB_len, List.length_take]; omega), List.take_of_length_le (by rw [goB_len, List.length_take]; omega)]
theorem goB_from {T : Int → Bool} (gs : List Gt) (s : Bs) (k : Nat) (hk : k ≤ gs.length) (hT : ∀ q : Int, q < k → T q = false) : goB T (gs.drop k) k ((goB no gs 0 s).take (s.length + k)) = goB T gs 0 s := by
  rw [goB_take no gs 0 s k hk]
  have e := goB_app T (gs.take k) (gs.drop k) 0 s
  rw [List.take_append_drop] at e
  have l : (gs.take k).length = k := by rw [List.length_take]; omega
  rw [e, l, Int.zero_add]
  congr 1
  exact goB_congr _ _ _ fun q a c => by rw [l] at c; rw [hT q (by omega)]; rfl
theorem repB_len (B : Int → Bool) (v : Bool) : ∀ (m : Nat) (s : Bs), (repB B v m s).length = s.length + m
  | 0, s => rfl
  | m + 1, s => by unfold repB; rw [repB_len B v m]; simp; omega
theorem insB_len (B : Int → Bool) : ∀ (xs : List (Str × Int)) (k : Nat) (b s : Bs), (∀ x ∈ xs, 0 ≤ x.2) → ((insB B xs k b s).length : Int) = s.length + (xs.map (fun x => x.2)).sum
  | [], _, _, s, _ => by simp [insB]
  | x :: xs, k, b, s, h => by
    have := h x (List.mem_cons_self ..)
    unfold insB
    rw [insB_len B xs _ _ _ fun y hy => h y (List.mem_cons_of_mem _ hy), repB_len, List.map_cons, List.sum_cons]
    omega
theorem WB_ins {n : Net} (h : Wf n) (b : Bs) (B : Int → Bool) : ((insB B n.a 0 b []).length : Int) = ah n := by
  rw [insB_len B n.a 0 b [] fun x hx => (h.w x hx).1]; simp [ah]
theorem WB_len {n : Net} (h : Wf n) (b : Bs) (T B : Int → Bool) : ((WB n b T B).length : Int) = ah n + n.b.length := by
  unfold WB
  rw [goB_len, Int.natCast_add, WB_ins h]
/-! ### all inputs at once -/
def mkL (N : Nat) (S : Nat → Bs) (L : Nat) : List Int := (List.range L).map fun k => mk N fun i => (S i).getD k false
theorem mkL_len (N : Nat) (S : Nat → Bs) (L : Nat) : (mkL N S L).length = L := by unfold mkL; simp
theorem mkL_get (N : Nat) (S : Nat → Bs) (L k : Nat) (h : k < L) : (mkL N S L)[k]? = some (mk N fun i => (S i).getD k false) := by
  unfold mkL
  rw [List.getElem?_map, List.getElem?_range h]; rfl
theorem mkL_at {N : Nat} {S : Nat → Bs} {L : Nat} {w : Int} (h0 : 0 ≤ w) (h1 : w < L) : L2.atI (mkL N S L) w = some (mk N fun i => atB (S i) w) := by
  unfold L2.atI ixN
  rw [if_pos h0, if_pos (by rw [mkL_len]; exact h1)]
  exact mkL_get N S L w.toNat (by omega)
theorem mkL_app {N : Nat} {S : Nat → Bs} {L : Nat} (f : Nat → Bool) (h : ∀ i, (S i).length = L) : mkL N (fun i => S i ++ [f i]) (L + 1) = mkL N S L ++ [mk N f] := by
  unfold mkL
  rw [List.range_succ, List.map_append]
  congr 1
  · refine List.map_congr_left fun k hk => mk_congr fun i _ => ?_
    rw [getD_app, h i, if_pos (List.mem_range.mp hk)]
  · show [mk N _] = [mk N f]
    congr 1
    exact mk_congr fun i _ => by rw [getD_app, h i, if_neg (by omega), if_pos rfl]
theorem mkL_congr {N : Nat} {S U : Nat → Bs} {L : Nat} (h : ∀ i, i < N → S i = U i) : mkL N S L = mkL N U L := by
  unfold mkL
  exact List.map_congr_left fun k _ => mk_congr fun i q => by rw [h i q]
theorem mkL_take {N : Nat} {S : Nat → Bs} {L m : Nat} (h : m ≤ L) : (mkL N S L).take m = mkL N (fun i => (S i).take m) m := by
  unfold mkL
  rw [← List.map_take, List.take_range, Nat.min_eq_left h]
  refine List.map_congr_left fun k hk => mk_congr fun i _ => ?_
  rw [List.getD_eq_getElem?_getD, List.getD_eq_getElem?_getD, List.getElem?_take_of_lt (List.mem_range.mp hk)]
end W

namespace W
open PySem L2 TL
open Enc
theorem gate_mask {t : Bool} {N : Nat} {kd : Str} {ws : List Int} {S : Nat → Bs} (hk : kd ∈ kinds5) (hl : (ws.length : Int) = cnt kd) :
    m_gate_bits kd (Sq.mk t (ws.map fun w => mk N fun i => atB (S i) w)) (mk N fun _ => true) = some (mk N fun i => gB kd (ws.map (atB (S i)))) := by
  have c : kd = ("not" : Str) ∨ kd = ("and" : Str) ∨ kd = ("or" : Str) ∨ kd = ("xor" : Str) ∨ kd = ("vote" : Str) := by simpa [kinds5] using hk
  rcases c with e | e | e | e | e <;> subst e
  · match ws, hl with
    | [a], _ =>
      show some (Builtin.bitXor (mk N fun _ => true) (mk N fun i => atB (S i) a)) = _
      rw [mk_not]; rfl
    | [], h => exact absurd h (by decide)
    | _ :: _ :: ws, h => exact absurd h (by rw [show cnt ("not" : Str) = 1 by decide]; simp; omega)
  · match ws, hl with
    | [a, b], _ =>
      show some (Builtin.bitAnd (mk N fun i => atB (S i) a) (mk N fun i => atB (S i) b)) = _
      rw [mk_and]; rfl
    | [], h => exact absurd h (by decide)
    | [_], h => exact absurd h (by rw [show cnt ("and" : Str) = 2 by decide]; simp)
    | _ :: _ :: _ :: ws, h => exact absurd h (by rw [show cnt ("and" : Str) = 2 by decide]; simp; omega)
  · match ws, hl with
    | [a, b], _ =>
      show some (Builtin.bitOr (mk N fun i => atB (S i) a) (mk N fun i => atB (S i) b)) = _
      rw [mk_or]; rfl
    | [], h => exact absurd h (by decide)
    | [_], h => exact absurd h (by rw [show cnt ("or" : Str) = 2 by decide]; simp)
    | _ :: _ :: _ :: ws, h => exact absurd h (by rw [show cnt ("or" : Str) = 2 by decide]; simp; omega)
  · match ws, hl with
    | [a, b], _ =>
      show some (Builtin.bitXor (mk N fun i => atB (S i) a) (mk N fun i => atB (S i) b)) = _
      rw [mk_xor]; rfl
    | [], h => exact absurd h (by decide)
    | [_], h => exact absurd h (by rw [show cnt ("xor" : Str) = 2 by decide]; simp)
    | _ :: _ :: _ :: ws, h => exact absurd h (by rw [show cnt ("xor" : Str) = 2 by decide]; simp; omega)
  · match ws, hl with
    | [a, b, c], _ =>
      show some (Builtin.bitOr (Builtin.bitOr (Builtin.bitAnd (mk N fun i => atB (S i) a) (mk N fun i => atB (S i) b)) (Builtin.bitAnd (mk N fun i => atB (S i) a) (mk N fun i => atB (S i) c))) (Builtin.bitAnd (mk N fun i => atB (S i) b) (mk N fun i => atB (S i) c))) = _
      rw [mk_and, mk_and, mk_and, mk_or, mk_or]; rfl
    | [], h => exact absurd h (by decide)
    | [_], h => exact absurd h (by rw [show cnt ("vote" : Str) = 3 by decide]; simp)
    | [_, _], h => exact absurd h (by rw [show cnt ("vote" : Str) = 3 by decide]; simp)
    | _ :: _ :: _ :: _ :: ws, h => exact absurd h (by rw [show cnt ("vote" : Str) = 3 by decide]; simp; omega)
theorem mapO_mask {N L : Nat} {S : Nat → Bs} {l : List Int} (h : ∀ w ∈ l, 0 ≤ w ∧ w < (L : Int)) : mapO (fun (x15 : Int) => (L2.atI (mkL N S L) x15).bind fun t20 => some (t20 : Int)) l = some (l.map fun w => mk N fun i => atB (S i) w) := by
  induction l with
  | nil => rfl
  | cons w l ih =>
    have := h w (List.mem_cons_self ..)
    unfold mapO
    exact bq (bq (mkL_at this.1 this.2) rfl) (bq (ih fun y hy => h y (List.mem_cons_of_mem _ hy)) rfl)
theorem go_mask {n : Net} (hw : Wf n) {N L : Nat} (turned : Tp Int) : ∀ (k p : Nat) (S : Nat → Bs), p + k = n.b.length → (L : Int) = ah n + p → (∀ i, (S i).length = L) → ∀ M, M = L + k →
    forS (S := List Int) (fun (x8 : Int) (s7 : List Int) => (
(atI n.b x8).bind fun t12 =>
(mapO (fun (x15 : Int) => (atI s7 x15).bind fun t20 => some (t20 : Int)) t12.b.l).bind fun l22 =>
(m_gate_bits t12.a (Sq.mk false l22) (mk N fun _ => true)).bind fun r24 =>
(if (decide (x8 ∈ turned.l)) = true then (
(some (Builtin.bitXor (mk N fun _ => true) r24)).bind fun v28 =>
some v28)
else (
some r24) : Option (Int)).bind fun j26 =>
(appO s7 j26).bind fun u30 =>
some u30 : Option (List Int))) (rngL (p : Int) k) (mkL N S L) = some (mkL N (fun i => goB (inT turned.l) (n.b.drop p) p (S i)) M) := by
  intro k
  induction k generalizing L with
  | zero =>
    intro p S hp hL hS M hM
    subst hM
    rw [List.drop_of_length_le (by omega)]
    rfl
  | succ k ih =>
    intro p S hp hL hS M hM
    have hp' : p < n.b.length := by omega
    have eg : n.b[p]? = some n.b[p] := List.getElem?_eq_getElem hp'
    obtain ⟨g1, g2, g3⟩ := hw.gs p _ eg
    have gl := hw.gl
    have a0 := hw.ah
    have a1 : L2.atI n.b (p : Int) = some n.b[p] := by
      unfold L2.atI ixN
      rw [if_pos (by omega), if_pos (by omega)]
      exact eg
    rw [rngL_cons, List.drop_eq_getElem_cons hp']
    have a2 := mapO_mask (N := N) (S := S) (L := L) (l := n.b[p].b.l) fun w hw' => by have := g3 w hw'; omega
    have a3 := gate_mask (t := false) (N := N) (S := S) g1 g2
    generalize n.b[p] = g at a1 a2 a3
    have step : ∀ f : Nat → Bool, appO (mkL N S L) (mk N f) = some (mkL N (fun i => S i ++ [f i]) (L + 1)) := fun f => by
      rw [mkL_app f hS]
      exact if_pos (by rw [mkL_len]; omega)
    have nxt := ih (L := L + 1) (p + 1) (fun i => S i ++ [gB g.a (g.b.l.map (atB (S i))) ^^ inT turned.l p]) (by omega) (by omega) (fun i => by rw [List.length_append, hS i]; rfl) M (by omega)
    unfold forS
    refine bq ?_ nxt
    refine bq a1 (bq a2 (bq a3 (bq (x := mk N fun i => gB g.a (g.b.l.map (atB (S i))) ^^ inT turned.l p) ?_ (bq (step _) rfl))))
    unfold inT
    cases decide ((p : Int) ∈ turned.l) with
    | true =>
      rw [if_pos rfl, mk_not]
      show some _ = some _
      congr 1
      exact mk_congr fun i _ => by simp
    | false =>
      rw [if_neg (by decide)]
      congr 1
      exact mk_congr fun i _ => by simp
theorem gone_mask {n : Net} (hw : Wf n) {N L p : Nat} {S : Nat → Bs} (turned : Tp Int) (hp : p ≤ n.b.length) (hL : (L : Int) = ah n + p) (hS : ∀ i, (S i).length = L) :
    m_gone_on n (mkL N S L) (mk N fun _ => true) turned = some (mkL N (fun i => goB (inT turned.l) (n.b.drop p) p (S i)) (L + (n.b.length - p))) := by
  have gl := hw.gl
  unfold m_gone_on
  refine bq (x := ah n) rfl (bq (x := rngL (p : Int) (n.b.length - p)) ?_ (bq (go_mask hw turned (n.b.length - p) p S (by omega) hL hS _ rfl) rfl))
  unfold rng2O
  rw [mkL_len, if_pos (by omega), show (L : Int) - ah n = p by omega, show ((n.b.length : Int) - (p : Int)).toNat = n.b.length - p by omega]
/-! ### the ins' wires -/
theorem rep_mask {N : Nat} (bad : Tp Int) (f : Nat → Bool) : ∀ (l : List Int) (L : Nat) (S : Nat → Bs), (∀ i, (S i).length = L) → L + l.length ≤ 1000 → forS (S := List Int) (fun (x14 : Int) (s13 : List Int) => (
(if (decide ((s13.length : Int) ∈ bad.l)) = true then (
(appO s13 (Builtin.bitXor (mk N fun _ => true) (mk N f))).bind fun u20 =>
some u20)
else (
(appO s13 (mk N f)).bind fun u22 =>
some u22) : Option (List Int)).bind fun j18 =>
some j18 : Option (List Int))) l (mkL N S L) = some (mkL N (fun i => repB (inT bad.l) (f i) l.length (S i)) (L + l.length))
  | [], L, S, _, _ => rfl
  | y :: l, L, S, h, hl => by
    rw [List.length_cons] at hl
    have ih := rep_mask (N := N) bad f l (L + 1) (fun i => S i ++ [f i ^^ inT bad.l L]) (fun i => by rw [List.length_append, h i]; rfl) (by omega)
    have step : ∀ f : Nat → Bool, appO (mkL N S L) (mk N f) = some (mkL N (fun i => S i ++ [f i]) (L + 1)) := fun f => by
      rw [mkL_app f h]
      exact if_pos (by rw [mkL_len]; omega)
    rw [List.length_cons, show L + (l.length + 1) = L + 1 + l.length by omega]
    have e : (fun i => repB (inT bad.l) (f i) (l.length + 1) (S i)) = fun i => repB (inT bad.l) (f i) l.length (S i ++ [f i ^^ inT bad.l L]) := by
      funext i
      show repB _ _ l.length (S i ++ [f i ^^ inT bad.l (S i).length]) = _
      rw [h i]
    rw [e]
    unfold forS
    refine bq ?_ ih
    rw [bsome, mkL_len]
    unfold inT
    cases decide ((L : Int) ∈ bad.l) with
    | true =>
      rw [if_pos rfl, bsome, mk_not, step]
      congr 3
      funext i
      simp
    | false =>
      rw [if_neg (by decide), bsome, step]
      congr 3
      funext i
      simp
theorem ins_mask {N : Nat} (bad : Tp Int) (b : Nat → Bs) : ∀ (xs : List (Str × Int)) (k L : Nat) (S : Nat → Bs), (∀ i, (S i).length = L) → (∀ x ∈ xs, 0 ≤ x.2 ∧ x.2 ≤ 3) → L + 3 * xs.length ≤ 1000 → ∀ M : Nat, (M : Int) = L + (xs.map (fun x => x.2)).sum →
    forS (S := List Int) (fun (x6 : ((Str × Int) × Int)) (s5 : List Int) => (
(rngO x6.1.2).bind fun l10 =>
(forS (S := List Int) (fun (x14 : Int) (s13 : List Int) => (
(if (decide ((s13.length : Int) ∈ bad.l)) = true then (
(appO s13 (Builtin.bitXor (mk N fun _ => true) x6.2)).bind fun u20 =>
some u20)
else (
(appO s13 x6.2).bind fun u22 =>
some u22) : Option (List Int)).bind fun j18 =>
some j18 : Option (List Int))) l10 s5).bind fun s24 =>
some s24 : Option (List Int))) (xs.zip ((List.range' k xs.length).map fun j => mk N fun i => (b i).getD j false)) (mkL N S L) = some (mkL N (fun i => insB (inT bad.l) xs k (b i) (S i)) M)
  | [], k, L, S, _, _, _, M, hM => by
    have : M = L := by simp at hM; omega
    subst this; rfl
  | x :: xs, k, L, S, h, hx, hl, M, hM => by
    have h1 := hx x (List.mem_cons_self ..)
    rw [List.length_cons] at hl
    rw [List.map_cons, List.sum_cons] at hM
    have ih := ins_mask (N := N) bad b xs (k + 1) (L + x.2.toNat) (fun i => repB (inT bad.l) ((b i).getD k false) x.2.toNat (S i)) (fun i => by rw [repB_len, h i]) (fun y hy => hx y (List.mem_cons_of_mem _ hy)) (by omega) M (by omega)
    have r : rngO x.2 = some (rngL 0 x.2.toNat) := if_pos ⟨by omega, by omega⟩
    have q := rep_mask (N := N) bad (fun i => (b i).getD k false) (rngL 0 x.2.toNat) L S h (by rw [rngL_length]; omega)
    rw [rngL_length] at q
    rw [List.length_cons, List.range'_succ, List.map_cons, List.zip_cons_cons]
    unfold forS
    exact bq (bq r (bq q rfl)) ih
theorem inw_mask {t : Bool} {n : Net} (hw : Wf n) {N : Nat} (b : Nat → Bs) (bad : Tp Int) : m_ins_wires n (Sq.mk t (mkL N b n.a.length)) (mk N fun _ => true) bad = some (mkL N (fun i => insB (inT bad.l) n.a 0 (b i) []) (ah n).toNat) := by
  have al := hw.al
  have a0 := hw.ah
  have q := ins_mask (N := N) bad b n.a 0 0 (fun _ => []) (fun _ => rfl) hw.w (by omega) (ah n).toNat (by simp [ah] at a0 ⊢; omega)
  unfold m_ins_wires
  refine bq rfl (bq (x := mkL N (fun i => insB (inT bad.l) n.a 0 (b i) []) (ah n).toNat) ?_ rfl)
  rw [← q]
  congr 2
  unfold mkL
  rw [List.range_eq_range']
/-! ### all inputs -/
def inB (m i : Nat) : Bs := (List.range m).map fun k => i.testBit (m - 1 - k)
theorem inB_get {m i k : Nat} (h : k < m) : (inB m i).getD k false = i.testBit (m - 1 - k) := by
  unfold inB
  rw [List.getD_eq_getElem?_getD, List.getElem?_map, List.getElem?_range h]; rfl
theorem inB_len (m i : Nat) : (inB m i).length = m := by unfold inB; simp
theorem all_in {n : Net} (hw : Wf n) : m_all_inputs n = some (mkL (2 ^ n.a.length) (inB n.a.length) n.a.length, mk (2 ^ n.a.length) fun _ => true) := by
  have al := hw.al
  have pw : 2 ^ n.a.length ≤ 64 := by
    have := Nat.pow_le_pow_right (n := 2) (by omega) al
    omega
  have s1 : ∀ k : Nat, k ≤ 64 → shlO (1 : Int) (k : Int) = some ((2 ^ k : Nat) : Int) := fun k hk => by
    unfold shlO
    rw [if_pos (by omega), Int.toNat_natCast, Int.one_mul, Int.natCast_pow]; rfl
  unfold m_all_inputs
  refine bq (s1 _ (by omega)) (bq rfl ?_)
  have loop : ∀ m : Nat, m ≤ n.a.length → forS (S := List Int) (fun (x8 : Int) (s7 : List Int) => (
(some (((n.a.length : Int) - (1 : Int)) - x8)).bind fun v12 =>
(rngO ((2 ^ n.a.length : Nat) : Int)).bind fun l14 =>
(mapO (fun (x17 : Int) => (shrO x17 v12).bind fun t24 => (shlO (Builtin.bitAnd t24 (1 : Int)) x17).bind fun t26 => some (t26 : Int)) l14).bind fun l28 =>
(appO s7 l28.sum).bind fun u30 =>
some u30 : Option (List Int))) (rngL ((n.a.length - m : Nat) : Int) m) (mkL (2 ^ n.a.length) (inB n.a.length) (n.a.length - m)) = some (mkL (2 ^ n.a.length) (inB n.a.length) n.a.length) := by
    intro m
    induction m with
    | zero => intro _; rfl
    | succ m ih =>
      intro hm
      have ih := ih (by omega)
      rw [rngL_cons, show ((n.a.length - (m + 1) : Nat) : Int) + 1 = ((n.a.length - m : Nat) : Int) by omega]
      unfold forS
      refine bq ?_ ih
      refine bq (x := (m : Int)) (by congr 1; omega) (bq (x := rngL 0 (2 ^ n.a.length)) ?_ ?_)
      · unfold rngO
        have pz := Int.natCast_nonneg (2 ^ n.a.length)
        rw [if_pos (by omega)]; rfl
      · have col : mapO (fun (x17 : Int) => (shrO x17 (m : Int)).bind fun t24 => (shlO (Builtin.bitAnd t24 (1 : Int)) x17).bind fun t26 => some (t26 : Int)) (rngL 0 (2 ^ n.a.length)) = some ((rngL 0 (2 ^ n.a.length)).map fun x : Int => b2n ((fun i : Nat => i.testBit m) x.toNat) * 2 ^ x.toNat) := by
          have : ∀ l : List Int, (∀ x ∈ l, 0 ≤ x ∧ x < 64) → mapO (fun (x17 : Int) => (shrO x17 (m : Int)).bind fun t24 => (shlO (Builtin.bitAnd t24 (1 : Int)) x17).bind fun t26 => some (t26 : Int)) l = some (l.map fun x : Int => b2n ((fun i : Nat => i.testBit m) x.toNat) * 2 ^ x.toNat) := fun l hl => by
            induction l with
            | nil => rfl
            | cons x l ih =>
              have hx := hl x (List.mem_cons_self ..)
              unfold mapO
              refine bq (x := b2n (x.toNat.testBit m) * 2 ^ x.toNat) ?_ (bq (ih fun y hy => hl y (List.mem_cons_of_mem _ hy)) rfl)
              refine bq (x := x / 2 ^ m) ?_ ?_
              · unfold shrO
                rw [if_pos (by omega), Int.toNat_natCast]
              · have e := bit1 x.toNat m
                rw [Int.toNat_of_nonneg hx.1] at e
                rw [e]
                refine bq (x := b2n (x.toNat.testBit m) * 2 ^ x.toNat) ?_ rfl
                unfold shlO
                rw [if_pos]
                refine ⟨hx.1, by omega, ?_, ?_⟩ <;> (unfold b2n; split <;> omega)
          exact this _ fun x hx => by have := mem_rngL.mp hx; omega
        refine bq col ?_
        rw [sum_mk (fun i : Nat => i.testBit m) (2 ^ n.a.length)]
        refine bq (x := mkL (2 ^ n.a.length) (inB n.a.length) (n.a.length - m)) ?_ rfl
        have e : n.a.length - m = n.a.length - (m + 1) + 1 := by omega
        unfold appO
        rw [mkL_len, if_pos (by omega), e]
        unfold mkL
        rw [List.range_succ, List.map_append]
        congr 2
        show [_] = [_]
        congr 1
        refine mk_congr fun i _ => ?_
        rw [inB_get (by omega), show n.a.length - 1 - (n.a.length - (m + 1)) = m by omega]
  have l0 := loop n.a.length (Nat.le_refl _)
  rw [Nat.sub_self] at l0
  refine bq l0 (bq (x := ((2 ^ (2 ^ n.a.length) : Nat) : Int)) (s1 _ pw) ?_)
  rw [Int.natCast_pow, show ((2 : Nat) : Int) = 2 from rfl, mk_one]
theorem all_w {n : Net} (hw : Wf n) : m_all_wires n = some (mkL (2 ^ n.a.length) (fun i => WB n (inB n.a.length i) no no) ((ah n).toNat + n.b.length), mk (2 ^ n.a.length) fun _ => true) := by
  have a0 := hw.ah
  unfold m_all_wires
  refine bq (all_in hw) (bq (inw_mask hw _ _) ?_)
  have q := gone_mask hw (N := 2 ^ n.a.length) (L := (ah n).toNat) (p := 0) (S := fun i => insB (inT []) n.a 0 (inB n.a.length i) []) (Tp.mk []) (Nat.zero_le _) (by omega) fun i => by have := WB_ins hw (inB n.a.length i) (inT []); omega
  refine bq q ?_
  rw [inT_nil]
  rfl
/-! ### what the outs are read as -/
theorem read_mask {t : Bool} {N : Nat} {ws : List Int} {S : Nat → Bs} (h : 1 ≤ ws.length ∧ ws.length ≤ 3) : m_read_bits (Sq.mk t (ws.map fun w => mk N fun i => atB (S i) w)) = some (mk N (fun i => (rdB (ws.map (atB (S i)))).1), mk N fun i => (rdB (ws.map (atB (S i)))).2) := by
  match ws, h with
  | [a], _ =>
    show some (mk N (fun i => atB (S i) a), (0 : Int)) = _
    rw [mk_zero N]; rfl
  | [a, b], _ =>
    show some (Builtin.bitAnd (mk N fun i => atB (S i) a) (mk N fun i => atB (S i) b), Builtin.bitXor (mk N fun i => atB (S i) a) (mk N fun i => atB (S i) b)) = _
    rw [mk_and, mk_xor]; rfl
  | [a, b, c], _ =>
    show some (Builtin.bitOr (Builtin.bitOr (Builtin.bitAnd (mk N fun i => atB (S i) a) (mk N fun i => atB (S i) b)) (Builtin.bitAnd (mk N fun i => atB (S i) a) (mk N fun i => atB (S i) c))) (Builtin.bitAnd (mk N fun i => atB (S i) b) (mk N fun i => atB (S i) c)), (0 : Int)) = _
    rw [mk_and, mk_and, mk_and, mk_or, mk_or, mk_zero N]; rfl
  | [], h => exact absurd h.1 (by decide)
  | _ :: _ :: _ :: _ :: ws, h => exact absurd h.2 (by simp)
def rd (o : Str × Tp Int) (s : Bs) : Bool × Bool := rdB (o.2.l.map (atB s))
theorem outs_mask {n : Net} (hw : Wf n) {N : Nat} {S : Nat → Bs} : m_outs_read n (mkL N S ((ah n).toNat + n.b.length)) = some (n.c.map fun o => (mk N (fun i => (rd o (S i)).1), mk N fun i => (rd o (S i)).2)) := by
  have a0 := hw.ah
  have : ∀ os : List (Str × Tp Int), (∀ o ∈ os, o ∈ n.c) → mapO (fun (x32 : (Str × (Tp Int))) => (mapO (fun (x48 : Int) => (atI (mkL N S ((ah n).toNat + n.b.length)) x48).bind fun t53 => some (t53 : Int)) x32.2.l).bind fun l55 => (m_read_bits (Sq.mk false l55)).bind fun r57 => some (r57 : (Int × Int))) os = some (os.map fun o => (mk N (fun i => (rd o (S i)).1), mk N fun i => (rd o (S i)).2)) := fun os ho => by
    induction os with
    | nil => rfl
    | cons o os ih =>
      obtain ⟨h1, h2⟩ := hw.os o (ho o (List.mem_cons_self ..))
      unfold mapO
      exact bq (bq (mapO_mask fun w hw' => by have := h2 w hw'; omega) (bq (read_mask h1) rfl)) (bq (ih fun y hy => ho y (List.mem_cons_of_mem _ hy)) rfl)
  unfold m_outs_read
  exact bq (this n.c fun o ho => ho) rfl
end W

namespace W
open PySem L2 TL
open Enc
/-! ### wires of one kind tell the same -/
def aI (I : List (Str × Int)) : Int := (I.map (fun x => x.2)).sum
def wN (I : List (Str × Int)) (gs : List Gt) (b : Bs) : Bs := goB no gs 0 (insB no I 0 b [])
def Sm (I : List (Str × Int)) (gs : List Gt) (ks : List Int) : Prop := ∀ (b : Bs) (w w' : Int), 0 ≤ w → w < ks.length → 0 ≤ w' → w' < ks.length → at0 ks w = at0 ks w' → atB (wN I gs b) w = atB (wN I gs b) w'
theorem repB_no (v : Bool) : ∀ (m : Nat) (s : Bs), repB no v m s = s ++ List.replicate m v
  | 0, s => by simp [repB]
  | m + 1, s => by
    unfold repB
    rw [repB_no v m, List.replicate_succ, List.append_assoc]
    simp [no]
theorem insB_app (B : Int → Bool) : ∀ (xs : List (Str × Int)) (x : Str × Int) (k : Nat) (b s : Bs), insB B (xs ++ [x]) k b s = repB B (b.getD (k + xs.length) false) x.2.toNat (insB B xs k b s)
  | [], x, k, b, s => rfl
  | y :: xs, x, k, b, s => by
    show insB B (xs ++ [x]) (k + 1) b _ = repB B _ _ (insB B xs (k + 1) b _)
    rw [insB_app B xs x, List.length_cons, show k + 1 + xs.length = k + (xs.length + 1) by omega]
theorem goB_at (T : Int → Bool) : ∀ (gs : List Gt) (p : Int) (s : Bs) (i : Nat) (g : Gt), gs[i]? = some g → (∀ w ∈ g.b.l, 0 ≤ w ∧ w < (s.length : Int) + i) → atB (goB T gs p s) ((s.length : Int) + i) = (gB g.a (g.b.l.map (atB (goB T gs p s))) ^^ T (p + i))
  | [], _, _, _, _, h, _ => by simp at h
  | h :: gs, p, s, 0, g, e, hw => by
    have e : h = g := by simpa using e
    subst e
    have e2 : h.b.l.map (atB (goB T (h :: gs) p s)) = h.b.l.map (atB s) := List.map_congr_left fun w hw' => goB_low T _ _ _ w (hw w hw').1 (by have := (hw w hw').2; omega)
    rw [e2]
    show atB (goB T gs (p + 1) (s ++ [_])) _ = _
    rw [goB_low T gs _ _ _ (by omega) (by rw [List.length_append, List.length_singleton]; omega), atB_app _ _ _ (by omega), if_neg (by omega), if_pos (by omega)]
    simp
  | h :: gs, p, s, i + 1, g, e, hw => by
    have e : gs[i]? = some g := by simpa using e
    have l : (s ++ [gB h.a (h.b.l.map (atB s)) ^^ T p]).length = s.length + 1 := by simp
    have q := goB_at T gs (p + 1) (s ++ [gB h.a (h.b.l.map (atB s)) ^^ T p]) i g e fun w hw' => by have := hw w hw'; rw [l]; omega
    rw [l] at q
    rw [show ((i + 1 : Nat) : Int) = (i : Int) + 1 by omega, show (s.length : Int) + ((i : Int) + 1) = ((s.length + 1 : Nat) : Int) + i by omega, show p + ((i : Int) + 1) = p + 1 + i by omega]
    exact q
theorem map_same {f : Int → Int} {g : Int → Bool} : ∀ {l l' : List Int}, l.map f = l'.map f → (∀ x ∈ l, ∀ y ∈ l', f x = f y → g x = g y) → l.map g = l'.map g
  | [], [], _, _ => rfl
  | [], _ :: _, h, _ => by simp at h
  | _ :: _, [], h, _ => by simp at h
  | x :: l, y :: l', h, k => by
    rw [List.map_cons, List.map_cons, List.cons.injEq] at h
    rw [List.map_cons, List.map_cons, k x (List.mem_cons_self ..) y (List.mem_cons_self ..) h.1, map_same h.2 fun a ha c hc => k a (List.mem_cons_of_mem _ ha) c (List.mem_cons_of_mem _ hc)]
theorem wN_len {I : List (Str × Int)} (hI : ∀ x ∈ I, 0 ≤ x.2) (gs : List Gt) (b : Bs) : ((wN I gs b).length : Int) = aI I + gs.length := by
  unfold wN
  rw [goB_len, Int.natCast_add, insB_len no I 0 b [] hI]
  simp [aI]
theorem Sm.push {I : List (Str × Int)} {gs : List Gt} {ks : List Int} {g : Gt} {v : Int} (hI : ∀ x ∈ I, 0 ≤ x.2) (hl : (ks.length : Int) = aI I + gs.length) (hS : Sm I gs ks) (hg : ∀ w ∈ g.b.l, 0 ≤ w ∧ w < (ks.length : Int))
    (h : (∀ x ∈ ks, x ≠ v) ∨ ∃ (p : Nat) (q : Gt), gs[p]? = some q ∧ (∀ w ∈ q.b.l, 0 ≤ w ∧ w < aI I + p) ∧ at0 ks (aI I + p) = v ∧ q.a = g.a ∧ g.b.l.map (at0 ks) = q.b.l.map (at0 ks)) : Sm I (gs ++ [g]) (ks ++ [v]) := by
  intro b w w' h0 h1 h0' h1' e
  have a0 : 0 ≤ aI I := by
    have := insB_len no I 0 b [] hI
    simp [aI] at this ⊢
    omega
  have wl := wN_len hI gs b
  have new : wN I (gs ++ [g]) b = wN I gs b ++ [gB g.a (g.b.l.map (atB (wN I gs b)))] := by
    unfold wN
    rw [goB_app]
    show _ ++ [_ ^^ no _] = _
    simp [no]
  rw [new, atB_app _ _ _ h0, atB_app _ _ _ h0']
  rw [at0_app _ _ _ h0, at0_app _ _ _ h0'] at e
  rw [List.length_append, List.length_singleton] at h1 h1'
  -- the new one against an old one
  have key : ∀ u : Int, 0 ≤ u → u < ks.length → at0 ks u = v → atB (wN I gs b) u = gB g.a (g.b.l.map (atB (wN I gs b))) := fun u u0 u1 hu => by
    rcases h with h | ⟨p, q, eq, qw, kp, qa, qm⟩
    · refine absurd hu (h _ ?_)
      unfold at0
      rw [List.getElem?_eq_getElem (by omega)]
      exact List.getElem_mem _
    · have hp := get_lt eq
      rw [hS b u (aI I + p) u0 u1 (by omega) (by omega) (hu.trans kp.symm)]
      have il : ((insB no I 0 b []).length : Int) = aI I := by rw [insB_len no I 0 b [] hI]; simp [aI]
      have at_ := goB_at no gs 0 (insB no I 0 b []) p q eq fun w hw => by have := qw w hw; omega
      rw [il] at at_
      show atB (goB no gs 0 (insB no I 0 b [])) (aI I + p) = _
      rw [at_, qa]
      have mm : g.b.l.map (atB (wN I gs b)) = q.b.l.map (atB (wN I gs b)) := map_same qm fun x hx y hy exy => by
        have := hg x hx
        have := qw y hy
        exact hS b x y (by omega) (by omega) (by omega) (by omega) exy
      rw [mm]
      simp [no, wN]
  by_cases c : w < ks.length
  · rw [if_pos c] at e
    rw [if_pos (by omega)]
    by_cases c' : w' < ks.length
    · rw [if_pos c'] at e
      rw [if_pos (by omega)]
      exact hS b w w' h0 c h0' c' e
    · rw [if_neg c', if_pos (by omega)] at e
      rw [if_neg (by omega), if_pos (by omega)]
      exact key w h0 c e
  · rw [if_neg c, if_pos (by omega)] at e
    rw [if_neg (by omega), if_pos (by omega)]
    by_cases c' : w' < ks.length
    · rw [if_pos c'] at e
      rw [if_pos (by omega)]
      exact (key w' h0' c' e.symm).symm
    · rw [if_neg (by omega), if_pos (by omega)]
/-- the ins -/
def Si (I : List (Str × Int)) (ks : List Int) : Prop := ∀ (b : Bs) (w : Int), 0 ≤ w → w < ks.length → atB (insB no I 0 b []) w = b.getD (at0 ks w).toNat false
theorem atB_rep (s : Bs) (v : Bool) (m : Nat) (w : Int) (h0 : 0 ≤ w) (h1 : w < s.length + m) : atB (s ++ List.replicate m v) w = if w < s.length then atB s w else v := by
  unfold atB
  rw [List.getD_eq_getElem?_getD, List.getD_eq_getElem?_getD, List.getElem?_append]
  by_cases c : w < s.length
  · rw [if_pos c, if_pos (by omega)]
  · rw [if_neg c, if_neg (by omega), List.getElem?_replicate, if_pos (by omega)]; rfl
theorem at0_rp (s : List Int) (v : Int) (m : Nat) (w : Int) (h0 : 0 ≤ w) (h1 : w < s.length + m) : at0 (s ++ List.replicate m v) w = if w < s.length then at0 s w else v := by
  unfold at0
  rw [List.getElem?_append]
  by_cases c : w < s.length
  · rw [if_pos c, if_pos (by omega)]
  · rw [if_neg c, if_neg (by omega), List.getElem?_replicate, if_pos (by omega)]; rfl
theorem Si.push {I : List (Str × Int)} {ks : List Int} {x : Str × Int} {k : Int} (hk : k = I.length) (hI : ∀ y ∈ I, 0 ≤ y.2) (hx : 0 ≤ x.2) (hl : (ks.length : Int) = aI I) (h : Si I ks) : Si (I ++ [x]) (ks ++ List.replicate x.2.toNat k) := fun b w h0 h1 => by
  have il : ((insB no I 0 b []).length : Int) = aI I := by rw [insB_len no I 0 b [] hI]; simp [aI]
  rw [List.length_append, List.length_replicate] at h1
  rw [insB_app, repB_no, atB_rep _ _ _ _ h0 (by omega), at0_rp _ _ _ _ h0 (by omega)]
  by_cases c : w < ks.length
  · rw [if_pos c, if_pos (by omega)]
    exact h b w h0 c
  · rw [if_neg c, if_neg (by omega), hk]
    simp
theorem Si.sm {I : List (Str × Int)} {ks : List Int} (h : Si I ks) : Sm I [] ks := fun b w w' h0 h1 h0' h1' e => by
  show atB (insB no I 0 b []) w = atB (insB no I 0 b []) w'
  rw [h b w h0 h1, h b w' h0' h1', e]
end W

namespace W
open PySem L2 TL
open Enc
/-! ### the law's own walk -/
theorem b2n_inj : ∀ {a b : Bool}, b2n a = b2n b → a = b := by decide
theorem bt_flip : ∀ (a b : Bool), (b2n a + b2n b) % 2 = b2n (a ^^ b) := by decide
theorem at_b2n {s : Bs} {w : Int} (h0 : 0 ≤ w) (h1 : w < s.length) : L2.atI (s.map b2n) w = some (b2n (atB s w)) := by
  unfold L2.atI ixN
  rw [if_pos h0, if_pos (by rw [List.length_map]; exact h1)]
  show (s.map b2n)[w.toNat]? = _
  rw [List.getElem?_map, List.getElem?_eq_getElem (by omega)]
  unfold atB
  rw [List.getD_eq_getElem?_getD, List.getElem?_eq_getElem (by omega)]; rfl
theorem mapO_b2n {s : Bs} {l : List Int} (h : ∀ w ∈ l, 0 ≤ w ∧ w < (s.length : Int)) : mapO (fun (x15 : Int) => (L2.atI (s.map b2n) x15).bind fun t20 => some (t20 : Int)) l = some ((l.map (atB s)).map b2n) := by
  induction l with
  | nil => rfl
  | cons w l ih =>
    have := h w (List.mem_cons_self ..)
    unfold mapO
    exact bq (bq (at_b2n this.1 this.2) rfl) (bq (ih fun y hy => h y (List.mem_cons_of_mem _ hy)) rfl)
theorem app_b2n {s : Bs} {v : Bool} (h : s.length < 16777216) : appO (s.map b2n) (b2n v) = some ((s ++ [v]).map b2n) := by
  unfold appO
  rw [List.length_map, if_pos h, List.map_append]; rfl
def rdO (p : Bool × Bool) : Option Int := if p.2 = true then none else some (b2n p.1)
/-! ### all inputs in their order -/
theorem forS_app {α S : Type} {f : α → S → Option S} : ∀ (xs ys : List α) (s : S), forS f (xs ++ ys) s = (forS f xs s).bind (forS f ys)
  | [], ys, s => rfl
  | x :: xs, ys, s => by
    show (f x s).bind (forS f (xs ++ ys)) = ((f x s).bind (forS f xs)).bind (forS f ys)
    cases f x s with
    | none => rfl
    | some s' => exact forS_app xs ys s'
def iT (m i : Nat) : Tp Int := Tp.mk ((inB m i).map b2n)
theorem iT_succ (m i : Nat) (c : Bool) : iT (m + 1) (2 * i + c.toNat) = Tp.mk ((iT m i).l ++ [b2n c]) := by
  unfold iT inB
  rw [List.range_succ, List.map_append, List.map_append]
  congr 2
  · rw [List.map_map, List.map_map]
    refine List.map_congr_left fun k hk => ?_
    have hk := List.mem_range.mp hk
    show b2n ((2 * i + c.toNat).testBit (m + 1 - 1 - k)) = b2n (i.testBit (m - 1 - k))
    rw [show m + 1 - 1 - k = (m - 1 - k) + 1 by omega, Nat.testBit_succ]
    congr 2
    cases c <;> simp <;> omega
  · show [b2n ((2 * i + c.toNat).testBit (m + 1 - 1 - m))] = [b2n c]
    rw [show m + 1 - 1 - m = 0 by omega, Nat.testBit_zero]
    cases c
    · rw [show (2 * i + Bool.toNat false) % 2 = 0 by simp]; rfl
    · rw [show (2 * i + Bool.toNat true) % 2 = 1 by simp]; rfl
end W

namespace W
open PySem L2 TL
open Enc
/-! ### what turned gates spoil -/
def W0 (n : Net) (i : Nat) : Bs := WB n (inB n.a.length i) no no
def W1 (n : Net) (turned : List Int) (i : Nat) : Bs := WB n (inB n.a.length i) (inT turned) no
def NN (n : Net) : Nat := 2 ^ n.a.length
def LL (n : Net) : Nat := (ah n).toNat + n.b.length
/-- a rising row of places -/
def Ts (n : Net) (turned : List Int) : Prop := ∀ p, turned[0]? = some p → (0 ≤ p ∧ p < (n.b.length : Int)) ∧ ∀ q ∈ turned, p ≤ q
theorem at_head {α : Type} {x : α} {xs : List α} : L2.atI (x :: xs) 0 = some x := by
  unfold L2.atI ixN
  rw [if_pos (Int.le_refl 0), if_pos (by rw [List.length_cons]; omega)]
  rfl
theorem rw_mask {n : Net} (hw : Wf n) (turned : Tp Int) (ht : Ts n turned.l) : m_reads_with n (mkL (NN n) (W0 n) (LL n)) (mk (NN n) fun _ => true) turned = some (n.c.map fun o => (mk (NN n) (fun i => (rd o (W1 n turned.l i)).1), mk (NN n) fun i => (rd o (W1 n turned.l i)).2)) := by
  have a0 := hw.ah
  have ln : ∀ i, (W0 n i).length = LL n := fun i => by have := WB_len hw (inB n.a.length i) no no; unfold W0 LL; omega
  have fin : ∀ first, m_gone_on n first (mk (NN n) fun _ => true) turned = some (mkL (NN n) (W1 n turned.l) (LL n)) → ((some first).bind fun j1 => (m_gone_on n j1 (mk (NN n) fun _ => true) turned).bind fun r13 => (m_outs_read n r13).bind fun r15 => some r15) = some (n.c.map fun o => (mk (NN n) (fun i => (rd o (W1 n turned.l i)).1), mk (NN n) fun i => (rd o (W1 n turned.l i)).2)) := fun first e => bq rfl (bq e (bq (outs_mask hw) rfl))
  unfold m_reads_with
  match turned, ht with
  | ⟨[]⟩, _ =>
    rw [if_neg (by decide)]
    refine fin _ ?_
    rw [gone_mask hw (p := n.b.length) (Tp.mk []) (Nat.le_refl _) (by unfold LL; omega) ln, Nat.sub_self, List.drop_length]
    show some (mkL _ (fun i => W0 n i) _) = _
    rw [show W1 n [] = W0 n by unfold W1 W0; rw [inT_nil]]
    rfl
  | ⟨p :: rest⟩, ht =>
    obtain ⟨hp, hq⟩ := ht p rfl
    rw [if_pos (by simp)]
    refine Eq.trans (b := (some (mkL (NN n) (fun i => (W0 n i).take ((ah n).toNat + p.toNat)) ((ah n).toNat + p.toNat))).bind _) ?_ (fin _ ?_)
    · refine congrArg (fun z => Option.bind z _) (bq (x := ah n) rfl (bq (x := p) at_head (bq rfl ?_)))
      rw [cutL_to _ _ (by omega), show (ah n + p).toNat = (ah n).toNat + p.toNat by omega, mkL_take (by unfold LL; omega)]
    · rw [gone_mask hw (p := p.toNat) (Tp.mk (p :: rest)) (by omega) (by omega) fun i => by rw [List.length_take, ln]; unfold LL; omega]
      congr 1
      rw [show (ah n).toNat + p.toNat + (n.b.length - p.toNat) = LL n by unfold LL; omega]
      refine mkL_congr fun i _ => ?_
      have il := WB_ins hw (inB n.a.length i) no
      have q := goB_from (T := inT (p :: rest)) n.b (insB no n.a 0 (inB n.a.length i) []) p.toNat (by omega) fun x hx => by
        unfold inT
        refine decide_eq_false fun hm => ?_
        have := hq x hm
        omega
      unfold W0 W1 WB
      rw [← q, show (insB no n.a 0 (inB n.a.length i) []).length = (ah n).toNat by omega]
def dif (n : Net) (turned : List Int) (i : Nat) : Bool := n.c.any fun o => ((rd o (W1 n turned i)).1 ^^ (rd o (W0 n i)).1) && !(rd o (W1 n turned i)).2
def non (n : Net) (turned : List Int) (i : Nat) : Bool := n.c.any fun o => (rd o (W1 n turned i)).2
theorem spoilt_mask {n : Net} (hw : Wf n) (turned : Tp Int) (ht : Ts n turned.l) : m_spoilt n (mkL (NN n) (W0 n) (LL n)) (mk (NN n) fun _ => true) turned = some (mk (NN n) (dif n turned.l), mk (NN n) (non n turned.l)) := by
  unfold m_spoilt
  refine bq (rw_mask hw turned ht) (bq (outs_mask hw) ?_)
  have loop : ∀ (os : List (Str × Tp Int)) (f g : Nat → Bool), forS (S := Int × Int) (fun (x7 : ((Int × Int) × (Int × Int))) (s6 : Int × Int) => (
(some (Builtin.bitOr s6.1 (Builtin.bitAnd (Builtin.bitXor x7.1.1 x7.2.1) (Builtin.bitXor (mk (NN n) fun _ => true) x7.1.2)))).bind fun v11 =>
(some (Builtin.bitOr s6.2 x7.1.2)).bind fun v13 =>
some (v11, v13) : Option (Int × Int))) ((os.map fun o => (mk (NN n) (fun i => (rd o (W1 n turned.l i)).1), mk (NN n) fun i => (rd o (W1 n turned.l i)).2)).zip (os.map fun o => (mk (NN n) (fun i => (rd o (W0 n i)).1), mk (NN n) fun i => (rd o (W0 n i)).2))) (mk (NN n) f, mk (NN n) g)
      = some (mk (NN n) (fun i => f i || os.any fun o => ((rd o (W1 n turned.l i)).1 ^^ (rd o (W0 n i)).1) && !(rd o (W1 n turned.l i)).2), mk (NN n) fun i => g i || os.any fun o => (rd o (W1 n turned.l i)).2) := by
    intro os
    induction os with
    | nil => intro f g; simp [forS]
    | cons o os ih =>
      intro f g
      rw [List.map_cons, List.map_cons, List.zip_cons_cons]
      have q := ih (fun i => f i || (((rd o (W1 n turned.l i)).1 ^^ (rd o (W0 n i)).1) && !(rd o (W1 n turned.l i)).2)) (fun i => g i || (rd o (W1 n turned.l i)).2)
      unfold forS
      refine bq (bq rfl (bq rfl ?_)) (q.trans ?_)
      · show some (_, _) = some (_, _)
        rw [mk_xor, mk_not, mk_and, mk_or, mk_or]
      · congr 2
        · exact mk_congr fun i _ => by rw [List.any_cons, Bool.or_assoc]
        · exact mk_congr fun i _ => by rw [List.any_cons, Bool.or_assoc]
  have l := loop n.c (fun _ => false) (fun _ => false)
  rw [← mk_zero] at l
  refine bq l ?_
  simp only [Bool.false_or]
  rfl
end W

namespace W
open PySem L2 TL
open Enc
theorem atM {α β : Type} {xs : List α} {f : α → β} {x : Int} {i : Nat} (e : x = (i : Int)) (h : i < xs.length) : L2.atI (xs.map f) x = some (f xs[i]) := by
  unfold L2.atI ixN
  rw [if_pos (by omega), if_pos (by rw [List.length_map]; omega)]
  show (xs.map f)[x.toNat]? = _
  rw [e, Int.toNat_natCast, List.getElem?_map, List.getElem?_eq_getElem h]; rfl
theorem atN {α : Type} {xs : List α} {x : Int} {i : Nat} (e : x = (i : Int)) (h : i < xs.length) : L2.atI xs x = some xs[i] := by
  unfold L2.atI ixN
  rw [if_pos (by omega), if_pos (by omega)]
  show xs[x.toNat]? = _
  rw [e, Int.toNat_natCast, List.getElem?_eq_getElem h]
theorem NN_le {n : Net} (hw : Wf n) : NN n ≤ 64 := by
  have := hw.al
  have := Nat.pow_le_pow_right (n := 2) (by omega) this
  unfold NN
  omega
theorem enum_mem {α : Type} {xs : List α} {x : Int × α} (h : x ∈ enumL xs) : 0 ≤ x.1 ∧ x.1 < xs.length := by
  unfold enumL at h
  obtain ⟨p, hp, rfl⟩ := List.mem_map.mp h
  have := List.mem_zipIdx hp
  constructor
  · show 0 ≤ ((p.2 : Nat) : Int); omega
  · show ((p.2 : Nat) : Int) < _; omega
/-! ### the free places -/
def frees (n : Net) : List Int := ((enumL n.b).filter fun x => !x.2.c).map fun x => x.1
theorem frees_in {n : Net} : ∀ p ∈ frees n, 0 ≤ p ∧ p < (n.b.length : Int) := fun p hp => by
  obtain ⟨x, hx, rfl⟩ := List.mem_map.mp hp
  exact enum_mem (List.mem_filter.mp hx).1
theorem frees_len (n : Net) : (frees n).length ≤ n.b.length := by
  unfold frees
  rw [List.length_map]
  refine Nat.le_trans (List.length_filter_le _ _) ?_
  unfold enumL; simp
theorem free_is (n : Net) : m_free_places n = some (frees n) := rfl
theorem free_law {β : Type} (n : Net) (F : Int → Option β) (G : Int → β) (hF : ∀ p : Int, 0 ≤ p → p < n.b.length → F p = some (G p)) : filtO (fun (x24 : Int) => (L2.atI n.b x24).bind fun t31 => some (!t31.c)) F (rngL 0 n.b.length) = some ((frees n).map G) := by
  have loop : ∀ (xs : List Gt) (k : Nat), n.b.drop k = xs → filtO (fun (x24 : Int) => (L2.atI n.b x24).bind fun t31 => some (!t31.c)) F (rngL (k : Int) xs.length) = some (((((xs.zipIdx k).map fun p => (((p.2 : Nat) : Int), p.1)).filter fun x => !x.2.c).map fun x => x.1).map G) := by
    intro xs
    induction xs with
    | nil => intro k _; rfl
    | cons x xs ih =>
      intro k hd
      have hk : k < n.b.length := by
        rcases Nat.lt_or_ge k n.b.length with q | q
        · exact q
        · rw [List.drop_of_length_le q] at hd; cases hd
      rw [List.drop_eq_getElem_cons hk, List.cons.injEq] at hd
      have ih := ih (k + 1) hd.2
      rw [List.length_cons, rngL_cons, List.zipIdx_cons, List.map_cons, List.filter_cons]
      have a1 := atN (xs := n.b) (x := (k : Int)) rfl hk
      rw [hd.1] at a1
      unfold filtO
      refine bq (x := !x.c) (bq a1 rfl) ?_
      cases x.c with
      | true => exact ih
      | false => exact bq (hF k (by omega) (by omega)) (bq ih rfl)
  exact loop n.b 0 rfl
/-! ### rising sets -/
def can (t : Tp Int) (q : Int) : Bool := t.l.isEmpty || decide (t.l.getLast?.getD 0 < q)
def setsP (ps : List Int) : Nat → List (Tp Int)
  | 0 => [Tp.mk []]
  | k + 1 => (setsP ps k).flatMap fun t => (ps.filter (can t)).map fun q => Tp.mk (t.l ++ [q])
theorem setsP_ok (ps : List Int) : ∀ (k : Nat), ∀ t ∈ setsP ps k, t.l.length = k ∧ (∀ q ∈ t.l, q ∈ ps) ∧ ∀ p, t.l[0]? = some p → ∀ q ∈ t.l, p ≤ q
  | 0, t, h => by
    have h : t = Tp.mk [] := by simpa [setsP] using h
    subst h
    exact ⟨rfl, (fun q hq => by cases hq), fun p hp => by cases hp⟩
  | k + 1, t, h => by
    obtain ⟨s, hs, ht⟩ := List.mem_flatMap.mp h
    obtain ⟨q, hq, rfl⟩ := List.mem_map.mp ht
    obtain ⟨s1, s2, s3⟩ := setsP_ok ps k s hs
    obtain ⟨q1, q2⟩ := List.mem_filter.mp hq
    refine ⟨by show (s.l ++ [q]).length = _; rw [List.length_append, s1]; rfl, fun x hx => ?_, fun p hp x hx => ?_⟩
    · have hx : x ∈ s.l ++ [q] := hx
      rw [List.mem_append, List.mem_singleton] at hx
      rcases hx with hx | hx
      · exact s2 x hx
      · rw [hx]; exact q1
    · have hx : x ∈ s.l ++ [q] := hx
      have hp : (s.l ++ [q])[0]? = some p := hp
      rw [List.mem_append, List.mem_singleton] at hx
      cases e : s.l with
      | nil =>
        rw [e] at hp hx
        have hp : q = p := by simpa using hp
        rcases hx with hx | hx
        · cases hx
        · omega
      | cons a l =>
        have ha : a = p := by rw [e] at hp; simpa using hp
        rcases hx with hx | hx
        · exact s3 p (by rw [e, ← ha]; rfl) x hx
        · have c : s.l.getLast?.getD 0 < q := by
            unfold can at q2
            rw [e] at q2
            rw [e]
            simpa using q2
          have l2 : s.l.getLast?.getD 0 ∈ s.l := by
            rw [e, List.getLast?_eq_some_getLast (by simp)]
            exact List.getLast_mem _
          have := s3 p (by rw [e, ← ha]; rfl) _ l2
          omega
theorem setsP_ts {n : Net} {ps : List Int} (hp : ∀ p ∈ ps, 0 ≤ p ∧ p < (n.b.length : Int)) {k : Nat} {t : Tp Int} (h : t ∈ setsP ps k) : Ts n t.l := fun p e => by
  obtain ⟨_, h2, h3⟩ := setsP_ok ps k t h
  exact ⟨hp p (h2 p (List.mem_iff_getElem?.mpr ⟨0, e⟩)), h3 p e⟩
theorem setsP_len (ps : List Int) : ∀ k : Nat, (setsP ps k).length ≤ ps.length ^ k
  | 0 => Nat.le_refl _
  | k + 1 => by
    have := setsP_len ps k
    have h : ∀ ts : List (Tp Int), (ts.flatMap fun t => (ps.filter (can t)).map fun q => Tp.mk (t.l ++ [q])).length ≤ ts.length * ps.length := fun ts => by
      induction ts with
      | nil => simp
      | cons t ts ih =>
        rw [List.flatMap_cons, List.length_append, List.length_map, List.length_cons, Nat.succ_mul]
        have := List.length_filter_le (can t) ps
        omega
    refine Nat.le_trans (h _) ?_
    rw [Nat.pow_succ]
    exact Nat.mul_le_mul_right _ this
theorem at_last {α : Type} [Inhabited α] {xs : List α} (h : xs ≠ []) : L2.atI xs (-1) = some (xs.getLast h) := by
  have hl := List.length_pos_iff.mpr h
  unfold L2.atI ixN
  rw [if_neg (by omega), if_pos (by omega)]
  show xs[(-1 + (xs.length : Int)).toNat]? = _
  rw [show (-1 + (xs.length : Int)).toNat = xs.length - 1 by omega, List.getElem?_eq_getElem (by omega), List.getLast_eq_getElem]
/-- one set made longer -/
theorem wider {ps : List Int} (t : Tp Int) (h : t.l.length < 1000) : filtO (fun (x21 : Int) => (if (decide ((t : (Tp Int)) = ((Tp.mk []) : (Tp Int)))) = true then some true else ((L2.atI t.l (-(1 : Int))).bind fun t31 => some (decide (t31 < x21)))).bind fun b33 => some b33) (fun (x21 : Int) => (extO t.l ((Tp.mk [x21]) : (Tp Int)).l).bind fun t34 => some ((Tp.mk t34) : (Tp Int))) ps = some ((ps.filter (can t)).map fun q => Tp.mk (t.l ++ [q])) := by
  induction ps with
  | nil => rfl
  | cons q ps ih =>
    have c : ((if (decide ((t : (Tp Int)) = ((Tp.mk []) : (Tp Int)))) = true then some true else ((L2.atI t.l (-(1 : Int))).bind fun t31 => some (decide (t31 < q)))).bind fun b33 => some b33) = some (can t q) := by
      rw [bsome]
      obtain ⟨l⟩ := t
      cases l with
      | nil => rfl
      | cons a l =>
        rw [if_neg (by simp)]
        refine bq (at_last (by simp)) ?_
        unfold can
        rw [List.getLast?_eq_some_getLast (by simp)]
        rfl
    have e : ((extO t.l ((Tp.mk [q]) : (Tp Int)).l).bind fun t34 => some ((Tp.mk t34) : (Tp Int))) = some (Tp.mk (t.l ++ [q])) := bq (if_pos (by simp; omega)) rfl
    unfold filtO
    refine bq c ?_
    rw [List.filter_cons]
    cases can t q with
    | false => exact ih
    | true => exact bq e (bq ih rfl)
/-- the sets of one size more -/
theorem wide_row {ps : List Int} (hp : ps.length ≤ 100) : ∀ (ts acc : List (Tp Int)), (∀ t ∈ ts, t.l.length < 1000) → acc.length + ts.length * ps.length ≤ 16777216 → forS (S := List (Tp Int)) (fun (x16 : (Tp Int)) (s15 : List (Tp Int)) => (
(filtO (fun (x21 : Int) => (if (decide ((x16 : (Tp Int)) = ((Tp.mk []) : (Tp Int)))) = true then some true else ((atI x16.l (-(1 : Int))).bind fun t31 => some (decide (t31 < x21)))).bind fun b33 => some b33) (fun (x21 : Int) => (extO x16.l ((Tp.mk [x21]) : (Tp Int)).l).bind fun t34 => some ((Tp.mk t34) : (Tp Int))) ps).bind fun l36 =>
(extO s15 l36).bind fun u38 =>
some u38 : Option (List (Tp Int)))) ts acc = some (acc ++ ts.flatMap fun t => (ps.filter (can t)).map fun q => Tp.mk (t.l ++ [q]))
  | [], acc, _, _ => by simp [forS]
  | t :: ts, acc, ht, hl => by
    rw [List.length_cons, Nat.succ_mul] at hl
    have fl := List.length_filter_le (can t) ps
    have ih := wide_row hp ts (acc ++ (ps.filter (can t)).map fun q => Tp.mk (t.l ++ [q])) (fun s hs => ht s (List.mem_cons_of_mem _ hs)) (by rw [List.length_append, List.length_map]; omega)
    rw [List.flatMap_cons, ← List.append_assoc]
    unfold forS
    exact bq (bq (wider t (ht t (List.mem_cons_self ..))) (bq (if_pos (by rw [List.length_map]; omega)) rfl)) ih
theorem sets_pow {ps : List Int} {G k : Nat} (hp : ps.length ≤ G) (hG : G ^ k ≤ 16777216) (h1 : 1 ≤ G) : ∀ j, j < k → (setsP ps j).length * ps.length ≤ 16777216 := fun j hj => by
  have a := setsP_len ps j
  have b : (setsP ps j).length * ps.length ≤ ps.length ^ j * ps.length := Nat.mul_le_mul_right _ a
  rw [← Nat.pow_succ, show j.succ = j + 1 from rfl] at b
  have c : ps.length ^ (j + 1) ≤ G ^ (j + 1) := Nat.pow_le_pow_left hp _
  have d : G ^ (j + 1) ≤ G ^ k := Nat.pow_le_pow_right h1 hj
  omega
theorem sets_is {ps : List Int} {G k : Nat} (hp : ps.length ≤ G) (hG : G ^ k ≤ 16777216) (h1 : 1 ≤ G) (hG' : G ≤ 100) (hk : k ≤ 100) : m_sets_of ps (k : Int) = some (setsP ps k) := by
  unfold m_sets_of
  refine bq rfl (bq (x := rngL 0 k) (if_pos (by omega)) ?_)
  have loop : ∀ j, j ≤ k → forS (S := (List (Tp Int))) (fun (x7 : Int) (s6 : (List (Tp Int))) => (
(some ([] : (List (Tp Int)))).bind fun v11 =>
(forS (S := List (Tp Int)) (fun (x16 : (Tp Int)) (s15 : List (Tp Int)) => (
(filtO (fun (x21 : Int) => (if (decide ((x16 : (Tp Int)) = ((Tp.mk []) : (Tp Int)))) = true then some true else ((atI x16.l (-(1 : Int))).bind fun t31 => some (decide (t31 < x21)))).bind fun b33 => some b33) (fun (x21 : Int) => (extO x16.l ((Tp.mk [x21]) : (Tp Int)).l).bind fun t34 => some ((Tp.mk t34) : (Tp Int))) ps).bind fun l36 =>
(extO s15 l36).bind fun u38 =>
some u38 : Option (List (Tp Int)))) s6 v11).bind fun s40 =>
some s40 : Option ((List (Tp Int))))) (rngL 0 j) [Tp.mk []] = some (setsP ps j) := by
    intro j
    induction j with
    | zero => intro _; rfl
    | succ j ih =>
      intro hj
      rw [rngL_succ, forS_app, ih (by omega)]
      refine bq rfl ?_
      unfold forS
      have r := wide_row (ps := ps) (by omega) (setsP ps j) [] (fun t ht => by have := (setsP_ok ps j t ht).1; omega) (by have := sets_pow hp hG h1 j (by omega); simp; omega)
      rw [List.nil_append] at r
      exact bq (x := setsP ps (j + 1)) (bq rfl (bq r rfl)) rfl
  exact bq (loop k (Nat.le_refl _)) rfl
/-! ### the first that is so -/
def toFl {R : Type} : Option R → Fl Unit R
  | some r => .rt r
  | none => .nx ()
theorem fl_same {R : Type} {o : Option R} : (flK (toFl o) (fun _ => some (.nx ())) (fun r => some (.rt r)) : Option (Fl Unit R)) = some (toFl o) := by
  cases o <;> rfl
theorem forF_find {α R : Type} {f : α → Unit → Option (Fl Unit R)} (g : α → Option R) : ∀ (xs : List α), (∀ x ∈ xs, f x () = some (toFl (g x))) → forF f xs () = some (toFl (xs.findSome? g))
  | [], _ => rfl
  | x :: xs, h => by
    have hx := h x (List.mem_cons_self ..)
    have ih := forF_find g xs fun y hy => h y (List.mem_cons_of_mem _ hy)
    unfold forF
    rw [hx, List.findSome?_cons]
    cases g x with
    | some r => rfl
    | none => exact ih
def brk (n : Net) (level : Str) (t : List Int) (i : Nat) : Bool := if level = ("right" : Str) then dif n t i || non n t i else dif n t i
theorem broken_is {n : Net} (hw : Wf n) (level : Str) (t : Tp Int) (ht : Ts n t.l) : m_broken_at n (mkL (NN n) (W0 n) (LL n)) (mk (NN n) fun _ => true) t level = some (mk (NN n) (brk n level t.l)) := by
  unfold m_broken_at
  refine bq (spoilt_mask hw t ht) ?_
  unfold brk
  by_cases h : level = ("right" : Str)
  · rw [if_pos (decide_eq_true h)]
    show some (Builtin.bitOr _ _) = _
    rw [mk_or]
    simp only [if_pos h]
  · rw [if_neg (by rw [decide_eq_false h]; decide)]
    simp only [if_neg h]
end W

namespace W
open PySem L2 TL
open Enc
/-! ### bears -/
theorem find_low {N : Nat} {f : Nat → Bool} : (∃ j, (List.range N).find? f = some j ∧ j < N ∧ f j = true ∧ ∀ i, i < j → f i = false) ∨ ((List.range N).find? f = none ∧ ∀ i, i < N → f i = false) := by
  cases e : (List.range N).find? f with
  | none =>
    refine .inr ⟨rfl, fun i hi => ?_⟩
    have := List.find?_eq_none.mp e i (List.mem_range.mpr hi)
    simpa using this
  | some j =>
    obtain ⟨h1, as, bs, h2, h3⟩ := List.find?_eq_some_iff_append.mp e
    have hj : j < N := by
      have : j ∈ List.range N := by rw [h2]; simp
      exact List.mem_range.mp this
    refine .inl ⟨j, rfl, hj, h1, fun i hi => ?_⟩
    have hl : as.length = j := by
      have g : (List.range N)[as.length]? = some j := by rw [h2]; simp
      have := List.getElem?_range (n := N) (i := as.length) (by rw [show N = (List.range N).length by simp, h2]; simp)
      rw [this] at g
      exact Option.some.inj g
    have hi' : i ∈ as := by
      have g : (List.range N)[i]? = some i := List.getElem?_range (by omega)
      rw [h2, List.getElem?_append_left (by omega)] at g
      exact List.mem_iff_getElem?.mpr ⟨i, g⟩
    have := h3 i hi'
    simpa using this
theorem mk_find {N : Nat} {f : Nat → Bool} : decide (mk N f = 0) = ((List.range N).find? f).isNone := by
  rcases find_low (N := N) (f := f) with ⟨i, e, h1, h2, h3⟩ | ⟨e, h⟩
  · rw [e]
    refine decide_eq_false fun q => ?_
    have := mk_eq0.mp q i h1
    rw [h2] at this; cases this
  · rw [e]
    exact decide_eq_true (mk_eq0.mpr h)
def gA (n : Net) (level : Str) (t : Tp Int) : Option Ans := ((List.range (NN n)).find? (brk n level t.l)).map fun j => Ans.a3 ("breaks" : Str) t (some (j : Int))
def ansB (n : Net) (many : Nat) (level : Str) : Ans := ((rngL 1 many).findSome? fun k => (setsP (frees n) k.toNat).findSome? (gA n level)).getD (Ans.a1 ("bears" : Str))
theorem rdO_r : ∀ (a b c : Bool), (!decide (rdO (a, b) = rdO (c, false)) && (true || (rdO (a, b)).isSome)) = ((a ^^ c) && !b || b) := by decide
theorem rdO_s : ∀ (a b c : Bool), (!decide (rdO (a, b) = rdO (c, false)) && (false || (rdO (a, b)).isSome)) = ((a ^^ c) && !b) := by decide
theorem any_or {α : Type} (p q : α → Bool) : ∀ xs : List α, xs.any (fun x => p x || q x) = (xs.any p || xs.any q)
  | [] => rfl
  | x :: xs => by
    rw [List.any_cons, List.any_cons, List.any_cons, any_or p q xs]
    cases p x <;> cases q x <;> cases xs.any p <;> rfl
theorem any_congr {α : Type} {p q : α → Bool} {xs : List α} (h : ∀ x ∈ xs, p x = q x) : xs.any p = xs.any q := by
  induction xs with
  | nil => rfl
  | cons x xs ih => rw [List.any_cons, List.any_cons, h x (List.mem_cons_self ..), ih fun y hy => h y (List.mem_cons_of_mem _ hy)]
theorem brk_is {n : Net} {i : Nat} (hs : ∀ o ∈ n.c, (rd o (W0 n i)).2 = false) (level : Str) (t : List Int) : (n.c.any fun o => !decide (rdO (rd o (W1 n t i)) = rdO (rd o (W0 n i))) && (decide (level = ("right" : Str)) || (rdO (rd o (W1 n t i))).isSome)) = brk n level t i := by
  have s0 : ∀ o ∈ n.c, rd o (W0 n i) = ((rd o (W0 n i)).1, false) := fun o ho => by rw [← hs o ho]
  unfold brk
  by_cases h : level = ("right" : Str)
  · rw [if_pos h]
    unfold dif non
    rw [← any_or]
    refine any_congr fun o ho => ?_
    rw [decide_eq_true h, s0 o ho]
    exact rdO_r _ _ _
  · rw [if_neg h]
    unfold dif
    refine any_congr fun o ho => ?_
    rw [decide_eq_false h, s0 o ho]
    exact rdO_s _ _ _
theorem find_any {α R : Type} (q : α → Bool) (v : R) : ∀ xs : List α, xs.findSome? (fun x => if q x = true then some v else none) = if xs.any q = true then some v else none
  | [] => rfl
  | x :: xs => by
    rw [List.findSome?_cons, List.any_cons]
    cases q x with
    | true => rfl
    | false => exact find_any q v xs
theorem find_idx {R : Type} (p : Nat → Bool) (v : Nat → R) : ∀ xs : List Nat, xs.findSome? (fun i => if p i = true then some (v i) else none) = (xs.find? p).map v
  | [] => rfl
  | x :: xs => by
    rw [List.findSome?_cons, List.find?_cons]
    cases p x with
    | true => rfl
    | false => exact find_idx p v xs
theorem enum_map {α : Type} (f : Nat → α) (N : Nat) : enumL ((List.range N).map f) = (List.range N).map fun i => (((i : Nat) : Int), f i) := by
  unfold enumL
  apply List.ext_getElem?
  intro i
  rw [List.getElem?_map, List.getElem?_zipIdx, List.getElem?_map, List.getElem?_map]
  rcases Nat.lt_or_ge i N with h | h
  · rw [List.getElem?_range h]; simp
  · rw [List.getElem?_eq_none (by simp; exact h)]; rfl
def plainL (n : Net) : List (List (Option Int)) := (List.range (NN n)).map fun i => n.c.map fun o => rdO (rd o (W0 n i))
theorem mapO_map {α β γ : Type} {f : β → Option γ} {g : α → β} {h : α → γ} : ∀ {xs : List α}, (∀ x ∈ xs, f (g x) = some (h x)) → mapO f (xs.map g) = some (xs.map h)
  | [], _ => rfl
  | x :: xs, k => by
    rw [List.map_cons]
    unfold mapO
    exact bq (k x (List.mem_cons_self ..)) (bq (mapO_map fun y hy => k y (List.mem_cons_of_mem _ hy)) rfl)
end W

namespace W
open PySem L2 TL
open Enc
/-! ### rows -/
theorem forS_push {α β : Type} {f : α → List β → Option (List β)} {h : α → β} : ∀ (xs : List α) (acc : List β), (∀ x ∈ xs, ∀ acc : List β, acc.length < 16777216 → f x acc = some (acc ++ [h x])) → acc.length + xs.length ≤ 16777216 → forS f xs acc = some (acc ++ xs.map h)
  | [], acc, _, _ => by simp [forS]
  | x :: xs, acc, k, hl => by
    rw [List.length_cons] at hl
    have ih := forS_push xs (acc ++ [h x]) (fun y hy => k y (List.mem_cons_of_mem _ hy)) (by rw [List.length_append, List.length_singleton]; omega)
    rw [List.map_cons, show acc ++ h x :: xs.map h = acc ++ [h x] ++ xs.map h by simp]
    unfold forS
    exact bq (k x (List.mem_cons_self ..) acc (by omega)) ih
theorem filtO_both {α β : Type} {p : α → Option Bool} {f : α → Option β} (q : α → Bool) (g : α → β) : ∀ (xs : List α), (∀ x ∈ xs, p x = some (q x)) → (∀ x ∈ xs, f x = some (g x)) → filtO p f xs = some ((xs.filter q).map g)
  | [], _, _ => rfl
  | x :: xs, hp, hf => by
    have ih := filtO_both q g xs (fun y hy => hp y (List.mem_cons_of_mem _ hy)) (fun y hy => hf y (List.mem_cons_of_mem _ hy))
    unfold filtO
    refine bq (hp x (List.mem_cons_self ..)) ?_
    rw [List.filter_cons]
    cases q x with
    | false => exact ih
    | true => exact bq (hf x (List.mem_cons_self ..)) (bq ih rfl)
theorem rngL_0 (N : Nat) : rngL 0 N = (List.range N).map fun i : Nat => (i : Int) := by
  unfold rngL
  exact List.map_congr_left fun i _ => by simp
theorem shr_mk {N : Nat} (f : Nat → Bool) (i : Nat) : shrO (mk N f) (i : Int) = some (mk N f / 2 ^ i) := by
  unfold shrO
  rw [if_pos (by omega), Int.toNat_natCast]
end W

namespace W
open PySem L2 TL
open Enc
/-! ### rising sets -/
abbrev Up (l : List Int) : Prop := l.Pairwise (· < ·)
theorem up_le {l t : List Int} : Up l → Up t → (∀ x ∈ l, x ∈ t) → l.length ≤ t.length := by
  induction t generalizing l with
  | nil =>
    intro _ _ h
    cases l with
    | nil => exact Nat.le_refl _
    | cons a l => exact absurd (h a (List.mem_cons_self ..)) (by simp)
  | cons b t ih =>
    intro hl ht h
    cases l with
    | nil => simp
    | cons a l =>
      have hl' := List.pairwise_cons.mp hl
      have ht' := List.pairwise_cons.mp ht
      have ha := h a (List.mem_cons_self ..)
      by_cases e : a = b
      · subst e
        have := ih hl'.2 ht'.2 fun x hx => by
          have q := h x (List.mem_cons_of_mem _ hx)
          rcases List.mem_cons.mp q with q | q
          · have := hl'.1 x hx
            omega
          · exact q
        simp; omega
      · have hat : a ∈ t := by
          rcases List.mem_cons.mp ha with q | q
          · exact absurd q e
          · exact q
        have lt := ht'.1 a hat
        have := ih hl ht'.2 fun x hx => by
          have q := h x hx
          rcases List.mem_cons.mp q with q | q
          · rcases List.mem_cons.mp hx with r | r
            · omega
            · have := hl'.1 x r
              omega
          · exact q
        simp at this ⊢
        omega
theorem up_eq {l t : List Int} : Up l → Up t → (∀ x ∈ l, x ∈ t) → l.length = t.length → l = t := by
  induction t generalizing l with
  | nil =>
    intro _ _ _ hl
    exact List.length_eq_zero_iff.mp hl
  | cons b t ih =>
    intro hl ht h he
    cases l with
    | nil => simp at he
    | cons a l =>
      have hl' := List.pairwise_cons.mp hl
      have ht' := List.pairwise_cons.mp ht
      have ha := h a (List.mem_cons_self ..)
      by_cases e : a = b
      · subst e
        rw [ih hl'.2 ht'.2 (fun x hx => by
          have q := h x (List.mem_cons_of_mem _ hx)
          rcases List.mem_cons.mp q with q | q
          · have := hl'.1 x hx
            omega
          · exact q) (by simpa using he)]
      · have hat : a ∈ t := by
          rcases List.mem_cons.mp ha with q | q
          · exact absurd q e
          · exact q
        have lt := ht'.1 a hat
        have := up_le hl ht'.2 fun x hx => by
          have q := h x hx
          rcases List.mem_cons.mp q with q | q
          · rcases List.mem_cons.mp hx with r | r
            · omega
            · have := hl'.1 x r
              omega
          · exact q
        simp at this he
        omega
theorem up_snoc {l : List Int} {q : Int} : Up (l ++ [q]) ↔ Up l ∧ ∀ x ∈ l, x < q := by
  show List.Pairwise _ (l ++ [q]) ↔ List.Pairwise _ l ∧ _
  rw [List.pairwise_append]
  constructor
  · rintro ⟨h1, _, h3⟩
    exact ⟨h1, fun x hx => h3 x hx q (by simp)⟩
  · rintro ⟨h1, h2⟩
    exact ⟨h1, by simp, fun x hx y hy => by rw [List.mem_singleton] at hy; rw [hy]; exact h2 x hx⟩
theorem can_up {t : Tp Int} {q : Int} (h : Up t.l) : can t q = true ↔ ∀ x ∈ t.l, x < q := by
  obtain ⟨l⟩ := t
  have h : Up l := h
  rcases List.eq_nil_or_concat l with e | ⟨l', b, e⟩
  · subst e
    simp [can]
  · rw [List.concat_eq_append] at e
    subst e
    have h' := up_snoc.mp h
    unfold can
    simp only [List.getLast?_append, List.getLast?_singleton, Option.some_or, Option.getD_some]
    constructor
    · intro c x hx
      have c : b < q := by simpa using c
      rcases List.mem_append.mp hx with hx | hx
      · have := h'.2 x hx; omega
      · rw [List.mem_singleton] at hx; omega
    · intro c
      have := c b (by simp)
      simp [this]
theorem mem_sets {ps : List Int} : ∀ {k : Nat} {t : Tp Int}, t ∈ setsP ps k ↔ Up t.l ∧ (∀ x ∈ t.l, x ∈ ps) ∧ t.l.length = k
  | 0, t => by
    obtain ⟨l⟩ := t
    unfold setsP
    rw [List.mem_singleton]
    constructor
    · intro h
      have h : l = [] := by simpa using h
      subst h
      exact ⟨List.Pairwise.nil, fun x hx => (by cases hx), rfl⟩
    · rintro ⟨_, _, h⟩
      have h : l = [] := List.length_eq_zero_iff.mp h
      rw [h]
  | k + 1, t => by
    unfold setsP
    rw [List.mem_flatMap]
    constructor
    · rintro ⟨s, hs, ht⟩
      obtain ⟨q, hq, rfl⟩ := List.mem_map.mp ht
      obtain ⟨s1, s2, s3⟩ := mem_sets.mp hs
      obtain ⟨q1, q2⟩ := List.mem_filter.mp hq
      refine ⟨up_snoc.mpr ⟨s1, (can_up s1).mp q2⟩, fun x hx => ?_, by show (s.l ++ [q]).length = _; rw [List.length_append, s3]; rfl⟩
      have hx : x ∈ s.l ++ [q] := hx
      rcases List.mem_append.mp hx with hx | hx
      · exact s2 x hx
      · rw [List.mem_singleton] at hx; rw [hx]; exact q1
    · rintro ⟨h1, h2, h3⟩
      obtain ⟨l⟩ := t
      have h3 : l.length = k + 1 := h3
      rcases List.eq_nil_or_concat l with e | ⟨l', b, e⟩
      · subst e; simp at h3
      · rw [List.concat_eq_append] at e
        subst e
        have u := up_snoc.mp h1
        refine ⟨Tp.mk l', mem_sets.mpr ⟨u.1, fun x hx => h2 x (by show x ∈ l' ++ [b]; simp [hx]), by show l'.length = k; simp at h3; exact h3⟩, List.mem_map.mpr ⟨b, List.mem_filter.mpr ⟨h2 b (by show b ∈ l' ++ [b]; simp), (can_up (t := Tp.mk l') u.1).mpr u.2⟩, rfl⟩⟩
/-! ### their order -/
def lx : List Int → List Int → Prop
  | x :: xs, y :: ys => x < y ∨ (x = y ∧ lx xs ys)
  | _, _ => False
theorem lx_same : ∀ (t : List Int) {a b : Int}, a < b → lx (t ++ [a]) (t ++ [b])
  | [], _, _, h => .inl h
  | x :: t, _, _, h => .inr ⟨rfl, lx_same t h⟩
theorem lx_app : ∀ {s t : List Int}, lx s t → ∀ (u v : List Int), lx (s ++ u) (t ++ v)
  | x :: s, y :: t, h, u, v => by
    rcases h with h | ⟨e, h⟩
    · exact .inl h
    · exact .inr ⟨e, lx_app h u v⟩
  | [], _, h, _, _ => h.elim
  | _ :: _, [], h, _, _ => h.elim
theorem lx_irr : ∀ {s : List Int}, ¬ lx s s
  | x :: s, h => by
    rcases h with h | ⟨_, h⟩
    · omega
    · exact lx_irr h
  | [], h => h
theorem sets_lx {ps : List Int} (hp : Up ps) : ∀ k, (setsP ps k).Pairwise fun s t => lx s.l t.l
  | 0 => by unfold setsP; exact List.pairwise_singleton ..
  | k + 1 => by
    unfold setsP
    rw [List.pairwise_flatMap]
    refine ⟨fun t _ => ?_, (sets_lx hp k).imp fun {s t} h x hx y hy => ?_⟩
    · rw [List.pairwise_map]
      exact (List.Pairwise.filter _ hp).imp fun {a b} h => lx_same t.l h
    · obtain ⟨a, _, rfl⟩ := List.mem_map.mp hx
      obtain ⟨b, _, rfl⟩ := List.mem_map.mp hy
      exact lx_app h _ _
theorem first_lx {P : Tp Int → Bool} {R : Tp Int} : ∀ {L : List (Tp Int)}, L.Pairwise (fun s t => lx s.l t.l) → R ∈ L → P R = true → (∀ t ∈ L, P t = true → ¬ lx t.l R.l) → L.find? P = some R
  | [], _, h, _, _ => by cases h
  | h :: L, hp, hm, hR, hmin => by
    have hp := List.pairwise_cons.mp hp
    rw [List.find?_cons]
    cases e : P h with
    | true =>
      rcases List.mem_cons.mp hm with q | q
      · rw [q]
      · exact absurd (hp.1 R q) (hmin h (List.mem_cons_self ..) e)
    | false =>
      rcases List.mem_cons.mp hm with q | q
      · rw [q, e] at hR; cases hR
      · exact first_lx hp.2 q hR fun t ht => hmin t (List.mem_cons_of_mem _ ht)
/-! ### the least sets -/
def sub (s t : Tp Int) : Bool := s.l.all fun x => decide (x ∈ t.l)
theorem sub_iff {s t : Tp Int} : sub s t = true ↔ ∀ x ∈ s.l, x ∈ t.l := by
  unfold sub
  rw [List.all_eq_true]
  exact ⟨fun h x hx => of_decide_eq_true (h x hx), fun h x hx => decide_eq_true (h x hx)⟩
theorem sub_filt (s t : Tp Int) : decide ((((s.l.filter (fun (x8 : Int) => (!decide (x8 ∈ t.l)))).map (fun (x8 : Int) => (x8 : Int))) : (List Int)) = ([] : (List Int))) = sub s t := by
  rw [List.map_id']
  cases e : sub s t with
  | true =>
    refine decide_eq_true (List.filter_eq_nil_iff.mpr fun x hx => ?_)
    have := sub_iff.mp e x hx
    simp [this]
  | false =>
    refine decide_eq_false fun h => ?_
    have : sub s t = true := sub_iff.mpr fun x hx => by
      have := List.filter_eq_nil_iff.mp h x hx
      simpa using this
    rw [e] at this; cases this
def layer (ps : List Int) (B : Tp Int → Bool) (f : List (Tp Int)) (k : Nat) : List (Tp Int) := (setsP ps k).filter fun t => !(f.any fun s => sub s t) && B t
def least (ps : List Int) (B : Tp Int → Bool) : Nat → List (Tp Int)
  | 0 => []
  | k + 1 => least ps B k ++ layer ps B (least ps B k) (k + 1)
theorem least_in {ps : List Int} {B : Tp Int → Bool} : ∀ {m : Nat} {t : Tp Int}, t ∈ least ps B m → ∃ k, 1 ≤ k ∧ k ≤ m ∧ t ∈ setsP ps k ∧ B t = true
  | m + 1, t, h => by
    unfold least at h
    rcases List.mem_append.mp h with h | h
    · obtain ⟨k, h1, h2, h3⟩ := least_in h
      exact ⟨k, h1, by omega, h3⟩
    · unfold layer at h
      obtain ⟨h1, h2⟩ := List.mem_filter.mp h
      rw [Bool.and_eq_true] at h2
      exact ⟨m + 1, by omega, Nat.le_refl _, h1, h2.2⟩
theorem least_mono {ps : List Int} {B : Tp Int → Bool} {m : Nat} : ∀ {k : Nat} {t : Tp Int}, k ≤ m → t ∈ least ps B k → t ∈ least ps B m := by
  intro k t hk h
  induction m with
  | zero => rw [show k = 0 by omega] at h; exact h
  | succ m ih =>
    rcases Nat.lt_or_ge k (m + 1) with q | q
    · unfold least
      exact List.mem_append_left _ (ih (by omega))
    · rw [show k = m + 1 by omega] at h; exact h
theorem least_dense {ps : List Int} {B : Tp Int → Bool} {m k : Nat} {t : Tp Int} (h1 : 1 ≤ k) (hk : k ≤ m) (ht : t ∈ setsP ps k) (hB : B t = true) : ∃ s ∈ least ps B m, sub s t = true := by
  match k, h1 with
  | k + 1, _ =>
    cases e : (least ps B k).any fun s => sub s t with
    | true =>
      obtain ⟨s, hs, q⟩ := List.any_eq_true.mp e
      exact ⟨s, least_mono (by omega) hs, q⟩
    | false =>
      refine ⟨t, least_mono (k := k + 1) hk ?_, sub_iff.mpr fun x hx => hx⟩
      unfold least layer
      exact List.mem_append_right _ (List.mem_filter.mpr ⟨ht, by rw [e, hB]; rfl⟩)
theorem layer_split {ps : List Int} {B : Tp Int → Bool} {f : List (Tp Int)} {k : Nat} {xs ys : List (Tp Int)} {t : Tp Int} (hp : Up ps) (h : setsP ps k = xs ++ t :: ys) : ∀ s ∈ xs, sub s t = false := fun s hs => by
  have lxp := sets_lx hp k
  rw [h, List.pairwise_append] at lxp
  have l1 := lxp.2.2 s hs t (List.mem_cons_self ..)
  have hs' : s ∈ setsP ps k := by rw [h]; simp [hs]
  have ht' : t ∈ setsP ps k := by rw [h]; simp
  obtain ⟨s1, _, s3⟩ := mem_sets.mp hs'
  obtain ⟨t1, _, t3⟩ := mem_sets.mp ht'
  cases e : sub s t with
  | false => rfl
  | true =>
    have := up_eq s1 t1 (sub_iff.mp e) (by rw [s3, t3])
    rw [this] at l1
    exact absurd l1 lx_irr
/-! ### meeting all sets -/
def Hit (T : List Int) (sets : List (Tp Int)) : Prop := ∀ s ∈ sets, ∃ x ∈ s.l, x ∈ T
def Met (sets : List (Tp Int)) (m : Nat) : Prop := ∃ T, Hit T sets ∧ T.length ≤ m
def wo (sets : List (Tp Int)) (p : Int) : List (Tp Int) := sets.filter fun s => !decide (p ∈ s.l)
theorem mem_wo {sets : List (Tp Int)} {p : Int} {s : Tp Int} : s ∈ wo sets p ↔ s ∈ sets ∧ p ∉ s.l := by
  unfold wo
  rw [List.mem_filter]
  simp
theorem hit_cons {T : List Int} {sets : List (Tp Int)} {p : Int} (h : Hit T (wo sets p)) : Hit (p :: T) sets := fun s hs => by
  by_cases c : p ∈ s.l
  · exact ⟨p, c, List.mem_cons_self ..⟩
  · obtain ⟨x, hx, ht⟩ := h s (mem_wo.mpr ⟨hs, c⟩)
    exact ⟨x, hx, List.mem_cons_of_mem _ ht⟩
theorem hit_drop {T : List Int} {sets : List (Tp Int)} {p : Int} (h : Hit T sets) : Hit (T.filter fun x => !decide (x = p)) (wo sets p) := fun s hs => by
  obtain ⟨h1, h2⟩ := mem_wo.mp hs
  obtain ⟨x, hx, ht⟩ := h s h1
  exact ⟨x, hx, List.mem_filter.mpr ⟨ht, by
    have : x ≠ p := fun e => h2 (e ▸ hx)
    simp [this]⟩⟩
theorem drop_len {T : List Int} {p : Int} (h : p ∈ T) : (T.filter fun x => !decide (x = p)).length + 1 ≤ T.length := by
  induction T with
  | nil => cases h
  | cons x T ih =>
    by_cases e : x = p
    · subst e
      have := List.length_filter_le (fun y => !decide (y = x)) T
      rw [List.filter_cons, if_neg (by simp), List.length_cons]
      omega
    · have h : p ∈ T := by
        rcases List.mem_cons.mp h with q | q
        · exact absurd q.symm e
        · exact q
      have := ih h
      rw [List.filter_cons, if_pos (by simp [e]), List.length_cons, List.length_cons]
      omega
theorem hit_mono {T U : List Int} {sets : List (Tp Int)} (h : Hit T sets) (k : ∀ x ∈ T, x ∈ U) : Hit U sets := fun s hs => by
  obtain ⟨x, hx, ht⟩ := h s hs
  exact ⟨x, hx, k x ht⟩
theorem met_cons {s0 : Tp Int} {sets : List (Tp Int)} {m : Nat} : Met (s0 :: sets) (m + 1) ↔ ∃ p ∈ s0.l, Met (wo (s0 :: sets) p) m := by
  constructor
  · rintro ⟨T, h, hl⟩
    obtain ⟨p, hp, ht⟩ := h s0 (List.mem_cons_self ..)
    exact ⟨p, hp, _, hit_drop h, by have := drop_len ht; omega⟩
  · rintro ⟨p, _, T, h, hl⟩
    exact ⟨p :: T, hit_cons h, by simp; omega⟩
theorem met_zero {s0 : Tp Int} {sets : List (Tp Int)} : ¬ Met (s0 :: sets) 0 := by
  rintro ⟨T, h, hl⟩
  have e : T = [] := List.length_eq_zero_iff.mp (by omega)
  subst e
  obtain ⟨x, _, hx⟩ := h s0 (List.mem_cons_self ..)
  cases hx
theorem met_nil (m : Nat) : Met [] m := ⟨[], fun s hs => (by cases hs), Nat.zero_le _⟩
/-- the first fewest, place by place -/
structure Gi (ps : List Int) (sets : List (Tp Int)) (m : Nat) : Prop where
  a : Met sets m
  b : ∀ j, j < m → ¬ Met sets j
  c : ∀ T, Hit T sets → T.length ≤ m → ∀ x ∈ T, x ∈ ps
theorem wo_len {sets : List (Tp Int)} {p : Int} : (wo sets p).length < sets.length ↔ ∃ s ∈ sets, p ∈ s.l := by
  unfold wo
  induction sets with
  | nil => simp
  | cons s sets ih =>
    have le := List.length_filter_le (fun s : Tp Int => !decide (p ∈ s.l)) sets
    by_cases h : p ∈ s.l
    · rw [List.filter_cons, if_neg (by simp [h]), List.length_cons]
      exact ⟨fun _ => ⟨s, List.mem_cons_self .., h⟩, fun _ => by omega⟩
    · rw [List.filter_cons, if_pos (by simp [h]), List.length_cons, List.length_cons, Nat.add_lt_add_iff_right, ih]
      constructor
      · rintro ⟨t, ht, q⟩
        exact ⟨t, List.mem_cons_of_mem _ ht, q⟩
      · rintro ⟨t, ht, q⟩
        rcases List.mem_cons.mp ht with e | e
        · rw [e] at q; exact absurd q h
        · exact ⟨t, e, q⟩
theorem wo_none {sets : List (Tp Int)} {p : Int} (h : ¬ (wo sets p).length < sets.length) : wo sets p = sets := by
  unfold wo
  refine List.filter_eq_self.mpr fun s hs => ?_
  have : p ∉ s.l := fun q => h (wo_len.mpr ⟨s, hs, q⟩)
  simp [this]
theorem Gi.pick {p : Int} {ps : List Int} {sets : List (Tp Int)} {m : Nat} (h : Gi (p :: ps) sets m) (hl : (wo sets p).length < sets.length) (hm : ∃ j, m = j + 1 ∧ Met (wo sets p) j) : ∃ j, m = j + 1 ∧ Gi ps (wo sets p) j := by
  obtain ⟨j, rfl, hj⟩ := hm
  refine ⟨j, rfl, hj, fun i hi q => ?_, fun T hT hl' x hx => ?_⟩
  · obtain ⟨T, hT, l⟩ := q
    exact h.b (i + 1) (by omega) ⟨p :: T, hit_cons hT, by simp; omega⟩
  · have hpT : p ∉ T := fun q => by
      have : Hit T sets := hit_mono (hit_cons hT) fun y hy => by
        rcases List.mem_cons.mp hy with e | e
        · rw [e]; exact q
        · exact e
      exact h.b j (by omega) ⟨T, this, hl'⟩
    have := h.c (p :: T) (hit_cons hT) (by simp; omega) x (List.mem_cons_of_mem _ hx)
    rcases List.mem_cons.mp this with e | e
    · rw [e] at hx; exact absurd hx hpT
    · exact e
theorem Gi.skip {p : Int} {ps : List Int} {sets : List (Tp Int)} {m : Nat} (h : Gi (p :: ps) sets m) (hn : ¬ ((wo sets p).length < sets.length ∧ ∃ j, m = j + 1 ∧ Met (wo sets p) j)) : Gi ps sets m := by
  refine ⟨h.a, h.b, fun T hT hl x hx => ?_⟩
  have := h.c T hT hl x hx
  rcases List.mem_cons.mp this with e | e
  · exfalso
    subst e
    have dl := drop_len hx
    have hd := hit_drop (p := x) hT
    by_cases c : (wo sets x).length < sets.length
    · exact hn ⟨c, m - 1, by omega, _, hd, by omega⟩
    · rw [wo_none c] at hd
      exact h.b (m - 1) (by omega) ⟨_, hd, by omega⟩
  · exact e
theorem Gi.done {sets : List (Tp Int)} {m : Nat} (h : Gi [] sets m) : sets = [] ∧ m = 0 := by
  obtain ⟨T, hT, hl⟩ := h.a
  have e : T = [] := List.eq_nil_iff_forall_not_mem.mpr fun x hx => by
    have := h.c T hT hl x hx
    cases this
  subst e
  have hs : sets = [] := List.eq_nil_iff_forall_not_mem.mpr fun s hs => by
    obtain ⟨x, _, hx⟩ := hT s hs
    cases hx
  subst hs
  refine ⟨rfl, ?_⟩
  rcases Nat.eq_zero_or_pos m with q | q
  · exact q
  · exact absurd (met_nil 0) (h.b 0 q)
/-- what the walk over the places leaves -/
inductive Gr : List Int → List (Tp Int) → Nat → List Int → Prop
  | nil {sets : List (Tp Int)} {m : Nat} : Gr [] sets m []
  | pick {p : Int} {ps : List Int} {sets : List (Tp Int)} {m : Nat} {r : List Int} : (wo sets p).length < sets.length → Met (wo sets p) m → Gr ps (wo sets p) m r → Gr (p :: ps) sets (m + 1) (p :: r)
  | skip {p : Int} {ps : List Int} {sets : List (Tp Int)} {m : Nat} {r : List Int} : ¬ ((wo sets p).length < sets.length ∧ ∃ j, m = j + 1 ∧ Met (wo sets p) j) → Gr ps sets m r → Gr (p :: ps) sets m r
theorem gr_ok {ps : List Int} {sets : List (Tp Int)} {m : Nat} {r : List Int} (h : Gr ps sets m r) : Up ps → Gi ps sets m → (∀ x ∈ r, x ∈ ps) ∧ Up r ∧ r.length = m ∧ Hit r sets ∧ ∀ T, Up T → Hit T sets → T.length = m → ¬ lx T r := by
  induction h with
  | nil =>
    intro _ hg
    obtain ⟨e1, e2⟩ := hg.done
    subst e1
    subst e2
    exact ⟨fun x h => (by cases h), List.Pairwise.nil, rfl, fun s h => (by cases h), fun T _ _ _ q => by cases T <;> exact q⟩
  | @pick p ps sets m r hl hm hr ih =>
    intro hu hg
    have hu' := List.pairwise_cons.mp hu
    obtain ⟨j, e, hg'⟩ := hg.pick hl ⟨m, rfl, hm⟩
    have e : j = m := by omega
    subst e
    obtain ⟨i1, i2, i3, i4, i5⟩ := ih hu'.2 hg'
    refine ⟨fun x hx => ?_, List.pairwise_cons.mpr ⟨fun x hx => hu'.1 x (i1 x hx), i2⟩, by simp [i3], hit_cons i4, fun T hT hTs hTl q => ?_⟩
    · rcases List.mem_cons.mp hx with e | e
      · rw [e]; exact List.mem_cons_self ..
      · exact List.mem_cons_of_mem _ (i1 x e)
    · cases T with
      | nil => exact q
      | cons a T =>
        have ha := hg.c (a :: T) hTs (by omega) a (List.mem_cons_self ..)
        have hT' := List.pairwise_cons.mp hT
        rcases q with q | ⟨e, q⟩
        · rcases List.mem_cons.mp ha with e | e
          · omega
          · have := hu'.1 a e
            omega
        · subst e
          refine i5 T hT'.2 (fun s hs => ?_) (by simpa using hTl) q
          obtain ⟨h1, h2⟩ := mem_wo.mp hs
          obtain ⟨x, hx, ht⟩ := hTs s h1
          rcases List.mem_cons.mp ht with e | e
          · rw [e] at hx; exact absurd hx h2
          · exact ⟨x, hx, e⟩
  | @skip p ps sets m r hn hr ih =>
    intro hu hg
    have hu' := List.pairwise_cons.mp hu
    obtain ⟨i1, i2, i3, i4, i5⟩ := ih hu'.2 (hg.skip hn)
    exact ⟨fun x hx => List.mem_cons_of_mem _ (i1 x hx), i2, i3, i4, i5⟩
/-- every fewest set that meets all lies within their places -/
theorem gi_start {ps : List Int} {sets : List (Tp Int)} {m : Nat} (ha : Met sets m) (hb : ∀ j, j < m → ¬ Met sets j) (hs : ∀ s ∈ sets, ∀ x ∈ s.l, x ∈ ps) : Gi ps sets m := by
  refine ⟨ha, hb, fun T hT hl x hx => ?_⟩
  rcases Classical.em (∃ s ∈ sets, x ∈ s.l) with ⟨s, h1, h2⟩ | q
  · exact hs s h1 x h2
  · exfalso
    have dl := drop_len hx
    have hd := hit_drop (p := x) hT
    rw [wo_none (fun c => q (wo_len.mp c))] at hd
    exact hb (m - 1) (by omega) ⟨_, hd, by omega⟩
/-- the first by trial -/
theorem trial {qs : List Int} (hq : Up qs) {sets : List (Tp Int)} {m : Nat} {r : List Int} {P : Tp Int → Bool} (hP : ∀ t, P t = true ↔ Hit t.l sets) (hb : ∀ j, j < m → ¬ Met sets j) (hr : Up r ∧ (∀ x ∈ r, x ∈ qs) ∧ r.length = m ∧ Hit r sets) (hmin : ∀ T, Up T → Hit T sets → T.length = m → ¬ lx T r) :
    ∀ {G : Nat}, m ≤ G → ((List.range (G + 1)).flatMap (setsP qs)).find? P = some (Tp.mk r) := by
  intro G hG
  have e : List.range (G + 1) = List.range m ++ m :: (List.range (G + 1 - m - 1)).map (m + 1 + ·) := by
    apply List.ext_getElem?
    intro i
    rw [List.getElem?_append]
    rcases Nat.lt_or_ge i m with h | h
    · rw [if_pos (by simp; exact h), List.getElem?_range (by omega), List.getElem?_range h]
    · rw [if_neg (by simp; omega), List.length_range]
      rcases Nat.eq_or_lt_of_le h with h | h
      · subst h
        rw [Nat.sub_self, List.getElem?_range (by omega)]; rfl
      · rw [show i - m = (i - m - 1) + 1 by omega, List.getElem?_cons_succ, List.getElem?_map]
        rcases Nat.lt_or_ge i (G + 1) with c | c
        · rw [List.getElem?_range c, List.getElem?_range (by omega)]
          show some i = some (m + 1 + (i - m - 1))
          rw [show m + 1 + (i - m - 1) = i by omega]
        · rw [List.getElem?_eq_none (by simp; exact c), List.getElem?_eq_none (by simp; omega)]; rfl
  rw [e, List.flatMap_append, List.find?_append, List.flatMap_cons, List.find?_append]
  have z : ((List.range m).flatMap (setsP qs)).find? P = none := by
    refine List.find?_eq_none.mpr fun t ht h => ?_
    obtain ⟨j, hj, ht⟩ := List.mem_flatMap.mp ht
    have hj := List.mem_range.mp hj
    exact hb j hj ⟨t.l, (hP t).mp h, by have := (mem_sets.mp ht).2.2; omega⟩
  rw [z, first_lx (sets_lx hq m) (mem_sets.mpr ⟨hr.1, hr.2.1, hr.2.2.1⟩) ((hP _).mpr hr.2.2.2) fun t ht h => hmin t.l (mem_sets.mp ht).1 ((hP t).mp h) (mem_sets.mp ht).2.2]
  rfl
end W

namespace W
open PySem L2 TL
open Enc
/-! ### breaking -/
def bk (n : Net) (level : Str) (t : Tp Int) : Bool := ((List.range (NN n)).find? (brk n level t.l)).isSome
theorem find_bool {α : Type} (q : α → Bool) : ∀ xs : List α, xs.findSome? (fun x => if q x = true then some true else none) = if xs.any q = true then some true else none
  | [] => rfl
  | x :: xs => by
    rw [List.findSome?_cons, List.any_cons]
    cases q x with
    | true => rfl
    | false => exact find_bool q xs
theorem within_is (sets : List (Tp Int)) (t : Tp Int) : m_has_within sets t = some (sets.any fun s => sub s t) := by
  unfold m_has_within
  refine bq (forF_find (R := Bool) (fun s => if sub s t = true then some true else none) sets fun s _ => ?_) ?_
  · rw [sub_filt]
    cases sub s t <;> rfl
  · rw [find_bool]
    cases sets.any fun s => sub s t <;> rfl
theorem forS_filt {α : Type} {f : α → List α → Option (List α)} {q : α → Bool} : ∀ (xs acc : List α), (∀ x ∈ xs, ∀ acc : List α, acc.length < 16777216 → f x acc = some (if q x = true then acc ++ [x] else acc)) → acc.length + xs.length ≤ 16777216 → forS f xs acc = some (acc ++ xs.filter q)
  | [], acc, _, _ => by simp [forS]
  | x :: xs, acc, k, hl => by
    rw [List.length_cons] at hl
    have hx := k x (List.mem_cons_self ..) acc (by omega)
    unfold forS
    rw [List.filter_cons]
    cases e : q x with
    | true =>
      rw [e, if_pos rfl] at hx
      have ih := forS_filt xs (acc ++ [x]) (fun y hy => k y (List.mem_cons_of_mem _ hy)) (by rw [List.length_append, List.length_singleton]; omega)
      rw [List.append_assoc] at ih
      exact bq hx ih
    | false =>
      rw [e, if_neg (by decide)] at hx
      have ih := forS_filt xs acc (fun y hy => k y (List.mem_cons_of_mem _ hy)) (by omega)
      exact bq hx ih
theorem sets_len {ps : List Int} (hp : ps.length ≤ 100) {j : Nat} (hj : j ≤ 3) : (setsP ps j).length ≤ 1000000 := by
  have a := setsP_len ps j
  have c : ps.length ^ j ≤ 100 ^ j := Nat.pow_le_pow_left hp _
  have d : 100 ^ j ≤ 100 ^ 3 := Nat.pow_le_pow_right (by omega) hj
  have : 100 ^ 3 = 1000000 := by decide
  omega
theorem least_len {ps : List Int} {B : Tp Int → Bool} (hp : ps.length ≤ 100) : ∀ {j : Nat}, j ≤ 3 → (least ps B j).length ≤ 1000000 * j
  | 0, _ => by simp [least]
  | j + 1, h => by
    have ih := least_len (B := B) hp (j := j) (by omega)
    have a := sets_len hp h
    have b := List.length_filter_le (fun t => !((least ps B j).any fun s => sub s t) && B t) (setsP ps (j + 1))
    unfold least layer
    rw [List.length_append]
    omega
theorem breaking_is {n : Net} (hw : Wf n) (hb : n.b.length ≤ 100) {many : Nat} (hm : many ≤ 3) (level : Str) : m_breaking n (many : Int) level = some (least (frees n) (bk n level) many) := by
  have a : m_all_wires n = some (mkL (NN n) (W0 n) (LL n), mk (NN n) fun _ => true) := all_w hw
  have fl := frees_len n
  unfold m_breaking
  refine bq a (bq rfl (bq (x := rngL 1 many) ?_ ?_))
  · unfold rng2O
    rw [if_pos (by omega), show ((many : Int) + 1 - 1).toNat = many by omega]
  have loop : ∀ j, j ≤ many → forS (S := List (Tp Int)) (fun (x10 : Int) (s9 : List (Tp Int)) => (
(m_free_places n).bind fun r14 =>
(m_sets_of r14 x10).bind fun r16 =>
(forS (S := List (Tp Int)) (fun (x20 : (Tp Int)) (s19 : List (Tp Int)) => (
(m_has_within s9 x20).bind fun r24 =>
(if (!r24) = true then ((m_broken_at n (mkL (NN n) (W0 n) (LL n)) (mk (NN n) fun _ => true) x20 level).bind fun r27 => some (!decide (r27 = (0 : Int)))) else some false).bind fun b29 =>
(if b29 = true then (
(appO s19 x20).bind fun u32 =>
some u32)
else (
some s19) : Option (List (Tp Int))).bind fun j30 =>
some j30 : Option (List (Tp Int)))) r16 s9).bind fun s34 =>
some s34 : Option (List (Tp Int)))) (rngL 1 j) [] = some (least (frees n) (bk n level) j) := by
    intro j
    induction j with
    | zero => intro _; rfl
    | succ j ih =>
      intro hj
      rw [rngL_succ, forS_app, ih (by omega)]
      refine bq rfl ?_
      have l1 := least_len (B := bk n level) (ps := frees n) (by omega) (j := j) (by omega)
      have l2 := sets_len (ps := frees n) (by omega) (j := j + 1) (by omega)
      unfold forS
      refine bq (bq (free_is n) (bq (x := setsP (frees n) (j + 1)) ?_ (bq (forS_filt (q := fun t => !((least (frees n) (bk n level) j).any fun s => sub s t) && bk n level t) _ _ (fun t ht acc hl => ?_) (by omega)) rfl))) rfl
      · rw [show (1 : Int) + (j : Int) = ((j + 1 : Nat) : Int) by push_cast; omega]
        exact sets_is (G := 100) (k := j + 1) (by omega) (by
          have : j + 1 = 1 ∨ j + 1 = 2 ∨ j + 1 = 3 := by omega
          rcases this with e | e | e <;> rw [e] <;> decide) (by omega) (by omega) (by omega)
      · refine bq (within_is _ t) ?_
        cases e : (least (frees n) (bk n level) j).any fun s => sub s t with
        | true =>
          refine bq (x := false) rfl ?_
          rw [if_neg (by decide)]
          rfl
        | false =>
          rw [if_pos (by decide)]
          refine bq (x := bk n level t) ?_ ?_
          · refine bq (broken_is hw level t (setsP_ts (n := n) (ps := frees n) frees_in ht)) ?_
            rw [mk_find]
            unfold bk
            cases (List.range (NN n)).find? (brk n level t.l) <;> rfl
          · cases bk n level t with
            | true => exact bq (bq (if_pos hl) rfl) rfl
            | false => rfl
  exact bq (loop many (Nat.le_refl _)) rfl
end W

namespace W
open PySem L2 TL
open Enc
/-! ### surest -/
theorem without_is (sets : List (Tp Int)) (p : Int) : m_without sets p = some (wo sets p) := by
  unfold m_without wo
  rw [List.map_id']
noncomputable def metB (sets : List (Tp Int)) (m : Nat) : Bool := @decide (Met sets m) (Classical.propDecidable _)
theorem metB_iff {sets : List (Tp Int)} {m : Nat} : metB sets m = true ↔ Met sets m := by
  unfold metB
  exact @decide_eq_true_iff _ (Classical.propDecidable _)
theorem metB_false {sets : List (Tp Int)} {m : Nat} : metB sets m = false ↔ ¬ Met sets m := by
  rw [← metB_iff]
  cases metB sets m <;> simp
theorem met_is : ∀ (fuel m : Nat) (sets : List (Tp Int)), m < fuel → m_can_be_met fuel sets (m : Int) = some (metB sets m)
  | 0, m, _, h => absurd h (Nat.not_lt_zero m)
  | fuel + 1, m, [], _ => by
    unfold m_can_be_met
    rw [if_pos (by decide), metB_iff.mpr (met_nil m)]
  | fuel + 1, 0, s0 :: sets, _ => by
    unfold m_can_be_met
    rw [if_neg (by simp), if_neg (by decide), metB_false.mpr met_zero]
  | fuel + 1, m + 1, s0 :: sets, h => by
    unfold m_can_be_met
    rw [if_neg (by simp), if_pos (decide_eq_true (by omega))]
    refine bq at_head (bq (forF_find (R := Bool) (fun p => if metB (wo (s0 :: sets) p) m = true then some true else none) _ fun p _ => ?_) ?_)
    · refine bq (without_is _ p) (bq (x := metB (wo (s0 :: sets) p) m) ?_ ?_)
      · rw [show ((m + 1 : Nat) : Int) - 1 = (m : Int) by omega]
        exact met_is fuel m _ (by omega)
      · cases metB (wo (s0 :: sets) p) m <;> rfl
    · rw [find_bool]
      have e : (s0.l.any fun p => metB (wo (s0 :: sets) p) m) = metB (s0 :: sets) (m + 1) := by
        rw [Bool.eq_iff_iff, List.any_eq_true, metB_iff, met_cons]
        exact ⟨fun ⟨p, h1, h2⟩ => ⟨p, h1, metB_iff.mp h2⟩, fun ⟨p, h1, h2⟩ => ⟨p, h1, metB_iff.mpr h2⟩⟩
      rw [e]
      cases metB (s0 :: sets) (m + 1) <;> rfl
theorem least_m {sets : List (Tp Int)} : ∀ {G : Nat}, Met sets G → ∃ m, m ≤ G ∧ Met sets m ∧ ∀ j, j < m → ¬ Met sets j := by
  intro G
  induction G using Nat.strongRecOn with
  | ind G ih =>
    intro h
    rcases Classical.em (∃ j, j < G ∧ Met sets j) with ⟨j, h1, h2⟩ | q
    · obtain ⟨m, a, b, c⟩ := ih j h1 h2
      exact ⟨m, by omega, b, c⟩
    · exact ⟨G, Nat.le_refl _, h, fun j hj z => q ⟨j, hj, z⟩⟩
theorem left_go {K : Nat} {sets : List (Tp Int)} {m : Nat} (hm : m < K) (ha : Met sets m) (hb : ∀ j, j < m → ¬ Met sets j) : ∀ (d s fuel : Nat), s + d = m → d < fuel → whileS (S := Int) (fun (s4 : Int) => (m_can_be_met K sets s4).bind fun r10 => some (!r10)) (fun (s4 : Int) => (
some (s4 + (1 : Int)) : Option (Int))) fuel (s : Int) = some (m : Int) := by
  intro d
  induction d with
  | zero =>
    intro s fuel hs hf
    match fuel, hf with
    | fuel + 1, _ =>
      have e : s = m := by omega
      subst e
      unfold whileS
      refine bq (bq (met_is K s sets hm) rfl) ?_
      rw [metB_iff.mpr ha]
      rfl
  | succ d ih =>
    intro s fuel hs hf
    match fuel, hf with
    | fuel + 1, hf =>
      unfold whileS
      refine bq (bq (met_is K s sets (by omega)) rfl) ?_
      rw [metB_false.mpr (hb s (by omega)), if_pos (by decide)]
      exact bq rfl (ih (s + 1) fuel (by omega) (by omega))
theorem walk_go {K : Nat} : ∀ (ps : List Int) (sets : List (Tp Int)) (m : Nat) (acc : List Int), Gi ps sets m → m < K → acc.length + ps.length ≤ 1000 → ∃ r X, forS (S := (Tp Int) × (List (Tp Int)) × Int) (fun (x19 : Int) (s18 : (Tp Int) × (List (Tp Int)) × Int) => (
(m_without s18.2.1 x19).bind fun r23 =>
(if (decide ((r23.length : Int) < (s18.2.1.length : Int))) = true then ((m_can_be_met K r23 (s18.2.2 - (1 : Int))).bind fun r26 => some r26) else some false).bind fun b28 =>
(if b28 = true then (
(extO s18.1.l ((Tp.mk [x19]) : (Tp Int)).l).bind fun t31 =>
(some (Tp.mk t31)).bind fun v33 =>
some (v33, r23, (s18.2.2 - (1 : Int))))
else (
some (s18.1, s18.2.1, s18.2.2)) : Option ((Tp Int) × (List (Tp Int)) × Int)).bind fun j29 =>
some (j29.1, j29.2.1, j29.2.2) : Option ((Tp Int) × (List (Tp Int)) × Int))) ps (Tp.mk acc, sets, (m : Int)) = some (Tp.mk (acc ++ r), X) ∧ Gr ps sets m r
  | [], sets, m, acc, _, _, _ => ⟨[], _, by rw [List.append_nil]; rfl, .nil⟩
  | p :: ps, sets, m, acc, hg, hm, hl => by
    rw [List.length_cons] at hl
    by_cases c : (wo sets p).length < sets.length ∧ ∃ j, m = j + 1 ∧ Met (wo sets p) j
    · obtain ⟨c1, hj⟩ := c
      obtain ⟨j, e, hg'⟩ := hg.pick c1 hj
      subst e
      have hjK : j < K := by omega
      obtain ⟨r, X, h1, h2⟩ := walk_go ps (wo sets p) j (acc ++ [p]) hg' hjK (by rw [List.length_append, List.length_singleton]; omega)
      refine ⟨p :: r, X, ?_, .pick c1 hg'.a h2⟩
      rw [List.append_assoc] at h1
      unfold forS
      refine bq (bq (without_is sets p) (bq (x := true) ?_ ?_)) h1
      · rw [if_pos (decide_eq_true (by show ((wo sets p).length : Int) < (sets.length : Int); omega))]
        refine bq (x := metB (wo sets p) j) ?_ (by rw [metB_iff.mpr hg'.a])
        show m_can_be_met K (wo sets p) (((j + 1 : Nat) : Int) - 1) = _
        rw [show ((j + 1 : Nat) : Int) - 1 = (j : Int) by omega]
        exact met_is K j _ (by omega)
      · rw [if_pos rfl]
        refine bq (x := (Tp.mk (acc ++ [p]), wo sets p, (j : Int))) (bq (x := acc ++ [p]) (if_pos (by show acc.length + 1 ≤ _; omega)) (bq rfl ?_)) rfl
        show some (Tp.mk (acc ++ [p]), wo sets p, ((j + 1 : Nat) : Int) - 1) = _
        rw [show ((j + 1 : Nat) : Int) - 1 = (j : Int) by omega]
    · have hg' := hg.skip c
      obtain ⟨r, X, h1, h2⟩ := walk_go ps sets m acc hg' hm (by omega)
      refine ⟨r, X, ?_, .skip c h2⟩
      unfold forS
      refine bq (bq (without_is sets p) (bq (x := false) ?_ rfl)) h1
      by_cases d : (wo sets p).length < sets.length
      · rw [if_pos (decide_eq_true (by show ((wo sets p).length : Int) < (sets.length : Int); omega))]
        match m, hg, hm, c with
        | 0, hg, _, _ =>
          exfalso
          cases sets with
          | nil => simp [wo] at d
          | cons s0 ss => exact met_zero hg.a
        | j + 1, hg, hm, c =>
          refine bq (x := metB (wo sets p) j) ?_ ?_
          · show m_can_be_met K (wo sets p) (((j + 1 : Nat) : Int) - 1) = _
            rw [show ((j + 1 : Nat) : Int) - 1 = (j : Int) by omega]
            exact met_is K j _ (by omega)
          · rw [metB_false.mpr fun z => c ⟨d, j, rfl, z⟩]
      · rw [if_neg]
        rw [decide_eq_false (by show ¬ ((wo sets p).length : Int) < (sets.length : Int); omega)]
        decide
/-! ### free places rise -/
theorem frees_up (n : Net) : Up (frees n) := by
  unfold frees enumL
  have h : Up ((n.b.zipIdx.map fun p => (((p.2 : Nat) : Int), p.1)).map fun x => x.1) := by
    rw [List.map_map]
    have e : ((fun x : Int × Gt => x.1) ∘ fun p : Gt × Nat => (((p.2 : Nat) : Int), p.1)) = (fun k : Nat => (k : Int)) ∘ Prod.snd := rfl
    rw [e, ← List.map_map, List.zipIdx_map_snd]
    show List.Pairwise _ _
    rw [List.pairwise_map]
    exact (List.pairwise_lt_range').imp fun {a b} h => by omega
  exact h.sublist (List.filter_sublist.map _)
theorem mem_frees {n : Net} {p : Int} : p ∈ frees n ↔ ∃ (q : Nat) (g : Gt), p = (q : Int) ∧ n.b[q]? = some g ∧ g.c = false := by
  unfold frees enumL
  rw [List.mem_map]
  constructor
  · rintro ⟨x, hx, rfl⟩
    obtain ⟨hx, hc⟩ := List.mem_filter.mp hx
    obtain ⟨y, hy, rfl⟩ := List.mem_map.mp hx
    have := List.mem_zipIdx hy
    refine ⟨y.2, y.1, rfl, ?_, by simpa using hc⟩
    have e := this.2.2
    simp only [Nat.sub_zero] at e
    rw [e]
    exact List.getElem?_eq_getElem _
  · rintro ⟨q, g, rfl, e, hc⟩
    refine ⟨((q : Int), g), List.mem_filter.mpr ⟨List.mem_map.mpr ⟨(g, q), ?_, rfl⟩, by simpa using hc⟩, rfl⟩
    obtain ⟨h, e⟩ := List.getElem?_eq_some_iff.mp e
    rw [List.mem_iff_getElem?]
    exact ⟨q, by rw [List.getElem?_zipIdx, List.getElem?_eq_getElem h, e]; simp⟩
theorem least_free {n : Net} {level : Str} {many : Nat} : ∀ s ∈ least (frees n) (bk n level) many, (∀ x ∈ s.l, x ∈ frees n) ∧ s.l ≠ [] := fun s hs => by
  obtain ⟨k, h1, _, h3, _⟩ := least_in hs
  obtain ⟨_, a, b⟩ := mem_sets.mp h3
  exact ⟨a, fun e => by rw [e] at b; simp at b; omega⟩
structure Sr (n : Net) (level : Str) (many : Nat) (r : List Int) : Prop where
  inF : ∀ x ∈ r, x ∈ frees n
  up : Up r
  hit : Hit r (least (frees n) (bk n level) many)
  few : ∀ j, j < r.length → ¬ Met (least (frees n) (bk n level) many) j
  min : ∀ T, Up T → Hit T (least (frees n) (bk n level) many) → T.length = r.length → ¬ lx T r
theorem surest_is {K : Nat} {n : Net} (hw : Wf n) (hb : n.b.length ≤ 100) (hK : n.b.length < K) {many : Nat} (hm : many ≤ 3) (level : Str) {mir : Option (Tp Int)} (hmir : mir = ((m_breaking n (many : Int) level).bind fun r1 =>
(whileS (S := Int) (fun (s4 : Int) => (m_can_be_met K r1 s4).bind fun r10 => some (!r10)) (fun (s4 : Int) => (
some (s4 + (1 : Int)) : Option (Int))) FUEL (0 : Int)).bind fun s12 =>
(some ((Tp.mk []) : (Tp Int))).bind fun v13 =>
(m_free_places n).bind fun r15 =>
(forS (S := (Tp Int) × (List (Tp Int)) × Int) (fun (x19 : Int) (s18 : (Tp Int) × (List (Tp Int)) × Int) => (
(m_without s18.2.1 x19).bind fun r23 =>
(if (decide ((r23.length : Int) < (s18.2.1.length : Int))) = true then ((m_can_be_met K r23 (s18.2.2 - (1 : Int))).bind fun r26 => some r26) else some false).bind fun b28 =>
(if b28 = true then (
(extO s18.1.l ((Tp.mk [x19]) : (Tp Int)).l).bind fun t31 =>
(some (Tp.mk t31)).bind fun v33 =>
some (v33, r23, (s18.2.2 - (1 : Int))))
else (
some (s18.1, s18.2.1, s18.2.2)) : Option ((Tp Int) × (List (Tp Int)) × Int)).bind fun j29 =>
some (j29.1, j29.2.1, j29.2.2) : Option ((Tp Int) × (List (Tp Int)) × Int))) r15 (v13, r1, s12)).bind fun s35 =>
some s35.1)) : ∃ r, mir = some (Tp.mk r) ∧ Sr n level many r := by
  have fl := frees_len n
  have lf := least_free (n := n) (level := level) (many := many)
  have mt : Met (least (frees n) (bk n level) many) (frees n).length := ⟨frees n, fun s hs => by
    obtain ⟨a, b⟩ := lf s hs
    match hs' : s.l, b with
    | x :: xs, _ => exact ⟨x, List.mem_cons_self .., a x (by rw [hs']; exact List.mem_cons_self ..)⟩, Nat.le_refl _⟩
  obtain ⟨m, m1, m2, m3⟩ := least_m mt
  have gi := gi_start m2 m3 fun s hs x hx => (lf s hs).1 x hx
  obtain ⟨r, X, h1, h2⟩ := walk_go (K := K) (frees n) _ m [] gi (by omega) (by simp; omega)
  obtain ⟨g1, g2, g3, g4, g5⟩ := gr_ok h2 (frees_up n) gi
  have ff : FUEL = 1000000 := rfl
  refine ⟨r, ?_, ⟨g1, g2, g4, by rw [g3]; exact m3, by rw [g3]; exact g5⟩⟩
  rw [hmir]
  refine bq (breaking_is hw hb hm level) (bq (left_go (K := K) (by omega) m2 m3 m 0 FUEL (by omega) (by omega)) (bq rfl (bq (free_is n) (bq h1 ?_))))
  rw [List.nil_append]
end W

namespace W
open PySem L2 TL
open Enc
theorem next_ok {p : List Int} {many : Int} (hp : p.length = 2) (h : 0 < many) (h1 : many < 1073741824) : Ok (m__law_next p many) fun r => (0 ≤ r.1 ∧ r.1 < many) ∧ r.2.length = 2 := by
  unfold m__law_next
  refine Ok.bind (Ok.atI (by omega) (by omega)) fun t1 _ => ?_
  refine Ok.bind (Ok.setO (by omega) (by omega)) fun u3 e3 => ?_
  have l3 : u3.length = 2 := by rw [e3, List.length_set]; exact hp
  refine Ok.bind (Ok.atI (by omega) (by omega)) fun t5 _ => ?_
  refine Ok.ite (fun _ => ?_) (fun _ => ?_)
  · refine Ok.bind (Ok.fdivO h h1) fun t7 _ => ?_
    refine Ok.bind (Ok.setO (by omega) (by omega)) fun u9 e9 => ?_
    refine Ok.bind (Ok.modO h) fun t11 h11 => ?_
    exact Ok.pure ⟨h11.2, by rw [e9, List.length_set]; exact l3⟩
  · refine Ok.bind (Ok.atI (by omega) (by omega)) fun t13 _ => Ok.lt ?_
    refine Ok.bind (Ok.mulO (by omega) (by omega)) fun t17 _ => Ok.lt ?_
    refine Ok.bind (Ok.atI (by omega) (by omega)) fun t21 _ => ?_
    refine Ok.bind (Ok.modO h) fun t23 h23 => ?_
    exact Ok.pure ⟨h23.2, l3⟩
/-! ### nets of not and xor -/
def Xg (top : Int) (g : Gt) : Prop := (g.a = ("not" : Str) ∧ ∃ u, g.b.l = [u] ∧ 0 ≤ u ∧ u < top) ∨ (g.a = ("xor" : Str) ∧ ∃ u v, g.b.l = [u, v] ∧ (0 ≤ u ∧ u < top) ∧ 0 ≤ v ∧ v < top)
theorem Xg.ok {top : Int} {g : Gt} (h : Xg top g) : GtOk top g := by
  rcases h with ⟨h1, u, h2, h3⟩ | ⟨h1, u, v, h2, h3, h4⟩
  · refine ⟨by rw [h1]; unfold kinds5; simp, by rw [h1, h2, show cnt ("not" : Str) = 1 by decide +kernel]; rfl, fun w hw => ?_⟩
    rw [h2, List.mem_singleton] at hw
    rw [hw]; exact h3
  · refine ⟨by rw [h1]; unfold kinds5; simp, by rw [h1, h2, show cnt ("xor" : Str) = 2 by decide +kernel]; rfl, fun w hw => ?_⟩
    rw [h2, List.mem_cons, List.mem_singleton] at hw
    rcases hw with e | e <;> rw [e]
    · exact h3
    · exact h4
structure X23 (n : Net) : Prop where
  al : 1 ≤ n.a.length ∧ n.a.length ≤ 6
  one : ∀ x ∈ n.a, x.2 = 1
  gl : n.b.length ≤ 40
  gs : ∀ (i : Nat) g, n.b[i]? = some g → Xg ((n.a.length : Int) + i) g
  cl : n.c.length ≤ 6
  os : ∀ o ∈ n.c, ∃ w, o.2.l = [w] ∧ 0 ≤ w ∧ w < (n.a.length : Int) + n.b.length
theorem ah_one {n : Net} (h : ∀ x ∈ n.a, x.2 = 1) : ah n = n.a.length := by
  unfold ah
  generalize n.a = xs at h
  induction xs with
  | nil => rfl
  | cons x xs ih =>
    rw [List.map_cons, List.sum_cons, ih fun y hy => h y (List.mem_cons_of_mem _ hy), h x (List.mem_cons_self ..), List.length_cons]
    omega
theorem X23.ah {n : Net} (h : X23 n) : ah n = n.a.length := ah_one h.one
theorem X23.wf {n : Net} (h : X23 n) : Wf n where
  al := h.al.2
  w := fun x hx => by rw [h.one x hx]; omega
  gl := by have := h.gl; omega
  gs := fun i g e => by rw [h.ah]; exact (h.gs i g e).ok
  cl := by have := h.cl; omega
  os := fun o ho => by
    obtain ⟨w, e, w0, w1⟩ := h.os o ho
    rw [e, h.ah]
    exact ⟨⟨by simp, by simp⟩, fun u hu => by rw [List.mem_singleton.mp hu]; exact ⟨w0, w1⟩⟩
theorem sign_ok {x : Int} (h0 : 0 ≤ x) (h1 : x < 6) : ∃ t u, signAt ("abcdef" : Str) x = some t ∧ catSO ("o" : Str) t = some u := by
  have : ∀ i : Fin 6, ((signAt ("abcdef" : Str) ((i.val : Nat) : Int)).bind fun t => catSO ("o" : Str) t).isSome = true := by decide +kernel
  have := this ⟨x.toNat, by omega⟩
  have e : (((⟨x.toNat, by omega⟩ : Fin 6).val : Nat) : Int) = x := by show ((x.toNat : Nat) : Int) = x; omega
  rw [e] at this
  obtain ⟨u, hu⟩ := Option.isSome_iff_exists.mp this
  obtain ⟨t, h1, h2⟩ := Option.bind_eq_some_iff.mp hu
  exact ⟨t, u, h1, h2⟩
theorem min2_in (a b : Int) : min2 a b ≤ a ∧ min2 a b ≤ b ∧ (min2 a b = a ∨ min2 a b = b) := by unfold min2; split <;> omega
theorem net_ok {p cells : List Int} (hp : p.length = 2) (hc : cells.length ≤ 40) : Ok (m__law_some_net p cells) fun r => X23 r.1 ∧ r.2.length = 2 := by
  unfold m__law_some_net
  refine Ok.bind (next_ok hp (by omega) (by omega)) fun r1 h1 => Ok.lt ?_
  have e3 := cutL_to ([("a" : Str), ("bb" : Str), ("signal" : Str), ("x" : Str), ("yes" : Str), ("abcdefgh" : Str)] : List Str) ((1 : Int) + r1.1) (by omega)
  rw [e3]
  have l3 : 1 ≤ (([("a" : Str), ("bb" : Str), ("signal" : Str), ("x" : Str), ("yes" : Str), ("abcdefgh" : Str)] : List Str).take (1 + r1.1).toNat).length ∧ (([("a" : Str), ("bb" : Str), ("signal" : Str), ("x" : Str), ("yes" : Str), ("abcdefgh" : Str)] : List Str).take (1 + r1.1).toNat).length ≤ 6 := by
    rw [List.length_take]
    show 1 ≤ min _ 6 ∧ min _ 6 ≤ 6
    omega
  generalize ([("a" : Str), ("bb" : Str), ("signal" : Str), ("x" : Str), ("yes" : Str), ("abcdefgh" : Str)] : List Str).take (1 + r1.1).toNat = names at l3
  refine Ok.lt ?_
  refine Ok.bind (Ok.forSi (fun k s => s.length = k ∧ ∀ (i : Nat) g, s[i]? = some g → Xg ((names.length : Int) + i) g) cells 0 _ ⟨rfl, fun i g h => by simp at h⟩ fun i x s hx hs => ?_) fun s37 h37 => ?_
  · have hi := get_lt hx
    obtain ⟨q1, q2⟩ := hs
    refine Ok.lt ?_
    have m6 := min2_in ((names.length : Int) + (s.length : Int)) 6
    refine Ok.bind (next_ok (p := [x, 0]) rfl (by omega) (by omega)) fun r15 h15 => Ok.lt (Ok.lt ?_)
    refine Ok.bind (next_ok h15.2 (by omega) (by omega)) fun r21 h21 => ?_
    refine Ok.bind (P := fun j => Xg ((names.length : Int) + (s.length : Int)) (T3.mk j.1 j.2.1 true) ∧ j.2.2.length = 2) (Ok.ite (fun _ => ?_) fun _ => ?_) fun j hj => ?_
    · refine Ok.lt (Ok.bind (next_ok h21.2 (by omega) (by omega)) fun r27 h27 => ?_)
      refine oq (x := [(names.length : Int) + (s.length : Int) - 1 - r15.1] ++ [r27.1]) (if_pos (by show 1 + 1 ≤ 16777216; omega)) (Ok.lt (Ok.pure ⟨?_, h27.2⟩))
      refine .inr ⟨rfl, _, _, rfl, ?_, ?_⟩
      · omega
      · omega
    · refine Ok.pure ⟨.inl ⟨rfl, _, rfl, ?_⟩, h21.2⟩
      omega
    · obtain ⟨hX, hl⟩ := hj
      refine Ok.bind (next_ok hl (by omega) (by omega)) fun r33 h33 => ?_
      refine oq (x := s ++ [T3.mk j.1 j.2.1 (decide (r33.1 = (0 : Int)))]) (if_pos (by omega)) (Ok.pure ⟨by rw [List.length_append, List.length_singleton]; omega, fun k g hk => ?_⟩)
      rw [List.getElem?_append] at hk
      split at hk
      · exact q2 k g hk
      · have z : k = s.length := by
          have := get_lt hk
          simp at this
          omega
        subst z
        rw [Nat.sub_self] at hk
        have hk : T3.mk j.1 j.2.1 (decide (r33.1 = (0 : Int))) = g := by simpa using hk
        subst hk
        exact hX
  obtain ⟨q1, q2⟩ := h37
  rw [Nat.zero_add] at q1
  refine Ok.lt (Ok.lt ?_)
  refine Ok.bind (next_ok h1.2 (by omega) (by omega)) fun r44 h44 => ?_
  refine Ok.bind (Ok.rngO (by omega) (by omega)) fun l46 e46 => ?_
  refine Ok.bind (Ok.forSi (fun k s => (s.1.length = k ∧ ∀ o ∈ s.1, ∃ w, o.2.l = [w] ∧ 0 ≤ w ∧ w < (names.length : Int) + (s37.length : Int)) ∧ s.2.length = 2) l46 0 _ ⟨⟨rfl, fun o h => by cases h⟩, h44.2⟩ fun i x s hx hs => ?_) fun s64 h64 => ?_
  · rw [e46] at hx
    have hx := rngL_get hx
    obtain ⟨⟨p1, p2⟩, p3⟩ := hs
    obtain ⟨t, u, e1, e2⟩ := sign_ok (x := x) (by omega) (by omega)
    refine oq e1 (oq e2 ?_)
    have m8 := min2_in ((names.length : Int) + (s37.length : Int)) 8
    refine Ok.bind (Ok.atI (by omega) (by simp; omega)) fun t58 h58 => ?_
    have h5 : t58 = (names.length : Int) + (s37.length : Int) ∨ t58 = min2 ((names.length : Int) + (s37.length : Int)) 8 := by simpa using get_mem h58
    refine Ok.bind (next_ok p3 (by omega) (by omega)) fun r60 h60 => ?_
    refine oq (x := s.1 ++ [(u, Tp.mk [(names.length : Int) + (s37.length : Int) - 1 - r60.1])]) (if_pos (by omega)) (Ok.pure ⟨⟨by show (s.1 ++ [_]).length = _; rw [List.length_append, List.length_singleton]; omega, fun o ho => ?_⟩, h60.2⟩)
    rcases List.mem_append.mp ho with ho | ho
    · exact p2 o ho
    · rw [List.mem_singleton.mp ho]
      exact ⟨_, rfl, by omega, by omega⟩
  obtain ⟨⟨p1, p2⟩, p3⟩ := h64
  refine Ok.pure ⟨⟨?_, fun x hx => ?_, ?_, fun i g e => ?_, ?_, fun o ho => ?_⟩, p3⟩
  · show 1 ≤ (names.map _).length ∧ (names.map _).length ≤ 6
    rw [List.length_map]; exact l3
  · obtain ⟨y, _, rfl⟩ := List.mem_map.mp hx
    rfl
  · show s37.length ≤ 40
    omega
  · show Xg (((names.map _).length : Int) + i) g
    rw [List.length_map]
    exact q2 i g e
  · show s64.1.length ≤ 6
    rw [p1, e46, rngL_length]
    omega
  · show ∃ w, o.2.l = [w] ∧ 0 ≤ w ∧ w < ((names.map _).length : Int) + (s37.length : Int)
    rw [List.length_map]
    exact p2 o ho
end W

namespace W
open PySem L2 TL
open Enc
/-! ### parities -/
def xr : Nat → (Nat → Bool) → Bool
  | 0, _ => false
  | n + 1, f => xr n f ^^ f n
theorem xr_cg {f g : Nat → Bool} : ∀ {L : Nat}, (∀ u, u < L → f u = g u) → xr L f = xr L g
  | 0, _ => rfl
  | L + 1, h => by unfold xr; rw [xr_cg fun u hu => h u (by omega), h L (by omega)]
theorem xr_upd {f g : Nat → Bool} {w : Nat} : ∀ {L : Nat}, w < L → (∀ u, u ≠ w → f u = g u) → xr L g = (xr L f ^^ (f w ^^ g w))
  | 0, h, _ => absurd h (Nat.not_lt_zero w)
  | L + 1, h, k => by
    unfold xr
    by_cases e : w = L
    · subst e
      rw [xr_cg (f := g) (g := f) fun u hu => (k u (by omega)).symm]
      cases xr w f <;> cases f w <;> cases g w <;> rfl
    · rw [xr_upd (by omega : w < L) k, k L (fun z => e z.symm)]
      cases xr L f <;> cases f w <;> cases g w <;> cases g L <;> rfl
theorem xr_none {f : Nat → Bool} : ∀ {L : Nat}, (∀ u, u < L → f u = false) → xr L f = false
  | 0, _ => rfl
  | L + 1, h => by unfold xr; rw [xr_none fun u hu => h u (by omega), h L (by omega)]; rfl
theorem xr_some {f : Nat → Bool} : ∀ {L : Nat}, xr L f = true → ∃ u, u < L ∧ f u = true
  | 0, h => by cases h
  | L + 1, h => by
    unfold xr at h
    cases e : f L with
    | true => exact ⟨L, by omega, e⟩
    | false =>
      rw [e, Bool.xor_false] at h
      obtain ⟨u, hu, q⟩ := xr_some h
      exact ⟨u, by omega, q⟩
theorem xr_at {f : Nat → Bool} {w : Nat} {L : Nat} (h : w < L) : xr L (fun u => f u && decide (u = w)) = f w := by
  rw [xr_upd (f := fun _ => false) (w := w) h fun u hu => by rw [decide_eq_false hu, Bool.and_false], xr_none fun _ _ => rfl, decide_eq_true rfl]
  cases f w <;> rfl
def xl (δ : Nat → Bool) : List Int → Bool
  | [] => false
  | u :: us => δ u.toNat ^^ xl δ us
/-! ### masks -/
def msk (K : Nat) (B : Nat → Nat → Bool) (L : Nat) : List Int := (List.range L).map fun w => mk K (B w)
theorem msk_len (K : Nat) (B : Nat → Nat → Bool) (L : Nat) : (msk K B L).length = L := by unfold msk; simp
theorem msk_at {K : Nat} {B : Nat → Nat → Bool} {L : Nat} {x : Int} (h0 : 0 ≤ x) (h1 : x < L) : L2.atI (msk K B L) x = some (mk K (B x.toNat)) := by
  unfold L2.atI ixN
  rw [if_pos h0, if_pos (by rw [msk_len]; exact h1)]
  unfold msk
  show ((List.range L).map _)[x.toNat]? = _
  rw [List.getElem?_map, List.getElem?_range (by omega)]
  rfl
theorem msk_set {K : Nat} {B : Nat → Nat → Bool} {L : Nat} {x : Int} (m : Nat → Bool) (h0 : 0 ≤ x) (h1 : x < L) : setO (msk K B L) x (mk K m) = some (msk K (fun w => if w = x.toNat then m else B w) L) := by
  unfold setO ixN
  rw [if_pos h0, if_pos (by rw [msk_len]; exact h1)]
  refine congrArg some ?_
  apply List.ext_getElem?
  intro i
  rw [List.getElem?_set, msk_len]
  unfold msk
  by_cases e : x.toNat = i
  · subst e
    rw [if_pos rfl, if_pos (by omega), List.getElem?_map, List.getElem?_range (by omega)]
    show _ = some (mk K (if x.toNat = x.toNat then m else B x.toNat))
    rw [if_pos rfl]
  · rw [if_neg e, List.getElem?_map, List.getElem?_map]
    rcases Nat.lt_or_ge i L with c | c
    · rw [List.getElem?_range c]
      show some _ = some (mk K (if i = x.toNat then m else B i))
      rw [if_neg fun z => e z.symm]
    · rw [List.getElem?_eq_none (by simpa using c)]; rfl
theorem mk_pow {K : Nat} : ∀ {k : Nat}, k < K → mk K (fun j => decide (j = k)) = 2 ^ k := by
  induction K with
  | zero => intro k h; omega
  | succ K ih =>
    intro k h
    rw [mk_succ]
    by_cases e : k = K
    · subst e
      rw [mk_eq0.mpr fun j hj => decide_eq_false (by omega), decide_eq_true rfl]
      simp [b2n]
    · rw [ih (by omega), decide_eq_false fun z => e z.symm]
      simp [b2n]
theorem shl_one {K k : Nat} (h : k < K) (h6 : K ≤ 6) : shlO (1 : Int) (k : Int) = some (mk K fun j => decide (j = k)) := by
  unfold shlO
  rw [if_pos (by omega), mk_pow h, Int.toNat_natCast, Int.one_mul]
theorem outs_go {K L : Nat} (h6 : K ≤ 6) : ∀ (os : List (Str × Tp Int)) (q : Nat) (B : Nat → Nat → Bool), q + os.length ≤ K → (∀ o ∈ os, ∃ w, o.2.l = [w] ∧ 0 ≤ w ∧ w < (L : Int)) →
    ∃ B', forS (S := List Int) (fun (x6 : (Int × (Str × (Tp Int)))) (s5 : List Int) => (
(atI x6.2.2.l (0 : Int)).bind fun t10 =>
(atI s5 t10).bind fun t12 =>
(shlO (1 : Int) x6.1).bind fun t14 =>
(atI x6.2.2.l (0 : Int)).bind fun t16 =>
(setO s5 t16 (Builtin.bitXor t12 t14)).bind fun u18 =>
some u18 : Option (List Int))) ((os.zipIdx q).map fun p => (((p.2 : Nat) : Int), p.1)) (msk K B L) = some (msk K B' L) ∧
      ∀ (δ : Nat → Bool) (k : Nat), (k < q → xr L (fun w => B' w k && δ w) = xr L fun w => B w k && δ w) ∧ ∀ o, q ≤ k → os[k - q]? = some o → xr L (fun w => B' w k && δ w) = (xr L (fun w => B w k && δ w) ^^ δ (o.2.l.headD 0).toNat)
  | [], q, B, _, _ => ⟨B, rfl, fun δ k => ⟨fun _ => rfl, fun o _ e => by simp at e⟩⟩
  | o :: os, q, B, hq, ho => by
    rw [List.length_cons] at hq
    obtain ⟨w, ew, w0, w1⟩ := ho o (List.mem_cons_self ..)
    obtain ⟨B', h1, h2⟩ := outs_go h6 os (q + 1) (fun u => if u = w.toNat then (fun j => B w.toNat j ^^ decide (j = q)) else B u) (by omega) fun y hy => ho y (List.mem_cons_of_mem _ hy)
    have step : ∀ (δ : Nat → Bool) (k : Nat), xr L (fun u => (if u = w.toNat then (fun j => B w.toNat j ^^ decide (j = q)) else B u) k && δ u) = (xr L (fun u => B u k && δ u) ^^ (decide (k = q) && δ w.toNat)) := fun δ k => by
      rw [xr_upd (f := fun u => B u k && δ u) (w := w.toNat) (by omega) fun u hu => by simp only [if_neg hu]]
      simp only [if_pos]
      cases xr L (fun u => B u k && δ u) <;> cases B w.toNat k <;> cases decide (k = q) <;> cases δ w.toNat <;> rfl
    refine ⟨B', ?_, fun δ k => ⟨fun hk => ?_, fun o' hk e => ?_⟩⟩
    · rw [List.zipIdx_cons, List.map_cons]
      unfold forS
      refine bq (bq (x := w) (by rw [ew]; rfl) (bq (msk_at w0 w1) (bq (shl_one (K := K) (by omega) h6) (bq (x := w) (by rw [ew]; rfl) ?_)))) h1
      rw [mk_xor]
      exact bq (msk_set _ w0 w1) rfl
    · rw [(h2 δ k).1 (by omega), step, decide_eq_false (by omega), Bool.false_and, Bool.xor_false]
    · by_cases c : k = q
      · subst c
        rw [Nat.sub_self] at e
        have e : o = o' := by simpa using e
        subst e
        rw [(h2 δ k).1 (by omega), step, decide_eq_true rfl, Bool.true_and, ew]
        rfl
      · rw [(h2 δ k).2 o' (by omega) (by rw [show k - q = (k - (q + 1)) + 1 by omega, List.getElem?_cons_succ] at e; exact e), step, decide_eq_false c, Bool.false_and, Bool.xor_false]
theorem wires_go {K L x : Nat} (hx : x < L) : ∀ (ws : List Int) (B : Nat → Nat → Bool), (∀ u ∈ ws, 0 ≤ u ∧ u < (x : Int)) →
    ∃ B', forS (S := List Int) (fun (x33 : Int) (s32 : List Int) => (
(atI s32 x33).bind fun t37 =>
(atI s32 (x : Int)).bind fun t39 =>
(setO s32 x33 (Builtin.bitXor t37 t39)).bind fun u41 =>
some u41 : Option (List Int))) ws (msk K B L) = some (msk K B' L) ∧ (∀ w, x ≤ w → B' w = B w) ∧ ∀ (δ : Nat → Bool) (k : Nat), xr x (fun w => B' w k && δ w) = (xr x (fun w => B w k && δ w) ^^ (B x k && xl δ ws))
  | [], B, _ => ⟨B, rfl, fun _ _ => rfl, fun δ k => by show _ = (_ ^^ (_ && false)); rw [Bool.and_false, Bool.xor_false]⟩
  | u :: ws, B, hu => by
    obtain ⟨u0, u1⟩ := hu u (List.mem_cons_self ..)
    obtain ⟨B', h1, h2, h3⟩ := wires_go hx ws (fun w => if w = u.toNat then (fun j => B u.toNat j ^^ B x j) else B w) fun y hy => hu y (List.mem_cons_of_mem _ hy)
    have ex : (if x = u.toNat then (fun j => B u.toNat j ^^ B x j) else B x) = B x := if_neg (by omega)
    refine ⟨B', ?_, fun w hw => ?_, fun δ k => ?_⟩
    · unfold forS
      refine bq (bq (msk_at u0 (by omega)) (bq (msk_at (x := (x : Int)) (by omega) (by omega)) ?_)) h1
      rw [mk_xor]
      exact bq (msk_set _ u0 (by omega)) rfl
    · rw [h2 w hw]
      exact if_neg (by omega)
    · have e3 := h3 δ k
      simp only [ex] at e3
      rw [e3, xr_upd (f := fun w => B w k && δ w) (w := u.toNat) (by omega) fun w hw => by simp only [if_neg hw]]
      simp only [if_pos]
      show _ = (_ ^^ (_ && (δ u.toNat ^^ xl δ ws)))
      cases xr x (fun w => B w k && δ w) <;> cases B u.toNat k <;> cases δ u.toNat <;> cases B x k <;> cases xl δ ws <;> rfl
theorem rngC_down (q : Nat) : rngC ((q : Int) - 1 + 1) (-1) (q + 1) = (q : Int) :: rngC ((q : Int) - 1) (-1) q := by
  unfold rngC
  rw [List.range_succ_eq_map, List.map_cons, List.map_map]
  congr 1
  · simp
  · refine List.map_congr_left fun i _ => ?_
    show (q : Int) - 1 + 1 + ((i + 1 : Nat) : Int) * -1 = (q : Int) - 1 + (i : Nat) * -1
    omega
theorem gates_go {K L I : Nat} {gs : List Gt} (hL : L = I + gs.length) (hg : ∀ (i : Nat) g, gs[i]? = some g → ∀ w ∈ g.b.l, 0 ≤ w ∧ w < (I : Int) + i) : ∀ (q : Nat) (B : Nat → Nat → Bool), q ≤ gs.length →
    ∃ P, forS (S := List Int) (fun (x25 : Int) (s24 : List Int) => (
(atI gs x25).bind fun t29 =>
(forS (S := List Int) (fun (x33 : Int) (s32 : List Int) => (
(atI s32 x33).bind fun t37 =>
(atI s32 ((I : Int) + x25)).bind fun t39 =>
(setO s32 x33 (Builtin.bitXor t37 t39)).bind fun u41 =>
some u41 : Option (List Int))) t29.b.l s24).bind fun s43 =>
some s43 : Option (List Int))) (rngC ((q : Int) - 1) (-1) q) (msk K B L) = some (msk K P L) ∧ (∀ w, I + q ≤ w → P w = B w) ∧
      ∀ (δ τ : Nat → Bool), (∀ w, w < I → δ w = false) → (∀ (p : Nat) g, p < q → gs[p]? = some g → δ (I + p) = (xl δ g.b.l ^^ τ p)) → ∀ k, xr (I + q) (fun w => B w k && δ w) = xr q fun p => P (I + p) k && τ p
  | 0, B, _ => ⟨B, rfl, fun _ _ => rfl, fun δ τ h0 _ k => xr_none fun u hu => by rw [h0 u (by omega), Bool.and_false]⟩
  | q + 1, B, hq => by
    have eg : gs[q]? = some gs[q] := List.getElem?_eq_getElem (by omega)
    have gin := hg q gs[q] eg
    obtain ⟨B1, w1, w2, w3⟩ := wires_go (K := K) (L := L) (x := I + q) (by omega) gs[q].b.l B (fun u hu => by have := gin u hu; omega)
    obtain ⟨P, p1, p2, p3⟩ := gates_go (K := K) hL hg q B1 (by omega)
    refine ⟨P, ?_, fun w hw => by rw [p2 w (by omega), w2 w (by omega)], fun δ τ h0 hδ k => ?_⟩
    · rw [show ((q + 1 : Nat) : Int) - 1 = (q : Int) - 1 + 1 by omega, rngC_down]
      unfold forS
      refine bq (bq (x := gs[q]) ?_ (bq ?_ rfl)) p1
      · unfold L2.atI ixN
        rw [if_pos (by omega), if_pos (by omega), Int.toNat_natCast]
        exact eg
      · rw [show (I : Int) + (q : Int) = ((I + q : Nat) : Int) by omega]
        exact w1
    · have e1 := p3 δ τ h0 (fun p g hp e => hδ p g (by omega) e) k
      rw [w3 δ k] at e1
      show (xr (I + q) (fun w => B w k && δ w) ^^ (B (I + q) k && δ (I + q))) = (xr q (fun p => P (I + p) k && τ p) ^^ (P (I + q) k && τ q))
      rw [← e1, hδ q gs[q] (by omega) eg, p2 (I + q) (by omega), w2 (I + q) (by omega)]
      cases xr (I + q) (fun w => B w k && δ w) <;> cases B (I + q) k <;> cases xl δ gs[q].b.l <;> cases τ q <;> rfl
theorem cut_from {α : Type} (xs : List α) (n : Nat) (h : n ≤ xs.length) : cutL xs (some (n : Int)) none = xs.drop n := by
  unfold cutL HT.sIx
  simp only
  rw [if_neg (by omega), show min ((n : Int)).toNat xs.length = n by omega]
  exact List.take_of_length_le (by rw [List.length_drop]; omega)
theorem turning_is {n : Net} (h : X23 n) : ∃ P : Nat → Nat → Bool, m__law_turning n = some ((List.range n.b.length).map fun p => mk n.c.length (P p)) ∧
    ∀ (δ τ : Nat → Bool), (∀ w, w < n.a.length → δ w = false) → (∀ (p : Nat) g, n.b[p]? = some g → δ (n.a.length + p) = (xl δ g.b.l ^^ τ p)) → ∀ (k : Nat) o, n.c[k]? = some o → δ (o.2.l.headD 0).toNat = xr n.b.length fun p => P p k && τ p := by
  have al := h.al
  have gl := h.gl
  have cl := h.cl
  obtain ⟨B0, b1, b2⟩ := outs_go (K := n.c.length) (L := n.a.length + n.b.length) cl n.c 0 (fun _ _ => false) (by omega) fun o ho => by
    obtain ⟨w, e, w0, w1⟩ := h.os o ho
    exact ⟨w, e, w0, by omega⟩
  obtain ⟨P, p1, p2, p3⟩ := gates_go (K := n.c.length) (L := n.a.length + n.b.length) (I := n.a.length) (gs := n.b) rfl (fun i g e w hw => (h.gs i g e).ok.2.2 w hw) n.b.length B0 (Nat.le_refl _)
  refine ⟨fun p => P (n.a.length + p), ?_, fun δ τ h0 hδ k o e => ?_⟩
  · unfold m__law_turning
    refine bq (x := msk n.c.length (fun _ _ => false) (n.a.length + n.b.length)) ?_ (bq b1 (bq (x := rngC ((n.b.length : Int) - 1) (-1) n.b.length) ?_ (bq p1 ?_)))
    · unfold repO
      rw [if_pos ⟨by show 1 * _ ≤ _; omega, by omega, by omega⟩]
      refine congrArg some ?_
      rw [show ((n.a.length : Int) + (n.b.length : Int)).toNat = n.a.length + n.b.length by omega]
      unfold msk
      rw [List.map_const', List.length_range, ← mk_zero]
      generalize n.a.length + n.b.length = L
      induction L with
      | zero => rfl
      | succ L ih => rw [List.replicate_succ, List.flatten_cons, ih, List.replicate_succ]; rfl
    · unfold rngDownO
      rw [if_pos (by omega), show ((n.b.length : Int) - 1 - -1).toNat = n.b.length by omega]
    · rw [cut_from _ _ (by rw [msk_len]; omega)]
      refine congrArg some ?_
      unfold msk
      apply List.ext_getElem?
      intro i
      rw [List.getElem?_drop, List.getElem?_map, List.getElem?_map]
      rcases Nat.lt_or_ge i n.b.length with c | c
      · rw [List.getElem?_range (by omega), List.getElem?_range c]; rfl
      · rw [List.getElem?_eq_none (by simp; omega), List.getElem?_eq_none (by simp; omega)]; rfl
  · have e1 := p3 δ τ h0 (fun p g _ e => hδ p g e) k
    rw [← e1, (b2 δ k).2 o (Nat.zero_le _) (by simpa using e), xr_none fun u _ => Bool.false_and _, Bool.false_xor]
end W

namespace W
open PySem L2 TL
open Enc
/-! ### what turned gates turn -/
def tp (t : List Int) (p : Nat) : Bool := decide ((p : Int) ∈ t)
theorem gb_not : ∀ x : Bool, gB ("not" : Str) [x] = !x := by decide +kernel
theorem gb_xor : ∀ x y : Bool, gB ("xor" : Str) [x, y] = (x ^^ y) := by decide +kernel
def dl (n : Net) (t : List Int) (i w : Nat) : Bool := atB (W1 n t i) (w : Int) ^^ atB (W0 n i) (w : Int)
theorem dl_ins {n : Net} (h : X23 n) (t : List Int) (i : Nat) {w : Nat} (hw : w < n.a.length) : dl n t i w = false := by
  have il := WB_ins h.wf (inB n.a.length i) no
  rw [h.ah] at il
  unfold dl W1 W0 WB
  rw [goB_low _ _ _ _ _ (by omega) (by omega), goB_low _ _ _ _ _ (by omega) (by omega), Bool.xor_self]
theorem dl_gate {n : Net} (h : X23 n) (t : List Int) (i : Nat) (p : Nat) (g : Gt) (e : n.b[p]? = some g) : dl n t i (n.a.length + p) = (xl (dl n t i) g.b.l ^^ tp t p) := by
  have il := WB_ins h.wf (inB n.a.length i) no
  rw [h.ah] at il
  have gx := h.gs p g e
  have gin := gx.ok.2.2
  have a := fun T => goB_at T n.b 0 (insB no n.a 0 (inB n.a.length i) []) p g e fun w hw => by have := gin w hw; omega
  have e1 : atB (W1 n t i) ((n.a.length + p : Nat) : Int) = (gB g.a (g.b.l.map (atB (W1 n t i))) ^^ tp t p) := by
    have := a (inT t)
    rw [il, Int.zero_add] at this
    rw [show ((n.a.length + p : Nat) : Int) = (n.a.length : Int) + p by omega]
    exact this
  have e0 : atB (W0 n i) ((n.a.length + p : Nat) : Int) = gB g.a (g.b.l.map (atB (W0 n i))) := by
    have := a no
    rw [il, Int.zero_add] at this
    rw [show ((n.a.length + p : Nat) : Int) = (n.a.length : Int) + p by omega]
    refine this.trans ?_
    show (_ ^^ false) = _
    rw [Bool.xor_false]
    rfl
  unfold dl
  rw [e1, e0]
  rcases gx with ⟨g1, u, g2, u0, u1⟩ | ⟨g1, u, v, g2, ⟨u0, u1⟩, v0, v1⟩
  · rw [g1, g2]
    show (gB ("not" : Str) [atB (W1 n t i) u] ^^ tp t p ^^ gB ("not" : Str) [atB (W0 n i) u]) = ((dl n t i u.toNat ^^ false) ^^ tp t p)
    rw [gb_not, gb_not]
    unfold dl
    rw [Int.toNat_of_nonneg u0]
    cases atB (W1 n t i) u <;> cases atB (W0 n i) u <;> cases tp t p <;> rfl
  · rw [g1, g2]
    show (gB ("xor" : Str) [atB (W1 n t i) u, atB (W1 n t i) v] ^^ tp t p ^^ gB ("xor" : Str) [atB (W0 n i) u, atB (W0 n i) v]) = ((dl n t i u.toNat ^^ (dl n t i v.toNat ^^ false)) ^^ tp t p)
    rw [gb_xor, gb_xor]
    unfold dl
    rw [Int.toNat_of_nonneg u0, Int.toNat_of_nonneg v0]
    cases atB (W1 n t i) u <;> cases atB (W0 n i) u <;> cases atB (W1 n t i) v <;> cases atB (W0 n i) v <;> cases tp t p <;> rfl
theorem rd_x {n : Net} (h : X23 n) {o : Str × Tp Int} (ho : o ∈ n.c) (s : Bs) : rd o s = (atB s (o.2.l.headD 0), false) ∧ 0 ≤ o.2.l.headD 0 := by
  obtain ⟨w, e, w0, _⟩ := h.os o ho
  unfold rd
  rw [e]
  exact ⟨rfl, w0⟩
theorem non_x {n : Net} (h : X23 n) (t : List Int) (i : Nat) : non n t i = false := by
  unfold non
  refine List.any_eq_false.mpr fun o ho => ?_
  rw [(rd_x h ho _).1]
  simp
/-- which outs each gate turns -/
def Pty (n : Net) (P : Nat → Nat → Bool) : Prop := ∀ (δ τ : Nat → Bool), (∀ w, w < n.a.length → δ w = false) → (∀ (p : Nat) g, n.b[p]? = some g → δ (n.a.length + p) = (xl δ g.b.l ^^ τ p)) → ∀ (k : Nat) o, n.c[k]? = some o → δ (o.2.l.headD 0).toNat = xr n.b.length fun p => P p k && τ p
def hitB (n : Net) (P : Nat → Nat → Bool) (t : List Int) : Prop := ∃ k, k < n.c.length ∧ xr n.b.length (fun p => P p k && tp t p) = true
theorem dif_x {n : Net} (h : X23 n) {P : Nat → Nat → Bool} (hP : Pty n P) (t : List Int) (i : Nat) : dif n t i = true ↔ hitB n P t := by
  have key : ∀ (k : Nat) o, n.c[k]? = some o → (((rd o (W1 n t i)).1 ^^ (rd o (W0 n i)).1) && !(rd o (W1 n t i)).2) = xr n.b.length fun p => P p k && tp t p := fun k o e => by
    have ho := List.mem_of_getElem? e
    rw [(rd_x h ho _).1, (rd_x h ho _).1, ← hP (dl n t i) (tp t) (fun w hw => dl_ins h t i hw) (dl_gate h t i) k o e]
    unfold dl
    rw [Int.toNat_of_nonneg (rd_x h ho []).2]
    show ((_ ^^ _) && !false) = _
    rw [Bool.not_false, Bool.and_true]
  unfold dif hitB
  rw [List.any_eq_true]
  constructor
  · rintro ⟨o, ho, q⟩
    obtain ⟨k, hk⟩ := List.mem_iff_getElem?.mp ho
    rw [key k o hk] at q
    exact ⟨k, (List.getElem?_eq_some_iff.mp hk).1, q⟩
  · rintro ⟨k, hk, q⟩
    have e := List.getElem?_eq_getElem hk
    exact ⟨n.c[k], List.getElem_mem hk, by rw [key k _ e]; exact q⟩
theorem bk_x {n : Net} (h : X23 n) {P : Nat → Nat → Bool} (hP : Pty n P) (level : Str) (t : Tp Int) : bk n level t = true ↔ hitB n P t.l := by
  have b : ∀ i, brk n level t.l i = dif n t.l i := fun i => by
    unfold brk
    rw [non_x h, Bool.or_false]
    split <;> rfl
  unfold bk
  rw [List.find?_isSome]
  constructor
  · rintro ⟨i, _, q⟩
    rw [b] at q
    exact (dif_x h hP t.l i).mp q
  · intro q
    refine ⟨0, List.mem_range.mpr (Nat.two_pow_pos _), ?_⟩
    rw [b]
    exact (dif_x h hP t.l 0).mpr q
theorem hit_one {n : Net} {P : Nat → Nat → Bool} {p : Nat} (hp : p < n.b.length) : hitB n P [(p : Int)] ↔ ∃ k, k < n.c.length ∧ P p k = true := by
  have e : ∀ k, xr n.b.length (fun u => P u k && tp [(p : Int)] u) = P p k := fun k => by
    rw [xr_cg (g := fun u => P u k && decide (u = p)) fun u _ => by
      unfold tp
      congr 1
      exact decide_eq_decide.mpr ⟨fun z => by have := List.mem_singleton.mp z; omega, fun z => by rw [z]; simp⟩]
    exact xr_at hp
  unfold hitB
  constructor
  · rintro ⟨k, hk, q⟩
    rw [e] at q
    exact ⟨k, hk, q⟩
  · rintro ⟨k, hk, q⟩
    exact ⟨k, hk, by rw [e]; exact q⟩
theorem hit_some {n : Net} {P : Nat → Nat → Bool} {t : List Int} (h : hitB n P t) : ∃ p : Nat, p < n.b.length ∧ (p : Int) ∈ t ∧ hitB n P [(p : Int)] := by
  obtain ⟨k, hk, q⟩ := h
  obtain ⟨p, hp, q⟩ := xr_some q
  rw [Bool.and_eq_true] at q
  exact ⟨p, hp, of_decide_eq_true q.2, (hit_one hp).mpr ⟨k, hk, q.1⟩⟩
/-! ### the smallest sets -/
theorem sets1 (ps : List Int) : setsP ps 1 = ps.map fun q => Tp.mk [q] := by
  show ([Tp.mk []].flatMap fun t => (ps.filter (can t)).map fun q => Tp.mk (t.l ++ [q])) = _
  rw [List.flatMap_cons, List.flatMap_nil, List.append_nil]
  have : ps.filter (can (Tp.mk [])) = ps := List.filter_eq_self.mpr fun _ _ => rfl
  rw [this]; rfl
theorem least_one {ps : List Int} {B : Tp Int → Bool} (h : ∀ t : Tp Int, B t = true → ∃ p ∈ t.l, B (Tp.mk [p]) = true) : ∀ m : Nat, least ps B (m + 1) = (ps.filter fun p => B (Tp.mk [p])).map fun p => Tp.mk [p]
  | 0 => by
    show least ps B 0 ++ layer ps B (least ps B 0) 1 = _
    show [] ++ layer ps B [] 1 = _
    rw [List.nil_append]
    unfold layer
    rw [sets1, List.filter_map]
    congr 1
  | m + 1 => by
    have ih := least_one (ps := ps) h m
    show least ps B (m + 1) ++ layer ps B (least ps B (m + 1)) (m + 2) = _
    have e : layer ps B (least ps B (m + 1)) (m + 2) = [] := by
      unfold layer
      refine List.filter_eq_nil_iff.mpr fun t ht q => ?_
      rw [Bool.and_eq_true] at q
      obtain ⟨p, hp, hB⟩ := h t q.2
      have hps := (mem_sets.mp ht).2.1 p hp
      have : ((least ps B (m + 1)).any fun s => sub s t) = true := by
        rw [ih]
        refine List.any_eq_true.mpr ⟨Tp.mk [p], List.mem_map.mpr ⟨p, List.mem_filter.mpr ⟨hps, hB⟩, rfl⟩, sub_iff.mpr fun x hx => ?_⟩
        rw [List.mem_singleton.mp hx]
        exact hp
      rw [this] at q
      exact Bool.noConfusion q.1
    rw [e, List.append_nil, ih]
theorem surest_one {n : Net} {level : Str} {many : Nat} {D r : List Int} (hD : Up D) (e : least (frees n) (bk n level) many = D.map fun p => Tp.mk [p]) (sr : Sr n level many r) : r = D := by
  have hs : ∀ x ∈ D, x ∈ r := fun x hx => by
    obtain ⟨y, hy, q⟩ := sr.hit (Tp.mk [x]) (by rw [e]; exact List.mem_map.mpr ⟨x, hx, rfl⟩)
    rw [List.mem_singleton.mp hy] at q
    exact q
  have l1 := up_le hD sr.up hs
  have l2 : ¬ D.length < r.length := fun z => sr.few D.length z ⟨D, fun s hs => by
    rw [e] at hs
    obtain ⟨p, hp, rfl⟩ := List.mem_map.mp hs
    exact ⟨p, List.mem_singleton.mpr rfl, hp⟩, Nat.le_refl _⟩
  exact (up_eq hD sr.up hs (by omega)).symm
/-! ### the law -/
def sureB (n : Net) (p : Nat) : Bool := (n.b[p]?).any fun g => g.c
def dueL (n : Net) (P : Nat → Nat → Bool) : List Int := ((List.range n.b.length).filter fun p => !decide (mk n.c.length (P p) = 0) && !sureB n p).map fun p : Nat => (p : Int)
theorem due_is {n : Net} (P : Nat → Nat → Bool) : filtO (fun (x21 : (Int × Int)) => (if (!decide (x21.2 = (0 : Int))) = true then ((atI n.b x21.1).bind fun t29 => some (!t29.c)) else some false).bind fun b31 => some b31) (fun (x21 : (Int × Int)) => some (x21.1 : Int)) (enumL ((List.range n.b.length).map fun p => mk n.c.length (P p))) = some (dueL n P) := by
  rw [enum_map]
  refine (filtO_both (fun x : Int × Int => !decide (x.2 = 0) && !sureB n x.1.toNat) (fun x => x.1) _ (fun x hx => ?_) fun x _ => rfl).trans ?_
  · obtain ⟨p, hp, rfl⟩ := List.mem_map.mp hx
    have hp := List.mem_range.mp hp
    show ((if (!decide (mk n.c.length (P p) = (0 : Int))) = true then ((atI n.b (p : Int)).bind fun t29 => some (!t29.c)) else some false).bind fun b31 => some b31) = some (!decide (mk n.c.length (P p) = (0 : Int)) && !sureB n ((p : Int)).toNat)
    cases decide (mk n.c.length (P p) = (0 : Int)) with
    | true => rfl
    | false =>
      have ea : L2.atI n.b (p : Int) = some n.b[p] := by
        unfold L2.atI ixN
        rw [if_pos (by omega), if_pos (by omega), Int.toNat_natCast]
        exact List.getElem?_eq_getElem hp
      rw [if_pos (by decide)]
      refine bq (bq ea rfl) ?_
      unfold sureB
      rw [Int.toNat_natCast, List.getElem?_eq_getElem hp]
      rfl
  · unfold dueL
    rw [List.filter_map, List.map_map]
    rfl
theorem mem_due {n : Net} (h : X23 n) {P : Nat → Nat → Bool} (hP : Pty n P) (level : Str) {x : Int} : x ∈ dueL n P ↔ x ∈ (frees n).filter fun p => bk n level (Tp.mk [p]) := by
  unfold dueL
  rw [List.mem_map, List.mem_filter, mem_frees]
  constructor
  · rintro ⟨p, hp, rfl⟩
    obtain ⟨hp, q⟩ := List.mem_filter.mp hp
    have hp := List.mem_range.mp hp
    rw [Bool.and_eq_true] at q
    refine ⟨⟨p, n.b[p], rfl, List.getElem?_eq_getElem hp, ?_⟩, (bk_x h hP level _).mpr ((hit_one hp).mpr ?_)⟩
    · have := q.2
      unfold sureB at this
      rw [List.getElem?_eq_getElem hp] at this
      simpa using this
    · have := q.1
      cases e : decide (∃ k, k < n.c.length ∧ P p k = true) with
      | true => exact of_decide_eq_true e
      | false =>
        have e := of_decide_eq_false e
        have z : mk n.c.length (P p) = 0 := mk_eq0.mpr fun k hk => by
          cases c : P p k with
          | false => rfl
          | true => exact absurd ⟨k, hk, c⟩ e
        rw [z] at this
        simp at this
  · rintro ⟨⟨p, g, rfl, e, hc⟩, hb⟩
    have hp := (List.getElem?_eq_some_iff.mp e).1
    obtain ⟨k, hk, c⟩ := (hit_one hp).mp ((bk_x h hP level _).mp hb)
    refine ⟨p, List.mem_filter.mpr ⟨List.mem_range.mpr hp, ?_⟩, rfl⟩
    rw [Bool.and_eq_true]
    refine ⟨?_, ?_⟩
    · have : ¬ mk n.c.length (P p) = 0 := fun z => by
        have := mk_eq0.mp z k hk
        rw [c] at this
        cases this
      simpa using this
    · unfold sureB
      rw [e]
      simpa using hc
theorem due_up {n : Net} {P : Nat → Nat → Bool} : Up (dueL n P) := by
  unfold dueL
  refine List.pairwise_map.mpr ((List.pairwise_lt_range.filter _).imp fun h => ?_)
  omega
theorem law_ok (ns : List Int) (hn : ns.length ≤ 63) : m_law ns = some true := by
  suffices h : Ok (m_law ns) fun r => r = true by
    obtain ⟨r, e, h⟩ := h
    rw [e, h]
  have lp : ∀ xs : List Int, xs.length ≤ 41 → (potsL xs).length ≤ 41 := fun xs hx => by
    unfold potsL
    split
    · decide
    · rw [cutL_to _ _ (by omega), List.length_take]; omega
  have l41 : (potsL (cutL ns none (some (41 : Int)))).length ≤ 41 := lp _ (by rw [cutL_to _ _ (by omega), List.length_take]; omega)
  obtain ⟨c, cs, e0⟩ := pots_ne (cutL ns none (some (41 : Int)))
  unfold m_law
  rw [e0] at l41 ⊢
  refine oq (x := c) rfl ?_
  refine Ok.bind (net_ok (p := [c, 0]) (cells := cs) rfl (by simpa using l41)) fun r6 h6 => Ok.lt ?_
  obtain ⟨hX, p6⟩ := h6
  generalize r6.1 = n at hX
  have w := hX.wf
  have gl := hX.gl
  have b2 : ∀ b : Bool, 0 ≤ b2n b ∧ b2n b ≤ 1 := by decide
  have c1 := b2 (decide ((n.b.length : Int) ≤ (16 : Int)))
  have c2 := b2 (decide ((n.b.length : Int) ≤ (12 : Int)))
  refine Ok.bind (next_ok p6 (by omega) (by omega)) fun r10 h10 => Ok.lt ?_
  refine Ok.bind (next_ok h10.2 (by omega) (by omega)) fun r14 h14 => ?_
  refine Ok.bind (Ok.atI h14.1.1 (by show _ < ((2 : Nat) : Int); omega)) fun level _ => ?_
  obtain ⟨many, em, hm, h0⟩ : ∃ m : Nat, (1 : Int) + r10.1 = ((m + 1 : Nat) : Int) ∧ m + 1 ≤ 3 ∧ 0 ≤ m := ⟨r10.1.toNat, by omega, by omega, by omega⟩
  rw [em]
  obtain ⟨P, t1, hP⟩ := turning_is hX
  refine oq t1 (oq (due_is P) ?_)
  have eL : least (frees n) (bk n level) (many + 1) = (dueL n P).map fun p => Tp.mk [p] := by
    rw [least_one fun t ht => ?_]
    · congr 1
      refine up_same ((frees_up n).filter _) due_up fun k => ?_
      exact (mem_due hX hP level).symm
    · obtain ⟨p, _, q1, q2⟩ := hit_some ((bk_x hX hP level t).mp ht)
      exact ⟨p, q1, (bk_x hX hP level _).mpr q2⟩
  obtain ⟨r, hr, sr⟩ : ∃ r, m_surest n ((many + 1 : Nat) : Int) level = some (Tp.mk r) ∧ Sr n level (many + 1) r := surest_is (K := 48) w (by omega) (by omega) hm level rfl
  have er := surest_one due_up eL sr
  subst er
  refine oq hr ?_
  rw [if_neg (by simp)]
  refine oq (breaking_is w (by omega) hm level) (Ok.pure ?_)
  rw [eL]
  simp
end W

namespace W
open PySem L2 TL
open Enc
theorem dfn_mk {K : Fg} {h : Heap} {mg : Str → Option Value} (X : K.In h) (G : h.Ns mainGlobals mg) {x : Str} {st : Stmt} {ps : List Str} {f : Addr} {od an : Option Addr} {sl : Array (Option Value)} {oc kV dc pm cd ct : Value}
    (a : PySem.W.nsIn K mainGlobals x = some (some (.ref f))) (l : K.lookup f = some ⟨oc, od, .func (PySem.W.fnOf x x (defArgs st) (defBody st) (defScope st) .none kV dc pm an cd ct), sl⟩) (c : PySem.W.codeIn K cd x = true) (k : PySem.W.keepIn K (.ref f) = true)
    (hb : ∀ (kV doc pm : Value) (an : Option Addr) (cdv ct : Value) (us : List Value), us.length = ps.length → bindArgs (PySem.W.fnOf x x (defArgs st) (defBody st) (defScope st) .none kV doc pm an cdv ct) ⟨us, []⟩ = pure (ps.zip us)) : Dfn K mg x st ps :=
  ⟨f, _, fun_mk l c k, PySem.W.mg_of X G a, (fun_mk l c k).binds hb⟩
theorem all_mk {l : PySem.W.OpenLaw} {w : World} {K : Fg} {h : Heap} {mg : Str → Option Value} {fa : Addr} (X : K.In h) (G : h.Ns mainGlobals mg) (hfa : mg "law" = some (.ref fa))
    {f0 : Addr} {od0 an0 : Option Addr} {sl0 : Array (Option Value)} {oc0 kV0 dc0 pm0 cd0 ct0 : Value} (a0 : PySem.W.nsIn K mainGlobals "_law_pots" = some (some (.ref f0))) (l0 : K.lookup f0 = some ⟨oc0, od0, .func (PySem.W.fnOf "_law_pots" "_law_pots" (defArgs (top 23)) (defBody (top 23)) (defScope (top 23)) .none kV0 dc0 pm0 an0 cd0 ct0), sl0⟩) (c0 : PySem.W.codeIn K cd0 "_law_pots" = true) (k0 : PySem.W.keepIn K (.ref f0) = true)
    {f1 : Addr} {od1 an1 : Option Addr} {sl1 : Array (Option Value)} {oc1 kV1 dc1 pm1 cd1 ct1 : Value} (a1 : PySem.W.nsIn K mainGlobals "_law_next" = some (some (.ref f1))) (l1 : K.lookup f1 = some ⟨oc1, od1, .func (PySem.W.fnOf "_law_next" "_law_next" (defArgs (top 22)) (defBody (top 22)) (defScope (top 22)) .none kV1 dc1 pm1 an1 cd1 ct1), sl1⟩) (c1 : PySem.W.codeIn K cd1 "_law_next" = true) (k1 : PySem.W.keepIn K (.ref f1) = true)
    {f2 : Addr} {od2 an2 : Option Addr} {sl2 : Array (Option Value)} {oc2 kV2 dc2 pm2 cd2 ct2 : Value} (a2 : PySem.W.nsIn K mainGlobals "_law_some_net" = some (some (.ref f2))) (l2 : K.lookup f2 = some ⟨oc2, od2, .func (PySem.W.fnOf "_law_some_net" "_law_some_net" (defArgs (top 24)) (defBody (top 24)) (defScope (top 24)) .none kV2 dc2 pm2 an2 cd2 ct2), sl2⟩) (c2 : PySem.W.codeIn K cd2 "_law_some_net" = true) (k2 : PySem.W.keepIn K (.ref f2) = true)
    {f3 : Addr} {od3 an3 : Option Addr} {sl3 : Array (Option Value)} {oc3 kV3 dc3 pm3 cd3 ct3 : Value} (a3 : PySem.W.nsIn K mainGlobals "all_inputs" = some (some (.ref f3))) (l3 : K.lookup f3 = some ⟨oc3, od3, .func (PySem.W.fnOf "all_inputs" "all_inputs" (defArgs (top 5)) (defBody (top 5)) (defScope (top 5)) .none kV3 dc3 pm3 an3 cd3 ct3), sl3⟩) (c3 : PySem.W.codeIn K cd3 "all_inputs" = true) (k3 : PySem.W.keepIn K (.ref f3) = true)
    {f4 : Addr} {od4 an4 : Option Addr} {sl4 : Array (Option Value)} {oc4 kV4 dc4 pm4 cd4 ct4 : Value} (a4 : PySem.W.nsIn K mainGlobals "gate_bits" = some (some (.ref f4))) (l4 : K.lookup f4 = some ⟨oc4, od4, .func (PySem.W.fnOf "gate_bits" "gate_bits" (defArgs (top 1)) (defBody (top 1)) (defScope (top 1)) .none kV4 dc4 pm4 an4 cd4 ct4), sl4⟩) (c4 : PySem.W.codeIn K cd4 "gate_bits" = true) (k4 : PySem.W.keepIn K (.ref f4) = true)
    {f5 : Addr} {od5 an5 : Option Addr} {sl5 : Array (Option Value)} {oc5 kV5 dc5 pm5 cd5 ct5 : Value} (a5 : PySem.W.nsIn K mainGlobals "how_many_ahead" = some (some (.ref f5))) (l5 : K.lookup f5 = some ⟨oc5, od5, .func (PySem.W.fnOf "how_many_ahead" "how_many_ahead" (defArgs (top 3)) (defBody (top 3)) (defScope (top 3)) .none kV5 dc5 pm5 an5 cd5 ct5), sl5⟩) (c5 : PySem.W.codeIn K cd5 "how_many_ahead" = true) (k5 : PySem.W.keepIn K (.ref f5) = true)
    {f6 : Addr} {od6 an6 : Option Addr} {sl6 : Array (Option Value)} {oc6 kV6 dc6 pm6 cd6 ct6 : Value} (a6 : PySem.W.nsIn K mainGlobals "gone_on" = some (some (.ref f6))) (l6 : K.lookup f6 = some ⟨oc6, od6, .func (PySem.W.fnOf "gone_on" "gone_on" (defArgs (top 4)) (defBody (top 4)) (defScope (top 4)) .none kV6 dc6 pm6 an6 cd6 ct6), sl6⟩) (c6 : PySem.W.codeIn K cd6 "gone_on" = true) (k6 : PySem.W.keepIn K (.ref f6) = true)
    {f7 : Addr} {od7 an7 : Option Addr} {sl7 : Array (Option Value)} {oc7 kV7 dc7 pm7 cd7 ct7 : Value} (a7 : PySem.W.nsIn K mainGlobals "ins_wires" = some (some (.ref f7))) (l7 : K.lookup f7 = some ⟨oc7, od7, .func (PySem.W.fnOf "ins_wires" "ins_wires" (defArgs (top 2)) (defBody (top 2)) (defScope (top 2)) .none kV7 dc7 pm7 an7 cd7 ct7), sl7⟩) (c7 : PySem.W.codeIn K cd7 "ins_wires" = true) (k7 : PySem.W.keepIn K (.ref f7) = true)
    {f8 : Addr} {od8 an8 : Option Addr} {sl8 : Array (Option Value)} {oc8 kV8 dc8 pm8 cd8 ct8 : Value} (a8 : PySem.W.nsIn K mainGlobals "all_wires" = some (some (.ref f8))) (l8 : K.lookup f8 = some ⟨oc8, od8, .func (PySem.W.fnOf "all_wires" "all_wires" (defArgs (top 6)) (defBody (top 6)) (defScope (top 6)) .none kV8 dc8 pm8 an8 cd8 ct8), sl8⟩) (c8 : PySem.W.codeIn K cd8 "all_wires" = true) (k8 : PySem.W.keepIn K (.ref f8) = true)
    {f9 : Addr} {od9 an9 : Option Addr} {sl9 : Array (Option Value)} {oc9 kV9 dc9 pm9 cd9 ct9 : Value} (a9 : PySem.W.nsIn K mainGlobals "sets_of" = some (some (.ref f9))) (l9 : K.lookup f9 = some ⟨oc9, od9, .func (PySem.W.fnOf "sets_of" "sets_of" (defArgs (top 11)) (defBody (top 11)) (defScope (top 11)) .none kV9 dc9 pm9 an9 cd9 ct9), sl9⟩) (c9 : PySem.W.codeIn K cd9 "sets_of" = true) (k9 : PySem.W.keepIn K (.ref f9) = true)
    {f10 : Addr} {od10 an10 : Option Addr} {sl10 : Array (Option Value)} {oc10 kV10 dc10 pm10 cd10 ct10 : Value} (a10 : PySem.W.nsIn K mainGlobals "free_places" = some (some (.ref f10))) (l10 : K.lookup f10 = some ⟨oc10, od10, .func (PySem.W.fnOf "free_places" "free_places" (defArgs (top 10)) (defBody (top 10)) (defScope (top 10)) .none kV10 dc10 pm10 an10 cd10 ct10), sl10⟩) (c10 : PySem.W.codeIn K cd10 "free_places" = true) (k10 : PySem.W.keepIn K (.ref f10) = true)
    {f11 : Addr} {od11 an11 : Option Addr} {sl11 : Array (Option Value)} {oc11 kV11 dc11 pm11 cd11 ct11 : Value} (a11 : PySem.W.nsIn K mainGlobals "has_within" = some (some (.ref f11))) (l11 : K.lookup f11 = some ⟨oc11, od11, .func (PySem.W.fnOf "has_within" "has_within" (defArgs (top 16)) (defBody (top 16)) (defScope (top 16)) .none kV11 dc11 pm11 an11 cd11 ct11), sl11⟩) (c11 : PySem.W.codeIn K cd11 "has_within" = true) (k11 : PySem.W.keepIn K (.ref f11) = true)
    {f12 : Addr} {od12 an12 : Option Addr} {sl12 : Array (Option Value)} {oc12 kV12 dc12 pm12 cd12 ct12 : Value} (a12 : PySem.W.nsIn K mainGlobals "read_bits" = some (some (.ref f12))) (l12 : K.lookup f12 = some ⟨oc12, od12, .func (PySem.W.fnOf "read_bits" "read_bits" (defArgs (top 7)) (defBody (top 7)) (defScope (top 7)) .none kV12 dc12 pm12 an12 cd12 ct12), sl12⟩) (c12 : PySem.W.codeIn K cd12 "read_bits" = true) (k12 : PySem.W.keepIn K (.ref f12) = true)
    {f13 : Addr} {od13 an13 : Option Addr} {sl13 : Array (Option Value)} {oc13 kV13 dc13 pm13 cd13 ct13 : Value} (a13 : PySem.W.nsIn K mainGlobals "outs_read" = some (some (.ref f13))) (l13 : K.lookup f13 = some ⟨oc13, od13, .func (PySem.W.fnOf "outs_read" "outs_read" (defArgs (top 8)) (defBody (top 8)) (defScope (top 8)) .none kV13 dc13 pm13 an13 cd13 ct13), sl13⟩) (c13 : PySem.W.codeIn K cd13 "outs_read" = true) (k13 : PySem.W.keepIn K (.ref f13) = true)
    {f14 : Addr} {od14 an14 : Option Addr} {sl14 : Array (Option Value)} {oc14 kV14 dc14 pm14 cd14 ct14 : Value} (a14 : PySem.W.nsIn K mainGlobals "reads_with" = some (some (.ref f14))) (l14 : K.lookup f14 = some ⟨oc14, od14, .func (PySem.W.fnOf "reads_with" "reads_with" (defArgs (top 12)) (defBody (top 12)) (defScope (top 12)) .none kV14 dc14 pm14 an14 cd14 ct14), sl14⟩) (c14 : PySem.W.codeIn K cd14 "reads_with" = true) (k14 : PySem.W.keepIn K (.ref f14) = true)
    {f15 : Addr} {od15 an15 : Option Addr} {sl15 : Array (Option Value)} {oc15 kV15 dc15 pm15 cd15 ct15 : Value} (a15 : PySem.W.nsIn K mainGlobals "spoilt" = some (some (.ref f15))) (l15 : K.lookup f15 = some ⟨oc15, od15, .func (PySem.W.fnOf "spoilt" "spoilt" (defArgs (top 13)) (defBody (top 13)) (defScope (top 13)) .none kV15 dc15 pm15 an15 cd15 ct15), sl15⟩) (c15 : PySem.W.codeIn K cd15 "spoilt" = true) (k15 : PySem.W.keepIn K (.ref f15) = true)
    {f16 : Addr} {od16 an16 : Option Addr} {sl16 : Array (Option Value)} {oc16 kV16 dc16 pm16 cd16 ct16 : Value} (a16 : PySem.W.nsIn K mainGlobals "broken_at" = some (some (.ref f16))) (l16 : K.lookup f16 = some ⟨oc16, od16, .func (PySem.W.fnOf "broken_at" "broken_at" (defArgs (top 14)) (defBody (top 14)) (defScope (top 14)) .none kV16 dc16 pm16 an16 cd16 ct16), sl16⟩) (c16 : PySem.W.codeIn K cd16 "broken_at" = true) (k16 : PySem.W.keepIn K (.ref f16) = true)
    {f17 : Addr} {od17 an17 : Option Addr} {sl17 : Array (Option Value)} {oc17 kV17 dc17 pm17 cd17 ct17 : Value} (a17 : PySem.W.nsIn K mainGlobals "breaking" = some (some (.ref f17))) (l17 : K.lookup f17 = some ⟨oc17, od17, .func (PySem.W.fnOf "breaking" "breaking" (defArgs (top 17)) (defBody (top 17)) (defScope (top 17)) .none kV17 dc17 pm17 an17 cd17 ct17), sl17⟩) (c17 : PySem.W.codeIn K cd17 "breaking" = true) (k17 : PySem.W.keepIn K (.ref f17) = true)
    {f18 : Addr} {od18 an18 : Option Addr} {sl18 : Array (Option Value)} {oc18 kV18 dc18 pm18 cd18 ct18 : Value} (a18 : PySem.W.nsIn K mainGlobals "without" = some (some (.ref f18))) (l18 : K.lookup f18 = some ⟨oc18, od18, .func (PySem.W.fnOf "without" "without" (defArgs (top 18)) (defBody (top 18)) (defScope (top 18)) .none kV18 dc18 pm18 an18 cd18 ct18), sl18⟩) (c18 : PySem.W.codeIn K cd18 "without" = true) (k18 : PySem.W.keepIn K (.ref f18) = true)
    {f19 : Addr} {od19 an19 : Option Addr} {sl19 : Array (Option Value)} {oc19 kV19 dc19 pm19 cd19 ct19 : Value} (a19 : PySem.W.nsIn K mainGlobals "can_be_met" = some (some (.ref f19))) (l19 : K.lookup f19 = some ⟨oc19, od19, .func (PySem.W.fnOf "can_be_met" "can_be_met" (defArgs (top 19)) (defBody (top 19)) (defScope (top 19)) .none kV19 dc19 pm19 an19 cd19 ct19), sl19⟩) (c19 : PySem.W.codeIn K cd19 "can_be_met" = true) (k19 : PySem.W.keepIn K (.ref f19) = true)
    {f20 : Addr} {od20 an20 : Option Addr} {sl20 : Array (Option Value)} {oc20 kV20 dc20 pm20 cd20 ct20 : Value} (a20 : PySem.W.nsIn K mainGlobals "surest" = some (some (.ref f20))) (l20 : K.lookup f20 = some ⟨oc20, od20, .func (PySem.W.fnOf "surest" "surest" (defArgs (top 20)) (defBody (top 20)) (defScope (top 20)) .none kV20 dc20 pm20 an20 cd20 ct20), sl20⟩) (c20 : PySem.W.codeIn K cd20 "surest" = true) (k20 : PySem.W.keepIn K (.ref f20) = true)
    {f21 : Addr} {od21 an21 : Option Addr} {sl21 : Array (Option Value)} {oc21 kV21 dc21 pm21 cd21 ct21 : Value} (a21 : PySem.W.nsIn K mainGlobals "_law_turning" = some (some (.ref f21))) (l21 : K.lookup f21 = some ⟨oc21, od21, .func (PySem.W.fnOf "_law_turning" "_law_turning" (defArgs (top 25)) (defBody (top 25)) (defScope (top 25)) .none kV21 dc21 pm21 an21 cd21 ct21), sl21⟩) (c21 : PySem.W.codeIn K cd21 "_law_turning" = true) (k21 : PySem.W.keepIn K (.ref f21) = true)
    {f22 : Addr} {od22 an22 : Option Addr} {sl22 : Array (Option Value)} {oc22 kV22 dc22 pm22 cd22 ct22 : Value} (a22 : PySem.W.nsIn K mainGlobals "law" = some (some (.ref f22))) (l22 : K.lookup f22 = some ⟨oc22, od22, .func (PySem.W.fnOf "law" "law" (defArgs (top 26)) (defBody (top 26)) (defScope (top 26)) .none kV22 dc22 pm22 an22 cd22 ct22), sl22⟩) (c22 : PySem.W.codeIn K cd22 "law" = true) (k22 : PySem.W.keepIn K (.ref f22) = true)
    (z_enumerate : PySem.W.nsIn K mainGlobals "enumerate" = some none)
    (z_int : PySem.W.nsIn K mainGlobals "int" = some none)
    (z_isinstance : PySem.W.nsIn K mainGlobals "isinstance" = some none)
    (z_len : PySem.W.nsIn K mainGlobals "len" = some none)
    (z_list : PySem.W.nsIn K mainGlobals "list" = some none)
    (z_min : PySem.W.nsIn K mainGlobals "min" = some none)
    (z_range : PySem.W.nsIn K mainGlobals "range" = some none)
    (z_sum : PySem.W.nsIn K mainGlobals "sum" = some none)
    (z_tuple : PySem.W.nsIn K mainGlobals "tuple" = some none)
    (z_zip : PySem.W.nsIn K mainGlobals "zip" = some none) :
    ∃ fd : FuncData, (∀ (s : Shared) (v : Value), BindsTo s fd ⟨[v], []⟩ [("script", v)]) ∧ ∀ base : Heap, K.In base → base.Ns mainGlobals mg → FnOk l.prog w K mg base CX0 100 fa fd ["script"] (SpP K R_law) := by
  have e := hfa.symm.trans (PySem.W.mg_of X G a22)
  cases e
  have B : Bi mg := { triv := trivial, enumerate := PySem.W.mg_none_of X G z_enumerate, int := PySem.W.mg_none_of X G z_int, isinstance := PySem.W.mg_none_of X G z_isinstance, len := PySem.W.mg_none_of X G z_len, list := PySem.W.mg_none_of X G z_list, min := PySem.W.mg_none_of X G z_min, range := PySem.W.mg_none_of X G z_range, sum := PySem.W.mg_none_of X G z_sum, tuple := PySem.W.mg_none_of X G z_tuple, zip := PySem.W.mg_none_of X G z_zip }
  have d0 : Dfn K mg "_law_pots" (top 23) ["script"] := dfn_mk X G a0 l0 c0 k0 fun _ _ _ _ _ _ us hl => match us, hl with | [_], _ => rfl
  have d1 : Dfn K mg "_law_next" (top 22) ["pot", "many"] := dfn_mk X G a1 l1 c1 k1 fun _ _ _ _ _ _ us hl => match us, hl with | [_, _], _ => rfl
  have d2 : Dfn K mg "_law_some_net" (top 24) ["pot", "pots"] := dfn_mk X G a2 l2 c2 k2 fun _ _ _ _ _ _ us hl => match us, hl with | [_, _], _ => rfl
  have d3 : Dfn K mg "all_inputs" (top 5) ["net"] := dfn_mk X G a3 l3 c3 k3 fun _ _ _ _ _ _ us hl => match us, hl with | [_], _ => rfl
  have d4 : Dfn K mg "gate_bits" (top 1) ["kind", "some", "ones"] := dfn_mk X G a4 l4 c4 k4 fun _ _ _ _ _ _ us hl => match us, hl with | [_, _, _], _ => rfl
  have d5 : Dfn K mg "how_many_ahead" (top 3) ["net"] := dfn_mk X G a5 l5 c5 k5 fun _ _ _ _ _ _ us hl => match us, hl with | [_], _ => rfl
  have d6 : Dfn K mg "gone_on" (top 4) ["net", "first", "ones", "turned"] := dfn_mk X G a6 l6 c6 k6 fun _ _ _ _ _ _ us hl => match us, hl with | [_, _, _, _], _ => rfl
  have d7 : Dfn K mg "ins_wires" (top 2) ["net", "own", "ones", "bad"] := dfn_mk X G a7 l7 c7 k7 fun _ _ _ _ _ _ us hl => match us, hl with | [_, _, _, _], _ => rfl
  have d8 : Dfn K mg "all_wires" (top 6) ["net"] := dfn_mk X G a8 l8 c8 k8 fun _ _ _ _ _ _ us hl => match us, hl with | [_], _ => rfl
  have d9 : Dfn K mg "sets_of" (top 11) ["places", "size"] := dfn_mk X G a9 l9 c9 k9 fun _ _ _ _ _ _ us hl => match us, hl with | [_, _], _ => rfl
  have d10 : Dfn K mg "free_places" (top 10) ["net"] := dfn_mk X G a10 l10 c10 k10 fun _ _ _ _ _ _ us hl => match us, hl with | [_], _ => rfl
  have d11 : Dfn K mg "has_within" (top 16) ["sets", "some"] := dfn_mk X G a11 l11 c11 k11 fun _ _ _ _ _ _ us hl => match us, hl with | [_, _], _ => rfl
  have d12 : Dfn K mg "read_bits" (top 7) ["some"] := dfn_mk X G a12 l12 c12 k12 fun _ _ _ _ _ _ us hl => match us, hl with | [_], _ => rfl
  have d13 : Dfn K mg "outs_read" (top 8) ["net", "wires"] := dfn_mk X G a13 l13 c13 k13 fun _ _ _ _ _ _ us hl => match us, hl with | [_, _], _ => rfl
  have d14 : Dfn K mg "reads_with" (top 12) ["net", "plain", "ones", "turned"] := dfn_mk X G a14 l14 c14 k14 fun _ _ _ _ _ _ us hl => match us, hl with | [_, _, _, _], _ => rfl
  have d15 : Dfn K mg "spoilt" (top 13) ["net", "plain", "ones", "turned"] := dfn_mk X G a15 l15 c15 k15 fun _ _ _ _ _ _ us hl => match us, hl with | [_, _, _, _], _ => rfl
  have d16 : Dfn K mg "broken_at" (top 14) ["net", "plain", "ones", "turned", "level"] := dfn_mk X G a16 l16 c16 k16 fun _ _ _ _ _ _ us hl => match us, hl with | [_, _, _, _, _], _ => rfl
  have d17 : Dfn K mg "breaking" (top 17) ["net", "many", "level"] := dfn_mk X G a17 l17 c17 k17 fun _ _ _ _ _ _ us hl => match us, hl with | [_, _, _], _ => rfl
  have d18 : Dfn K mg "without" (top 18) ["sets", "place"] := dfn_mk X G a18 l18 c18 k18 fun _ _ _ _ _ _ us hl => match us, hl with | [_, _], _ => rfl
  have d19 : Dfn K mg "can_be_met" (top 19) ["sets", "many"] := dfn_mk X G a19 l19 c19 k19 fun _ _ _ _ _ _ us hl => match us, hl with | [_, _], _ => rfl
  have d20 : Dfn K mg "surest" (top 20) ["net", "many", "level"] := dfn_mk X G a20 l20 c20 k20 fun _ _ _ _ _ _ us hl => match us, hl with | [_, _, _], _ => rfl
  have d21 : Dfn K mg "_law_turning" (top 25) ["net"] := dfn_mk X G a21 l21 c21 k21 fun _ _ _ _ _ _ us hl => match us, hl with | [_], _ => rfl
  refine ⟨PySem.W.fnOf "law" "law" (defArgs (top 26)) (defBody (top 26)) (defScope (top 26)) .none kV22 dc22 pm22 an22 cd22 ct22, fun s v => .of_eq rfl, fun base _ _ => ?_⟩
  have b0 := ok__law_pots (P := l.prog) (w := w) (base := base) B d0
  have b1 := ok__law_next (P := l.prog) (w := w) (base := base) d1
  have b2 := ok__law_some_net (P := l.prog) (w := w) (base := base) B d2 (b1.mono (by decide))
  have b3 := ok_all_inputs (P := l.prog) (w := w) (base := base) B d3
  have b4 := ok_gate_bits (P := l.prog) (w := w) (base := base) d4
  have b5 := ok_how_many_ahead (P := l.prog) (w := w) (base := base) B d5
  have b6 := ok_gone_on (P := l.prog) (w := w) (base := base) B d6 (b4.mono (by decide)) (b5.mono (by decide))
  have b7 := ok_ins_wires (P := l.prog) (w := w) (base := base) B d7
  have b8 := ok_all_wires (P := l.prog) (w := w) (base := base) d8 (b3.mono (by decide)) (b6.mono (by decide)) (b7.mono (by decide))
  have b9 := ok_sets_of (P := l.prog) (w := w) (base := base) B d9
  have b10 := ok_free_places (P := l.prog) (w := w) (base := base) B d10
  have b11 := ok_has_within (P := l.prog) (w := w) (base := base) d11
  have b12 := ok_read_bits (P := l.prog) (w := w) (base := base) B d12 (b4.mono (by decide))
  have b13 := ok_outs_read (P := l.prog) (w := w) (base := base) d13 (b12.mono (by decide))
  have b14 := ok_reads_with (P := l.prog) (w := w) (base := base) d14 (b6.mono (by decide)) (b5.mono (by decide)) (b13.mono (by decide))
  have b15 := ok_spoilt (P := l.prog) (w := w) (base := base) B d15 (b13.mono (by decide)) (b14.mono (by decide))
  have b16 := ok_broken_at (P := l.prog) (w := w) (base := base) d16 (b15.mono (by decide))
  have b17 := ok_breaking (P := l.prog) (w := w) (base := base) B d17 (b8.mono (by decide)) (b16.mono (by decide)) (b10.mono (by decide)) (b11.mono (by decide)) (b9.mono (by decide))
  have b18 := ok_without (P := l.prog) (w := w) (base := base) d18
  have b19 := ok_can_be_met (P := l.prog) (w := w) (base := base) d19 (b18.mono (by decide)) 48
  have b20 := ok_surest (P := l.prog) (w := w) (base := base) B d20 (b17.mono (by decide)) (b19.mono (by decide)) (b10.mono (by decide)) (b18.mono (by decide))
  have b21 := ok__law_turning (P := l.prog) (w := w) (base := base) B d21
  exact ok_law B (fun_mk l22 c22 k22) (b1.mono (by decide)) (b0.mono (by decide)) (b2.mono (by decide)) (b21.mono (by decide)) (b17.mono (by decide)) (b20.mono (by decide))
theorem walk {l : PySem.W.OpenLaw} {q : Program} {loose : List Str} {XP : (Str → Option Value) → Heap → Prop} {YP : World → Heap → Prop} {d : DefRec} {K : Params → Fg} (hn : l.most = some 63) (hdf : d.params.defaults = [])
    (hY : ∀ (w : World) (h : Heap), YP w h → (K w.params).In h)
    (F : ∀ (w : World) (mg : Str → Option Value) (fa : Addr) (h : Heap), (K w.params).In h → h.Ns mainGlobals mg → mg d.name = some (.ref fa) →
      ∃ fd : FuncData, (∀ (s : Shared) (u : Value), BindsTo s fd ⟨[u], []⟩ [("script", u)]) ∧ ∀ base : Heap, (K w.params).In base → base.Ns mainGlobals mg → FnOk l.prog w (K w.params) mg base CX0 100 fa fd ["script"] (SpP (K w.params) R_law)) :
    PySem.W.WalkO q loose XP YP l.row.toRowW d [] (fun f vs => PySem.call f vs) :=
  L2.walk_of (n := 63) (k := 100) (x := "script") (CX := fun _ => CX0) (sp := fun w => SpP (K w.params) R_law) hn (by decide) hdf ⟨rfl, by decide, by decide⟩ hY F
    (fun w H a ns hl _ hS => ⟨H, [.list (ns.map .int)], .bool true, .cons (.lst hS (by rw [List.length_map]; exact Nat.le_trans hl (by decide)) (RpAll.of_ints ns)) .nil, Same.refl H, ⟨ns, true, by simp [enc], rfl, law_ok ns hl⟩, fun v F H _ r => by cases r; rfl⟩) fun _ _ _ _ _ z => z
end W

open PySem PySem.W PyProof.Rows in
set_option maxRecDepth 100000 in
set_option maxHeartbeats 0 in
theorem PySem.Challenge.cw_bearfaults_k23_surest_of_turning_gates_holds : PySem.Challenge.rw_bearfaults_k23_surest_of_turning_gates.Holds := by
  w_on; o_law; k_head; (case hw => w_witness2)
  k_fill
  refine W.walk (l := PySem.Challenge.rw_bearfaults_k23_surest_of_turning_gates) rfl rfl (fun w h Y => PySem.W.kIn_of Y) ?F
  case F =>
    intro w mg fa h KX G hmg
    refine' W.all_mk KX G hmg ?a0 ?l0 ?c0 ?k0 ?a1 ?l1 ?c1 ?k1 ?a2 ?l2 ?c2 ?k2 ?a3 ?l3 ?c3 ?k3 ?a4 ?l4 ?c4 ?k4 ?a5 ?l5 ?c5 ?k5 ?a6 ?l6 ?c6 ?k6 ?a7 ?l7 ?c7 ?k7 ?a8 ?l8 ?c8 ?k8 ?a9 ?l9 ?c9 ?k9 ?a10 ?l10 ?c10 ?k10 ?a11 ?l11 ?c11 ?k11 ?a12 ?l12 ?c12 ?k12 ?a13 ?l13 ?c13 ?k13 ?a14 ?l14 ?c14 ?k14 ?a15 ?l15 ?c15 ?k15 ?a16 ?l16 ?c16 ?k16 ?a17 ?l17 ?c17 ?k17 ?a18 ?l18 ?c18 ?k18 ?a19 ?l19 ?c19 ?k19 ?a20 ?l20 ?c20 ?k20 ?a21 ?l21 ?c21 ?k21 ?a22 ?l22 ?c22 ?k22 ?z_enumerate ?z_int ?z_isinstance ?z_len ?z_list ?z_min ?z_range ?z_sum ?z_tuple ?z_zip
    (case a0 => k_is)
    (case l0 => k_is)
    (case c0 => k_is)
    (case k0 => k_is)
    (case a1 => k_is)
    (case l1 => k_is)
    (case c1 => k_is)
    (case k1 => k_is)
    (case a2 => k_is)
    (case l2 => k_is)
    (case c2 => k_is)
    (case k2 => k_is)
    (case a3 => k_is)
    (case l3 => k_is)
    (case c3 => k_is)
    (case k3 => k_is)
    (case a4 => k_is)
    (case l4 => k_is)
    (case c4 => k_is)
    (case k4 => k_is)
    (case a5 => k_is)
    (case l5 => k_is)
    (case c5 => k_is)
    (case k5 => k_is)
    (case a6 => k_is)
    (case l6 => k_is)
    (case c6 => k_is)
    (case k6 => k_is)
    (case a7 => k_is)
    (case l7 => k_is)
    (case c7 => k_is)
    (case k7 => k_is)
    (case a8 => k_is)
    (case l8 => k_is)
    (case c8 => k_is)
    (case k8 => k_is)
    (case a9 => k_is)
    (case l9 => k_is)
    (case c9 => k_is)
    (case k9 => k_is)
    (case a10 => k_is)
    (case l10 => k_is)
    (case c10 => k_is)
    (case k10 => k_is)
    (case a11 => k_is)
    (case l11 => k_is)
    (case c11 => k_is)
    (case k11 => k_is)
    (case a12 => k_is)
    (case l12 => k_is)
    (case c12 => k_is)
    (case k12 => k_is)
    (case a13 => k_is)
    (case l13 => k_is)
    (case c13 => k_is)
    (case k13 => k_is)
    (case a14 => k_is)
    (case l14 => k_is)
    (case c14 => k_is)
    (case k14 => k_is)
    (case a15 => k_is)
    (case l15 => k_is)
    (case c15 => k_is)
    (case k15 => k_is)
    (case a16 => k_is)
    (case l16 => k_is)
    (case c16 => k_is)
    (case k16 => k_is)
    (case a17 => k_is)
    (case l17 => k_is)
    (case c17 => k_is)
    (case k17 => k_is)
    (case a18 => k_is)
    (case l18 => k_is)
    (case c18 => k_is)
    (case k18 => k_is)
    (case a19 => k_is)
    (case l19 => k_is)
    (case c19 => k_is)
    (case k19 => k_is)
    (case a20 => k_is)
    (case l20 => k_is)
    (case c20 => k_is)
    (case k20 => k_is)
    (case a21 => k_is)
    (case l21 => k_is)
    (case c21 => k_is)
    (case k21 => k_is)
    (case a22 => k_is)
    (case l22 => k_is)
    (case c22 => k_is)
    (case k22 => k_is)
    (case z_enumerate => k_is)
    (case z_int => k_is)
    (case z_isinstance => k_is)
    (case z_len => k_is)
    (case z_list => k_is)
    (case z_min => k_is)
    (case z_range => k_is)
    (case z_sum => k_is)
    (case z_tuple => k_is)
    (case z_zip => k_is)
