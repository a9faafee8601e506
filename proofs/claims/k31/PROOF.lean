import PyProof.Rows.All
import Wide.All
import OpenK.AllK
import Wide.FinOn
import HandS.ForMost
import HandS.Walk
import HandS.TupAny
import HandS.Style
import HandS.IsInst
import HandS.Zip
import KE.GoesMore
import HandS.Wide
import HandS.SortInts
import HandS.Conv
import HandS.SetFor
import PyProof.Rows.SumAny
import HandS.TryOnly
import HandS.TupMul
import HandS.More
import HandS.Dict
import PySem.Challenge.RW_bearfaults_k31_whole_made_nets_bear
set_option Elab.async false
set_option linter.all false
set_option maxRecDepth 100000
set_option maxHeartbeats 4000000
/-! TL: data over the hand layer's readings: what a reading evaluates to, by plain data; a frozen part of the heap, own lists, the whole. -/
namespace TL
open PySem L2
abbrev Fg := PySem.W.Frag

/-! ### data in a heap -/
mutual
inductive Rp (K : Fg) (F : Hp) : V → PyData → Prop
  | non : Rp K F .non .none
  | bl (b : Bool) : Rp K F (.bl b) (.bool b)
  | int (i : Int) : Rp K F (.int i) (.int i)
  | str (x : Str) : Rp K F (.str x) (.str x)
  | lst {a : Addr} {xs : List V} {ds : List PyData} : SqL K F a xs → xs.length ≤ sizeLine → RpAll K F xs ds → Rp K F (.ref a) (.list ds)
  | tup {a : Addr} {xs : List V} {ds : List PyData} : SqT K F a xs → xs.length ≤ sizeLine → RpAll K F xs ds → Rp K F (.ref a) (.tuple ds)
inductive RpAll (K : Fg) (F : Hp) : List V → List PyData → Prop
  | nil : RpAll K F [] []
  | cons {v : V} {vs : List V} {d : PyData} {ds : List PyData} : Rp K F v d → RpAll K F vs ds → RpAll K F (v :: vs) (d :: ds)
end
theorem same_rd {H H' : Hp} {a : Addr} {u : HO} (e : Same H H') (h : Rd H a u) : Rd H' a u := by
  rcases h with h | ⟨o, h⟩
  · exact .inl (e _ _ h)
  · exact .inr ⟨o, e _ _ h⟩
theorem same_t {K : Fg} {H H' : Hp} {a : Addr} {xs : List V} (e : Same H H') (h : SqT K H a xs) : SqT K H' a xs := by
  rcases h with h | h
  · exact .inl (same_rd e h)
  · exact .inr h
section
variable {K : Fg} {F F' : Hp}
mutual
theorem Rp.mono (e : Same F F') : ∀ (d : PyData) (v : V), Rp K F v d → Rp K F' v d
  | .none, _, h => by cases h; exact .non
  | .bool b, _, h => by cases h; exact .bl b
  | .int i, _, h => by cases h; exact .int i
  | .str x, _, h => by cases h; exact .str x
  | .list ds, _, h => by
    cases h with
    | lst h1 h2 h3 => exact .lst (e.seq h1) h2 (RpAll.mono e ds _ h3)
  | .tuple ds, _, h => by
    cases h with
    | tup h1 h2 h3 => exact .tup (same_t e h1) h2 (RpAll.mono e ds _ h3)
  | .dict _, _, h => by cases h
theorem RpAll.mono (e : Same F F') : ∀ (ds : List PyData) (vs : List V), RpAll K F vs ds → RpAll K F' vs ds
  | [], _, h => by cases h; exact .nil
  | d :: ds, _, h => by
    cases h with
    | cons h1 h2 => exact .cons (Rp.mono e d _ h1) (RpAll.mono e ds _ h2)
end
theorem Rp.up {d : PyData} {v : V} (h : Rp K F v d) (e : Same F F') : Rp K F' v d := Rp.mono e d v h
theorem RpAll.up {ds : List PyData} {vs : List V} (h : RpAll K F vs ds) (e : Same F F') : RpAll K F' vs ds := RpAll.mono e ds vs h
mutual
theorem Rp.dp : ∀ (d : PyData) (v : V), Rp K F v d → Dp K F v d
  | .none, _, h => by cases h; exact .non
  | .bool b, _, h => by cases h; exact .bl b
  | .int i, _, h => by cases h; exact .int i
  | .str x, _, h => by cases h; exact .str x
  | .list ds, _, h => by
    cases h with
    | lst h1 h2 h3 => exact .lst h1 (RpAll.dp ds _ h3)
  | .tuple ds, _, h => by
    cases h with
    | tup h1 h2 h3 => exact .tup h1 (RpAll.dp ds _ h3)
  | .dict _, _, h => by cases h
theorem RpAll.dp : ∀ (ds : List PyData) (vs : List V), RpAll K F vs ds → DpAll K F vs ds
  | [], _, h => by cases h; exact .nil
  | d :: ds, _, h => by
    cases h with
    | cons h1 h2 => exact .cons (Rp.dp d _ h1) (RpAll.dp ds _ h2)
end
theorem RpAll.length : ∀ {vs : List V} {ds : List PyData}, RpAll K F vs ds → vs.length = ds.length
  | _, _, .nil => rfl
  | _, _, .cons _ t => by rw [List.length_cons, List.length_cons, RpAll.length t]
theorem RpAll.get : ∀ {vs : List V} {ds : List PyData} {i : Nat} {d : PyData}, RpAll K F vs ds → ds[i]? = some d → ∃ v, vs[i]? = some v ∧ Rp K F v d
  | _, _, _, _, .nil, e => by simp at e
  | _, _, 0, _, .cons r _, e => by simp at e; subst e; exact ⟨_, rfl, r⟩
  | _, _, i + 1, d, .cons _ t, e => by
    obtain ⟨v, h1, h2⟩ := RpAll.get (i := i) (d := d) t (by simpa using e)
    exact ⟨v, by simpa using h1, h2⟩
theorem RpAll.getV : ∀ {vs : List V} {ds : List PyData} {i : Nat} {v : V}, RpAll K F vs ds → vs[i]? = some v → ∃ d, ds[i]? = some d ∧ Rp K F v d
  | _, _, _, _, .nil, e => by simp at e
  | _, _, 0, _, .cons r _, e => by simp at e; subst e; exact ⟨_, rfl, r⟩
  | _, _, i + 1, v, .cons _ t, e => by
    obtain ⟨d, h1, h2⟩ := RpAll.getV (i := i) (v := v) t (by simpa using e)
    exact ⟨d, by simpa using h1, h2⟩
theorem RpAll.append : ∀ {vs ws : List V} {ds es : List PyData}, RpAll K F vs ds → RpAll K F ws es → RpAll K F (vs ++ ws) (ds ++ es)
  | _, _, _, _, .nil, s => s
  | _, _, _, _, .cons r t, s => .cons r (RpAll.append t s)
theorem RpAll.take : ∀ {vs : List V} {ds : List PyData} (n : Nat), RpAll K F vs ds → RpAll K F (vs.take n) (ds.take n)
  | _, _, 0, _ => .nil
  | _, _, _ + 1, .nil => .nil
  | _, _, n + 1, .cons r t => .cons r (RpAll.take n t)
theorem RpAll.drop : ∀ {vs : List V} {ds : List PyData} (n : Nat), RpAll K F vs ds → RpAll K F (vs.drop n) (ds.drop n)
  | _, _, 0, r => r
  | _, _, _ + 1, .nil => .nil
  | _, _, n + 1, .cons _ t => RpAll.drop n t
theorem RpAll.set {v : V} {d : PyData} (r : Rp K F v d) : ∀ {vs : List V} {ds : List PyData} (i : Nat), RpAll K F vs ds → RpAll K F (vs.set i v) (ds.set i d)
  | _, _, _, .nil => .nil
  | _, _, 0, .cons _ t => .cons r t
  | _, _, i + 1, .cons q t => .cons q (RpAll.set r i t)
theorem RpAll.reverse {vs : List V} {ds : List PyData} (h : RpAll K F vs ds) : RpAll K F vs.reverse ds.reverse := by
  induction vs generalizing ds with
  | nil => cases h; exact .nil
  | cons v vs ih =>
    cases h with
    | cons r t =>
      rw [List.reverse_cons, List.reverse_cons]
      exact (ih t).append (.cons r .nil)
theorem RpAll.rep {vs : List V} {ds : List PyData} (h : RpAll K F vs ds) : ∀ k : Nat, RpAll K F (List.replicate k vs).flatten (List.replicate k ds).flatten
  | 0 => .nil
  | k + 1 => by
    rw [List.replicate_succ, List.replicate_succ, List.flatten_cons, List.flatten_cons]
    exact h.append (RpAll.rep h k)
theorem RpAll.ints : ∀ {vs : List V} {ns : List Int}, RpAll K F vs (ns.map PyData.int) → vs = ns.map V.int
  | _, [], h => by cases h; rfl
  | _, n :: ns, h => by
    cases h with
    | cons r t => cases r; rw [RpAll.ints t]; rfl
theorem RpAll.bools : ∀ {vs : List V} {ns : List Bool}, RpAll K F vs (ns.map PyData.bool) → vs = ns.map V.bl
  | _, [], h => by cases h; rfl
  | _, n :: ns, h => by
    cases h with
    | cons r t => cases r; rw [RpAll.bools t]; rfl
theorem RpAll.strs : ∀ {vs : List V} {ns : List Str}, RpAll K F vs (ns.map PyData.str) → vs = ns.map V.str
  | _, [], h => by cases h; rfl
  | _, n :: ns, h => by
    cases h with
    | cons r t => cases r; rw [RpAll.strs t]; rfl
theorem RpAll.of_ints : ∀ (ns : List Int), RpAll K F (ns.map V.int) (ns.map PyData.int)
  | [] => .nil
  | n :: ns => .cons (.int n) (RpAll.of_ints ns)
end

/-! ### the slots -/
inductive Sl where
  | un
  | val (d : PyData)
  | adr (a : Addr)
  | tow (ps : List Addr)
  | dic (kvs : List (Str × Str))
  | lol (ps : List Addr)
  | dii (kvs : List (Str × Int))
  | dkb (ks : List Int)
def keyB (ks : List Int) : List (Key × V) := ks.map fun k => ((Sum.inl k : Key), V.bl true)
def litI (kvs : List (Str × Int)) : List (Key × V) := kvs.map fun p => (Sum.inr p.1, V.int p.2)
def litS (kvs : List (Str × Str)) : List (Key × V) := kvs.map fun p => (Sum.inr p.1, V.str p.2)
def SlR (K : Fg) (F : Hp) : Option V → Sl → Prop
  | _, .un => True
  | s, .val d => ∃ v, s = some v ∧ Rp K F v d
  | s, .adr a => s = some (.ref a)
  | s, .tow ps => ∃ t, s = some (.ref t) ∧ SqT K F t (ps.map .ref)
  | s, .dic kvs => ∃ t, s = some (.ref t) ∧ F t = some (.dK (litS kvs))
  | s, .lol ps => ∃ t, s = some (.ref t) ∧ SqL K F t (ps.map .ref) ∧ ps.length ≤ sizeLine
  | s, .dii kvs => ∃ t, s = some (.ref t) ∧ F t = some (.dK (litI kvs))
  | s, .dkb ks => ∃ t, s = some (.ref t) ∧ F t = some (.dK (keyB ks))
inductive EnvR (K : Fg) (F : Hp) : L2.St → List Sl → Prop
  | nil : EnvR K F [] []
  | cons {s : Option V} {σ : L2.St} {r : Sl} {ρ : List Sl} : SlR K F s r → EnvR K F σ ρ → EnvR K F (s :: σ) (r :: ρ)
section
variable {K : Fg} {F F' : Hp} {σ : L2.St} {ρ : List Sl}
theorem SlR.up {s : Option V} {r : Sl} (h : SlR K F s r) (e : Same F F') : SlR K F' s r := by
  cases r with
  | un => trivial
  | val d => obtain ⟨v, h1, h2⟩ := h; exact ⟨v, h1, h2.up e⟩
  | adr a => exact h
  | tow ps => obtain ⟨t, h1, h2⟩ := h; exact ⟨t, h1, same_t e h2⟩
  | dic kvs => obtain ⟨t, h1, h2⟩ := h; exact ⟨t, h1, e _ _ h2⟩
  | lol ps => obtain ⟨t, h1, h2, h3⟩ := h; exact ⟨t, h1, e.seq h2, h3⟩
  | dii kvs => obtain ⟨t, h1, h2⟩ := h; exact ⟨t, h1, e _ _ h2⟩
  | dkb ks => obtain ⟨t, h1, h2⟩ := h; exact ⟨t, h1, e _ _ h2⟩
theorem EnvR.up (h : EnvR K F σ ρ) (e : Same F F') : EnvR K F' σ ρ := by
  induction h with
  | nil => exact .nil
  | cons r _ ih => exact .cons (r.up e) ih
theorem EnvR.at : ∀ {σ : L2.St} {ρ : List Sl} {i : Nat} {r : Sl}, EnvR K F σ ρ → ρ[i]? = some r → ∃ s, σ[i]? = some s ∧ SlR K F s r
  | _, _, _, _, .nil, e => by simp at e
  | _, _, 0, _, .cons r _, e => by simp at e; subst e; exact ⟨_, rfl, r⟩
  | _, _, i + 1, r, .cons _ t, e => by
    obtain ⟨v, h1, h2⟩ := EnvR.at (i := i) (r := r) t (by simpa using e)
    exact ⟨v, by simpa using h1, h2⟩
theorem EnvR.val {i : Nat} {d : PyData} (h : EnvR K F σ ρ) (e : ρ[i]? = some (.val d)) : ∃ v, σ[i]? = some (some v) ∧ Rp K F v d := by
  obtain ⟨s, h1, v, rfl, h2⟩ := h.at e
  exact ⟨v, h1, h2⟩
theorem EnvR.adr {i : Nat} {a : Addr} (h : EnvR K F σ ρ) (e : ρ[i]? = some (.adr a)) : σ[i]? = some (some (.ref a)) := by
  obtain ⟨s, h1, h2⟩ := h.at e
  cases h2
  exact h1
theorem EnvR.set {s : Option V} {r : Sl} (q : SlR K F s r) : ∀ {σ : L2.St} {ρ : List Sl} (i : Nat), EnvR K F σ ρ → EnvR K F (σ.set i s) (ρ.set i r)
  | _, _, _, .nil => .nil
  | _, _, 0, .cons _ t => .cons q t
  | _, _, i + 1, .cons p t => .cons p (EnvR.set q i t)
theorem EnvR.setv {v : V} {d : PyData} (h : EnvR K F σ ρ) (q : Rp K F v d) (i : Nat) : EnvR K F (σ.set i (some v)) (ρ.set i (.val d)) := EnvR.set (s := some v) (r := .val d) ⟨v, rfl, q⟩ i h
theorem EnvR.seta {a : Addr} (h : EnvR K F σ ρ) (i : Nat) : EnvR K F (σ.set i (some (.ref a))) (ρ.set i (.adr a)) := EnvR.set (s := some (.ref a)) (r := .adr a) rfl i h
theorem EnvR.blank : ∀ (n : Nat), EnvR K F (List.replicate n none) (List.replicate n .un)
  | 0 => .nil
  | n + 1 => .cons trivial (EnvR.blank n)
theorem EnvR.app : ∀ {σ τ : L2.St} {ρ π : List Sl}, EnvR K F σ ρ → EnvR K F τ π → EnvR K F (σ ++ τ) (ρ ++ π)
  | _, _, _, _, .nil, s => s
  | _, _, _, _, .cons r t, s => .cons r (EnvR.app t s)
/-- arguments: data, or own lists by their addresses -/
inductive AsR (K : Fg) (F : Hp) : List V → List Sl → Prop
  | nil : AsR K F [] []
  | val {v : V} {d : PyData} {vs : List V} {as : List Sl} : Rp K F v d → AsR K F vs as → AsR K F (v :: vs) (.val d :: as)
  | adr {a : Addr} {vs : List V} {as : List Sl} : AsR K F vs as → AsR K F (.ref a :: vs) (.adr a :: as)
theorem AsR.up {vs : List V} {as : List Sl} (h : AsR K F vs as) (e : Same F F') : AsR K F' vs as := by
  induction h with
  | nil => exact .nil
  | val r _ ih => exact .val (r.up e) ih
  | adr _ ih => exact .adr ih
theorem AsR.env : ∀ {vs : List V} {as : List Sl}, AsR K F vs as → EnvR K F (vs.map some) as
  | _, _, .nil => .nil
  | _, _, .val r t => .cons ⟨_, rfl, r⟩ t.env
  | _, _, .adr t => .cons rfl t.env
theorem AsR.length : ∀ {vs : List V} {as : List Sl}, AsR K F vs as → vs.length = as.length
  | _, _, .nil => rfl
  | _, _, .val _ t => by rw [List.length_cons, List.length_cons, AsR.length t]
  | _, _, .adr t => by rw [List.length_cons, List.length_cons, AsR.length t]
theorem AsR.all : ∀ {vs : List V} {ds : List PyData}, AsR K F vs (ds.map .val) → RpAll K F vs ds
  | _, [], h => by cases h; exact .nil
  | _, d :: ds, h => by
    cases h with
    | val r t => exact .cons r (AsR.all t)
theorem EnvR.start {N : List Str} {vs : List V} {as : List Sl} (h : AsR K F vs as) : EnvR K F (start N vs) (as ++ List.replicate (N.length - as.length) .un) := by
  unfold L2.start
  rw [h.length]
  exact h.env.app (EnvR.blank _)
/-- forgetting slots -/
def Wk : List Sl → List Sl → Prop
  | [], [] => True
  | r :: ρ, r' :: ρ' => (r' = r ∨ r' = .un) ∧ Wk ρ ρ'
  | _, _ => False
theorem EnvR.weak : ∀ {σ : L2.St} {ρ ρ' : List Sl}, EnvR K F σ ρ → Wk ρ ρ' → EnvR K F σ ρ'
  | _, _, [], .nil, _ => .nil
  | _, _, r' :: ρ', .cons r t, ⟨h1, h2⟩ => by
    refine .cons ?_ (EnvR.weak t h2)
    rcases h1 with rfl | rfl
    · exact r
    · trivial
  | _, _, _ :: _, .nil, h => h.elim
  | _, _, [], .cons _ _, h => h.elim
def wipeS (ρ : List Sl) : List Nat → List Sl
  | [] => ρ
  | v :: vs => (wipeS ρ vs).set v .un
theorem EnvR.wipe (h : EnvR K F σ ρ) : ∀ vs : List Nat, EnvR K F (L2.wipe σ vs) (wipeS ρ vs)
  | [] => h
  | v :: vs => by
    unfold L2.wipe wipeS
    exact EnvR.set (r := .un) trivial v (EnvR.wipe h vs)
theorem wipe_at (σ : L2.St) (i : Nat) : ∀ vs : List Nat, (L2.wipe σ vs)[i]? = if i ∈ vs then (if i < σ.length then some none else none) else σ[i]?
  | [] => by simp [L2.wipe]
  | v :: vs => by
    unfold L2.wipe
    rw [List.getElem?_set, wipe_at σ i vs, wipe_length]
    by_cases h : v = i
    · subst h; simp
    · have h' : ¬ i = v := fun e => h e.symm
      simp [h, h']
theorem wipe_wipe (σ : L2.St) (vs : List Nat) : L2.wipe (L2.wipe σ vs) vs = L2.wipe σ vs := by
  apply List.ext_getElem?
  intro i
  rw [wipe_at, wipe_at, wipe_length]
  split <;> rfl
theorem wipe_set (σ : L2.St) {i : Nat} {s : Option V} {vs : List Nat} (h : i ∈ vs) : L2.wipe (σ.set i s) vs = L2.wipe σ vs := by
  apply List.ext_getElem?
  intro j
  rw [wipe_at, wipe_at, List.length_set]
  by_cases e : j ∈ vs
  · rw [if_pos e, if_pos e]
  · rw [if_neg e, if_neg e, List.getElem?_set_ne (fun (q : i = j) => e (q ▸ h))]
end

/-! ### the heap's parts: F0, H0: frozen and whole at the entry; D0: lists at the entry that may be changed; F: frozen; O: own lists; H: the whole -/
structure OE where
  a : Addr
  nw : Bool
  ds : List PyData
abbrev Os := List OE
structure Hx (K : Fg) (F0 H0 : Hp) (D0 : List Addr) (F : Hp) (O : Os) (H : Hp) : Prop where
  f0 : Same F0 F
  fh : Same F H
  keep : ∀ a o, H0 a = some o → a ∉ D0 → H a = some o
  live : ∀ a o, H0 a = some o → ∃ o', H a = some o'
  new : ∀ a o, H0 a = some o → F0 a = none → F a = none
  own : ∀ p ∈ O, F p.a = none ∧ (p.nw = true → H0 p.a = none) ∧ (p.nw = false → p.a ∈ D0) ∧ ∃ vs, H p.a = some (.lst vs) ∧ vs.length ≤ sizeLine ∧ RpAll K F vs p.ds
  nd : (O.map OE.a).Nodup
/-- what a call leaves: D the lists that it may have changed -/
structure Stp (D : List Addr) (F H F' H' : Hp) : Prop where
  ff : Same F F'
  fh : Same F' H'
  keep : ∀ a o, H a = some o → a ∉ D → H' a = some o
  live : ∀ a o, H a = some o → ∃ o', H' a = some o'
  new : ∀ a o, H a = some o → F a = none → F' a = none
section
variable {K : Fg} {F0 H0 F H F' H' : Hp} {D0 : List Addr} {O : Os}
theorem Hx.start (h : Same F H) : Hx K F H [] F [] H := ⟨Same.refl _, h, fun _ _ e _ => e, fun _ o e => ⟨o, e⟩, fun _ _ _ e => e, fun p h => by simp at h, List.nodup_nil⟩
theorem Hx.start1 {p : Addr} {vs : List V} {ds : List PyData} (h : Same F H) (n : F p = none) (hp : H p = some (.lst vs)) (hz : vs.length ≤ sizeLine) (r : RpAll K F vs ds) : Hx K F H [p] F [⟨p, false, ds⟩] H := by
  refine ⟨Same.refl _, h, fun _ _ e _ => e, fun _ o e => ⟨o, e⟩, fun _ _ _ e => e, fun q hq => ?_, by simp⟩
  have e : q = ⟨p, false, ds⟩ := by simpa using hq
  subst e
  exact ⟨n, fun z => (Bool.false_ne_true z).elim, fun _ => by simp, vs, hp, hz, r⟩
theorem Hx.stp (S : Hx K F0 H0 D0 F O H) : Stp D0 F0 H0 F H := ⟨S.f0, S.fh, S.keep, S.live, S.new⟩
theorem Hx.nof (S : Hx K F0 H0 D0 F O H) {p : Addr} (h : H p = none) : F p = none := S.fh.free h
theorem Hx.noh0 (S : Hx K F0 H0 D0 F O H) {p : Addr} (h : H p = none) : H0 p = none := by
  cases e : H0 p with
  | none => rfl
  | some o =>
    obtain ⟨o', e'⟩ := S.live _ _ e
    rw [h] at e'
    cases e'
theorem same_upd {H : Hp} {p : Addr} {o : HO} (h : H p = none) : Same H (upd H p o) := fun a u e => by
  rw [upd_ne (ne_of_none e h)]
  exact e
theorem same_upd2 {F H : Hp} {p : Addr} {o : HO} (h : Same F H) : Same (upd F p o) (upd H p o) := fun a u e => by
  unfold upd at e ⊢
  split at e
  · rw [if_pos (by assumption)]; exact e
  · rw [if_neg (by assumption)]; exact h _ _ e
/-- a new object, frozen -/
theorem Hx.put (S : Hx K F0 H0 D0 F O H) {p : Addr} {o : HO} (h : H p = none) : Hx K F0 H0 D0 (upd F p o) O (upd H p o) := by
  have hF := S.nof h
  refine ⟨S.f0.trans (same_upd hF), same_upd2 S.fh, fun a u e n => ?_, fun a u e => ?_, fun a u e n => ?_, fun q hq => ?_, S.nd⟩
  · have := S.keep a u e n
    rw [upd_ne (ne_of_none this h)]
    exact this
  · obtain ⟨u', e'⟩ := S.live a u e
    exact ⟨u', by rw [upd_ne (ne_of_none e' h)]; exact e'⟩
  · obtain ⟨u', e'⟩ := S.live a u e
    rw [upd_ne (ne_of_none e' h)]
    exact S.new a u e n
  · obtain ⟨h1, h2, h3, vs, h4, h5, h6⟩ := S.own q hq
    have ne := ne_of_none h4 h
    exact ⟨by rw [upd_ne ne]; exact h1, h2, h3, vs, by rw [upd_ne ne]; exact h4, h5, h6.up (same_upd hF)⟩
/-- a new own list -/
theorem Hx.mine (S : Hx K F0 H0 D0 F O H) {p : Addr} {vs : List V} {ds : List PyData} (h : H p = none) (hz : vs.length ≤ sizeLine) (r : RpAll K F vs ds) : Hx K F0 H0 D0 F (⟨p, true, ds⟩ :: O) (upd H p (.lst vs)) := by
  have hF := S.nof h
  refine ⟨S.f0, S.fh.trans (same_upd h), fun a u e n => ?_, fun a u e => ?_, S.new, fun q hq => ?_, ?_⟩
  · have := S.keep a u e n
    rw [upd_ne (ne_of_none this h)]
    exact this
  · obtain ⟨u', e'⟩ := S.live a u e
    exact ⟨u', by rw [upd_ne (ne_of_none e' h)]; exact e'⟩
  · rcases List.mem_cons.mp hq with rfl | hq
    · exact ⟨hF, fun _ => S.noh0 h, fun z => (Bool.false_ne_true z.symm).elim, vs, upd_same, hz, r⟩
    · obtain ⟨h1, h2, h3, vs', h4, h5, h6⟩ := S.own q hq
      exact ⟨h1, h2, h3, vs', by rw [upd_ne (ne_of_none h4 h)]; exact h4, h5, h6⟩
  · rw [List.map_cons, List.nodup_cons]
    refine ⟨fun hm => ?_, S.nd⟩
    obtain ⟨q, hq, e⟩ := List.mem_map.mp hm
    obtain ⟨_, _, _, vs', h4, _⟩ := S.own q hq
    have e' : q.a = p := e
    rw [e', h] at h4
    cases h4
theorem Hx.get (S : Hx K F0 H0 D0 F O H) {j : Nat} {q : OE} (h : O[j]? = some q) : F q.a = none ∧ (q.nw = true → H0 q.a = none) ∧ (q.nw = false → q.a ∈ D0) ∧ ∃ vs, H q.a = some (.lst vs) ∧ vs.length ≤ sizeLine ∧ RpAll K F vs q.ds := S.own q (List.mem_of_getElem? h)
theorem nodup_at {α : Type} {l : List α} (h : l.Nodup) {i j : Nat} {x : α} (a : l[i]? = some x) (b : l[j]? = some x) : i = j := by
  obtain ⟨h1, e1⟩ := List.getElem?_eq_some_iff.mp a
  obtain ⟨h2, e2⟩ := List.getElem?_eq_some_iff.mp b
  exact (List.getElem_inj h).mp (e1.trans e2.symm)
/-- an own list is changed -/
theorem Hx.mut (S : Hx K F0 H0 D0 F O H) {j : Nat} {l : Addr} {nw : Bool} {ds ds' : List PyData} {vs : List V} (h : O[j]? = some ⟨l, nw, ds⟩) (hz : vs.length ≤ sizeLine) (r : RpAll K F vs ds') :
    Hx K F0 H0 D0 F (O.set j ⟨l, nw, ds'⟩) (upd H l (.lst vs)) := by
  obtain ⟨h1, h2, h3, vs0, h4, h5, h6⟩ := S.get h
  refine ⟨S.f0, fun a u e => ?_, fun a u e n => ?_, fun a u e => ?_, S.new, fun q hq => ?_, ?_⟩
  · rw [upd_ne (ne_of_none e h1)]
    exact S.fh _ _ e
  · have ne : a ≠ l := by
      rintro rfl
      cases nw with
      | true => rw [h2 rfl] at e; cases e
      | false => exact n (h3 rfl)
    rw [upd_ne ne]
    exact S.keep a u e n
  · by_cases ne : a = l
    · subst ne; exact ⟨_, upd_same⟩
    · rw [upd_ne ne]; exact S.live a u e
  · obtain ⟨i, hi⟩ := List.mem_iff_getElem?.mp hq
    by_cases e : j = i
    · subst e
      have hj : j < O.length := (List.getElem?_eq_some_iff.mp h).1
      rw [List.getElem?_set_self hj] at hi
      cases hi
      exact ⟨h1, h2, h3, vs, upd_same, hz, r⟩
    · rw [List.getElem?_set_ne e] at hi
      obtain ⟨g1, g2, g3, vs', g4, g5, g6⟩ := S.get hi
      have ne : q.a ≠ l := by
        intro z
        refine e (nodup_at S.nd (x := l) ?_ ?_)
        · rw [List.getElem?_map, h]; rfl
        · rw [List.getElem?_map, hi]; simp [z]
      exact ⟨g1, g2, g3, vs', by rw [upd_ne ne]; exact g4, g5, g6⟩
  · have e : (O.set j ⟨l, nw, ds'⟩).map OE.a = O.map OE.a := by
      rw [List.map_set]
      apply List.ext_getElem?
      intro i
      by_cases e : j = i
      · subst e
        have hj : j < O.length := (List.getElem?_eq_some_iff.mp h).1
        rw [List.getElem?_set_self (by simpa using hj), List.getElem?_map, h]; rfl
      · rw [List.getElem?_set_ne e]
    rw [e]
    exact S.nd
/-- an own list is frozen -/
theorem Hx.frz (S : Hx K F0 H0 D0 F O H) {j : Nat} {l : Addr} {ds : List PyData} (h : O[j]? = some ⟨l, true, ds⟩) :
    ∃ F', Same F F' ∧ Hx K F0 H0 D0 F' (O.eraseIdx j) H ∧ Rp K F' (.ref l) (.list ds) := by
  obtain ⟨h1, h2, h3, vs, h4, h5, h6⟩ := S.get h
  refine ⟨upd F l (.lst vs), same_upd h1, ⟨S.f0.trans (same_upd h1), fun a u e => ?_, S.keep, S.live, fun a u e n => ?_, fun q hq => ?_, ?_⟩, .lst (SqL.of upd_same) h5 (h6.up (same_upd h1))⟩
  · unfold upd at e
    split at e
    · rename_i z
      subst z
      cases e
      exact h4
    · exact S.fh _ _ e
  · have ne : a ≠ l := by rintro rfl; rw [h2 rfl] at e; cases e
    rw [upd_ne ne]
    exact S.new a u e n
  · have hq' := List.mem_of_mem_eraseIdx hq
    obtain ⟨g1, g2, g3, vs', g4, g5, g6⟩ := S.own q hq'
    have ne : q.a ≠ l := by
      intro z
      obtain ⟨i, hi⟩ := List.mem_iff_getElem?.mp hq
      rw [List.getElem?_eraseIdx] at hi
      split at hi
      · rename_i hlt
        have := nodup_at S.nd (x := l) (i := j) (j := i) (by rw [List.getElem?_map, h]; rfl) (by rw [List.getElem?_map, hi]; simp [z])
        omega
      · rename_i hlt
        have := nodup_at S.nd (x := l) (i := j) (j := i + 1) (by rw [List.getElem?_map, h]; rfl) (by rw [List.getElem?_map, hi]; simp [z])
        omega
    exact ⟨by rw [upd_ne ne]; exact g1, g2, g3, vs', g4, g5, g6.up (same_upd h1)⟩
  · exact S.nd.sublist ((List.eraseIdx_sublist O j).map OE.a)
/-- behind a call that changes nothing that was there -/
theorem Hx.call (S : Hx K F0 H0 D0 F O H) (q : Stp [] F H F' H') : Hx K F0 H0 D0 F' O H' := by
  refine ⟨S.f0.trans q.ff, q.fh, fun a u e n => q.keep _ _ (S.keep a u e n) (by simp), fun a u e => ?_, fun a u e n => ?_, fun p hp => ?_, S.nd⟩
  · obtain ⟨u', e'⟩ := S.live a u e
    exact q.live _ _ e'
  · obtain ⟨u', e'⟩ := S.live a u e
    exact q.new _ _ e' (S.new a u e n)
  · obtain ⟨h1, h2, h3, vs, h4, h5, h6⟩ := S.own p hp
    exact ⟨q.new _ _ h4 h1, h2, h3, vs, q.keep _ _ h4 (by simp), h5, h6.up q.ff⟩
/-- .. that changes one own list -/
theorem Hx.call1 (S : Hx K F0 H0 D0 F O H) {j : Nat} {l : Addr} {nw : Bool} {ds ds' : List PyData} {vs : List V} (h : O[j]? = some ⟨l, nw, ds⟩) (q : Stp [l] F H F' H') (hl : H' l = some (.lst vs)) (hz : vs.length ≤ sizeLine) (r : RpAll K F' vs ds') :
    Hx K F0 H0 D0 F' (O.set j ⟨l, nw, ds'⟩) H' := by
  obtain ⟨h1, h2, h3, vs0, h4, h5, h6⟩ := S.get h
  refine ⟨S.f0.trans q.ff, q.fh, fun a u e n => ?_, fun a u e => ?_, fun a u e n => ?_, fun p hp => ?_, ?_⟩
  · have ne : a ≠ l := by
      rintro rfl
      cases nw with
      | true => rw [h2 rfl] at e; cases e
      | false => exact n (h3 rfl)
    exact q.keep _ _ (S.keep a u e n) (by simpa using ne)
  · obtain ⟨u', e'⟩ := S.live a u e
    exact q.live _ _ e'
  · obtain ⟨u', e'⟩ := S.live a u e
    exact q.new _ _ e' (S.new a u e n)
  · obtain ⟨i, hi⟩ := List.mem_iff_getElem?.mp hp
    by_cases e : j = i
    · subst e
      have hj : j < O.length := (List.getElem?_eq_some_iff.mp h).1
      rw [List.getElem?_set_self hj] at hi
      cases hi
      exact ⟨q.new _ _ h4 h1, h2, h3, vs, hl, hz, r⟩
    · rw [List.getElem?_set_ne e] at hi
      obtain ⟨g1, g2, g3, vs', g4, g5, g6⟩ := S.get hi
      have ne : p.a ≠ l := by
        intro z
        refine e (nodup_at S.nd (x := l) ?_ ?_)
        · rw [List.getElem?_map, h]; rfl
        · rw [List.getElem?_map, hi]; simp [z]
      exact ⟨q.new _ _ g4 g1, g2, g3, vs', q.keep _ _ g4 (by simpa using ne), g5, g6.up q.ff⟩
  · have e : (O.set j ⟨l, nw, ds'⟩).map OE.a = O.map OE.a := by
      rw [List.map_set]
      apply List.ext_getElem?
      intro i
      by_cases e : j = i
      · subst e
        have hj : j < O.length := (List.getElem?_eq_some_iff.mp h).1
        rw [List.getElem?_set_self (by simpa using hj), List.getElem?_map, h]; rfl
      · rw [List.getElem?_set_ne e]
    rw [e]
    exact S.nd
end
end TL

namespace TL
open PySem L2

/-! ### encodings -/
class Enc (α : Type) where
  enc : α → PyData
open Enc
@[reducible] instance : Enc Int := ⟨.int⟩
@[reducible] instance : Enc Bool := ⟨.bool⟩
@[reducible] instance : Enc Str := ⟨.str⟩
@[reducible] instance : Enc Unit := ⟨fun _ => .none⟩
@[reducible] instance {α : Type} [Enc α] : Enc (List α) := ⟨fun xs => .list (xs.map enc)⟩
@[reducible] instance {α β : Type} [Enc α] [Enc β] : Enc (α × β) := ⟨fun p => .tuple [enc p.1, enc p.2]⟩
/-- a tuple of any length, its items of one kind -/
structure Tp (α : Type) where
  l : List α
  deriving DecidableEq
@[reducible] instance {α : Type} [Enc α] : Enc (Tp α) := ⟨fun t => .tuple (t.l.map enc)⟩
structure T3 (α β γ : Type) where
  a : α
  b : β
  c : γ
  deriving DecidableEq
structure T4 (α β γ δ : Type) where
  a : α
  b : β
  c : γ
  d : δ
  deriving DecidableEq
@[reducible] instance {α β γ : Type} [Enc α] [Enc β] [Enc γ] : Enc (T3 α β γ) := ⟨fun p => .tuple [enc p.a, enc p.b, enc p.c]⟩
@[reducible] instance {α β γ δ : Type} [Enc α] [Enc β] [Enc γ] [Enc δ] : Enc (T4 α β γ δ) := ⟨fun p => .tuple [enc p.a, enc p.b, enc p.c, enc p.d]⟩
def encO {α : Type} [Enc α] : Option α → PyData
  | none => .none
  | some x => enc x
@[reducible] instance {α : Type} [Enc α] : Enc (Option α) := ⟨encO⟩

/-! ### judgements -/
section
variable (K : Fg)
structure RX (t : TE) (ρ : List Sl) (O : Os) (d : PyData) (O' : Os) : Prop where
  run : ∀ (F0 H0 : Hp) (D0 : List Addr) (σ : L2.St) (F H : Hp) (Q : VK), EnvR K F σ ρ → Hx K F0 H0 D0 F O H →
    (∀ v F' H', Same F F' → Hx K F0 H0 D0 F' O' H' → Rp K F' v d → Q v H') → t σ H Q
/-- a new list, own -/
structure RXo (t : TE) (ρ : List Sl) (O : Os) (ds : List PyData) (O' : Os) : Prop where
  run : ∀ (F0 H0 : Hp) (D0 : List Addr) (σ : L2.St) (F H : Hp) (Q : VK), EnvR K F σ ρ → Hx K F0 H0 D0 F O H →
    (∀ p F' H', Same F F' → Hx K F0 H0 D0 F' (⟨p, true, ds⟩ :: O') H' → Q (.ref p) H') → t σ H Q
/-- a list that is read -/
structure RXs (t : TE) (ρ : List Sl) (O : Os) (ds : List PyData) (O' : Os) : Prop where
  run : ∀ (F0 H0 : Hp) (D0 : List Addr) (σ : L2.St) (F H : Hp) (Q : VK), EnvR K F σ ρ → Hx K F0 H0 D0 F O H →
    (∀ a F' H', Same F F' → Hx K F0 H0 D0 F' O' H' → (∀ F2 H2, Same F' F2 → Hx K F0 H0 D0 F2 O' H2 → ∃ vs, SqL K H2 a vs ∧ vs.length ≤ sizeLine ∧ RpAll K F2 vs ds) → Q (.ref a) H') → t σ H Q
/-- what is read, by the whole heap -/
structure RXh (t : TE) (ρ : List Sl) (O : Os) (d : PyData) (O' : Os) : Prop where
  run : ∀ (F0 H0 : Hp) (D0 : List Addr) (σ : L2.St) (F H : Hp) (Q : VK), EnvR K F σ ρ → Hx K F0 H0 D0 F O H →
    (∀ v F' H', Same F F' → Hx K F0 H0 D0 F' O' H' → (∀ F2 H2, Same F' F2 → Hx K F0 H0 D0 F2 O' H2 → Rp K H2 v d) → Q v H') → t σ H Q
structure RA (t : TA) (ρ : List Sl) (O : Os) (as : List Sl) (O' : Os) : Prop where
  run : ∀ (F0 H0 : Hp) (D0 : List Addr) (σ : L2.St) (F H : Hp) (Q : List V → Hp → Prop), EnvR K F σ ρ → Hx K F0 H0 D0 F O H →
    (∀ vs F' H', Same F F' → Hx K F0 H0 D0 F' O' H' → AsR K F' vs as → Q vs H') → t σ H Q
structure RT (t : TT) (ρ : List Sl) (O : Os) (b : Bool) (O' : Os) : Prop where
  run : ∀ (F0 H0 : Hp) (D0 : List Addr) (σ : L2.St) (F H : Hp) (Q : Bool → Hp → Prop), EnvR K F σ ρ → Hx K F0 H0 D0 F O H →
    (∀ F' H', Same F F' → Hx K F0 H0 D0 F' O' H' → Q b H') → t σ H Q
structure RO (t : TO) (ρ : List Sl) (O : Os) (o : Option Int) (O' : Os) : Prop where
  run : ∀ (F0 H0 : Hp) (D0 : List Addr) (σ : L2.St) (F H : Hp) (Q : Option Int → Hp → Prop), EnvR K F σ ρ → Hx K F0 H0 D0 F O H →
    (∀ F' H', Same F F' → Hx K F0 H0 D0 F' O' H' → Q o H') → t σ H Q
/-- a target; ts its slots -/
structure RG (g : TG) (d : PyData) (ρ ρ' : List Sl) (ts : List Nat) : Prop where
  run : ∀ (σ : L2.St) (F H : Hp) (v : V) (Q : L2.St → Hp → Prop), EnvR K F σ ρ → Rp K F v d → Same F H →
    (∀ σ', EnvR K F σ' ρ' → (∀ vs : List Nat, (∀ t ∈ ts, t ∈ vs) → L2.wipe σ' vs = L2.wipe σ vs) → Q σ' H) → g v σ H Q
structure WalkD (J : It) (ys : List PyData) (F1 : Hp) : Prop where
  sz : ys.length ≤ sizeLine
  go : ∀ (F0 H0 : Hp) (D0 : List Addr) (F : Hp) (O : Os) (H : Hp) (i : Nat), i < ys.length → Same F1 F → Hx K F0 H0 D0 F O H → J.go i H
  stop : ∀ (F0 H0 : Hp) (D0 : List Addr) (F : Hp) (O : Os) (H : Hp), Same F1 F → Hx K F0 H0 D0 F O H → J.stop ys.length H
  yld : ∀ (F0 H0 : Hp) (D0 : List Addr) (F : Hp) (O : Os) (H : Hp) (i : Nat) (x : V) (H' : Hp), i < ys.length → Same F1 F → Hx K F0 H0 D0 F O H → J.yld i H x H' →
    ∃ F' y, Same F F' ∧ Hx K F0 H0 D0 F' O H' ∧ ys[i]? = some y ∧ Rp K F' x y
structure RI (wi : TI) (ρ : List Sl) (O : Os) (ys : List PyData) (O' : Os) : Prop where
  run : ∀ (F0 H0 : Hp) (D0 : List Addr) (σ : L2.St) (F H : Hp) (R : It → Hp → Prop), EnvR K F σ ρ → Hx K F0 H0 D0 F O H →
    (∀ J F' H', Same F F' → Hx K F0 H0 D0 F' O' H' → WalkD K J ys F' → R J H') → wi σ H R
end
section
variable {K : Fg} {t : TE} {ρ : List Sl} {O O' : Os} {d : PyData} {ds : List PyData} {F0 H0 : Hp} {D0 : List Addr} {σ : L2.St} {F H : Hp}
/-- the evaluation is used -/
theorem RX.go (h : RX K t ρ O d O') {Q : VK} (E : EnvR K F σ ρ) (S : Hx K F0 H0 D0 F O H)
    (k : ∀ v F' H', Same F F' → EnvR K F' σ ρ → Hx K F0 H0 D0 F' O' H' → Rp K F' v d → Q v H') : t σ H Q := h.run _ _ _ _ _ _ Q E S fun v F' H' f S' r => k v F' H' f (E.up f) S' r
theorem RXo.go (h : RXo K t ρ O ds O') {Q : VK} (E : EnvR K F σ ρ) (S : Hx K F0 H0 D0 F O H)
    (k : ∀ p F' H', Same F F' → EnvR K F' σ ρ → Hx K F0 H0 D0 F' (⟨p, true, ds⟩ :: O') H' → Q (.ref p) H') : t σ H Q := h.run _ _ _ _ _ _ Q E S fun v F' H' f S' => k v F' H' f (E.up f) S'
theorem RXs.go (h : RXs K t ρ O ds O') {Q : VK} (E : EnvR K F σ ρ) (S : Hx K F0 H0 D0 F O H)
    (k : ∀ a F' H', Same F F' → EnvR K F' σ ρ → Hx K F0 H0 D0 F' O' H' → (∀ F2 H2, Same F' F2 → Hx K F0 H0 D0 F2 O' H2 → ∃ vs, SqL K H2 a vs ∧ vs.length ≤ sizeLine ∧ RpAll K F2 vs ds) → Q (.ref a) H') : t σ H Q :=
  h.run _ _ _ _ _ _ Q E S fun a F' H' f S' q => k a F' H' f (E.up f) S' q
theorem RXh.go (h : RXh K t ρ O d O') {Q : VK} (E : EnvR K F σ ρ) (S : Hx K F0 H0 D0 F O H)
    (k : ∀ v F' H', Same F F' → EnvR K F' σ ρ → Hx K F0 H0 D0 F' O' H' → (∀ F2 H2, Same F' F2 → Hx K F0 H0 D0 F2 O' H2 → Rp K H2 v d) → Q v H') : t σ H Q :=
  h.run _ _ _ _ _ _ Q E S fun v F' H' f S' q => k v F' H' f (E.up f) S' q
theorem RT.go {t : TT} {b : Bool} (h : RT K t ρ O b O') {Q : Bool → Hp → Prop} (E : EnvR K F σ ρ) (S : Hx K F0 H0 D0 F O H)
    (k : ∀ F' H', Same F F' → EnvR K F' σ ρ → Hx K F0 H0 D0 F' O' H' → Q b H') : t σ H Q := h.run _ _ _ _ _ _ Q E S fun F' H' f S' => k F' H' f (E.up f) S'
theorem RA.go {t : TA} {as : List Sl} (h : RA K t ρ O as O') {Q : List V → Hp → Prop} (E : EnvR K F σ ρ) (S : Hx K F0 H0 D0 F O H)
    (k : ∀ vs F' H', Same F F' → EnvR K F' σ ρ → Hx K F0 H0 D0 F' O' H' → AsR K F' vs as → Q vs H') : t σ H Q := h.run _ _ _ _ _ _ Q E S fun v F' H' f S' r => k v F' H' f (E.up f) S' r
theorem RO.go {t : TO} {o : Option Int} (h : RO K t ρ O o O') {Q : Option Int → Hp → Prop} (E : EnvR K F σ ρ) (S : Hx K F0 H0 D0 F O H)
    (k : ∀ F' H', Same F F' → EnvR K F' σ ρ → Hx K F0 H0 D0 F' O' H' → Q o H') : t σ H Q := h.run _ _ _ _ _ _ Q E S fun F' H' f S' => k F' H' f (E.up f) S'
theorem RI.go {t : TI} {ys : List PyData} (h : RI K t ρ O ys O') {Q : It → Hp → Prop} (E : EnvR K F σ ρ) (S : Hx K F0 H0 D0 F O H)
    (k : ∀ J F' H', Same F F' → EnvR K F' σ ρ → Hx K F0 H0 D0 F' O' H' → WalkD K J ys F' → Q J H') : t σ H Q := h.run _ _ _ _ _ _ Q E S fun J F' H' f S' r => k J F' H' f (E.up f) S' r
theorem RXo.frz (h : RXo K t ρ O ds O') : RX K t ρ O (.list ds) O' := ⟨fun _ _ _ _ _ _ Q E S k => h.go E S fun p F' H' f _ S' => by
  obtain ⟨F2, f2, S2, r⟩ := S'.frz (j := 0) (l := p) (ds := ds) rfl
  exact k _ F2 H' (f.trans f2) S2 r⟩
theorem RX.s (h : RX K t ρ O (.list ds) O') : RXs K t ρ O ds O' := ⟨fun _ _ _ _ _ _ Q E S k => h.go E S fun v F' H' f _ S' r => by
  cases r with
  | lst h1 h2 h3 => exact k _ F' H' f S' fun F2 H2 f2 S2 => ⟨_, (f2.trans S2.fh).seq h1, h2, h3.up f2⟩⟩
theorem RXo.s (h : RXo K t ρ O ds O') : RXs K t ρ O ds O' := RX.s (RXo.frz h)
theorem RX.h (h : RX K t ρ O d O') : RXh K t ρ O d O' := ⟨fun _ _ _ _ _ _ Q E S k => h.go E S fun v F' H' f _ S' r => k v F' H' f S' fun F2 H2 f2 S2 => r.up (f2.trans S2.fh)⟩
theorem RXs.h (h : RXs K t ρ O ds O') : RXh K t ρ O (.list ds) O' := ⟨fun _ _ _ _ _ _ Q E S k => h.go E S fun a F' H' f _ S' h1 => k _ F' H' f S' fun F2 H2 f2 S2 => by
  obtain ⟨vs, q1, q2, q3⟩ := h1 F2 H2 f2 S2
  exact .lst q1 q2 (q3.up S2.fh)⟩

/-! ### names, constants -/
theorem rx_var {i : Nat} (h : ρ[i]? = some (.val d)) : RX K (tVar i) ρ O d O := ⟨fun _ _ _ _ _ _ Q E S k => by
  obtain ⟨v, h1, h2⟩ := E.val h
  exact ⟨v, h1, k v _ _ (Same.refl _) S h2⟩⟩
theorem rxs_own {i j : Nat} {a : Addr} {nw : Bool} (h : ρ[i]? = some (.adr a)) (ho : O[j]? = some ⟨a, nw, ds⟩) : RXs K (tVar i) ρ O ds O := ⟨fun _ _ _ _ _ _ Q E S k => by
  refine ⟨_, E.adr h, k a _ _ (Same.refl _) S fun F2 H2 f2 S2 => ?_⟩
  obtain ⟨_, _, _, vs', h4', h5', h6'⟩ := S2.get ho
  exact ⟨vs', SqL.of h4', h5', h6'⟩⟩
theorem rx_int {i : Int} : RX K (tC (.int i)) ρ O (.int i) O := ⟨fun _ _ _ _ _ _ Q E S k => k _ _ _ (Same.refl _) S (.int i)⟩
theorem rx_bl {b : Bool} : RX K (tC (.bl b)) ρ O (.bool b) O := ⟨fun _ _ _ _ _ _ Q E S k => k _ _ _ (Same.refl _) S (.bl b)⟩
theorem rx_str {x : Str} : RX K (tC (.str x)) ρ O (.str x) O := ⟨fun _ _ _ _ _ _ Q E S k => k _ _ _ (Same.refl _) S (.str x)⟩
theorem rx_non : RX K (tC .non) ρ O .none O := ⟨fun _ _ _ _ _ _ Q E S k => k _ _ _ (Same.refl _) S .non⟩
end
end TL

namespace TL
open PySem L2
open Enc

/-! ### operators -/
section
variable {K : Fg} {ta tb tc : TE} {ρ : List Sl} {O O1 O2 O3 : Os}
/-- two-place rules by values -/
theorem rx_op {r : R2} {d e f : PyData} (ha : RX K ta ρ O d O1) (hb : RX K tb ρ O1 e O2)
    (hr : ∀ (F H : Hp) (x y : V) (Q : VK), Same F H → Rp K F x d → Rp K F y e → (∀ v, Rp K F v f → Q v H) → r x y H Q) : RX K (tOp r ta tb) ρ O f O2 := ⟨fun _ _ _ _ _ _ Q E S k =>
  ha.go E S fun x F1 H1 f1 E1 S1 r1 => hb.go E1 S1 fun y F2 H2 f2 E2 S2 r2 => hr F2 H2 x y Q S2.fh (r1.up f2) r2 fun v r3 => k v F2 H2 (f1.trans f2) S2 r3⟩
theorem rx_ii {g : Int → Int → V} {i j : Int} {f : PyData} (hg : ∀ F, Rp K F (g i j) f) (ha : RX K ta ρ O (.int i) O1) (hb : RX K tb ρ O1 (.int j) O2) : RX K (tOp (rI0 g) ta tb) ρ O f O2 :=
  rx_op ha hb fun F H x y Q _ rx ry k => by
    cases rx
    cases ry
    exact ⟨i, j, rfl, rfl, k _ (hg F)⟩
theorem rx_iiC {C : Int → Int → Prop} {g : Int → Int → V} {i j : Int} {f : PyData} (hg : ∀ F, Rp K F (g i j) f) (hc : C i j) (ha : RX K ta ρ O (.int i) O1) (hb : RX K tb ρ O1 (.int j) O2) : RX K (tOp (rI C g) ta tb) ρ O f O2 :=
  rx_op ha hb fun F H x y Q _ rx ry k => by
    cases rx
    cases ry
    exact ⟨i, j, rfl, rfl, hc, k _ (hg F)⟩
variable {i j : Int}
theorem rx_add (ha : RX K ta ρ O (.int i) O1) (hb : RX K tb ρ O1 (.int j) O2) : RX K (tOp (rI0 fun i j => .int (i + j)) ta tb) ρ O (.int (i + j)) O2 := rx_ii (fun _ => .int _) ha hb
theorem rx_sub (ha : RX K ta ρ O (.int i) O1) (hb : RX K tb ρ O1 (.int j) O2) : RX K (tOp (rI0 fun i j => .int (i - j)) ta tb) ρ O (.int (i - j)) O2 := rx_ii (fun _ => .int _) ha hb
theorem rx_band (ha : RX K ta ρ O (.int i) O1) (hb : RX K tb ρ O1 (.int j) O2) : RX K (tOp (rI0 fun i j => .int (Builtin.bitAnd i j)) ta tb) ρ O (.int (Builtin.bitAnd i j)) O2 := rx_ii (fun _ => .int _) ha hb
theorem rx_bor (ha : RX K ta ρ O (.int i) O1) (hb : RX K tb ρ O1 (.int j) O2) : RX K (tOp (rI0 fun i j => .int (Builtin.bitOr i j)) ta tb) ρ O (.int (Builtin.bitOr i j)) O2 := rx_ii (fun _ => .int _) ha hb
theorem rx_bxor (ha : RX K ta ρ O (.int i) O1) (hb : RX K tb ρ O1 (.int j) O2) : RX K (tOp (rI0 fun i j => .int (Builtin.bitXor i j)) ta tb) ρ O (.int (Builtin.bitXor i j)) O2 := rx_ii (fun _ => .int _) ha hb
theorem rx_mul (ha : RX K ta ρ O (.int i) O1) (hb : RX K tb ρ O1 (.int j) O2) (hc : CMul i j) : RX K (tOp (rI CMul fun i j => .int (i * j)) ta tb) ρ O (.int (i * j)) O2 := rx_iiC (fun _ => .int _) hc ha hb
theorem rx_mod (ha : RX K ta ρ O (.int i) O1) (hb : RX K tb ρ O1 (.int j) O2) (hc : 0 < j) : RX K (tOp (rI (fun _ j => 0 < j) fun i j => .int (i % j)) ta tb) ρ O (.int (i % j)) O2 := rx_iiC (C := fun _ j => 0 < j) (fun _ => .int _) hc ha hb
theorem rx_fdiv (ha : RX K ta ρ O (.int i) O1) (hb : RX K tb ρ O1 (.int j) O2) (hc : CDiv i j) : RX K (tOp (rI CDiv fun i j => .int (i / j)) ta tb) ρ O (.int (i / j)) O2 := rx_iiC (fun _ => .int _) hc ha hb
theorem rx_pow (ha : RX K ta ρ O (.int i) O1) (hb : RX K tb ρ O1 (.int j) O2) (hc : CPow i j) : RX K (tOp (rI CPow fun i j => .int (i ^ j.toNat)) ta tb) ρ O (.int (i ^ j.toNat)) O2 := rx_iiC (fun _ => .int _) hc ha hb
theorem rx_shl (ha : RX K ta ρ O (.int i) O1) (hb : RX K tb ρ O1 (.int j) O2) (hc : CPow i j) : RX K (tOp (rI CPow fun i j => .int (i * 2 ^ j.toNat)) ta tb) ρ O (.int (i * 2 ^ j.toNat)) O2 := rx_iiC (fun _ => .int _) hc ha hb
theorem rx_shr (ha : RX K ta ρ O (.int i) O1) (hb : RX K tb ρ O1 (.int j) O2) (hc : 0 ≤ j) : RX K (tOp (rI (fun _ j => 0 ≤ j) fun i j => .int (i / 2 ^ j.toNat)) ta tb) ρ O (.int (i / 2 ^ j.toNat)) O2 := rx_iiC (C := fun _ j => 0 ≤ j) (fun _ => .int _) hc ha hb
theorem rx_lt (ha : RX K ta ρ O (.int i) O1) (hb : RX K tb ρ O1 (.int j) O2) : RX K (tOp (rI0 fun i j => .bl (decide (i < j))) ta tb) ρ O (.bool (decide (i < j))) O2 := rx_ii (fun _ => .bl _) ha hb
theorem rx_le (ha : RX K ta ρ O (.int i) O1) (hb : RX K tb ρ O1 (.int j) O2) : RX K (tOp (rI0 fun i j => .bl (decide (i ≤ j))) ta tb) ρ O (.bool (decide (i ≤ j))) O2 := rx_ii (fun _ => .bl _) ha hb
theorem rx_gt (ha : RX K ta ρ O (.int i) O1) (hb : RX K tb ρ O1 (.int j) O2) : RX K (tOp (rI0 fun i j => .bl (decide (j < i))) ta tb) ρ O (.bool (decide (j < i))) O2 := rx_ii (fun _ => .bl _) ha hb
theorem rx_ge (ha : RX K ta ρ O (.int i) O1) (hb : RX K tb ρ O1 (.int j) O2) : RX K (tOp (rI0 fun i j => .bl (decide (j ≤ i))) ta tb) ρ O (.bool (decide (j ≤ i))) O2 := rx_ii (fun _ => .bl _) ha hb
theorem rx_neg {g : Int → V} {f : PyData} (ha : RX K ta ρ O (.int i) O1) (hg : ∀ F, Rp K F (g i) f) : RX K (tUn (rU g) ta) ρ O f O1 := ⟨fun _ _ _ _ _ _ Q E S k =>
  ha.go E S fun x F1 H1 f1 E1 S1 r1 => by
    cases r1
    exact ⟨i, rfl, k _ _ _ f1 S1 (hg _)⟩⟩
theorem rx_usub (ha : RX K ta ρ O (.int i) O1) : RX K (tUn (rU fun i => .int (-i)) ta) ρ O (.int (-i)) O1 := rx_neg ha fun _ => .int _
theorem rx_inv (ha : RX K ta ρ O (.int i) O1) : RX K (tUn (rU fun i => .int (Builtin.bitNot i)) ta) ρ O (.int (Builtin.bitNot i)) O1 := rx_neg ha fun _ => .int _

/-! ### == -/
/-- kinds whose data == tells apart as Lean's = does; ok: the texts within are texts -/
class EqD (α : Type) [Enc α] [DecidableEq α] where
  ok : α → Bool
  eqv : ∀ x y : α, PyData.eqv (enc x) (enc y) = decide (x = y)
  dp : Nat
  dep : ∀ x : α, (enc x).depth ≤ dp
  lay : ∀ x : α, ok x = true → (enc x).canLay0 = true
theorem eqvAll_map {α : Type} [Enc α] [DecidableEq α] [EqD α] : ∀ xs ys : List α, PyData.eqvAll (xs.map enc) (ys.map enc) = decide (xs = ys)
  | [], [] => by simp [PyData.eqvAll]
  | [], y :: ys => by simp [PyData.eqvAll]
  | x :: xs, [] => by simp [PyData.eqvAll]
  | x :: xs, y :: ys => by
    rw [List.map_cons, List.map_cons, PyData.eqvAll, EqD.eqv, eqvAll_map xs ys]
    rw [Bool.eq_iff_iff]
    simp
end

theorem canLayAll_map {α : Type} [Enc α] [DecidableEq α] [EqD α] : ∀ xs : List α, xs.all EqD.ok = true → PyData.canLayAll0 (xs.map enc) = true
  | [], _ => rfl
  | x :: xs, h => by
    rw [List.all_cons, Bool.and_eq_true] at h
    rw [List.map_cons, PyData.canLayAll0, EqD.lay x h.1, canLayAll_map xs h.2]
    rfl
theorem depthAll_map {α : Type} [Enc α] [DecidableEq α] [EqD α] : ∀ xs : List α, PyData.depthAll (xs.map enc) ≤ EqD.dp α
  | [] => Nat.zero_le _
  | x :: xs => by
    rw [List.map_cons, PyData.depthAll]
    have h1 := EqD.dep x
    have h2 := depthAll_map xs
    omega
instance : EqD Int := ⟨fun _ => true, fun x y => by simp [enc, PyData.eqv, Bool.beq_eq_decide_eq], 0, fun _ => Nat.le_refl _, fun _ _ => rfl⟩
instance : EqD Bool := ⟨fun _ => true, fun x y => by simp [enc, PyData.eqv, Bool.beq_eq_decide_eq], 0, fun _ => Nat.le_refl _, fun _ _ => rfl⟩
instance : EqD Str := ⟨PyData.strOk, fun x y => by simp [enc, PyData.eqv, Bool.beq_eq_decide_eq], 0, fun _ => Nat.le_refl _, fun x h => by simpa [enc, PyData.canLay0] using h⟩
instance {α : Type} [Enc α] [DecidableEq α] [EqD α] : EqD (List α) := ⟨fun xs => xs.all EqD.ok, fun x y => by simp only [enc, PyData.eqv, eqvAll_map], EqD.dp α + 1, fun x => by
  have := depthAll_map x
  simp only [enc, PyData.depth]; omega, fun x h => by
  simp only [enc, PyData.canLay0]
  exact canLayAll_map x h⟩
instance {α : Type} [Enc α] [DecidableEq α] [EqD α] : EqD (Tp α) := ⟨fun xs => xs.l.all EqD.ok, fun x y => by
  simp only [enc, PyData.eqv, eqvAll_map]
  cases x; cases y; simp, EqD.dp α + 1, fun x => by
  have := depthAll_map x.l
  simp only [enc, PyData.depth]; omega, fun x h => by
  simp only [enc, PyData.canLay0]
  exact canLayAll_map x.l h⟩
instance {α β : Type} [Enc α] [DecidableEq α] [EqD α] [Enc β] [DecidableEq β] [EqD β] : EqD (α × β) := ⟨fun p => EqD.ok p.1 && EqD.ok p.2, fun x y => by
  simp only [enc, PyData.eqv, PyData.eqvAll, EqD.eqv, Bool.and_true]
  cases x; cases y; rw [Bool.eq_iff_iff]; simp, max (EqD.dp α) (EqD.dp β) + 1, fun x => by
  have h1 := EqD.dep x.1
  have h2 := EqD.dep x.2
  simp only [enc, PyData.depth, PyData.depthAll] at *; omega, fun x h => by
  rw [Bool.and_eq_true] at h
  simp only [enc, PyData.canLay0, PyData.canLayAll0, Bool.and_true, Bool.and_eq_true]
  exact ⟨EqD.lay _ h.1, EqD.lay _ h.2⟩⟩
instance {α β γ : Type} [Enc α] [DecidableEq α] [EqD α] [Enc β] [DecidableEq β] [EqD β] [Enc γ] [DecidableEq γ] [EqD γ] : EqD (T3 α β γ) := ⟨fun p => EqD.ok p.a && (EqD.ok p.b && EqD.ok p.c), fun x y => by
  simp only [enc, PyData.eqv, PyData.eqvAll, EqD.eqv, Bool.and_true]
  cases x; cases y; rw [Bool.eq_iff_iff]; simp, max (EqD.dp α) (max (EqD.dp β) (EqD.dp γ)) + 1, fun x => by
  have h1 := EqD.dep x.a
  have h2 := EqD.dep x.b
  have h3 := EqD.dep x.c
  simp only [enc, PyData.depth, PyData.depthAll] at *; omega, fun x h => by
  rw [Bool.and_eq_true, Bool.and_eq_true] at h
  simp only [enc, PyData.canLay0, PyData.canLayAll0, Bool.and_true, Bool.and_eq_true]
  exact ⟨EqD.lay _ h.1, EqD.lay _ h.2.1, EqD.lay _ h.2.2⟩⟩
instance {α β γ δ : Type} [Enc α] [DecidableEq α] [EqD α] [Enc β] [DecidableEq β] [EqD β] [Enc γ] [DecidableEq γ] [EqD γ] [Enc δ] [DecidableEq δ] [EqD δ] : EqD (T4 α β γ δ) := ⟨fun p => EqD.ok p.a && (EqD.ok p.b && (EqD.ok p.c && EqD.ok p.d)), fun x y => by
  simp only [enc, PyData.eqv, PyData.eqvAll, EqD.eqv, Bool.and_true]
  cases x; cases y; rw [Bool.eq_iff_iff]; simp, max (EqD.dp α) (max (EqD.dp β) (max (EqD.dp γ) (EqD.dp δ))) + 1, fun x => by
  have h1 := EqD.dep x.a
  have h2 := EqD.dep x.b
  have h3 := EqD.dep x.c
  have h4 := EqD.dep x.d
  simp only [enc, PyData.depth, PyData.depthAll] at *; omega, fun x h => by
  rw [Bool.and_eq_true, Bool.and_eq_true, Bool.and_eq_true] at h
  simp only [enc, PyData.canLay0, PyData.canLayAll0, Bool.and_true, Bool.and_eq_true]
  exact ⟨EqD.lay _ h.1, EqD.lay _ h.2.1, EqD.lay _ h.2.2.1, EqD.lay _ h.2.2.2⟩⟩
instance : EqD (Option Int) := ⟨fun _ => true, fun x y => by cases x <;> cases y <;> simp [enc, encO, PyData.eqv, Bool.beq_eq_decide_eq], 0, fun x => by cases x <;> exact Nat.le_refl _, fun x _ => by cases x <;> rfl⟩

section
variable {K : Fg} {ta tb tc : TE} {ρ : List Sl} {O O1 O2 O3 : Os}
/-- two-place rules that read the whole heap -/
theorem rx_opH {r : R2} {d e f : PyData} (ha : RXh K ta ρ O d O1) (hb : RXh K tb ρ O1 e O1)
    (hr : ∀ (H : Hp) (x y : V) (Q : VK), Rp K H x d → Rp K H y e → (∀ v, (∀ F, Rp K F v f) → Q v H) → r x y H Q) : RX K (tOp r ta tb) ρ O f O1 := ⟨fun _ _ _ _ _ _ Q E S k =>
  ha.go E S fun x F1 H1 f1 E1 S1 r1 => hb.go E1 S1 fun y F2 H2 f2 E2 S2 r2 => hr H2 x y Q (r1 F2 H2 f2 S2) (r2 F2 H2 (Same.refl _) S2) fun v r3 => k v F2 H2 (f1.trans f2) S2 (r3 F2)⟩
theorem rx_eqD {α : Type} [Enc α] [DecidableEq α] [EqD α] {x y : α} (ha : RXh K ta ρ O (enc x) O1) (hb : RXh K tb ρ O1 (enc y) O1) (hd : EqD.dp α ≤ 64) (hx : EqD.ok x = true) (hy : EqD.ok y = true) :
    RX K (tOp (rEqD K) ta tb) ρ O (.bool (decide (x = y))) O1 := rx_opH ha hb fun H u v Q ru rv k => by
  have s : ∀ z : α, EqD.ok z = true → SeqAt.shaped (enc z) = true := fun z h => by
    unfold SeqAt.shaped
    rw [EqD.lay z h, Bool.true_and]
    exact decide_eq_true (Nat.le_trans (EqD.dep z) hd)
  refine ⟨enc x, enc y, ru.dp _ _, rv.dp _ _, s x hx, s y hy, ?_⟩
  rw [EqD.eqv]
  exact k _ fun _ => .bl _
theorem rx_neD {α : Type} [Enc α] [DecidableEq α] [EqD α] {x y : α} (ha : RXh K ta ρ O (enc x) O1) (hb : RXh K tb ρ O1 (enc y) O1) (hd : EqD.dp α ≤ 64) (hx : EqD.ok x = true) (hy : EqD.ok y = true) :
    RX K (tOp (rNeD K) ta tb) ρ O (.bool (!decide (x = y))) O1 := rx_opH ha hb fun H u v Q ru rv k => by
  have s : ∀ z : α, EqD.ok z = true → SeqAt.shaped (enc z) = true := fun z h => by
    unfold SeqAt.shaped
    rw [EqD.lay z h, Bool.true_and]
    exact decide_eq_true (Nat.le_trans (EqD.dep z) hd)
  refine ⟨enc x, enc y, ru.dp _ _, rv.dp _ _, s x hx, s y hy, ?_⟩
  rw [EqD.eqv]
  exact k _ fun _ => .bl _
/-- == of texts -/
theorem rx_eqs {i j : Str} (ha : RX K ta ρ O (.str i) O1) (hb : RX K tb ρ O1 (.str j) O2) : RX K (tOp rEq ta tb) ρ O (.bool (decide (i = j))) O2 := rx_op ha hb fun F H x y Q _ rx ry k => by
  cases rx
  cases ry
  refine ⟨rfl, ?_⟩
  rw [show decide (V.str i = V.str j) = decide (i = j) from by simp]
  exact k _ (.bl _)
theorem rx_nes {i j : Str} (ha : RX K ta ρ O (.str i) O1) (hb : RX K tb ρ O1 (.str j) O2) : RX K (tOp rNe ta tb) ρ O (.bool (!decide (i = j))) O2 := rx_op ha hb fun F H x y Q _ rx ry k => by
  cases rx
  cases ry
  refine ⟨rfl, ?_⟩
  rw [show decide (V.str i = V.str j) = decide (i = j) from by simp]
  exact k _ (.bl _)
theorem rx_eqi {i j : Int} (ha : RX K ta ρ O (.int i) O1) (hb : RX K tb ρ O1 (.int j) O2) : RX K (tOp rEq ta tb) ρ O (.bool (decide (i = j))) O2 := rx_op ha hb fun F H x y Q _ rx ry k => by
  cases rx
  cases ry
  refine ⟨rfl, ?_⟩
  rw [show decide (V.int i = V.int j) = decide (i = j) from by simp]
  exact k _ (.bl _)
theorem rx_nei {i j : Int} (ha : RX K ta ρ O (.int i) O1) (hb : RX K tb ρ O1 (.int j) O2) : RX K (tOp rNe ta tb) ρ O (.bool (!decide (i = j))) O2 := rx_op ha hb fun F H x y Q _ rx ry k => by
  cases rx
  cases ry
  refine ⟨rfl, ?_⟩
  rw [show decide (V.int i = V.int j) = decide (i = j) from by simp]
  exact k _ (.bl _)
theorem rx_eqb {i j : Bool} (ha : RX K ta ρ O (.bool i) O1) (hb : RX K tb ρ O1 (.bool j) O2) : RX K (tOp rEq ta tb) ρ O (.bool (decide (i = j))) O2 := rx_op ha hb fun F H x y Q _ rx ry k => by
  cases rx
  cases ry
  refine ⟨rfl, ?_⟩
  rw [show decide (V.bl i = V.bl j) = decide (i = j) from by simp]
  exact k _ (.bl _)
theorem rx_neb {i j : Bool} (ha : RX K ta ρ O (.bool i) O1) (hb : RX K tb ρ O1 (.bool j) O2) : RX K (tOp rNe ta tb) ρ O (.bool (!decide (i = j))) O2 := rx_op ha hb fun F H x y Q _ rx ry k => by
  cases rx
  cases ry
  refine ⟨rfl, ?_⟩
  rw [show decide (V.bl i = V.bl j) = decide (i = j) from by simp]
  exact k _ (.bl _)
/-- is None of what may be None -/
theorem rx_isN {α : Type} [Enc α] {o : Option α} (hn : ∀ x : α, enc x ≠ .none) (ha : RX K ta ρ O (enc o) O1) : RX K (tIsN ta) ρ O (.bool o.isNone) O1 := ⟨fun _ _ _ _ _ _ Q E S k => ha.go E S fun x F1 H1 f1 E1 S1 r1 => by
  have e : decide (x = V.non) = o.isNone := by
    cases o with
    | none => cases r1; rfl
    | some z =>
      have r1 : Rp K F1 x (enc z) := r1
      refine decide_eq_false fun q => ?_
      subst q
      generalize h : enc z = d at r1
      cases r1
      exact hn z h
  rw [e]
  exact k _ _ _ f1 S1 (.bl _)⟩
theorem rx_notN {α : Type} [Enc α] {o : Option α} (hn : ∀ x : α, enc x ≠ .none) (ha : RX K ta ρ O (enc o) O1) : RX K (tNotN ta) ρ O (.bool o.isSome) O1 := ⟨fun _ _ _ _ _ _ Q E S k => ha.go E S fun x F1 H1 f1 E1 S1 r1 => by
  have e : (!decide (x = V.non)) = o.isSome := by
    cases o with
    | none => cases r1; rfl
    | some z =>
      have r1 : Rp K F1 x (enc z) := r1
      have : decide (x = V.non) = false := decide_eq_false fun q => by
        subst q
        generalize h : enc z = d at r1
        cases r1
        exact hn z h
      rw [this]; rfl
  rw [e]
  exact k _ _ _ f1 S1 (.bl _)⟩
end
end TL

namespace TL
open PySem L2
open Enc
/-! ### displays, arguments -/
section
variable {K : Fg} {ta tb tc : TE} {ρ : List Sl} {O O1 O2 O3 : Os} {t : TA}
theorem ra_nil : RA K tNil ρ O [] O := ⟨fun _ _ _ _ _ _ Q E S k => k _ _ _ (Same.refl _) S .nil⟩
theorem ra_cons {d : PyData} {as : List Sl} (ha : RX K ta ρ O d O1) (hr : RA K t ρ O1 as O2) : RA K (tCons ta t) ρ O (.val d :: as) O2 := ⟨fun _ _ _ _ _ _ Q E S k =>
  ha.go E S fun x F1 H1 f1 E1 S1 r1 => hr.go E1 S1 fun xs F2 H2 f2 E2 S2 r2 => k _ F2 H2 (f1.trans f2) S2 (.val (r1.up f2) r2)⟩
theorem ra_own {i : Nat} {a : Addr} {as : List Sl} (h : ρ[i]? = some (.adr a)) (hr : RA K t ρ O as O2) : RA K (tCons (tVar i) t) ρ O (.adr a :: as) O2 := ⟨fun _ _ _ _ _ _ Q E S k =>
  ⟨_, E.adr h, hr.go E S fun xs F2 H2 f2 E2 S2 r2 => k _ F2 H2 f2 S2 (.adr r2)⟩⟩
theorem rx_tup {ds : List PyData} (h : RA K t ρ O (ds.map .val) O1) (hz : ds.length ≤ 1000 := by exact Nat.le_of_ble_eq_true rfl) : RX K (tTup t) ρ O (.tuple ds) O1 := ⟨fun _ _ _ _ _ _ Q E S k => h.go E S fun vs F1 H1 f1 E1 S1 r1 => by
  have r := r1.all
  have hl := r.length
  have hz' : vs.length ≤ sizeLine := Nat.le_trans (by omega : vs.length ≤ 1000) (by decide)
  refine ⟨hz', fun p hp => ?_⟩
  have f2 := same_upd (o := .tup vs) (S1.nof hp)
  exact k _ _ _ (f1.trans f2) (S1.put hp) (.tup (SqT.of upd_same) hz' (r.up f2))⟩
theorem rxo_lst {ds : List PyData} (h : RA K t ρ O (ds.map .val) O1) (hz : ds.length ≤ 1000 := by exact Nat.le_of_ble_eq_true rfl) : RXo K (tLst t) ρ O ds O1 := ⟨fun _ _ _ _ _ _ Q E S k => h.go E S fun vs F1 H1 f1 E1 S1 r1 => by
  have r := r1.all
  have hl := r.length
  have hz' : vs.length ≤ sizeLine := Nat.le_trans (by omega : vs.length ≤ 1000) (by decide)
  exact ⟨hz', fun p hp => k _ _ _ f1 (S1.mine hp hz' r)⟩⟩

/-! ### calls of built-ins, by values -/
theorem rx_cb1 {r : List V → Hp → VK → Prop} {d f : PyData} (ha : RX K ta ρ O d O1) (hr : ∀ (F H : Hp) (x : V) (Q : VK), Same F H → Rp K F x d → (∀ v, Rp K F v f → Q v H) → r [x] H Q) : RX K (tCB r (tCons ta tNil)) ρ O f O1 := ⟨fun _ _ _ _ _ _ Q E S k =>
  ha.go E S fun x F1 H1 f1 E1 S1 r1 => hr F1 H1 x Q S1.fh r1 fun v r3 => k v F1 H1 f1 S1 r3⟩
theorem rx_cb2 {r : List V → Hp → VK → Prop} {d e f : PyData} (ha : RX K ta ρ O d O1) (hb : RX K tb ρ O1 e O2) (hr : ∀ (F H : Hp) (x y : V) (Q : VK), Same F H → Rp K F x d → Rp K F y e → (∀ v, Rp K F v f → Q v H) → r [x, y] H Q) :
    RX K (tCB r (tCons ta (tCons tb tNil))) ρ O f O2 := ⟨fun _ _ _ _ _ _ Q E S k =>
  ha.go E S fun x F1 H1 f1 E1 S1 r1 => hb.go E1 S1 fun y F2 H2 f2 E2 S2 r2 => hr F2 H2 x y Q S2.fh (r1.up f2) r2 fun v r3 => k v F2 H2 (f1.trans f2) S2 r3⟩
/-- over a list that is read -/
theorem rx_cbs {r : List V → Hp → VK → Prop} {ds : List PyData} {f : PyData} (ha : RXs K ta ρ O ds O1)
    (hr : ∀ (F H : Hp) (a : Addr) (vs : List V) (Q : VK), Same F H → SqL K H a vs → vs.length ≤ sizeLine → RpAll K F vs ds → (∀ v, (∀ F, Rp K F v f) → Q v H) → r [.ref a] H Q) : RX K (tCB r (tCons ta tNil)) ρ O f O1 := ⟨fun _ _ _ _ _ _ Q E S k =>
  ha.go E S fun a F1 H1 f1 E1 S1 r1 => by
    obtain ⟨vs, q1, q2, q3⟩ := r1 F1 H1 (Same.refl _) S1
    exact hr F1 H1 a vs Q S1.fh q1 q2 q3 fun v r3 => k v F1 H1 f1 S1 (r3 F1)⟩
abbrev rLenQ (K : Fg) : List V → Hp → VK → Prop := fun xs H Q => ∃ p ys, xs = [.ref p] ∧ (SqL K H p ys ∨ SqT K H p ys) ∧ Q (.int ys.length) H
theorem rx_len {ds : List PyData} (ha : RXs K ta ρ O ds O1) : RX K (tCB (rLenQ K) (tCons ta tNil)) ρ O (.int (ds.length : Nat)) O1 := rx_cbs ha fun F H a vs Q _ h1 h2 h3 k =>
  ⟨a, vs, rfl, .inl h1, by rw [h3.length]; exact k _ fun _ => .int _⟩
theorem rx_lenT {ds : List PyData} (ha : RX K ta ρ O (.tuple ds) O1) : RX K (tCB (rLenQ K) (tCons ta tNil)) ρ O (.int (ds.length : Nat)) O1 := rx_cb1 ha fun F H x Q f r k => by
  cases r with
  | tup h1 h2 h3 => exact ⟨_, _, rfl, .inr (same_t f h1), by rw [h3.length]; exact k _ (.int _)⟩
theorem rx_lenS {z : Str} (ha : RX K ta ρ O (.str z) O1) (hz : z.length ≤ sizeLine) : RX K (tCB (fun xs H Q => ∃ z, xs = [.str z] ∧ z.length ≤ sizeLine ∧ Q (.int z.length) H) (tCons ta tNil)) ρ O (.int z.length) O1 := rx_cb1 ha fun F H x Q f r k => by
  cases r
  exact ⟨_, rfl, hz, k _ (.int _)⟩
theorem rx_sum {ns : List Int} (ha : RXs K ta ρ O (ns.map .int) O1) : RX K (tCB (rSum K) (tCons ta tNil)) ρ O (.int ns.sum) O1 := rx_cbs ha fun F H a vs Q _ h1 h2 h3 k =>
  ⟨a, ns, rfl, (by rw [← h3.ints]; exact h1), k _ fun _ => .int _⟩
theorem rx_all {ns : List Bool} (ha : RXs K ta ρ O (ns.map .bool) O1) : RX K (tCB (rAll K) (tCons ta tNil)) ρ O (.bool (ns.all id)) O1 := rx_cbs ha fun F H a vs Q _ h1 h2 h3 k =>
  ⟨a, ns, rfl, (by rw [← h3.bools]; exact h1), k _ fun _ => .bl _⟩
def maxO (ns : List Int) : Option Int := ns.max?
def minO (ns : List Int) : Option Int := ns.min?
theorem rx_max {ns : List Int} {m : Int} (hm : maxO ns = some m) (ha : RXs K ta ρ O (ns.map .int) O1) : RX K (tCB (rMax K) (tCons ta tNil)) ρ O (.int m) O1 := rx_cbs ha fun F H a vs Q _ h1 h2 h3 k => by
  have hm' : ns.max? = some m := hm
  rw [List.max?_eq_some_iff] at hm'
  refine ⟨a, ns, rfl, (by rw [← h3.ints]; exact h1), ?_, fun m' h4 h5 => ?_⟩
  · cases ns with
    | nil => simp at hm'
    | cons _ _ => exact Nat.succ_pos _
  · have e : m' = m := Int.le_antisymm (hm'.2 _ h4) (h5 _ hm'.1)
    subst e
    exact k _ fun _ => .int _
theorem rx_min {ns : List Int} {m : Int} (hm : minO ns = some m) (ha : RXs K ta ρ O (ns.map .int) O1) : RX K (tCB (rMin K) (tCons ta tNil)) ρ O (.int m) O1 := rx_cbs ha fun F H a vs Q _ h1 h2 h3 k => by
  have hm' : ns.min? = some m := hm
  rw [List.min?_eq_some_iff] at hm'
  refine ⟨a, ns, rfl, (by rw [← h3.ints]; exact h1), ?_, fun m' h4 h5 => ?_⟩
  · cases ns with
    | nil => simp at hm'
    | cons _ _ => exact Nat.succ_pos _
  · have e : m' = m := Int.le_antisymm (h5 _ hm'.1) (hm'.2 _ h4)
    subst e
    exact k _ fun _ => .int _
def max2 (i j : Int) : Int := if j > i then j else i
def min2 (i j : Int) : Int := if j < i then j else i
def abs1 (i : Int) : Int := if i < 0 then -i else i
theorem rx_max2 {i j : Int} (ha : RX K ta ρ O (.int i) O1) (hb : RX K tb ρ O1 (.int j) O2) : RX K (tCB (fun xs H Q => ∃ i j, xs = [.int i, .int j] ∧ Q (.int (if j > i then j else i)) H) (tCons ta (tCons tb tNil))) ρ O (.int (max2 i j)) O2 := rx_cb2 ha hb fun F H x y Q f r s k => by
  cases r
  cases s
  exact ⟨i, j, rfl, k _ (.int _)⟩
theorem rx_min2 {i j : Int} (ha : RX K ta ρ O (.int i) O1) (hb : RX K tb ρ O1 (.int j) O2) : RX K (tCB (fun xs H Q => ∃ i j, xs = [.int i, .int j] ∧ Q (.int (if j < i then j else i)) H) (tCons ta (tCons tb tNil))) ρ O (.int (min2 i j)) O2 := rx_cb2 ha hb fun F H x y Q f r s k => by
  cases r
  cases s
  exact ⟨i, j, rfl, k _ (.int _)⟩
theorem rx_abs {i : Int} (ha : RX K ta ρ O (.int i) O1) : RX K (tCB (fun xs H Q => ∃ i, xs = [.int i] ∧ Q (.int (if i < 0 then -i else i)) H) (tCons ta tNil)) ρ O (.int (abs1 i)) O1 := rx_cb1 ha fun F H x Q f r k => by
  cases r
  exact ⟨i, rfl, k _ (.int _)⟩

/-! ### items -/
theorem atI_map {α β : Type} (f : α → β) {xs : List α} {i : Int} {x : α} (h : atI xs i = some x) : atI (xs.map f) i = some (f x) := by
  unfold atI at h ⊢
  rw [List.length_map]
  cases e : ixN xs.length i with
  | none => rw [e] at h; simp at h
  | some j =>
    rw [e] at h
    simp only [Option.bind_some] at h ⊢
    rw [List.getElem?_map, h]
    rfl
theorem RpAll.atI {K : Fg} {F : Hp} {vs : List V} {ds : List PyData} (r : RpAll K F vs ds) {i : Int} {d : PyData} (h : L2.atI ds i = some d) : ∃ v, L2.atI vs i = some v ∧ Rp K F v d := by
  unfold L2.atI at h ⊢
  rw [r.length]
  cases e : ixN ds.length i with
  | none => rw [e] at h; simp at h
  | some j =>
    rw [e] at h
    simp only [Option.bind_some] at h ⊢
    exact r.get h
theorem rx_ix {ds : List PyData} {i : Int} {d : PyData} (h : atI ds i = some d) (ha : RXs K ta ρ O ds O1) (hb : RX K tb ρ O1 (.int i) O1) : RX K (tOp (rIxL K) ta tb) ρ O d O1 := ⟨fun _ _ _ _ _ _ Q E S k =>
  ha.go E S fun a F1 H1 f1 E1 S1 r1 => hb.go E1 S1 fun y F2 H2 f2 E2 S2 r2 => by
    cases r2
    obtain ⟨vs, q1, q2, q3⟩ := r1 F2 H2 f2 S2
    obtain ⟨v, e, r⟩ := q3.atI h
    exact ⟨a, vs, i, v, rfl, rfl, q1, e, k v F2 H2 (f1.trans f2) S2 r⟩⟩
/-- a list just made, its place reckoned with changes -/
theorem rx_ixF {ds : List PyData} {i : Int} {d : PyData} (h : atI ds i = some d) (ha : RX K ta ρ O (.list ds) O1) (hb : RX K tb ρ O1 (.int i) O2) : RX K (tOp (rIxL K) ta tb) ρ O d O2 := ⟨fun _ _ _ _ _ _ Q E S k =>
  ha.go E S fun x F1 H1 f1 E1 S1 r1 => hb.go E1 S1 fun y F2 H2 f2 E2 S2 r2 => by
    cases r2
    have r1' := r1.up f2
    cases r1' with
    | lst q1 q2 q3 =>
      obtain ⟨v, e, r⟩ := q3.atI h
      exact ⟨_, _, i, v, rfl, rfl, S2.fh.seq q1, e, k v F2 H2 (f1.trans f2) S2 r⟩⟩
theorem rx_ixT {ds : List PyData} {i : Int} {d : PyData} (h : atI ds i = some d) (ha : RX K ta ρ O (.tuple ds) O1) (hb : RX K tb ρ O1 (.int i) O2) : RX K (tOp (rIxT K) ta tb) ρ O d O2 := ⟨fun _ _ _ _ _ _ Q E S k =>
  ha.go E S fun x F1 H1 f1 E1 S1 r1 => hb.go E1 S1 fun y F2 H2 f2 E2 S2 r2 => by
    cases r2
    have r1' := r1.up f2
    cases r1' with
    | tup q1 q2 q3 =>
      obtain ⟨v, e, r⟩ := q3.atI h
      exact ⟨_, _, i, v, rfl, rfl, same_t S2.fh q1, e, k v F2 H2 (f1.trans f2) S2 r⟩⟩
def signAt (z : Str) (i : Int) : Option Str := if z.length ≤ sizeLine then (atI z.cps.toList i).map fun c => ⟨#[c]⟩ else none
theorem rx_ixS {z : Str} {i : Int} {c : Str} (h : signAt z i = some c) (ha : RX K ta ρ O (.str z) O1) (hb : RX K tb ρ O1 (.int i) O2) : RX K (tOp rIxS ta tb) ρ O (.str c) O2 := rx_op ha hb fun F H x y Q f r s k => by
  cases r
  cases s
  unfold signAt at h
  split at h
  · rename_i hz
    cases e : atI z.cps.toList i with
    | none => rw [e] at h; cases h
    | some n =>
      rw [e] at h
      cases h
      exact ⟨z, i, n, rfl, rfl, hz, e, k _ (.str _)⟩
  · cases h

/-! ### in -/
theorem inV_ints (x : Int) (xs : List Int) : inV (.int x) (xs.map V.int) = decide (x ∈ xs) := by
  induction xs with
  | nil => rfl
  | cons a xs ih =>
    show (eqV (.int a) (.int x) || inV (.int x) (xs.map V.int)) = _
    rw [ih, show eqV (.int a) (.int x) = (a == x) from rfl, Bool.eq_iff_iff]
    simp only [Bool.or_eq_true, beq_iff_eq, decide_eq_true_eq, List.mem_cons]
    exact ⟨fun h => h.imp Eq.symm id, fun h => h.imp Eq.symm id⟩
theorem flat_ints (xs : List Int) : (xs.map V.int).all flatV = true := by simp [flatV]
theorem inV_strs (x : Str) (xs : List Str) : inV (.str x) (xs.map V.str) = decide (x ∈ xs) := by
  induction xs with
  | nil => rfl
  | cons a xs ih =>
    show (eqV (.str a) (.str x) || inV (.str x) (xs.map V.str)) = _
    rw [ih, show eqV (.str a) (.str x) = (a == x) from rfl, Bool.eq_iff_iff]
    simp only [Bool.or_eq_true, beq_iff_eq, decide_eq_true_eq, List.mem_cons]
    exact ⟨fun h => h.imp Eq.symm id, fun h => h.imp Eq.symm id⟩
theorem flat_strs (xs : List Str) : (xs.map V.str).all flatV = true := by simp [flatV]
theorem rx_inI {x : Int} {xs : List Int} {neg : Bool} (ha : RX K ta ρ O (.int x) O1) (hb : RXs K tb ρ O1 (xs.map .int) O2) : RX K (tOp (rIn K neg) ta tb) ρ O (.bool (if neg then !decide (x ∈ xs) else decide (x ∈ xs))) O2 := ⟨fun _ _ _ _ _ _ Q E S k =>
  ha.go E S fun v F1 H1 f1 E1 S1 r1 => hb.go E1 S1 fun a F2 H2 f2 E2 S2 r2 => by
    cases r1
    obtain ⟨vs, q1, q2, q3⟩ := r2 F2 H2 (Same.refl _) S2
    have e := q3.ints
    subst e
    refine ⟨a, _, rfl, .inl q1, rfl, flat_ints xs, ?_⟩
    rw [inV_ints]
    exact k _ F2 H2 (f1.trans f2) S2 (.bl _)⟩
theorem rx_inS {x : Str} {xs : List Str} {neg : Bool} (ha : RX K ta ρ O (.str x) O1) (hb : RXs K tb ρ O1 (xs.map .str) O2) : RX K (tOp (rIn K neg) ta tb) ρ O (.bool (if neg then !decide (x ∈ xs) else decide (x ∈ xs))) O2 := ⟨fun _ _ _ _ _ _ Q E S k =>
  ha.go E S fun v F1 H1 f1 E1 S1 r1 => hb.go E1 S1 fun a F2 H2 f2 E2 S2 r2 => by
    cases r1
    obtain ⟨vs, q1, q2, q3⟩ := r2 F2 H2 (Same.refl _) S2
    have e := q3.strs
    subst e
    refine ⟨a, _, rfl, .inl q1, rfl, flat_strs xs, ?_⟩
    rw [inV_strs]
    exact k _ F2 H2 (f1.trans f2) S2 (.bl _)⟩
theorem rx_inIT {x : Int} {xs : List Int} {neg : Bool} (ha : RX K ta ρ O (.int x) O1) (hb : RX K tb ρ O1 (.tuple (xs.map .int)) O2) : RX K (tOp (rIn K neg) ta tb) ρ O (.bool (if neg then !decide (x ∈ xs) else decide (x ∈ xs))) O2 := rx_op ha hb fun F H u v Q f r s k => by
  cases r
  cases s with
  | tup q1 q2 q3 =>
    have e := q3.ints
    subst e
    refine ⟨_, _, rfl, .inr (same_t f q1), rfl, flat_ints xs, ?_⟩
    rw [inV_ints]
    exact k _ (.bl _)
theorem rx_inST {x : Str} {xs : List Str} {neg : Bool} (ha : RX K ta ρ O (.str x) O1) (hb : RX K tb ρ O1 (.tuple (xs.map .str)) O2) : RX K (tOp (rIn K neg) ta tb) ρ O (.bool (if neg then !decide (x ∈ xs) else decide (x ∈ xs))) O2 := rx_op ha hb fun F H u v Q f r s k => by
  cases r
  cases s with
  | tup q1 q2 q3 =>
    have e := q3.strs
    subst e
    refine ⟨_, _, rfl, .inr (same_t f q1), rfl, flat_strs xs, ?_⟩
    rw [inV_strs]
    exact k _ (.bl _)

/-! ### slices -/
theorem ro_none : RO K tNoPart ρ O none O := ⟨fun _ _ _ _ _ _ Q E S k => k _ _ (Same.refl _) S⟩
theorem ro_some {i : Int} (h : RX K ta ρ O (.int i) O1) : RO K (tPart ta) ρ O (some i) O1 := ⟨fun _ _ _ _ _ _ Q E S k => h.go E S fun x F1 H1 f1 E1 S1 r1 => by
  cases r1
  exact ⟨i, rfl, k _ _ f1 S1⟩⟩
def cutL {α : Type} (xs : List α) (lo hi : Option Int) : List α := (xs.drop (HT.sIx xs.length 0 lo)).take (HT.sIx xs.length xs.length hi - HT.sIx xs.length 0 lo)
theorem cutL_map {α β : Type} (f : α → β) (xs : List α) (lo hi : Option Int) : (cutL xs lo hi).map f = cutL (xs.map f) lo hi := by
  unfold cutL
  rw [List.map_take, List.map_drop, List.length_map]
theorem RpAll.cut {K : Fg} {F : Hp} {vs : List V} {ds : List PyData} (r : RpAll K F vs ds) (lo hi : Option Int) : RpAll K F (cutV vs lo hi) (cutL ds lo hi) := by
  unfold cutV cutL
  rw [r.length]
  exact (r.drop _).take _
theorem rxo_slice {ds : List PyData} {tl th : TO} {lo hi : Option Int} (ha : RXs K ta ρ O ds O1) (hl : RO K tl ρ O1 lo O1) (hh : RO K th ρ O1 hi O1) : RXo K (tSl (rSlL K) ta tl th) ρ O (cutL ds lo hi) O1 := ⟨fun _ _ _ _ _ _ Q E S k =>
  ha.go E S fun a F1 H1 f1 E1 S1 r1 => hl.go E1 S1 fun F2 H2 f2 E2 S2 => hh.go E2 S2 fun F3 H3 f3 E3 S3 => by
    obtain ⟨vs, q1, q2, q3⟩ := r1 F3 H3 (f2.trans f3) S3
    exact ⟨a, vs, rfl, q1, fun p hp => k p F3 _ ((f1.trans f2).trans f3) (S3.mine hp (Nat.le_trans (cutV_length _ _ _) q2) (q3.cut lo hi))⟩⟩
/-- .. its bounds reckoned with changes -/
theorem rxo_sliceF {ds : List PyData} {tl th : TO} {lo hi : Option Int} (ha : RX K ta ρ O (.list ds) O1) (hl : RO K tl ρ O1 lo O2) (hh : RO K th ρ O2 hi O3) : RXo K (tSl (rSlL K) ta tl th) ρ O (cutL ds lo hi) O3 := ⟨fun _ _ _ _ _ _ Q E S k =>
  ha.go E S fun x F1 H1 f1 E1 S1 r1 => hl.go E1 S1 fun F2 H2 f2 E2 S2 => hh.go E2 S2 fun F3 H3 f3 E3 S3 => by
    have r1' := r1.up (f2.trans f3)
    cases r1' with
    | lst q1 q2 q3 => exact ⟨_, _, rfl, S3.fh.seq q1, fun p hp => k p F3 _ ((f1.trans f2).trans f3) (S3.mine hp (Nat.le_trans (cutV_length _ _ _) q2) (q3.cut lo hi))⟩⟩
theorem rxo_rev {ds : List PyData} (ha : RXs K ta ρ O ds O1) : RXo K (tRevL K ta) ρ O ds.reverse O1 := ⟨fun _ _ _ _ _ _ Q E S k =>
  ha.go E S fun a F1 H1 f1 E1 S1 r1 => by
    obtain ⟨vs, q1, q2, q3⟩ := r1 F1 H1 (Same.refl _) S1
    exact ⟨a, vs, rfl, q1, fun p hp => k p F1 _ f1 (S1.mine hp (by rw [List.length_reverse]; exact q2) q3.reverse)⟩⟩
theorem cutV_whole {α : Type} (xs : List α) {lo hi : Option Int} (h : HT.sIx xs.length 0 lo = 0 ∧ HT.sIx xs.length xs.length hi = xs.length) : cutL xs lo hi = xs := by
  unfold cutL
  rw [h.1, h.2]
  simp
theorem rx_sliceT {ds : List PyData} {tl th : TO} {lo hi : Option Int} (ha : RX K ta ρ O (.tuple ds) O1) (hl : RO K tl ρ O1 lo O2) (hh : RO K th ρ O2 hi O3) : RX K (tSl (rSlA K) ta tl th) ρ O (.tuple (cutL ds lo hi)) O3 := ⟨fun _ _ _ _ _ _ Q E S k =>
  ha.go E S fun x F1 H1 f1 E1 S1 r1 => hl.go E1 S1 fun F2 H2 f2 E2 S2 => hh.go E2 S2 fun F3 H3 f3 E3 S3 => by
    have r1' := r1.up (f2.trans f3)
    cases r1' with
    | @tup _ xs _ q1 q2 q3 =>
      refine ⟨_, _, rfl, same_t S3.fh q1, fun hw => ?_, fun _ p hp => ?_⟩
      · rw [cutV_whole ds (by rw [← q3.length]; exact hw)] at k
        exact k _ F3 _ ((f1.trans f2).trans f3) S3 (.tup q1 q2 q3)
      · have f4 := same_upd (o := .tup (cutV xs lo hi)) (S3.nof hp)
        exact k _ _ _ (((f1.trans f2).trans f3).trans f4) (S3.put hp) (.tup (SqT.of upd_same) (Nat.le_trans (cutV_length _ _ _) q2) ((q3.cut lo hi).up f4))⟩

/-! ### list(), tuple(), + -/
abbrev rListOf (K : Fg) : List V → Hp → VK → Prop := fun xs H Q => ∃ p ys, xs = [.ref p] ∧ (SqL K H p ys ∨ SqT K H p ys) ∧ ∀ l, H l = none → Q (.ref l) (upd H l (.lst ys))
theorem rxo_list {ds : List PyData} (ha : RXs K ta ρ O ds O1) : RXo K (tCB (rListOf K) (tCons ta tNil)) ρ O ds O1 := ⟨fun _ _ _ _ _ _ Q E S k =>
  ha.go E S fun a F1 H1 f1 E1 S1 r1 => by
    obtain ⟨vs, q1, q2, q3⟩ := r1 F1 H1 (Same.refl _) S1
    exact ⟨a, vs, rfl, .inl q1, fun p hp => k p F1 _ f1 (S1.mine hp q2 q3)⟩⟩
theorem rxo_listT {ds : List PyData} (ha : RX K ta ρ O (.tuple ds) O1) : RXo K (tCB (rListOf K) (tCons ta tNil)) ρ O ds O1 := ⟨fun _ _ _ _ _ _ Q E S k =>
  ha.go E S fun x F1 H1 f1 E1 S1 r1 => by
    cases r1 with
    | tup q1 q2 q3 => exact ⟨_, _, rfl, .inr (same_t S1.fh q1), fun p hp => k p F1 _ f1 (S1.mine hp q2 q3)⟩⟩
abbrev rTupleOf (K : Fg) : List V → Hp → VK → Prop := fun xs H Q => ∃ p ys, xs = [.ref p] ∧ ((SqL K H p ys ∧ ∀ l, H l = none → Q (.ref l) (upd H l (.tup ys))) ∨ (SqT K H p ys ∧ Q (.ref p) H))
theorem rx_tuple {ds : List PyData} (ha : RXs K ta ρ O ds O1) : RX K (tCB (rTupleOf K) (tCons ta tNil)) ρ O (.tuple ds) O1 := ⟨fun _ _ _ _ _ _ Q E S k =>
  ha.go E S fun a F1 H1 f1 E1 S1 r1 => by
    obtain ⟨vs, q1, q2, q3⟩ := r1 F1 H1 (Same.refl _) S1
    refine ⟨a, vs, rfl, .inl ⟨q1, fun p hp => ?_⟩⟩
    have f2 := same_upd (o := .tup vs) (S1.nof hp)
    exact k _ _ _ (f1.trans f2) (S1.put hp) (.tup (SqT.of upd_same) q2 (q3.up f2))⟩
/-- lists of any making -/
def rCatR (K : Fg) : R2 := fun x y H Q => ∃ l b xs zs, x = .ref l ∧ y = .ref b ∧ SqL K H l xs ∧ SqL K H b zs ∧ xs.length + zs.length ≤ sizeLine ∧ ∀ p, H p = none → Q (.ref p) (upd H p (.lst (xs ++ zs)))
theorem op_catR {X : Cx} : OpR X (binaryOp .Add) (rCatR X.K) := by
  intro pins s σ H x y v u Q I rx ry h
  obtain ⟨l, b, xs, zs, rfl, rfl, hH, hB, hz, q⟩ := h
  cases rx
  cases ry
  obtain ⟨its, r, ⟨⟨cls, dd, data, sl⟩, n, ho, hc, hd, hx⟩, z⟩ := I.list hH
  obtain ⟨its2, r2, ⟨⟨cls2, dd2, data2, sl2⟩, n2, ho2, hc2, hd2, hx2⟩, z2⟩ := I.list hB
  have hl := r.length
  have hl2 := r2.length
  simp only at hc hd hx hc2 hd2 hx2
  subst hc hx hc2 hx2
  have e : its.toArray ++ its2.toArray = (its ++ its2).toArray := by simp
  refine concat_meets ⟨_, ho, rfl⟩ ⟨_, ho2, rfl⟩ noFill_list_add seq_list_add PySem.F.slot_list_add PySem.F.entry_list_add (PySem.F.args_list_add_2 _ _)
    (PyProof.Rows.list_addW l b its.toArray its2.toArray n n2 dd dd2 sl sl2 (by rw [List.size_toArray, List.size_toArray]; omega)) ⟨ho, ho2, ?_⟩
  rw [e]
  exact ⟨.ref _, _, I.lnew (t' := s.toks) (r.append r2) (by rw [List.length_append]; omega), rfl, q _ I.fresh⟩
theorem rxo_cat {ds es : List PyData} (ha : RXs K ta ρ O ds O1) (hb : RXs K tb ρ O1 es O1) (hz : ds.length + es.length ≤ sizeLine) : RXo K (tOp (rCatR K) ta tb) ρ O (ds ++ es) O1 := ⟨fun _ _ _ _ _ _ Q E S k =>
  ha.go E S fun a F1 H1 f1 E1 S1 r1 => hb.go E1 S1 fun b F2 H2 f2 E2 S2 r2 => by
    obtain ⟨vs, q1, q2, q3⟩ := r1 F2 H2 f2 S2
    obtain ⟨ws, p1, p2, p3⟩ := r2 F2 H2 (Same.refl _) S2
    have e1 := q3.length
    have e2 := p3.length
    exact ⟨a, b, vs, ws, rfl, rfl, q1, p1, by omega, fun p hp => k p F2 _ (f1.trans f2) (S2.mine hp (by rw [List.length_append]; omega) (q3.append p3))⟩⟩
theorem rxo_catF {ds es : List PyData} (ha : RX K ta ρ O (.list ds) O1) (hb : RX K tb ρ O1 (.list es) O2) (hz : ds.length + es.length ≤ sizeLine) : RXo K (tOp (rCatR K) ta tb) ρ O (ds ++ es) O2 := ⟨fun _ _ _ _ _ _ Q E S k =>
  ha.go E S fun x F1 H1 f1 E1 S1 r1 => hb.go E1 S1 fun y F2 H2 f2 E2 S2 r2 => by
    have r1' := r1.up f2
    cases r1' with
    | lst q1 q2 q3 =>
      cases r2 with
      | lst p1 p2 p3 =>
        have e1 := q3.length
        have e2 := p3.length
        exact ⟨_, _, _, _, rfl, rfl, S2.fh.seq q1, S2.fh.seq p1, by omega, fun p hp => k p F2 _ (f1.trans f2) (S2.mine hp (by rw [List.length_append]; omega) (q3.append p3))⟩⟩
theorem rx_catT {ds es : List PyData} (ha : RX K ta ρ O (.tuple ds) O1) (hb : RX K tb ρ O1 (.tuple es) O2) (hz : ds.length + es.length ≤ sizeLine) : RX K (tOp (rCatA K) ta tb) ρ O (.tuple (ds ++ es)) O2 := ⟨fun _ _ _ _ _ _ Q E S k =>
  ha.go E S fun x F1 H1 f1 E1 S1 r1 => hb.go E1 S1 fun y F2 H2 f2 E2 S2 r2 => by
    have r1' := r1.up f2
    cases r1' with
    | @tup _ xs _ q1 q2 q3 =>
      cases r2 with
      | @tup _ ys _ p1 p2 p3 =>
        have e1 := q3.length
        have e2 := p3.length
        refine ⟨_, _, _, _, rfl, rfl, same_t S2.fh q1, same_t S2.fh p1, by omega, fun e => ?_, fun _ e => ?_, fun _ _ p hp => ?_⟩
        · subst e
          cases q3
          exact k _ F2 _ (f1.trans f2) S2 (.tup p1 p2 p3)
        · subst e
          cases p3
          rw [List.append_nil] at k
          exact k _ F2 _ (f1.trans f2) S2 (.tup q1 q2 q3)
        · have f3 := same_upd (o := .tup (xs ++ ys)) (S2.nof hp)
          exact k _ _ _ ((f1.trans f2).trans f3) (S2.put hp) (.tup (SqT.of upd_same) (by rw [List.length_append]; omega) ((q3.append p3).up f3))⟩
/-- list * int, the list just made -/
theorem rxo_rep {ds : List PyData} {i : Int} (ha : RXo K ta ρ O ds O1) (hb : ∀ p, RX K tb ρ (⟨p, true, ds⟩ :: O1) (.int i) (⟨p, true, ds⟩ :: O1)) (hz : ds.length * i.toNat ≤ sizeLine) (hi : -(2 ^ 63) ≤ i ∧ i < 2 ^ 63) :
    RXo K (tOp rRep ta tb) ρ O (List.replicate i.toNat ds).flatten O1 := ⟨fun _ _ _ _ _ _ Q E S k =>
  ha.go E S fun l F1 H1 f1 E1 S1 => (hb l).go E1 S1 fun y F2 H2 f2 E2 S2 r2 => by
    cases r2
    obtain ⟨_, _, _, vs, g4, g5, g6⟩ := S2.get (j := 0) (q := ⟨l, true, ds⟩) rfl
    have g4 : H2 l = some (.lst vs) := g4
    have e1 : vs.length = ds.length := RpAll.length g6
    have S3 : Hx K _ _ _ F2 O1 H2 := ⟨S2.f0, S2.fh, S2.keep, S2.live, S2.new, fun p hp => S2.own p (List.mem_cons_of_mem _ hp), (List.nodup_cons.mp S2.nd).2⟩
    exact ⟨l, i, vs, rfl, rfl, g4, hi.1, hi.2, by rw [e1]; exact hz, fun p hp => k p F2 _ (f1.trans f2) (S3.mine hp (by simp only [List.length_flatten, List.map_replicate, List.sum_replicate_nat]; rw [e1, Nat.mul_comm]; exact hz) (RpAll.rep g6 _))⟩⟩
end
end TL

namespace TL
open PySem L2
open Enc
theorem Hx.drop {K : Fg} {F0 H0 F H : Hp} {D0 : List Addr} {O : Os} (S : Hx K F0 H0 D0 F O H) (j : Nat) : Hx K F0 H0 D0 F (O.eraseIdx j) H :=
  ⟨S.f0, S.fh, S.keep, S.live, S.new, fun p hp => S.own p (List.mem_of_mem_eraseIdx hp), S.nd.sublist ((List.eraseIdx_sublist O j).map OE.a)⟩
/-- a thing that is made and not looked at again -/
theorem Hx.junk {K : Fg} {F0 H0 F H : Hp} {D0 : List Addr} {O : Os} (S : Hx K F0 H0 D0 F O H) {p : Addr} {o : HO} (h : H p = none) : Hx K F0 H0 D0 F O (upd H p o) := by
  refine ⟨S.f0, S.fh.trans (same_upd h), fun a u e n => ?_, fun a u e => ?_, S.new, fun q hq => ?_, S.nd⟩
  · have := S.keep a u e n
    rw [upd_ne (ne_of_none this h)]
    exact this
  · obtain ⟨u', e'⟩ := S.live a u e
    exact ⟨u', by rw [upd_ne (ne_of_none e' h)]; exact e'⟩
  · obtain ⟨h1, h2, h3, vs', h4, h5, h6⟩ := S.own q hq
    exact ⟨h1, h2, h3, vs', by rw [upd_ne (ne_of_none h4 h)]; exact h4, h5, h6⟩
section
variable {K : Fg} {ta tb tc : TE} {ρ : List Sl} {O O1 O2 O3 : Os} {t : TA} {tt tu : TT}
/-! ### tests, truth values -/
theorem rt_val {b : Bool} (h : RX K ta ρ O (.bool b) O1) : RT K (tTest ta) ρ O b O1 := ⟨fun _ _ _ _ _ _ Q E S k => h.go E S fun x F1 H1 f1 E1 S1 r1 => by
  cases r1
  exact ⟨b, rfl, k F1 H1 f1 S1⟩⟩
theorem rt_b {b : Bool} (h : RX K ta ρ O (.bool b) O1) : RT K (tB ta) ρ O b O1 := ⟨fun _ _ _ _ _ _ Q E S k => h.go E S fun x F1 H1 f1 E1 S1 r1 => by
  cases r1
  exact ⟨b, rfl, k F1 H1 f1 S1⟩⟩
theorem rt_and {a c : Bool} (ha : RT K tt ρ O a O1) (h1 : a = true → RT K tu ρ O1 c O2) (h0 : a = false → c = false ∧ O2 = O1) : RT K (tAnd tt tu) ρ O c O2 := ⟨fun _ _ _ _ _ _ Q E S k => ha.go E S fun F1 H1 f1 E1 S1 => by
  cases a with
  | true =>
    have r := h1 rfl
    exact iteT (r.go E1 S1 fun F2 H2 f2 E2 S2 => k F2 H2 (f1.trans f2) S2)
  | false =>
    obtain ⟨e, e2⟩ := h0 rfl
    subst e
    subst e2
    exact iteF (k F1 H1 f1 S1)⟩
theorem rt_or {a c : Bool} (ha : RT K tt ρ O a O1) (h1 : a = false → RT K tu ρ O1 c O2) (h0 : a = true → c = true ∧ O2 = O1) : RT K (tOr tt tu) ρ O c O2 := ⟨fun _ _ _ _ _ _ Q E S k => ha.go E S fun F1 H1 f1 E1 S1 => by
  cases a with
  | false =>
    have r := h1 rfl
    exact iteF (r.go E1 S1 fun F2 H2 f2 E2 S2 => k F2 H2 (f1.trans f2) S2)
  | true =>
    obtain ⟨e, e2⟩ := h0 rfl
    subst e
    subst e2
    exact iteT (k F1 H1 f1 S1)⟩
theorem rt_and2 {a b : Bool} (ha : RT K tt ρ O a O) (hb : RT K tu ρ O b O) : RT K (tAnd tt tu) ρ O (a && b) O := rt_and ha (fun e => by rw [e]; exact hb) fun e => ⟨by rw [e]; rfl, rfl⟩
theorem rt_or2 {a b : Bool} (ha : RT K tt ρ O a O) (hb : RT K tu ρ O b O) : RT K (tOr tt tu) ρ O (a || b) O := rt_or ha (fun e => by rw [e]; exact hb) fun e => ⟨by rw [e]; rfl, rfl⟩
theorem rt_not {a : Bool} (ha : RT K tt ρ O a O1) : RT K (tNot tt) ρ O (!a) O1 := ⟨fun _ _ _ _ _ _ Q E S k => ha.go E S fun F1 H1 f1 E1 S1 => k F1 H1 f1 S1⟩
theorem rx_and {a c : Bool} (ha : RX K ta ρ O (.bool a) O1) (h1 : a = true → RX K tb ρ O1 (.bool c) O2) (h0 : a = false → c = false ∧ O2 = O1) : RX K (tAndV ta tb) ρ O (.bool c) O2 := ⟨fun _ _ _ _ _ _ Q E S k => ha.go E S fun x F1 H1 f1 E1 S1 r1 => by
  cases r1
  refine ⟨a, rfl, ?_⟩
  cases a with
  | true =>
    have r := h1 rfl
    exact iteT (r.go E1 S1 fun v F2 H2 f2 E2 S2 r2 => k v F2 H2 (f1.trans f2) S2 r2)
  | false =>
    obtain ⟨e, e2⟩ := h0 rfl
    subst e
    subst e2
    exact iteF (k _ F1 H1 f1 S1 (.bl false))⟩
theorem rx_or {a c : Bool} (ha : RX K ta ρ O (.bool a) O1) (h1 : a = false → RX K tb ρ O1 (.bool c) O2) (h0 : a = true → c = true ∧ O2 = O1) : RX K (tOrV ta tb) ρ O (.bool c) O2 := ⟨fun _ _ _ _ _ _ Q E S k => ha.go E S fun x F1 H1 f1 E1 S1 r1 => by
  cases r1
  refine ⟨a, rfl, ?_⟩
  cases a with
  | false =>
    have r := h1 rfl
    exact iteF (r.go E1 S1 fun v F2 H2 f2 E2 S2 r2 => k v F2 H2 (f1.trans f2) S2 r2)
  | true =>
    obtain ⟨e, e2⟩ := h0 rfl
    subst e
    subst e2
    exact iteT (k _ F1 H1 f1 S1 (.bl true))⟩
theorem rx_and2 {a b : Bool} (ha : RX K ta ρ O (.bool a) O) (hb : RX K tb ρ O (.bool b) O) : RX K (tAndV ta tb) ρ O (.bool (a && b)) O := rx_and ha (fun e => by rw [e]; exact hb) fun e => ⟨by rw [e]; rfl, rfl⟩
theorem rx_or2 {a b : Bool} (ha : RX K ta ρ O (.bool a) O) (hb : RX K tb ρ O (.bool b) O) : RX K (tOrV ta tb) ρ O (.bool (a || b)) O := rx_or ha (fun e => by rw [e]; exact hb) fun e => ⟨by rw [e]; rfl, rfl⟩
theorem rx_not {a : Bool} (ha : RX K ta ρ O (.bool a) O1) : RX K (tNotV ta) ρ O (.bool (!a)) O1 := ⟨fun _ _ _ _ _ _ Q E S k => ha.go E S fun x F1 H1 f1 E1 S1 r1 => by
  cases r1
  exact ⟨a, rfl, k _ F1 H1 f1 S1 (.bl _)⟩⟩
theorem rx_if {b : Bool} {d : PyData} (hc : RT K tt ρ O b O1) (h1 : b = true → RX K ta ρ O1 d O2) (h0 : b = false → RX K tb ρ O1 d O2) : RX K (tIf tt ta tb) ρ O d O2 := ⟨fun _ _ _ _ _ _ Q E S k => hc.go E S fun F1 H1 f1 E1 S1 => by
  cases b with
  | true => exact iteT ((h1 rfl).go E1 S1 fun v F2 H2 f2 E2 S2 r2 => k v F2 H2 (f1.trans f2) S2 r2)
  | false => exact iteF ((h0 rfl).go E1 S1 fun v F2 H2 f2 E2 S2 r2 => k v F2 H2 (f1.trans f2) S2 r2)⟩
/-- 0 <= n <= 8: a chain -/
theorem rx_chain {r r' : R2} {d e f : PyData} {a b : Bool} (ha : RX K ta ρ O d O) (hb : RX K tb ρ O e O) (hc : RX K tc ρ O f O)
    (hr : ∀ (F H : Hp) (x y : V) (Q : VK), Rp K F x d → Rp K F y e → Q (.bl a) H → r x y H Q) (hr' : ∀ (F H : Hp) (x y : V) (Q : VK), Rp K F x e → Rp K F y f → Q (.bl b) H → r' x y H Q) : RX K (tChain r r' ta tb tc) ρ O (.bool (a && b)) O := ⟨fun _ _ _ _ _ _ Q E S k =>
  ha.go E S fun x F1 H1 f1 E1 S1 r1 => hb.go E1 S1 fun y F2 H2 f2 E2 S2 r2 => hr F2 H2 x y _ (r1.up f2) r2 ⟨a, rfl, by
    cases a with
    | true => exact iteT (hc.go E2 S2 fun z F3 H3 f3 E3 S3 r3 => hr' F3 H3 y z Q (r2.up f3) r3 (k _ F3 H3 ((f1.trans f2).trans f3) S3 (.bl _)))
    | false => exact iteF (k _ F2 H2 (f1.trans f2) S2 (.bl _))⟩⟩
theorem ch_le {F H : Hp} {i j : Int} {x y : V} {Q : VK} (r : Rp K F x (.int i)) (s : Rp K F y (.int j)) (k : Q (.bl (decide (i ≤ j))) H) : rI0 (fun i j => .bl (decide (i ≤ j))) x y H Q := by
  cases r
  cases s
  exact ⟨i, j, rfl, rfl, k⟩
theorem ch_lt {F H : Hp} {i j : Int} {x y : V} {Q : VK} (r : Rp K F x (.int i)) (s : Rp K F y (.int j)) (k : Q (.bl (decide (i < j))) H) : rI0 (fun i j => .bl (decide (i < j))) x y H Q := by
  cases r
  cases s
  exact ⟨i, j, rfl, rfl, k⟩
theorem rx_chLE {i j l : Int} (ha : RX K ta ρ O (.int i) O) (hb : RX K tb ρ O (.int j) O) (hc : RX K tc ρ O (.int l) O) : RX K (tChain (rI0 fun i j => .bl (decide (i ≤ j))) (rI0 fun i j => .bl (decide (i ≤ j))) ta tb tc) ρ O (.bool (decide (i ≤ j) && decide (j ≤ l))) O :=
  rx_chain ha hb hc (fun _ _ _ _ _ => ch_le) fun _ _ _ _ _ => ch_le
theorem rx_chLtLE {i j l : Int} (ha : RX K ta ρ O (.int i) O) (hb : RX K tb ρ O (.int j) O) (hc : RX K tc ρ O (.int l) O) : RX K (tChain (rI0 fun i j => .bl (decide (i < j))) (rI0 fun i j => .bl (decide (i ≤ j))) ta tb tc) ρ O (.bool (decide (i < j) && decide (j ≤ l))) O :=
  rx_chain ha hb hc (fun _ _ _ _ _ => ch_lt) fun _ _ _ _ _ => ch_le
/-- int(flag), int(n) -/
def b2n (b : Bool) : Int := if b then 1 else 0

/-! ### {..}.get(k, x) over a written dict of ints by texts -/
def dlit (kvs : List (Str × Int)) (k : Str) : Option Int := (kvs.find? fun kv => decide (kv.1 = k)).map (·.2)
theorem pairs_lit : ∀ (kvs : List (Str × Int)) {σ : L2.St} {H : Hp} {Q : List (V × V) → Hp → Prop}, Q (kvs.map fun p => (V.str p.1, V.int p.2)) H → tPairs (kvs.map fun p => (tC (.str p.1), tC (.int p.2))) σ H Q
  | [], _, _, _, h => h
  | (k, v) :: r, σ, H, Q, h => by
    show tC (.str k) σ H fun x H1 => tC (.int v) σ H1 fun y H2 => tPairs (r.map fun p => (tC (.str p.1), tC (.int p.2))) σ H2 fun ps H3 => Q ((x, y) :: ps) H3
    exact pairs_lit r (Q := fun ps H3 => Q ((V.str k, V.int v) :: ps) H3) h
def litV (kvs : List (Str × Int)) : List (Key × V) := kvs.map fun p => (Sum.inr p.1, V.int p.2)
theorem valV_lit {k : Str} : ∀ (kvs : List (Str × Int)), valV (litV kvs) (Sum.inr k : Key) = (dlit kvs k).map V.int
  | [] => rfl
  | (a, v) :: r => by
    have ih := valV_lit (k := k) r
    unfold valV dlit litV at ih ⊢
    rw [List.map_cons, List.find?_cons, List.find?_cons]
    by_cases e : a = k
    · subst e
      simp
    · have e1 : decide ((Sum.inr a : Key) = Sum.inr k) = false := decide_eq_false fun q => e (Sum.inr.inj q)
      have e2 : decide (a = k) = false := decide_eq_false e
      rw [e1, e2]
      exact ih
theorem merge_lit {kvs : List (Str × Int)} (h : mergeK [] (litV kvs) = litV kvs) (k : Str) : valV (mergeK [] (litV kvs)) (Sum.inr k : Key) = (dlit kvs k).map V.int := by rw [h, valV_lit]
theorem upd_over {H : Hp} {p : Addr} {o o' : HO} : upd (upd H p o) p o' = upd H p o' := upd_upd
/-- {..}.get(k, d) -/
theorem rx_lget {kvs : List (Str × Int)} {k : Str} {i : Int} (hl : kvs.length ≤ 15) (hm : mergeK [] (litV kvs) = litV kvs) (hk : RX K ta ρ O (.str k) O1) (hd : RX K tb ρ O1 (.int i) O2) :
    RX K (tDGet2 (tDisp (kvs.map fun p => (tC (.str p.1), tC (.int p.2)))) ta tb) ρ O (.int ((dlit kvs k).getD i)) O2 := ⟨fun _ _ _ _ _ _ Q E S kk => by
  intro p hp
  refine pairs_lit kvs ⟨upd_same, litV kvs, ?_, ?_, ?_⟩
  · unfold litV; rw [List.map_map]; rfl
  · unfold litV; rw [List.length_map]; exact hl
  · rw [upd_upd, hm]
    have f0 := same_upd (o := .dK (litV kvs)) (S.nof hp)
    refine ⟨p, rfl, .inl ⟨_, .inl upd_same⟩, hk.go (E.up f0) (S.put (o := .dK (litV kvs)) hp) fun y F1 H1 f1 E1 S1 r1 => hd.go E1 S1 fun z F2 H2 f2 E2 S2 r2 => ?_⟩
    cases r1
    cases r2
    have hp2 : H2 p = some (.dK (litV kvs)) := S2.fh _ _ (f2 _ _ (f1 _ _ upd_same))
    refine ⟨_, DGet.k (k := Sum.inr k) hp2, ?_⟩
    rw [valV_lit]
    have e : (((dlit kvs k).map V.int).getD (V.int i)) = V.int ((dlit kvs k).getD i) := by cases dlit kvs k <;> rfl
    rw [e]
    exact kk _ F2 H2 ((f0.trans f1).trans f2) S2 (.int _)⟩

/-! ### calls of the text's defs -/
/-- R ds d: called with the data ds the def hands back d -/
def SpP (K : Fg) (R : List PyData → PyData → Prop) : Sp := fun vs H Q _ => ∃ F ds d, RpAll K F vs ds ∧ Same F H ∧ R ds d ∧ ∀ v F' H', Stp [] F H F' H' → Rp K F' v d → Q v H'
/-- .. a new list of the data es -/
def SpN (K : Fg) (R : List PyData → List PyData → Prop) : Sp := fun vs H Q _ => ∃ F ds es, RpAll K F vs ds ∧ Same F H ∧ R ds es ∧
  ∀ p F' H' xs, Stp [] F H F' H' → H p = none → F' p = none → H' p = some (.lst xs) → xs.length ≤ sizeLine → RpAll K F' xs es → Q (.ref p) H'
/-- the first argument an own list, of the data c, that is changed to c' -/
def SpPo (K : Fg) (R : List PyData → List PyData → PyData → List PyData → Prop) : Sp := fun vs H Q _ => ∃ F p ws xs c ds d c', vs = .ref p :: ws ∧ RpAll K F ws ds ∧ Same F H ∧ F p = none ∧ H p = some (.lst xs) ∧ xs.length ≤ sizeLine ∧ RpAll K F xs c ∧ R c ds d c' ∧
  ∀ v F' H' ys, Stp [p] F H F' H' → F' p = none → H' p = some (.lst ys) → ys.length ≤ sizeLine → RpAll K F' ys c' → Rp K F' v d → Q v H'
def SpNo (K : Fg) (R : List PyData → List PyData → List PyData → List PyData → Prop) : Sp := fun vs H Q _ => ∃ F p ws xs c ds es c', vs = .ref p :: ws ∧ RpAll K F ws ds ∧ Same F H ∧ F p = none ∧ H p = some (.lst xs) ∧ xs.length ≤ sizeLine ∧ RpAll K F xs c ∧ R c ds es c' ∧
  ∀ q F' H' ys zs, Stp [p] F H F' H' → F' p = none → H' p = some (.lst ys) → ys.length ≤ sizeLine → RpAll K F' ys c' → H q = none → F' q = none → H' q = some (.lst zs) → zs.length ≤ sizeLine → RpAll K F' zs es → Q (.ref q) H'
variable {E0 : XK}
theorem rx_call {R : List PyData → PyData → Prop} {ds : List PyData} {d : PyData} (hR : R ds d) (ha : RA K t ρ O (ds.map .val) O1) : RX K (tCall (SpP K R) [] E0 t) ρ O d O1 := ⟨fun _ _ _ _ _ _ Q E S k => ha.go E S fun vs F1 H1 f1 E1 S1 r1 => by
  rw [List.append_nil]
  exact ⟨F1, ds, d, r1.all, S1.fh, hR, fun v F' H' st r => k v F' H' (f1.trans st.ff) (S1.call st) r⟩⟩
theorem rxo_call {R : List PyData → List PyData → Prop} {ds es : List PyData} (hR : R ds es) (ha : RA K t ρ O (ds.map .val) O1) : RXo K (tCall (SpN K R) [] E0 t) ρ O es O1 := ⟨fun _ _ _ _ _ _ Q E S k => ha.go E S fun vs F1 H1 f1 E1 S1 r1 => by
  rw [List.append_nil]
  refine ⟨F1, ds, es, r1.all, S1.fh, hR, fun p F' H' xs st h1 h2 h3 h4 h5 => k p F' H' (f1.trans st.ff) ?_⟩
  have S2 := S1.call st
  refine ⟨S2.f0, S2.fh, S2.keep, S2.live, S2.new, fun q hq => ?_, ?_⟩
  · rcases List.mem_cons.mp hq with rfl | hq
    · exact ⟨h2, fun _ => S1.noh0 h1, fun z => (Bool.false_ne_true z.symm).elim, xs, h3, h4, h5⟩
    · exact S2.own q hq
  · rw [List.map_cons, List.nodup_cons]
    refine ⟨fun hm => ?_, S2.nd⟩
    obtain ⟨q, hq, e⟩ := List.mem_map.mp hm
    obtain ⟨_, _, _, vs', g4, _⟩ := S1.own q hq
    have e' : q.a = p := e
    rw [e', h1] at g4
    cases g4⟩
theorem rx_callo {R : List PyData → List PyData → PyData → List PyData → Prop} {a : Addr} {nw : Bool} {j : Nat} {c c' ds : List PyData} {d : PyData} (ha : RA K t ρ O (.adr a :: ds.map .val) O1) (hj : O1[j]? = some ⟨a, nw, c⟩) (hR : R c ds d c') :
    RX K (tCall (SpPo K R) [] E0 t) ρ O d (O1.set j ⟨a, nw, c'⟩) := ⟨fun _ _ _ _ _ _ Q E S k => ha.go E S fun vs F1 H1 f1 E1 S1 r1 => by
  rw [List.append_nil]
  obtain ⟨g1, g2, g3, xs, g4, g5, g6⟩ := S1.get hj
  cases r1 with
  | adr r1 =>
    exact ⟨F1, a, _, xs, c, ds, d, c', rfl, r1.all, S1.fh, g1, g4, g5, g6, hR, fun v F' H' ys st h1 h2 h3 h4 r => k v F' H' (f1.trans st.ff) (S1.call1 hj st h2 h3 h4) r⟩⟩
theorem rxo_callo {R : List PyData → List PyData → List PyData → List PyData → Prop} {a : Addr} {nw : Bool} {j : Nat} {c c' ds es : List PyData} (ha : RA K t ρ O (.adr a :: ds.map .val) O1) (hj : O1[j]? = some ⟨a, nw, c⟩) (hR : R c ds es c') :
    RXo K (tCall (SpNo K R) [] E0 t) ρ O es (O1.set j ⟨a, nw, c'⟩) := ⟨fun _ _ _ _ _ _ Q E S k => ha.go E S fun vs F1 H1 f1 E1 S1 r1 => by
  rw [List.append_nil]
  obtain ⟨g1, g2, g3, xs, g4, g5, g6⟩ := S1.get hj
  cases r1 with
  | adr r1 =>
    refine ⟨F1, a, _, xs, c, ds, es, c', rfl, r1.all, S1.fh, g1, g4, g5, g6, hR, fun q F' H' ys zs st h1 h2 h3 h4 n1 n2 n3 n4 n5 => k q F' H' (f1.trans st.ff) ?_⟩
    have S2 := S1.call1 hj st h2 h3 h4
    refine ⟨S2.f0, S2.fh, S2.keep, S2.live, S2.new, fun w hw => ?_, ?_⟩
    · rcases List.mem_cons.mp hw with rfl | hw
      · exact ⟨n2, fun _ => S1.noh0 n1, fun z => (Bool.false_ne_true z.symm).elim, zs, n3, n4, n5⟩
      · exact S2.own w hw
    · rw [List.map_cons, List.nodup_cons]
      refine ⟨fun hm => ?_, S2.nd⟩
      have e : (O1.set j ⟨a, nw, c'⟩).map OE.a = O1.map OE.a := by
        rw [List.map_set]
        apply List.ext_getElem?
        intro i
        by_cases e : j = i
        · subst e
          have hj' : j < O1.length := (List.getElem?_eq_some_iff.mp hj).1
          rw [List.getElem?_set_self (by simpa using hj'), List.getElem?_map, hj]; rfl
        · rw [List.getElem?_set_ne e]
      rw [e] at hm
      obtain ⟨w, hw, e'⟩ := List.mem_map.mp hm
      obtain ⟨_, _, _, vs', k4, _⟩ := S1.own w hw
      have e2 : w.a = q := e'
      rw [e2, n1] at k4
      cases k4⟩

/-! ### targets -/
theorem rg_name {i : Nat} {d : PyData} : RG K (gName i) d ρ (ρ.set i (.val d)) [i] := ⟨fun σ F H v Q E r f k => k _ (E.setv r i) fun vs h => wipe_set _ (h i (by simp))⟩
inductive RGs (K : Fg) : TGs → List PyData → List Sl → List Sl → List Nat → Prop
  | nil {ρ : List Sl} : RGs K gNil [] ρ ρ []
  | cons {g : TG} {gs : TGs} {d : PyData} {ds : List PyData} {ρ ρ1 ρ2 : List Sl} {ts us : List Nat} : RG K g d ρ ρ1 ts → RGs K gs ds ρ1 ρ2 us → RGs K (gCons g gs) (d :: ds) ρ ρ2 (ts ++ us)
theorem RGs.run {g : TGs} {ds : List PyData} {ρ ρ' : List Sl} {ts : List Nat} (h : RGs K g ds ρ ρ' ts) : ∀ (σ : L2.St) (F H : Hp) (vs : List V) (Q : L2.St → Hp → Prop), EnvR K F σ ρ → RpAll K F vs ds → Same F H →
    (∀ σ', EnvR K F σ' ρ' → (∀ ws : List Nat, (∀ t ∈ ts, t ∈ ws) → L2.wipe σ' ws = L2.wipe σ ws) → Q σ' H) → g vs σ H Q := by
  induction h with
  | nil =>
    intro σ F H vs Q E r f k
    cases r
    exact ⟨rfl, k σ E fun _ _ => rfl⟩
  | cons h1 _ ih =>
    intro σ F H vs Q E r f k
    cases r with
    | cons r1 r2 =>
      refine ⟨_, _, rfl, h1.run σ F H _ _ E r1 f fun σ1 E1 w1 => ih σ1 F H _ Q E1 r2 f fun σ2 E2 w2 => k σ2 E2 fun ws hw => ?_⟩
      rw [w2 ws fun t ht => hw t (List.mem_append_right _ ht), w1 ws fun t ht => hw t (List.mem_append_left _ ht)]
theorem rg_tup {gs : TGs} {n : Nat} {ds : List PyData} {ρ ρ' : List Sl} {ts : List Nat} (h : RGs K gs ds ρ ρ' ts) (hn : ds.length = n := by rfl) : RG K (gTup K n gs) (.tuple ds) ρ ρ' ts := ⟨fun σ F H v Q E r f k => by
  cases r with
  | tup q1 q2 q3 => exact ⟨_, _, rfl, same_t f q1, by rw [q3.length, hn], h.run σ F H _ Q E q3 f k⟩⟩
end
end TL

namespace TL
open PySem L2
open Enc
/-! ### what loops walk -/
section
variable {K : Fg} {ta tb tc : TE} {ρ : List Sl} {O O1 O2 O3 : Os} {t : TA} {ys : List PyData}
theorem ri_list (h : RX K ta ρ O (.list ys) O1) : RI K (iList K ta) ρ O ys O1 := ⟨fun _ _ _ _ _ _ R E S k => h.go E S fun x F1 H1 f1 E1 S1 r1 => by
  cases r1 with
  | @lst a xs _ q1 q2 q3 =>
    refine ⟨a, rfl, ⟨xs, S1.fh.seq q1⟩, k _ F1 H1 f1 S1 ⟨by rw [← q3.length]; exact q2, fun _ _ _ F O H i hi f S => ?_, fun _ _ _ F O H f S => ?_, fun _ _ _ F O H i x H' hi f S y => ?_⟩⟩
    · rw [← q3.length] at hi
      exact ⟨xs, xs[i], (f.trans S.fh).seq q1, by simp [hi]⟩
    · exact ⟨xs, (f.trans S.fh).seq q1, by rw [q3.length]; exact Nat.le_refl _⟩
    · obtain ⟨e, y⟩ := y
      subst e
      obtain ⟨d, e, r⟩ := (q3.up f).getV (y xs ((f.trans S.fh).seq q1))
      exact ⟨F, d, Same.refl _, S, e, r⟩⟩
theorem ri_tup (h : RX K ta ρ O (.tuple ys) O1) : RI K (iTup K ta) ρ O ys O1 := ⟨fun _ _ _ _ _ _ R E S k => h.go E S fun x F1 H1 f1 E1 S1 r1 => by
  cases r1 with
  | @tup a xs _ q1 q2 q3 =>
    refine ⟨a, rfl, ⟨xs, same_t S1.fh q1⟩, k _ F1 H1 f1 S1 ⟨by rw [← q3.length]; exact q2, fun _ _ _ F O H i hi f S => ?_, fun _ _ _ F O H f S => ?_, fun _ _ _ F O H i x H' hi f S y => ?_⟩⟩
    · rw [← q3.length] at hi
      exact ⟨xs, xs[i], same_t (f.trans S.fh) q1, by simp [hi]⟩
    · exact ⟨xs, same_t (f.trans S.fh) q1, by rw [q3.length]; exact Nat.le_refl _⟩
    · obtain ⟨e, y⟩ := y
      subst e
      obtain ⟨d, e, r⟩ := (q3.up f).getV (y xs (same_t (f.trans S.fh) q1))
      exact ⟨F, d, Same.refl _, S, e, r⟩⟩
/-- lo, lo + 1, .. n of them -/
def rngL (lo : Int) (n : Nat) : List Int := (List.range n).map fun i => lo + (i : Nat)
theorem rngL_length (lo : Int) (n : Nat) : (rngL lo n).length = n := by unfold rngL; simp
theorem walk_rng {F1 : Hp} (lo : Int) (n : Nat) (hn : n ≤ sizeLine) : WalkD K (Itr lo n) ((rngL lo n).map .int) F1 := by
  have hl : ((rngL lo n).map PyData.int).length = n := by rw [List.length_map, rngL_length]
  refine ⟨by rw [hl]; exact hn, fun _ _ _ F O H i hi f S => ?_, fun _ _ _ F O H f S => ?_, fun _ _ _ F O H i x H' hi f S y => ?_⟩
  · rw [hl] at hi; exact hi
  · show n ≤ _; rw [hl]; exact Nat.le_refl _
  · obtain ⟨e, y⟩ := y
    subst e
    subst y
    rw [hl] at hi
    exact ⟨F, .int (lo + i), Same.refl _, S, by unfold rngL; simp [hi], .int _⟩
def rngO (n : Int) : Option (List Int) := if -4611686018427387904 ≤ n ∧ n ≤ 16777216 then some (rngL 0 n.toNat) else none
def rng2O (a b : Int) : Option (List Int) := if -4611686018427387904 ≤ a ∧ a ≤ 16777216 ∧ -4611686018427387904 ≤ b ∧ b - a ≤ 16777216 ∧ b ≤ 16777216 then some (rngL a (b - a).toNat) else none
theorem rngO_some {n : Int} {r : List Int} (h : rngO n = some r) : (-4611686018427387904 ≤ n ∧ n ≤ 16777216) ∧ r = rngL 0 n.toNat := by
  unfold rngO at h
  split at h
  · cases h; exact ⟨by assumption, rfl⟩
  · cases h
theorem ri_range {n : Int} {r : List Int} (hr : rngO n = some r) (h : RX K ta ρ O (.int n) O1) : RI K (iRng1 (tCons ta tNil)) ρ O (r.map .int) O1 := ⟨fun _ _ _ _ _ _ R E S k => h.go E S fun x F1 H1 f1 E1 S1 r1 => by
  obtain ⟨⟨h1, h2⟩, rfl⟩ := rngO_some hr
  cases r1
  have hs : sizeLine = 16777216 := sizeLine_eq
  exact ⟨n, rfl, by omega, by omega, k _ F1 H1 f1 S1 (walk_rng 0 n.toNat (by omega))⟩⟩
theorem ri_range2 {a b : Int} {r : List Int} (hr : rng2O a b = some r) (h : RX K ta ρ O (.int a) O1) (h' : RX K tb ρ O1 (.int b) O2) : RI K (iRng2 (tCons ta (tCons tb tNil))) ρ O (r.map .int) O2 := ⟨fun _ _ _ _ _ _ R E S k =>
  h.go E S fun x F1 H1 f1 E1 S1 r1 => h'.go E1 S1 fun y F2 H2 f2 E2 S2 r2 => by
    unfold rng2O at hr
    split at hr
    · rename_i hc
      obtain ⟨c1, c2, c3, c4, c5⟩ := hc
      cases hr
      cases r1
      cases r2
      have hs : sizeLine = 16777216 := sizeLine_eq
      exact ⟨a, b, rfl, ⟨by omega, by omega, by omega, by omega⟩, k _ F2 H2 (f1.trans f2) S2 (walk_rng a (b - a).toNat (by omega))⟩
    · cases hr⟩
/-- range(len(x)) and the like: what is known to be small -/
theorem ri_rangeN {n : Nat} (hn : n ≤ sizeLine) (h : RX K ta ρ O (.int (n : Nat)) O1) : RI K (iRng1 (tCons ta tNil)) ρ O ((rngL 0 n).map .int) O1 := ⟨fun _ _ _ _ _ _ R E S k => h.go E S fun x F1 H1 f1 E1 S1 r1 => by
  cases r1
  have hs : sizeLine = 16777216 := sizeLine_eq
  refine ⟨(n : Nat), rfl, by omega, by omega, k _ F1 H1 f1 S1 ?_⟩
  rw [Int.toNat_natCast]
  exact walk_rng 0 n hn⟩
theorem ri_rangeLen {ds : List PyData} (ha : RXs K ta ρ O ds O1) : RI K (iRng1 (tCons (tCB (rLenQ K) (tCons ta tNil)) tNil)) ρ O ((rngL 0 ds.length).map .int) O1 := ⟨fun _ _ _ _ _ _ R E S k => by
  refine ha.go E S fun a F1 H1 f1 E1 S1 r1 => ?_
  obtain ⟨vs, q1, q2, q3⟩ := r1 F1 H1 (Same.refl _) S1
  have hs : sizeLine = 16777216 := sizeLine_eq
  refine ⟨a, vs, rfl, .inl q1, (vs.length : Nat), rfl, by omega, by omega, k _ F1 H1 f1 S1 ?_⟩
  rw [Int.toNat_natCast, q3.length]
  exact walk_rng 0 _ (by rw [← q3.length]; exact q2)⟩
theorem ri_rangeLenT {ds : List PyData} (ha : RX K ta ρ O (.tuple ds) O1) : RI K (iRng1 (tCons (tCB (rLenQ K) (tCons ta tNil)) tNil)) ρ O ((rngL 0 ds.length).map .int) O1 := ⟨fun _ _ _ _ _ _ R E S k => by
  refine ha.go E S fun x F1 H1 f1 E1 S1 r1 => ?_
  cases r1 with
  | @tup a xs _ q1 q2 q3 =>
    have hs : sizeLine = 16777216 := sizeLine_eq
    refine ⟨a, xs, rfl, .inr (same_t S1.fh q1), (xs.length : Nat), rfl, by omega, by omega, k _ F1 H1 f1 S1 ?_⟩
    rw [Int.toNat_natCast, q3.length]
    exact walk_rng 0 _ (by rw [← q3.length]; exact q2)⟩
/-- a, a + c, .. -/
def rngC (a c : Int) (n : Nat) : List Int := (List.range n).map fun i => a + (i : Nat) * c
theorem walk_rngC {F1 : Hp} (lo c : Int) (n : Nat) (hn : n ≤ sizeLine) : WalkD K (Itc lo c n) ((rngC lo c n).map .int) F1 := by
  have hl : ((rngC lo c n).map PyData.int).length = n := by unfold rngC; simp
  refine ⟨by rw [hl]; exact hn, fun _ _ _ F O H i hi f S => ?_, fun _ _ _ F O H f S => ?_, fun _ _ _ F O H i x H' hi f S y => ?_⟩
  · rw [hl] at hi; exact hi
  · show n ≤ _; rw [hl]; exact Nat.le_refl _
  · obtain ⟨e, y⟩ := y
    subst e
    subst y
    rw [hl] at hi
    exact ⟨F, .int (lo + i * c), Same.refl _, S, by unfold rngC; simp [hi], .int _⟩
def rngDownO (a b : Int) : Option (List Int) := if -16777216 ≤ a ∧ a ≤ 16777216 ∧ -16777216 ≤ b ∧ b ≤ 16777216 ∧ a - b ≤ 16777216 then some (rngC a (-1) (a - b).toNat) else none
/-- range(a, b, -1) -/
theorem ri_rangeDown {a b : Int} {r : List Int} (hr : rngDownO a b = some r) (h : RX K ta ρ O (.int a) O1) (h' : RX K tb ρ O1 (.int b) O2) (h2 : RX K tc ρ O2 (.int (-1)) O3) : RI K (iRng3 (tCons ta (tCons tb (tCons tc tNil)))) ρ O (r.map .int) O3 := ⟨fun _ _ _ _ _ _ R E S k =>
  h.go E S fun x F1 H1 f1 E1 S1 r1 => h'.go E1 S1 fun y F2 H2 f2 E2 S2 r2 => h2.go E2 S2 fun z F3 H3 f3 E3 S3 r3 => by
    unfold rngDownO at hr
    split at hr
    · rename_i hc
      obtain ⟨c1, c2, c3, c4, c5⟩ := hc
      cases hr
      cases r1
      cases r2
      cases r3
      have hs : sizeLine = 16777216 := sizeLine_eq
      exact ⟨a, b, -1, (a - b).toNat, rfl, RgC.neg (by omega) (by omega) (by omega) (by omega), k _ F3 H3 ((f1.trans f2).trans f3) S3 (walk_rngC a (-1) _ (by omega))⟩
    · cases hr⟩
/-- a pair that an iterator makes -/
theorem pair_put {F0 H0 F H : Hp} {D0 : List Addr} {x y : V} {d e : PyData} {T : Addr} (S : Hx K F0 H0 D0 F O H) (hT : H T = none) (r1 : Rp K F x d) (r2 : Rp K F y e) :
    ∃ F', Same F F' ∧ Hx K F0 H0 D0 F' O (upd H T (.tup [x, y])) ∧ Rp K F' (.ref T) (.tuple [d, e]) := by
  have f := same_upd (o := .tup [x, y]) (S.nof hT)
  exact ⟨_, f, S.put hT, .tup (SqT.of upd_same) (by show 2 ≤ sizeLine; decide) (.cons (r1.up f) (.cons (r2.up f) .nil))⟩
def enumD (ys : List PyData) : List PyData := ys.zipIdx.map fun p => .tuple [.int (p.2 : Nat), p.1]
theorem ri_enum (h : RX K ta ρ O (.list ys) O1) : RI K (iEnum K (tCons ta tNil)) ρ O (enumD ys) O1 := ⟨fun _ _ _ _ _ _ R E S k => h.go E S fun x F1 H1 f1 E1 S1 r1 => by
  cases r1 with
  | @lst a xs _ q1 q2 q3 =>
    have hl : (enumD ys).length = ys.length := by unfold enumD; simp
    refine ⟨a, xs, rfl, S1.fh.seq q1, k _ F1 H1 f1 S1 ⟨by rw [hl, ← q3.length]; exact q2, fun _ _ _ F O H i hi f S => ?_, fun _ _ _ F O H f S => ?_, fun _ _ _ F O H i x H' hi f S y => ?_⟩⟩
    · rw [hl, ← q3.length] at hi
      exact ⟨xs, xs[i], (f.trans S.fh).seq q1, by simp [hi]⟩
    · exact ⟨xs, (f.trans S.fh).seq q1, by rw [q3.length, hl]; exact Nat.le_refl _⟩
    · obtain ⟨T, z, rfl, hT, rfl, y⟩ := y
      obtain ⟨d, e, r⟩ := (q3.up f).getV (y xs ((f.trans S.fh).seq q1))
      obtain ⟨F2, f2, S2, r2⟩ := pair_put S hT (.int (i : Nat)) r
      exact ⟨F2, _, f2, S2, by unfold enumD; simp [e], r2⟩⟩
def zipD (ys zs : List PyData) : List PyData := (ys.zip zs).map fun p => .tuple [p.1, p.2]
theorem ri_zip {zs : List PyData} (h : RX K ta ρ O (.list ys) O1) (h' : RX K tb ρ O1 (.list zs) O2) : RI K (iZip K (tCons ta (tCons tb tNil))) ρ O (zipD ys zs) O2 := ⟨fun _ _ _ _ _ _ R E S k =>
  h.go E S fun x F1 H1 f1 E1 S1 r1 => h'.go E1 S1 fun y F2 H2 f2 E2 S2 r2 => by
    have r1' := r1.up f2
    cases r1' with
    | @lst a xs _ q1 q2 q3 =>
      cases r2 with
      | @lst b ws _ p1 p2 p3 =>
        have hl : (zipD ys zs).length = min xs.length ws.length := by unfold zipD; rw [List.length_map, List.length_zip, q3.length, p3.length]
        refine ⟨a, b, xs, ws, rfl, S2.fh.seq q1, S2.fh.seq p1, k _ F2 H2 (f1.trans f2) S2 ⟨by omega, fun _ _ _ F O H i hi f S => ?_, fun _ _ _ F O H f S => ?_, fun _ _ _ F O H i x H' hi f S y => ?_⟩⟩
        · have h1 : i < xs.length := by omega
          have h2 : i < ws.length := by omega
          exact ⟨xs, ws, xs[i], ws[i], (f.trans S.fh).seq q1, (f.trans S.fh).seq p1, by simp [h1], by simp [h2]⟩
        · exact ⟨xs, ws, (f.trans S.fh).seq q1, (f.trans S.fh).seq p1, by omega⟩
        · obtain ⟨T, u, v, rfl, hT, rfl, y1, y2⟩ := y
          obtain ⟨d, e, r⟩ := (q3.up f).getV (y1 xs ((f.trans S.fh).seq q1))
          obtain ⟨d', e', r'⟩ := (p3.up f).getV (y2 ws ((f.trans S.fh).seq p1))
          obtain ⟨F3, f3, S3, r3⟩ := pair_put S hT r r'
          refine ⟨F3, _, f3, S3, ?_, r3⟩
          unfold zipD
          have ez : (ys.zip zs)[i]? = some (d, d') := List.getElem?_zip_eq_some.mpr ⟨e, e'⟩
          rw [List.getElem?_map, ez]
          rfl⟩
/-- a text, sign by sign -/
def signs (z : Str) : List Str := z.cps.toList.map fun c => ⟨#[c]⟩
theorem ri_str {z : Str} (hz : z.length ≤ sizeLine) (h : RX K ta ρ O (.str z) O1) : RI K (iStr ta) ρ O ((signs z).map .str) O1 := ⟨fun _ _ _ _ _ _ R E S k => h.go E S fun x F1 H1 f1 E1 S1 r1 => by
  cases r1
  have hl : ((signs z).map PyData.str).length = z.cps.size := by unfold signs; simp
  refine ⟨z, rfl, k _ F1 H1 f1 S1 ⟨by rw [hl]; exact hz, fun _ _ _ F O H i hi f S => ?_, fun _ _ _ F O H f S => ?_, fun _ _ _ F O H i x H' hi f S y => ?_⟩⟩
  · rw [hl] at hi; exact hi
  · show z.cps.size ≤ _; rw [hl]; exact Nat.le_refl _
  · obtain ⟨e, c, hc, y⟩ := y
    subst e
    subst y
    refine ⟨F, .str ⟨#[c]⟩, Same.refl _, S, ?_, .str _⟩
    unfold signs
    rw [List.map_map, List.getElem?_map, Array.getElem?_toList, hc]
    rfl⟩
end

/-! ### loops in plain data -/
/-- [f x for x in xs if ..], a state handed on; none within: left out -/
def fmS {α β S : Type} (g : α → S → Option (Option β × S)) : List α → S → Option (List β × S)
  | [], s => some ([], s)
  | x :: xs, s => (g x s).bind fun r => (fmS g xs r.2).bind fun q => some (match r.1 with | none => q.1 | some y => y :: q.1, q.2)
def forS {α S : Type} (f : α → S → Option S) : List α → S → Option S
  | [], s => some s
  | x :: xs, s => (f x s).bind fun s' => forS f xs s'
inductive Fl (S R : Type) where
  | nx (s : S)
  | bk (s : S)
  | rt (r : R)
def forF {α S R : Type} (f : α → S → Option (Fl S R)) : List α → S → Option (Fl S R)
  | [], s => some (.nx s)
  | x :: xs, s => (f x s).bind fun r => match r with
    | .nx s' => forF f xs s'
    | .bk s' => some (.nx s')
    | .rt r => some (.rt r)
def whileS {S : Type} (c : S → Option Bool) (f : S → Option S) : Nat → S → Option S
  | 0, _ => none
  | n + 1, s => (c s).bind fun b => if b = true then (f s).bind fun s' => whileS c f n s' else some s
def whileF {S R : Type} (c : S → Option Bool) (f : S → Option (Fl S R)) : Nat → S → Option (Fl S R)
  | 0, _ => none
  | n + 1, s => (c s).bind fun b => if b = true then (f s).bind fun r => match r with
    | .nx s' => whileF c f n s'
    | .bk s' => some (.nx s')
    | .rt r => some (.rt r) else some (.nx s)
theorem bindE {α β : Type} {m : Option α} {f : α → Option β} {r : β} (h : m.bind f = some r) : ∃ x, m = some x ∧ f x = some r := by
  cases m with
  | none => cases h
  | some x => exact ⟨x, rfl, h⟩

/-! ### comprehensions -/
section
variable {K : Fg} {ρ : List Sl} {O : Os}
theorem rxo_lcS {α β S : Type} {eα : α → PyData} {eβ : β → PyData} {wi : TI} {g : TG} {tt : TT} {te : TE} {vs : List Nat} {xs : List α} {Of : S → Os} {s0 s1 : S} {zs : List β} {f : α → S → Option (Option β × S)} (ρx : α → List Sl) (ts : List Nat)
    (hI : RI K wi ρ O (xs.map eα) (Of s0)) (hf : fmS f xs s0 = some (zs, s1)) (hts : ∀ t ∈ ts, t ∈ vs) (hg : ∀ x ∈ xs, RG K g (eα x) (wipeS ρ vs) (ρx x) ts)
    (step : ∀ x ∈ xs, ∀ s o s', f x s = some (o, s') → ∃ b s2, (∀ D acc, RT K tt (ρx x) (⟨D, true, acc⟩ :: Of s) b (⟨D, true, acc⟩ :: Of s2)) ∧
      (b = true → ∃ y, o = some y ∧ ∀ D acc, RX K te (ρx x) (⟨D, true, acc⟩ :: Of s2) (eβ y) (⟨D, true, acc⟩ :: Of s')) ∧ (b = false → o = none ∧ s2 = s')) :
    RXo K (tLc wi g tt te vs) ρ O (zs.map eβ) (Of s1) := ⟨fun F0 H0 D0 σ F H Q E S k => hI.go E S fun J F1 H1 f1 E1 S1 w => by
  intro D hD
  have hl : (xs.map eα).length = xs.length := List.length_map _
  have W : Walk J xs.length (fun H => ∃ F O, Same F1 F ∧ Hx K F0 H0 D0 F O H) (fun i H x H' => ∀ F O, Same F1 F → Hx K F0 H0 D0 F O H → ∃ F' y, Same F F' ∧ Hx K F0 H0 D0 F' O H' ∧ xs[i]? = some y ∧ Rp K F' x (eα y)) := by
    refine ⟨fun i H hi q => ?_, fun H q => ?_, fun i H x H' hi _ y F O f S => ?_⟩
    · obtain ⟨F, O, f, S⟩ := q
      exact w.go F0 H0 D0 F O H i (by rw [hl]; exact hi) f S
    · obtain ⟨F, O, f, S⟩ := q
      have := w.stop F0 H0 D0 F O H f S
      rw [hl] at this
      exact this
    · obtain ⟨F', y', f', S', e, r⟩ := w.yld F0 H0 D0 F O H i x H' (by rw [hl]; exact hi) f S y
      rw [List.getElem?_map] at e
      cases e2 : xs[i]? with
      | none => rw [e2] at e; cases e
      | some z =>
        rw [e2] at e
        have e3 : eα z = y' := Option.some.inj e
        subst e3
        exact ⟨F', z, f', S', rfl, r⟩
  refine lc_it W (fun i H => ∃ s F acc zr, Same F1 F ∧ Hx K F0 H0 D0 F (⟨D, true, acc⟩ :: Of s) H ∧ fmS f (xs.drop i) s = some (zr, s1) ∧ acc ++ zr.map eβ = zs.map eβ ∧ acc.length ≤ i) ⟨s0, F1, [], zs, Same.refl _, S1.mine hD (Nat.zero_le _) .nil, hf, rfl, Nat.le_refl _⟩
    (fun i H _ q => by obtain ⟨s, F, acc, zr, q1, q2, _⟩ := q; exact ⟨F, _, q1, q2⟩) (fun i x H H' hi q y => ?_) (fun H q => ?_)
  · obtain ⟨s, F, acc, zr, q1, q2, q3, q4, q5⟩ := q
    obtain ⟨F2, z, f2, S2, ez, rz⟩ := y F _ q1 q2
    have hm : z ∈ xs := List.mem_of_getElem? ez
    have hi' : xs[i] = z := by
      rw [List.getElem?_eq_getElem hi] at ez
      exact Option.some.inj ez
    rw [List.drop_eq_getElem_cons hi, hi'] at q3
    obtain ⟨⟨o, s'⟩, e1, q3⟩ := bindE q3
    obtain ⟨⟨zr', s1'⟩, e2, q3⟩ := bindE q3
    obtain ⟨b, s2, hb, ht, hn⟩ := step z hm s o s' e1
    have q3 := Option.some.inj q3
    have es : s1' = s1 := congrArg Prod.snd q3
    subst es
    refine (hg z hm).run _ F2 H' x _ ((E1.wipe vs).up (q1.trans f2)) rz S2.fh fun σ' E' wq => ⟨(wq vs hts).trans (wipe_wipe σ vs), (hb D acc).go E' S2 fun F3 H3 f3 E3 S3 => ?_⟩
    cases b with
    | true =>
      obtain ⟨y, eo, hy⟩ := ht rfl
      subst eo
      refine iteT ((hy D acc).go E3 S3 fun v F4 H4 f4 E4 S4 r4 => ?_)
      obtain ⟨g1, g2, g3, us, g4, g5, g6⟩ := S4.get (j := 0) (q := ⟨D, true, acc⟩) rfl
      have g4' : H4 D = some (.lst us) := g4
      have gl : us.length = acc.length := RpAll.length g6
      have hlt : us.length < sizeLine := by
        have := w.sz
        rw [hl] at this
        omega
      refine ⟨us, g4', hlt, s', F4, acc ++ [eβ y], zr', ((q1.trans f2).trans f3).trans f4, ?_, e2, ?_, ?_⟩
      · exact S4.mut (j := 0) (l := D) (nw := true) (ds := acc) (ds' := acc ++ [eβ y]) rfl (by rw [List.length_append, List.length_singleton]; omega) (RpAll.append g6 (.cons r4 .nil))
      · have ez' : zr = y :: zr' := (congrArg Prod.fst q3).symm
        rw [← q4, ez', List.map_cons, List.append_assoc]
        rfl
      · rw [List.length_append, List.length_singleton]; omega
    | false =>
      obtain ⟨eo, es⟩ := hn rfl
      subst eo
      subst es
      have ez' : zr = zr' := (congrArg Prod.fst q3).symm
      exact iteF ⟨s2, F3, acc, zr', (q1.trans f2).trans f3, S3, e2, by rw [← q4, ez'], by omega⟩
  · obtain ⟨s, F, acc, zr, q1, q2, q3, q4, q5⟩ := q
    rw [List.drop_length] at q3
    have q3' := Option.some.inj q3
    have e1 : zr = [] := (congrArg Prod.fst q3').symm
    have e2 : s = s1 := congrArg Prod.snd q3'
    subst e1
    subst e2
    rw [List.map_nil, List.append_nil] at q4
    rw [← q4] at k
    exact k D F H (f1.trans q1) q2⟩
end
end TL

namespace TL
open PySem L2
open Enc
/-! ### comprehensions, plain -/
def mapO {α β : Type} (f : α → Option β) : List α → Option (List β)
  | [] => some []
  | x :: xs => (f x).bind fun y => (mapO f xs).bind fun ys => some (y :: ys)
def filtO {α β : Type} (p : α → Option Bool) (f : α → Option β) : List α → Option (List β)
  | [] => some []
  | x :: xs => (p x).bind fun b => if b = true then (f x).bind fun y => (filtO p f xs).bind fun ys => some (y :: ys) else filtO p f xs
/-- with a state, all kept -/
def mapS {α β S : Type} (f : α → S → Option (β × S)) : List α → S → Option (List β × S)
  | [], s => some ([], s)
  | x :: xs, s => (f x s).bind fun r => (mapS f xs r.2).bind fun q => some (r.1 :: q.1, q.2)
def filtS {α β S : Type} (p : α → S → Option (Bool × S)) (f : α → S → Option (β × S)) : List α → S → Option (List β × S)
  | [], s => some ([], s)
  | x :: xs, s => (p x s).bind fun b => if b.1 = true then (f x b.2).bind fun r => (filtS p f xs r.2).bind fun q => some (r.1 :: q.1, q.2) else filtS p f xs b.2
section
variable {K : Fg} {ρ : List Sl} {O O1 : Os} {α β S : Type} {eα : α → PyData} {eβ : β → PyData} {wi : TI} {g : TG} {tt : TT} {te : TE} {vs : List Nat} {xs : List α}
theorem mapS_fm {f : α → S → Option (β × S)} : ∀ (xs : List α) (s : S), fmS (fun x s => (f x s).bind fun r => some (some r.1, r.2)) xs s = mapS f xs s
  | [], s => rfl
  | x :: xs, s => by
    unfold fmS mapS
    cases f x s with
    | none => rfl
    | some r =>
      simp only [Option.bind_some]
      rw [mapS_fm xs r.2]
theorem filtS_fm {p : α → S → Option (Bool × S)} {f : α → S → Option (β × S)} : ∀ (xs : List α) (s : S), fmS (fun x s => (p x s).bind fun b => if b.1 = true then (f x b.2).bind fun r => some (some r.1, r.2) else some (none, b.2)) xs s = filtS p f xs s
  | [], s => rfl
  | x :: xs, s => by
    unfold fmS filtS
    cases p x s with
    | none => rfl
    | some b =>
      simp only [Option.bind_some]
      cases b.1 with
      | true =>
        simp only [if_true]
        cases f x b.2 with
        | none => rfl
        | some r =>
          simp only [Option.bind_some]
          rw [filtS_fm xs r.2]
      | false =>
        simp only [Bool.false_eq_true, if_false, Option.bind_some]
        rw [filtS_fm xs b.2]
        cases filtS p f xs b.2 with
        | none => rfl
        | some q => rfl
theorem rt_yes : RT K tYes ρ O true O := ⟨fun _ _ _ _ _ _ Q E S k => k _ _ (Same.refl _) S⟩
theorem rxo_mapS {Of : S → Os} {s0 s1 : S} {zs : List β} {f : α → S → Option (β × S)} (ρx : α → List Sl) (ts : List Nat) (hI : RI K wi ρ O (xs.map eα) (Of s0)) (hf : mapS f xs s0 = some (zs, s1)) (hts : ∀ t ∈ ts, t ∈ vs)
    (hg : ∀ x ∈ xs, RG K g (eα x) (wipeS ρ vs) (ρx x) ts) (he : ∀ x ∈ xs, ∀ s y s', f x s = some (y, s') → ∀ D acc, RX K te (ρx x) (⟨D, true, acc⟩ :: Of s) (eβ y) (⟨D, true, acc⟩ :: Of s')) :
    RXo K (tLc wi g tYes te vs) ρ O (zs.map eβ) (Of s1) :=
  rxo_lcS ρx ts hI ((mapS_fm xs s0).trans hf) hts hg fun x hx s o s' e => by
    obtain ⟨r, e1, e2⟩ := bindE e
    have e2 := Option.some.inj e2
    refine ⟨true, s, fun D acc => rt_yes, fun _ => ⟨r.1, (congrArg Prod.fst e2).symm, fun D acc => ?_⟩, fun q => (Bool.false_ne_true q.symm).elim⟩
    have e3 : r.2 = s' := congrArg Prod.snd e2
    subst e3
    exact he x hx s r.1 r.2 e1 D acc
theorem rxo_filtS {Of : S → Os} {s0 s1 : S} {zs : List β} {p : α → S → Option (Bool × S)} {f : α → S → Option (β × S)} (ρx : α → List Sl) (ts : List Nat) (hI : RI K wi ρ O (xs.map eα) (Of s0)) (hf : filtS p f xs s0 = some (zs, s1)) (hts : ∀ t ∈ ts, t ∈ vs)
    (hg : ∀ x ∈ xs, RG K g (eα x) (wipeS ρ vs) (ρx x) ts) (ht : ∀ x ∈ xs, ∀ s b s', p x s = some (b, s') → ∀ D acc, RT K tt (ρx x) (⟨D, true, acc⟩ :: Of s) b (⟨D, true, acc⟩ :: Of s'))
    (he : ∀ x ∈ xs, ∀ s y s', f x s = some (y, s') → ∀ D acc, RX K te (ρx x) (⟨D, true, acc⟩ :: Of s) (eβ y) (⟨D, true, acc⟩ :: Of s')) :
    RXo K (tLc wi g tt te vs) ρ O (zs.map eβ) (Of s1) :=
  rxo_lcS ρx ts hI ((filtS_fm xs s0).trans hf) hts hg fun x hx s o s' e => by
    obtain ⟨⟨b, s2⟩, e1, e2⟩ := bindE e
    refine ⟨b, s2, ht x hx s b s2 e1, fun q => ?_, fun q => ?_⟩
    · subst q
      have e2 : ((f x s2).bind fun r => some (some r.1, r.2)) = some (o, s') := e2
      obtain ⟨r, e3, e4⟩ := bindE e2
      have e4 := Option.some.inj e4
      have e5 : r.2 = s' := congrArg Prod.snd e4
      subst e5
      exact ⟨r.1, (congrArg Prod.fst e4).symm, he x hx s2 r.1 r.2 e3⟩
    · subst q
      have e2 : (some (none, s2) : Option (Option β × S)) = some (o, s') := e2
      have e2 := Option.some.inj e2
      exact ⟨(congrArg Prod.fst e2).symm, congrArg Prod.snd e2⟩
theorem mapO_S {f : α → Option β} : ∀ (xs : List α), mapS (fun x (_ : Unit) => (f x).bind fun y => some (y, ())) xs () = (mapO f xs).bind fun ys => some (ys, ())
  | [] => rfl
  | x :: xs => by
    unfold mapS mapO
    cases f x with
    | none => rfl
    | some r =>
      simp only [Option.bind_some]
      rw [mapO_S xs]
      cases mapO f xs with
      | none => rfl
      | some ys => rfl
theorem filtO_S {p : α → Option Bool} {f : α → Option β} : ∀ (xs : List α), filtS (fun x (_ : Unit) => (p x).bind fun y => some (y, ())) (fun x (_ : Unit) => (f x).bind fun y => some (y, ())) xs () = (filtO p f xs).bind fun ys => some (ys, ())
  | [] => rfl
  | x :: xs => by
    unfold filtS filtO
    cases p x with
    | none => rfl
    | some b =>
      simp only [Option.bind_some]
      cases b with
      | true =>
        simp only [if_true]
        cases f x with
        | none => rfl
        | some r =>
          simp only [Option.bind_some]
          rw [filtO_S xs]
          cases filtO p f xs with
          | none => rfl
          | some ys => rfl
      | false =>
        simp only [Bool.false_eq_true, if_false]
        rw [filtO_S xs]
theorem rxo_mapO {zs : List β} {f : α → Option β} (ρx : α → List Sl) (ts : List Nat) (hI : RI K wi ρ O (xs.map eα) O1) (hf : mapO f xs = some zs) (hts : ∀ t ∈ ts, t ∈ vs)
    (hg : ∀ x ∈ xs, RG K g (eα x) (wipeS ρ vs) (ρx x) ts) (he : ∀ x ∈ xs, ∀ y, f x = some y → ∀ D acc, RX K te (ρx x) (⟨D, true, acc⟩ :: O1) (eβ y) (⟨D, true, acc⟩ :: O1)) :
    RXo K (tLc wi g tYes te vs) ρ O (zs.map eβ) O1 :=
  rxo_mapS (S := Unit) (Of := fun _ => O1) (s0 := ()) (s1 := ()) (f := fun x (_ : Unit) => (f x).bind fun y => some (y, ())) ρx ts hI (by rw [mapO_S, hf]; rfl) hts hg fun x hx s y s' e D acc => by
    obtain ⟨z, e1, e2⟩ := bindE e
    have e2 := Option.some.inj e2
    have e3 : z = y := congrArg Prod.fst e2
    subst e3
    exact he x hx z e1 D acc
theorem rxo_filtO {zs : List β} {p : α → Option Bool} {f : α → Option β} (ρx : α → List Sl) (ts : List Nat) (hI : RI K wi ρ O (xs.map eα) O1) (hf : filtO p f xs = some zs) (hts : ∀ t ∈ ts, t ∈ vs)
    (hg : ∀ x ∈ xs, RG K g (eα x) (wipeS ρ vs) (ρx x) ts) (ht : ∀ x ∈ xs, ∀ b, p x = some b → ∀ D acc, RT K tt (ρx x) (⟨D, true, acc⟩ :: O1) b (⟨D, true, acc⟩ :: O1))
    (he : ∀ x ∈ xs, ∀ y, f x = some y → ∀ D acc, RX K te (ρx x) (⟨D, true, acc⟩ :: O1) (eβ y) (⟨D, true, acc⟩ :: O1)) :
    RXo K (tLc wi g tt te vs) ρ O (zs.map eβ) O1 :=
  rxo_filtS (S := Unit) (Of := fun _ => O1) (s0 := ()) (s1 := ()) (p := fun x (_ : Unit) => (p x).bind fun y => some (y, ())) (f := fun x (_ : Unit) => (f x).bind fun y => some (y, ())) ρx ts hI (by rw [filtO_S, hf]; rfl) hts hg (fun x hx s y s' e D acc => by
    obtain ⟨z, e1, e2⟩ := bindE e
    have e2 := Option.some.inj e2
    have e3 : z = y := congrArg Prod.fst e2
    subst e3
    exact ht x hx z e1 D acc) fun x hx s y s' e D acc => by
    obtain ⟨z, e1, e2⟩ := bindE e
    have e2 := Option.some.inj e2
    have e3 : z = y := congrArg Prod.fst e2
    subst e3
    exact he x hx z e1 D acc
theorem mapO_some {f : α → β} : ∀ xs : List α, mapO (fun x => some (f x)) xs = some (xs.map f)
  | [] => rfl
  | x :: xs => by unfold mapO; rw [mapO_some xs]; rfl
theorem filtO_some {p : α → Bool} {f : α → β} : ∀ xs : List α, filtO (fun x => some (p x)) (fun x => some (f x)) xs = some ((xs.filter p).map f)
  | [] => rfl
  | x :: xs => by
    unfold filtO
    rw [filtO_some xs, List.filter_cons]
    simp only [Option.bind_some]
    cases p x <;> rfl
theorem rxo_map {f : α → β} (ρx : α → List Sl) (ts : List Nat) (hI : RI K wi ρ O (xs.map eα) O1) (hts : ∀ t ∈ ts, t ∈ vs)
    (hg : ∀ x ∈ xs, RG K g (eα x) (wipeS ρ vs) (ρx x) ts) (he : ∀ x ∈ xs, ∀ D acc, RX K te (ρx x) (⟨D, true, acc⟩ :: O1) (eβ (f x)) (⟨D, true, acc⟩ :: O1)) :
    RXo K (tLc wi g tYes te vs) ρ O ((xs.map f).map eβ) O1 :=
  rxo_mapO (f := fun x => some (f x)) ρx ts hI (mapO_some xs) hts hg fun x hx y e D acc => by
    have e := Option.some.inj e
    subst e
    exact he x hx D acc
theorem rxo_filt {p : α → Bool} {f : α → β} (ρx : α → List Sl) (ts : List Nat) (hI : RI K wi ρ O (xs.map eα) O1) (hts : ∀ t ∈ ts, t ∈ vs)
    (hg : ∀ x ∈ xs, RG K g (eα x) (wipeS ρ vs) (ρx x) ts) (ht : ∀ x ∈ xs, ∀ D acc, RT K tt (ρx x) (⟨D, true, acc⟩ :: O1) (p x) (⟨D, true, acc⟩ :: O1))
    (he : ∀ x ∈ xs, ∀ D acc, RX K te (ρx x) (⟨D, true, acc⟩ :: O1) (eβ (f x)) (⟨D, true, acc⟩ :: O1)) :
    RXo K (tLc wi g tt te vs) ρ O (((xs.filter p).map f).map eβ) O1 :=
  rxo_filtO (p := fun x => some (p x)) (f := fun x => some (f x)) ρx ts hI (filtO_some xs) hts hg (fun x hx y e D acc => by
    have e := Option.some.inj e
    subst e
    exact ht x hx D acc) fun x hx y e D acc => by
    have e := Option.some.inj e
    subst e
    exact he x hx D acc
/-- sources by kinds -/
def enumL (xs : List α) : List (Int × α) := xs.zipIdx.map fun p => ((p.2 : Nat), p.1)
theorem ri_enumT [Enc α] {ta : TE} (h : RX K ta ρ O (.list (xs.map enc)) O1) : RI K (iEnum K (tCons ta tNil)) ρ O ((enumL xs).map enc) O1 := by
  have e : (enumL xs).map enc = enumD (xs.map enc) := by
    unfold enumL enumD
    rw [List.map_map, List.zipIdx_map, List.map_map]
    rfl
  rw [e]
  exact ri_enum h
theorem ri_zipT [Enc α] [Enc β] {ta tb : TE} {ys : List β} {O2 : Os} (h : RX K ta ρ O (.list (xs.map enc)) O1) (h' : RX K tb ρ O1 (.list (ys.map enc)) O2) : RI K (iZip K (tCons ta (tCons tb tNil))) ρ O ((xs.zip ys).map enc) O2 := by
  have e : (xs.zip ys).map enc = zipD (xs.map enc) (ys.map enc) := by
    unfold zipD
    rw [List.zip_map, List.map_map]
    rfl
  rw [e]
  exact ri_zip h h'
end

/-! ### statements -/
theorem sq {t u : TS} {D : Ends} {σ : L2.St} {H : Hp} (h : t { D with nx := u D } σ H) : tSeq t u D σ H := h
section
variable {K : Fg} {ta tb tc te : TE} {ρ ρ' : List Sl} {O O' O1 O2 O3 : Os} {F0 H0 F H : Hp} {D0 : List Addr} {σ : L2.St} {D : Ends} {d : PyData} {ds : List PyData}
theorem st_set {i : Nat} (h : RX K te ρ O d O') (E : EnvR K F σ ρ) (S : Hx K F0 H0 D0 F O H) (k : ∀ σ' F' H', Same F F' → EnvR K F' σ' (ρ.set i (.val d)) → Hx K F0 H0 D0 F' O' H' → D.nx σ' H') : tAsg te (gName i) D σ H :=
  h.go E S fun v F' H' f E' S' r => k _ F' H' f (E'.setv r i) S'
theorem st_setO {i : Nat} (h : RXo K te ρ O ds O') (E : EnvR K F σ ρ) (S : Hx K F0 H0 D0 F O H) (k : ∀ p σ' F' H', Same F F' → EnvR K F' σ' (ρ.set i (.adr p)) → Hx K F0 H0 D0 F' (⟨p, true, ds⟩ :: O') H' → D.nx σ' H') : tAsg te (gName i) D σ H :=
  h.go E S fun p F' H' f E' S' => k p _ F' H' f (E'.seta i) S'
theorem st_unp {g : TG} {ts : List Nat} (h : RX K te ρ O d O') (hg : RG K g d ρ ρ' ts) (E : EnvR K F σ ρ) (S : Hx K F0 H0 D0 F O H) (k : ∀ σ' F' H', Same F F' → EnvR K F' σ' ρ' → Hx K F0 H0 D0 F' O' H' → D.nx σ' H') : tAsg te g D σ H :=
  h.go E S fun v F' H' f E' S' r => hg.run _ F' H' v _ E' r S'.fh fun σ' E2 _ => k σ' F' H' f E2 S'
def setO {α : Type} (xs : List α) (i : Int) (x : α) : Option (List α) := (ixN xs.length i).map fun j => xs.set j x
theorem setO_map {α β : Type} (f : α → β) {xs : List α} {i : Int} {x : α} {r : List α} (h : setO xs i x = some r) : setO (xs.map f) i (f x) = some (r.map f) := by
  unfold setO at h ⊢
  rw [List.length_map]
  cases e : ixN xs.length i with
  | none => rw [e] at h; cases h
  | some j =>
    rw [e] at h
    cases h
    show some ((xs.map f).set j (f x)) = some ((xs.set j x).map f)
    rw [List.map_set]
/-- xs[i] = e, xs an own list -/
theorem st_put {i j : Nat} {a : Addr} {nw : Bool} {n : Int} {ds' : List PyData} (hn : setO ds n d = some ds') (h : RX K te ρ O d O1) (hs : ρ[i]? = some (.adr a)) (hi : RX K ta ρ O1 (.int n) O2) (hj : O2[j]? = some ⟨a, nw, ds⟩) (E : EnvR K F σ ρ) (S : Hx K F0 H0 D0 F O H)
    (k : ∀ F' H', Same F F' → EnvR K F' σ ρ → Hx K F0 H0 D0 F' (O2.set j ⟨a, nw, ds'⟩) H' → D.nx σ H') : tAsg te (gSub (tVar i) ta rSetL) D σ H :=
  h.go E S fun v F1 H1 f1 E1 S1 r1 => ⟨_, E1.adr hs, hi.go E1 S1 fun y F2 H2 f2 E2 S2 r2 => by
    cases r2
    obtain ⟨g1, g2, g3, vs, g4, g5, g6⟩ := S2.get hj
    have g4 : H2 a = some (.lst vs) := g4
    have g6 : RpAll K F2 vs ds := g6
    unfold setO at hn
    cases e : ixN ds.length n with
    | none => rw [e] at hn; cases hn
    | some m =>
      rw [e] at hn
      cases hn
      exact ⟨a, vs, n, m, rfl, rfl, g4, by rw [g6.length]; exact e, k F2 _ (f1.trans f2) E2 (S2.mut hj (by rw [List.length_set]; exact g5) (RpAll.set (r1.up f2) m g6))⟩⟩
def appO {α : Type} (xs : List α) (x : α) : Option (List α) := if xs.length < 16777216 then some (xs ++ [x]) else none
theorem appO_map {α β : Type} (f : α → β) {xs : List α} {x : α} {r : List α} (h : appO xs x = some r) : appO (xs.map f) (f x) = some (r.map f) := by
  unfold appO at h ⊢
  rw [List.length_map]
  split at h
  · rename_i hc
    cases h
    rw [if_pos hc]
    simp
  · cases h
def extO {α : Type} (xs ys : List α) : Option (List α) := if xs.length + ys.length ≤ 16777216 then some (xs ++ ys) else none
theorem extO_map {α β : Type} (f : α → β) {xs ys : List α} {r : List α} (h : extO xs ys = some r) : extO (xs.map f) (ys.map f) = some (r.map f) := by
  unfold extO at h ⊢
  rw [List.length_map, List.length_map]
  split at h
  · rename_i hc
    cases h
    rw [if_pos hc]
    simp
  · cases h
/-- xs.append(e) -/
theorem st_app {i j : Nat} {a : Addr} {nw : Bool} {ds' : List PyData} (hn : appO ds d = some ds') (hs : ρ[i]? = some (.adr a)) (h : RX K te ρ O d O1) (hj0 : ∃ e, O[j]? = some ⟨a, nw, e⟩) (hj : O1[j]? = some ⟨a, nw, ds⟩) (E : EnvR K F σ ρ) (S : Hx K F0 H0 D0 F O H)
    (k : ∀ F' H', Same F F' → EnvR K F' σ ρ → Hx K F0 H0 D0 F' (O1.set j ⟨a, nw, ds'⟩) H' → D.nx σ H') : tDrop (tBM K "list" rAppend (tVar i) (tCons te tNil)) D σ H := by
  obtain ⟨e0, hj0⟩ := hj0
  obtain ⟨_, _, _, vs0, g0, _⟩ := S.get hj0
  refine ⟨_, E.adr hs, .inl ⟨rfl, _, .inl (.inl g0)⟩, h.go E S fun v F1 H1 f1 E1 S1 r1 => ?_⟩
  obtain ⟨g1, g2, g3, vs, g4, g5, g6⟩ := S1.get hj
  have g4 : H1 a = some (.lst vs) := g4
  have g6 : RpAll K F1 vs ds := g6
  unfold appO at hn
  split at hn
  · rename_i hc
    cases hn
    have hz : vs.length < sizeLine := by rw [g6.length, sizeLine_eq]; exact hc
    exact ⟨a, vs, v, rfl, rfl, g4, hz, k F1 _ f1 E1 (S1.mut hj (by rw [List.length_append, List.length_singleton]; omega) (g6.append (.cons r1 .nil)))⟩
  · cases hn
theorem list_extendW (l : Addr) (items : Array Value) (n : Nat) (b : Addr) (items2 : Array Value) (n2 : Nat) (dd2 : Option Addr) (sl2 : Array (Option Value)) (hc0 : ¬(!items.isEmpty && Builtin.List.listTooLong (items.size + items2.size)) = true) (hc1 : items.size ≤ sizeLine) (hs2 : items.size + items2.size ≤ sizeLine + 1) :
    Meets (Builtin.«list.extend» ⟨[.ref l, .ref b], []⟩) (fun _ R s => s.heap.get? l = some { cls := .type "list", dict := none, data := .seq items n, slots := #[] } ∧ s.heap.get? b = some { cls := .type "list", dict := dd2, data := .seq items2 n2, slots := sl2 } ∧ R (.ok (.ret Value.none)) { s with heap := s.heap.update l (Obj.mapSeq fun x => x ++ items2), toks := s.toks }) :=
  .of_wp fun prog w A R s h => by
    obtain ⟨hp, g, d, tk, os⟩ := s; obtain ⟨hl, hb, h⟩ := h; have f1 := AutoSeq1.idx_int; have f2 := AutoSeq1.sub_tuple_tuple; have f3 := AutoSeq1.sub_list_list; have f4 := AutoSeq1.sub_tuple_list; have f5 := AutoSeq1.sub_list_tuple;
    have hz' : (items ++ items2).size ≤ sizeLine + 1 := by rw [Array.size_append]; exact hs2
    wp_walk using (wpAny_updateSeq hl rfl (hz := hc1) (_hz' := hz')), wpAny_loadPart' hl, wpAny_loadPart' hb; exact ⟨_, rfl, h⟩
def rExtR (K : Fg) : V → List V → Hp → VK → Prop := fun x vs H Q => ∃ l b xs zs, x = .ref l ∧ vs = [.ref b] ∧ H l = some (.lst xs) ∧ SqL K H b zs ∧ xs.length + zs.length ≤ sizeLine ∧ Q .non (upd H l (.lst (xs ++ zs)))
theorem mt_extR {X : Cx} : MtM X "list.extend" (rExtR X.K) := by
  intro pins s σ H x vs v us Q I rx rv h
  obtain ⟨l, b, xs, zs, rfl, rfl, hH, hB, hz, q⟩ := h
  cases rx
  obtain ⟨u, rfl, ru⟩ := rv.one
  cases ru
  obtain ⟨z, its, n, r, hl, e⟩ := I.lstM hH
  obtain ⟨its2, r2, ⟨⟨cls2, dd2, data2, sl2⟩, n2, e2, hc2, hd2, hx2⟩, z2⟩ := I.list hB
  simp only at hc2 hd2 hx2
  subst hc2 hx2
  have hl2 := r2.length
  have hsz : its.toArray.size + its2.toArray.size ≤ sizeLine := by rw [List.size_toArray, List.size_toArray]; omega
  have hlong : ¬ (!its.toArray.isEmpty && Builtin.List.listTooLong (its.toArray.size + its2.toArray.size)) = true := by
    rw [notLongL hsz, Bool.and_false]
    exact Bool.false_ne_true
  refine call_meets F.slot_list_extend ⟨_, e, rfl⟩ F.entry_list_extend (F.args_list_extend_2 _ _)
    (list_extendW l its.toArray n b its2.toArray n2 dd2 sl2 hlong (by rw [List.size_toArray]; omega) (by omega)) ⟨e, e2, ?_⟩
  refine ⟨.non, _, I.lset (its' := its ++ its2) hH e (by simp) (r.append r2) ?_, rfl, q⟩
  rw [List.length_append]
  omega
/-- xs.extend(e) -/
theorem st_ext {i j : Nat} {a : Addr} {nw : Bool} {es ds' : List PyData} (hn : extO ds es = some ds') (hs : ρ[i]? = some (.adr a)) (h : RX K te ρ O (.list es) O1) (hj0 : ∃ e, O[j]? = some ⟨a, nw, e⟩) (hj : O1[j]? = some ⟨a, nw, ds⟩) (E : EnvR K F σ ρ) (S : Hx K F0 H0 D0 F O H)
    (k : ∀ F' H', Same F F' → EnvR K F' σ ρ → Hx K F0 H0 D0 F' (O1.set j ⟨a, nw, ds'⟩) H' → D.nx σ H') : tDrop (tBM K "list" (rExtR K) (tVar i) (tCons te tNil)) D σ H := by
  obtain ⟨e0, hj0⟩ := hj0
  obtain ⟨_, _, _, vs0, g0, _⟩ := S.get hj0
  refine ⟨_, E.adr hs, .inl ⟨rfl, _, .inl (.inl g0)⟩, h.go E S fun v F1 H1 f1 E1 S1 r1 => ?_⟩
  obtain ⟨g1, g2, g3, vs, g4, g5, g6⟩ := S1.get hj
  have g4 : H1 a = some (.lst vs) := g4
  have g6 : RpAll K F1 vs ds := g6
  cases r1 with
  | @lst b zs _ q1 q2 q3 =>
    unfold extO at hn
    split at hn
    · rename_i hc
      cases hn
      have hz : vs.length + zs.length ≤ sizeLine := by rw [g6.length, q3.length, sizeLine_eq]; exact hc
      exact ⟨a, b, vs, zs, rfl, rfl, g4, S1.fh.seq q1, hz, k F1 _ f1 E1 (S1.mut hj (by rw [List.length_append]; omega) (g6.append q3))⟩
    · cases hn
theorem st_expr (h : RX K te ρ O d O') (E : EnvR K F σ ρ) (S : Hx K F0 H0 D0 F O H) (k : ∀ F' H', Same F F' → EnvR K F' σ ρ → Hx K F0 H0 D0 F' O' H' → D.nx σ H') : tDrop te D σ H :=
  h.go E S fun v F' H' f E' S' r => k F' H' f E' S'
theorem st_ret (h : RX K te ρ O d O') (E : EnvR K F σ ρ) (S : Hx K F0 H0 D0 F O H) (k : ∀ v F' H', Same F F' → Hx K F0 H0 D0 F' O' H' → Rp K F' v d → D.rt v H') : tRet te D σ H :=
  h.go E S fun v F' H' f E' S' r => k v F' H' f S' r
theorem st_retO (h : RXo K te ρ O ds O') (E : EnvR K F σ ρ) (S : Hx K F0 H0 D0 F O H) (k : ∀ p F' H', Same F F' → Hx K F0 H0 D0 F' (⟨p, true, ds⟩ :: O') H' → D.rt (.ref p) H') : tRet te D σ H :=
  h.go E S fun v F' H' f E' S' => k v F' H' f S'
/-- return xs, xs an own list -/
theorem st_retA {i : Nat} {a : Addr} (hs : ρ[i]? = some (.adr a)) (E : EnvR K F σ ρ) (k : D.rt (.ref a) H) : tRet (tVar i) D σ H := ⟨_, E.adr hs, k⟩
/-- an own list is frozen -/
theorem frz_at {i j : Nat} {a : Addr} (hs : ρ[i]? = some (.adr a)) (hj : O[j]? = some ⟨a, true, ds⟩) (E : EnvR K F σ ρ) (S : Hx K F0 H0 D0 F O H) :
    ∃ F', Same F F' ∧ EnvR K F' σ (ρ.set i (.val (.list ds))) ∧ Hx K F0 H0 D0 F' (O.eraseIdx j) H := by
  obtain ⟨F', f, S', r⟩ := S.frz hj
  have q := E.adr hs
  have E2 := EnvR.setv (E.up f) r i
  have e : σ.set i (some (.ref a)) = σ := by
    apply List.ext_getElem?
    intro n
    by_cases e : i = n
    · subst e
      rw [List.getElem?_set_self (List.getElem?_eq_some_iff.mp q).1, q]
    · rw [List.getElem?_set_ne e]
  rw [e] at E2
  exact ⟨F', f, E2, S'⟩
theorem st_if {c : TT} {t u : TS} {b : Bool} (hc : RT K c ρ O b O') (E : EnvR K F σ ρ) (S : Hx K F0 H0 D0 F O H) (h1 : b = true → ∀ F' H', Same F F' → EnvR K F' σ ρ → Hx K F0 H0 D0 F' O' H' → t D σ H')
    (h0 : b = false → ∀ F' H', Same F F' → EnvR K F' σ ρ → Hx K F0 H0 D0 F' O' H' → u D σ H') : tIfS c t u D σ H := hc.go E S fun F' H' f E' S' => by
  cases b with
  | true => exact iteT (h1 rfl F' H' f E' S')
  | false => exact iteF (h0 rfl F' H' f E' S')
/-- both ways meet -/
theorem st_ifJ {c : TT} {t u : TS} {b : Bool} (ρ' : List Sl) (O2 : Os) (hc : RT K c ρ O b O') (E : EnvR K F σ ρ) (S : Hx K F0 H0 D0 F O H) (rest : ∀ σ' F' H', Same F F' → EnvR K F' σ' ρ' → Hx K F0 H0 D0 F' O2 H' → D.nx σ' H')
    (h1 : b = true → ∀ (F' H' : Hp), (∀ σ' F' H', Same F F' → EnvR K F' σ' ρ' → Hx K F0 H0 D0 F' O2 H' → D.nx σ' H') → Same F F' → EnvR K F' σ ρ → Hx K F0 H0 D0 F' O' H' → t D σ H')
    (h0 : b = false → ∀ (F' H' : Hp), (∀ σ' F' H', Same F F' → EnvR K F' σ' ρ' → Hx K F0 H0 D0 F' O2 H' → D.nx σ' H') → Same F F' → EnvR K F' σ ρ → Hx K F0 H0 D0 F' O' H' → u D σ H') : tIfS c t u D σ H := hc.go E S fun F' H' f E' S' => by
  cases b with
  | true => exact iteT (h1 rfl F' H' rest f E' S')
  | false => exact iteF (h0 rfl F' H' rest f E' S')
theorem st_aug {i : Nat} {op : Int → Int → Int} {x y : Int} (hx : ρ[i]? = some (.val (.int x))) (h : RX K te ρ O (.int y) O') (E : EnvR K F σ ρ) (S : Hx K F0 H0 D0 F O H) (k : ∀ σ' F' H', Same F F' → EnvR K F' σ' (ρ.set i (.val (.int (op x y)))) → Hx K F0 H0 D0 F' O' H' → D.nx σ' H') :
    tAug i te (ipI op) D σ H := by
  obtain ⟨v, h1, h2⟩ := E.val hx
  cases h2
  refine ⟨_, h1, h.go E S fun w F' H' f E' S' r => ?_⟩
  cases r
  exact ⟨x, y, rfl, rfl, k _ F' H' f (E'.setv (.int _) i) S'⟩
end
end TL

namespace TL
open PySem L2
open Enc
section
variable {K : Fg} {ρ : List Sl} {O : Os} {F0 H0 F H : Hp} {D0 : List Addr} {σ : L2.St} {D : Ends}
theorem walk_of {α : Type} {eα : α → PyData} {J : It} {xs : List α} {F1 : Hp} (w : WalkD K J (xs.map eα) F1) :
    Walk J xs.length (fun H => ∃ F O, Same F1 F ∧ Hx K F0 H0 D0 F O H) (fun i H x H' => ∀ F O, Same F1 F → Hx K F0 H0 D0 F O H → ∃ F' y, Same F F' ∧ Hx K F0 H0 D0 F' O H' ∧ xs[i]? = some y ∧ Rp K F' x (eα y)) := by
  have hl : (xs.map eα).length = xs.length := List.length_map _
  refine ⟨fun i H hi q => ?_, fun H q => ?_, fun i H x H' hi _ y F O f S => ?_⟩
  · obtain ⟨F, O, f, S⟩ := q
    exact w.go F0 H0 D0 F O H i (by rw [hl]; exact hi) f S
  · obtain ⟨F, O, f, S⟩ := q
    have := w.stop F0 H0 D0 F O H f S
    rw [hl] at this
    exact this
  · obtain ⟨F', y', f', S', e, r⟩ := w.yld F0 H0 D0 F O H i x H' (by rw [hl]; exact hi) f S y
    rw [List.getElem?_map] at e
    cases e2 : xs[i]? with
    | none => rw [e2] at e; cases e
    | some z =>
      rw [e2] at e
      have e3 : eα z = y' := Option.some.inj e
      subst e3
      exact ⟨F', z, f', S', rfl, r⟩
/-- a for over data, with ways out -/
theorem st_forF {α S R : Type} {eα : α → PyData} {wi : TI} {g : TG} {tb : TS} {xs : List α} {f : α → S → Option (Fl S R)} {s0 : S} {fl : Fl S R} (ρf : S → List Sl) (Of : S → Os) (E : EnvR K F σ ρ) (S0 : Hx K F0 H0 D0 F O H) (hI : RI K wi ρ O (xs.map eα) (Of s0)) (hf : forF f xs s0 = some fl) (hW : Wk ρ (ρf s0))
    (kn : ∀ s, fl = .nx s → ∀ σ' F' H', Same F F' → EnvR K F' σ' (ρf s) → Hx K F0 H0 D0 F' (Of s) H' → D.nx σ' H')
    (body : ∀ x ∈ xs, ∀ s out, f x s = some out → (∀ r, out = .rt r → fl = .rt r) → ∀ σ1 F1 H1 v, Same F F1 → EnvR K F1 σ1 (ρf s) → Hx K F0 H0 D0 F1 (Of s) H1 → Rp K F1 v (eα x) →
      ∀ (N B : L2.St → Hp → Prop), (∀ s', out = .nx s' → ∀ σ' F' H', Same F1 F' → EnvR K F' σ' (ρf s') → Hx K F0 H0 D0 F' (Of s') H' → N σ' H') →
      (∀ s', out = .bk s' → ∀ σ' F' H', Same F1 F' → EnvR K F' σ' (ρf s') → Hx K F0 H0 D0 F' (Of s') H' → B σ' H') → g v σ1 H1 fun σ2 H2 => tb { D with nx := N, ct := N, bk := B } σ2 H2) :
    tFor wi g tb D σ H := hI.go E S0 fun J F1 H1 f1 E1 S1 w => by
  refine for_it (walk_of w) (fun i σ H => ∃ s F2, Same F1 F2 ∧ EnvR K F2 σ (ρf s) ∧ Hx K F0 H0 D0 F2 (Of s) H ∧ forF f (xs.drop i) s = some fl) ⟨s0, F1, Same.refl _, E1.weak hW, S1, hf⟩
    (fun i σ H _ q => by obtain ⟨s, F2, q1, q2, q3, _⟩ := q; exact ⟨F2, _, q1, q3⟩) (fun i x σ H H' hi q y => ?_) (fun σ H q => ?_)
  · obtain ⟨s, F2, q1, q2, q3, q4⟩ := q
    obtain ⟨F3, z, f3, S3, ez, rz⟩ := y F2 _ q1 q3
    have hm : z ∈ xs := List.mem_of_getElem? ez
    have hi' : xs[i] = z := by
      rw [List.getElem?_eq_getElem hi] at ez
      exact Option.some.inj ez
    rw [List.drop_eq_getElem_cons hi, hi'] at q4
    obtain ⟨out, e1, q4⟩ := bindE q4
    refine body z hm s out e1 (fun r eo => ?_) σ F3 H' x ((f1.trans q1).trans f3) (q2.up f3) S3 rz _ _ (fun s' eo σ' F' H' ff E' S' => ?_) (fun s' eo σ' F' H' ff E' S' => ?_)
    · subst eo
      have q4 : (some (.rt r) : Option (Fl S R)) = some fl := q4
      exact (Option.some.inj q4).symm
    · subst eo
      exact ⟨s', F', (q1.trans f3).trans ff, E', S', q4⟩
    · subst eo
      have q4 : (some (.nx s') : Option (Fl S R)) = some fl := q4
      exact kn s' (Option.some.inj q4).symm σ' F' H' (((f1.trans q1).trans f3).trans ff) E' S'
  · obtain ⟨s, F2, q1, q2, q3, q4⟩ := q
    rw [List.drop_length] at q4
    exact kn s (Option.some.inj q4).symm σ F2 H (f1.trans q1) q2 q3
/-- .. without -/
theorem st_forS {α S : Type} {eα : α → PyData} {wi : TI} {g : TG} {tb : TS} {xs : List α} {f : α → S → Option S} {s0 s1 : S} (ρf : S → List Sl) (Of : S → Os) (E : EnvR K F σ ρ) (S0 : Hx K F0 H0 D0 F O H) (hI : RI K wi ρ O (xs.map eα) (Of s0)) (hf : forS f xs s0 = some s1) (hW : Wk ρ (ρf s0))
    (kn : ∀ σ' F' H', Same F F' → EnvR K F' σ' (ρf s1) → Hx K F0 H0 D0 F' (Of s1) H' → D.nx σ' H')
    (body : ∀ x ∈ xs, ∀ s s', f x s = some s' → ∀ σ1 F1 H1 v, Same F F1 → EnvR K F1 σ1 (ρf s) → Hx K F0 H0 D0 F1 (Of s) H1 → Rp K F1 v (eα x) →
      ∀ (N B : L2.St → Hp → Prop), (∀ σ' F' H', Same F1 F' → EnvR K F' σ' (ρf s') → Hx K F0 H0 D0 F' (Of s') H' → N σ' H') → g v σ1 H1 fun σ2 H2 => tb { D with nx := N, ct := N, bk := B } σ2 H2) :
    tFor wi g tb D σ H := by
  have e : ∀ (ys : List α) (s : S), forF (R := Empty) (fun x s => (f x s).bind fun s' => some (.nx s')) ys s = (forS f ys s).bind fun s' => some (.nx s') := by
    intro ys
    induction ys with
    | nil => intro s; rfl
    | cons y ys ih =>
      intro s
      unfold forF forS
      cases f y s with
      | none => rfl
      | some s' => exact ih s'
  refine st_forF (R := Empty) (fl := .nx s1) (f := fun x s => (f x s).bind fun s' => some (.nx s')) ρf Of E S0 hI (by rw [e, hf]; rfl) hW (fun s eq => ?_) fun x hx s out ho _ σ1 F1 H1 v g1 g2 g3 g4 N B hN hB => ?_
  · cases eq
    exact kn
  · obtain ⟨s', e1, e2⟩ := bindE ho
    exact body x hx s s' e1 σ1 F1 H1 v g1 g2 g3 g4 N B (hN s' (Option.some.inj e2).symm)
theorem st_whileF {S R : Type} {tc : TT} {tb : TS} {c : S → Option Bool} {f : S → Option (Fl S R)} {n : Nat} {s0 : S} {fl : Fl S R} (ρf : S → List Sl) (Of : S → Os) (E : EnvR K F σ ρ) (S0 : Hx K F0 H0 D0 F (Of s0) H) (hf : whileF c f n s0 = some fl) (ht : ∀ s b, c s = some b → RT K tc (ρf s) (Of s) b (Of s)) (hW : Wk ρ (ρf s0))
    (kn : ∀ s, fl = .nx s → ∀ σ' F' H', Same F F' → EnvR K F' σ' (ρf s) → Hx K F0 H0 D0 F' (Of s) H' → D.nx σ' H')
    (body : ∀ s out, c s = some true → f s = some out → (∀ r, out = .rt r → fl = .rt r) → ∀ σ1 F1 H1, Same F F1 → EnvR K F1 σ1 (ρf s) → Hx K F0 H0 D0 F1 (Of s) H1 →
      ∀ (N B : L2.St → Hp → Prop), (∀ s', out = .nx s' → ∀ σ' F' H', Same F1 F' → EnvR K F' σ' (ρf s') → Hx K F0 H0 D0 F' (Of s') H' → N σ' H') →
      (∀ s', out = .bk s' → ∀ σ' F' H', Same F1 F' → EnvR K F' σ' (ρf s') → Hx K F0 H0 D0 F' (Of s') H' → B σ' H') → tb { D with nx := N, ct := N, bk := B } σ1 H1) :
    tWhile tc tb D σ H := by
  refine ⟨fun m σ H => ∃ s F2, Same F F2 ∧ EnvR K F2 σ (ρf s) ∧ Hx K F0 H0 D0 F2 (Of s) H ∧ whileF c f m s = some fl, ⟨n, s0, F, Same.refl _, E.weak hW, S0, hf⟩, ?_⟩
  rintro m σ H ⟨s, F2, q1, q2, q3, q4⟩
  cases m with
  | zero => cases q4
  | succ m =>
    obtain ⟨b, e1, q4⟩ := bindE q4
    refine (ht s b e1).go q2 q3 fun F3 H3 f3 E3 S3 => ?_
    cases b with
    | false =>
      have q4 : (some (.nx s) : Option (Fl S R)) = some fl := q4
      exact iteF (kn s (Option.some.inj q4).symm σ F3 H3 (q1.trans f3) E3 S3)
    | true =>
      have q4 : ((f s).bind fun r => match r with
        | .nx s' => whileF c f m s'
        | .bk s' => some (.nx s')
        | .rt r => some (.rt r)) = some fl := q4
      obtain ⟨out, e2, q4⟩ := bindE q4
      refine iteT ⟨fun σ' H' => ∃ s' F4, Same F F4 ∧ EnvR K F4 σ' (ρf s') ∧ Hx K F0 H0 D0 F4 (Of s') H' ∧ whileF c f m s' = some fl, fun σ' H' q => ⟨m, Nat.lt_succ_self m, q⟩, ?_⟩
      refine body s out e1 e2 (fun r eo => ?_) σ F3 H3 (q1.trans f3) E3 S3 _ _ (fun s' eo σ' F' H' ff E' S' => ?_) (fun s' eo σ' F' H' ff E' S' => ?_)
      · subst eo
        have q4 : (some (.rt r) : Option (Fl S R)) = some fl := q4
        exact (Option.some.inj q4).symm
      · subst eo
        exact ⟨s', F', (q1.trans f3).trans ff, E', S', q4⟩
      · subst eo
        have q4 : (some (.nx s') : Option (Fl S R)) = some fl := q4
        exact kn s' (Option.some.inj q4).symm σ' F' H' ((q1.trans f3).trans ff) E' S'
theorem st_whileS {S : Type} {tc : TT} {tb : TS} {c : S → Option Bool} {f : S → Option S} {n : Nat} {s0 s1 : S} (ρf : S → List Sl) (Of : S → Os) (E : EnvR K F σ ρ) (S0 : Hx K F0 H0 D0 F (Of s0) H) (hf : whileS c f n s0 = some s1) (ht : ∀ s b, c s = some b → RT K tc (ρf s) (Of s) b (Of s)) (hW : Wk ρ (ρf s0))
    (kn : ∀ σ' F' H', Same F F' → EnvR K F' σ' (ρf s1) → Hx K F0 H0 D0 F' (Of s1) H' → D.nx σ' H')
    (body : ∀ s s', c s = some true → f s = some s' → ∀ σ1 F1 H1, Same F F1 → EnvR K F1 σ1 (ρf s) → Hx K F0 H0 D0 F1 (Of s) H1 →
      ∀ (N B : L2.St → Hp → Prop), (∀ σ' F' H', Same F1 F' → EnvR K F' σ' (ρf s') → Hx K F0 H0 D0 F' (Of s') H' → N σ' H') → tb { D with nx := N, ct := N, bk := B } σ1 H1) :
    tWhile tc tb D σ H := by
  have e : ∀ (n : Nat) (s : S), whileF (R := Empty) c (fun s => (f s).bind fun s' => some (.nx s')) n s = (whileS c f n s).bind fun s' => some (.nx s') := by
    intro n
    induction n with
    | zero => intro s; rfl
    | succ n ih =>
      intro s
      unfold whileF whileS
      cases c s with
      | none => rfl
      | some b =>
        cases b with
        | false => rfl
        | true =>
          simp only [Option.bind_some, if_true]
          cases f s with
          | none => rfl
          | some s' => exact ih s'
  refine st_whileF (R := Empty) (fl := .nx s1) (f := fun s => (f s).bind fun s' => some (.nx s')) ρf Of E S0 (by rw [e, hf]; rfl) ht hW (fun s eq => ?_) fun s out hc ho _ σ1 F1 H1 g1 g2 g3 N B hN hB => ?_
  · cases eq
    exact kn
  · obtain ⟨s', e1, e2⟩ := bindE ho
    exact body s s' hc e1 σ1 F1 H1 g1 g2 g3 N B (hN s' (Option.some.inj e2).symm)
end

/-! ### defs -/
section
variable {P : Program} {w : World} {K : Fg} {mg : Str → Option Value} {base : Heap}
/-- a def that is there and keeps its promise -/
def Cal (P : Program) (w : World) (K : Fg) (mg : Str → Option Value) (base : Heap) (k : Nat) (x : Str) (ps : List Str) (sp : Sp) : Prop :=
  ∃ f fd, FnOk P w K mg base CX0 k f fd ps sp ∧ mg x = some (.ref f) ∧ PySem.W.keepIn K (.ref f) = true ∧ Binds K fd ps []
/-- a def that is there -/
def Dfn (K : Fg) (mg : Str → Option Value) (x : Str) (st : Stmt) (ps : List Str) : Prop := ∃ f fd, Fun K x x st f fd ∧ mg x = some (.ref f) ∧ Binds K fd ps []
theorem Dfn.cal {x : Str} {st : Stmt} {N ps : List Str} {k : Nat} {sp : Sp} (h : Dfn K mg x st ps) (S : FnScope N ps (defScope st)) (len : ∀ vs H Q E, sp vs H Q E → vs.length = ps.length)
    (hbody : ∀ (f : Addr) (cdv : Value) (A : Around) (outer : List Env) (s : Shared) (H : Hp) (vs : List V) (Q : VK) (E : XK), Room k (A.deeper (PyProof.Rows.envOfC x (defScope st) s.heap.objs.size f cdv)) → sp vs H Q E →
      ∃ t, PSs (cxOf CX0 P w K mg base N x (defScope st) f cdv A outer s H E).nox (defBody st) t ∧ t { nx := fun _ H' => Q .non H', rt := Q } (start N vs) H) : Cal P w K mg base (k + 1) x ps sp := by
  obtain ⟨f, fd, F, hm, b⟩ := h
  exact ⟨f, fd, F.ok S len fun cdv A outer s H vs Q E hr hs => hbody f cdv A outer s H vs Q E hr hs, hm, F.kp, b⟩
theorem Cal.mono {j k : Nat} {x : Str} {ps : List Str} {sp : Sp} (h : Cal P w K mg base j x ps sp) (hk : j ≤ k) : Cal P w K mg base k x ps sp := by
  obtain ⟨f, fd, F, r⟩ := h
  exact ⟨f, fd, F.mono hk, r⟩
theorem Cal.imp {k : Nat} {x : Str} {ps : List Str} {sp sp' : Sp} (h : Cal P w K mg base k x ps sp) (hi : ∀ vs H Q E, sp' vs H Q E → sp vs H Q E) : Cal P w K mg base k x ps sp' := by
  obtain ⟨f, fd, F, r⟩ := h
  exact ⟨f, fd, F.imp hi, r⟩
theorem pe_cal {X : Cx} {j k : Nat} {x : Str} {ps : List Str} {sp : Sp} {p pos : Pos} {e : Expr} {es : List Expr} {t : TA} (C : Cal X.prog X.w X.K X.mg X.base j x ps sp) (hr : Room k X.A) (ha : PA X (e :: es) t) (hjk : j ≤ k := by decide) (hg : Gl X x := by rfl) (hdb : (x == ("__debug__" : Str)) = false := by decide)
    (he : starEach (e :: es) X.env = (false, eval e X.env) :: starEach es X.env := by rfl) (hpl : (backTo pos (starEach es X.env)).any (·.1) = false := by rfl) :
    PE X (.Call (.Name x p) (e :: es) [] pos) (tCall sp [] L2.E0 t) := by
  obtain ⟨f, fd, F, hm, kp, b⟩ := C
  exact pe_call F (hr.mono hjk) hg hm kp b .nil pass0 ha hdb he hpl
/-- the entry -/
theorem sp_len {R : List PyData → PyData → Prop} {n : Nat} (h : ∀ ds d, R ds d → ds.length = n) : ∀ vs H Q E, SpP K R vs H Q E → vs.length = n := fun vs H Q E ⟨F, ds, d, r, _, hR, _⟩ => r.length.trans (h ds d hR)
theorem sn_len {R : List PyData → List PyData → Prop} {n : Nat} (h : ∀ ds d, R ds d → ds.length = n) : ∀ vs H Q E, SpN K R vs H Q E → vs.length = n := fun vs H Q E ⟨F, ds, d, r, _, hR, _⟩ => r.length.trans (h ds d hR)
theorem spo_len {R : List PyData → List PyData → PyData → List PyData → Prop} {n : Nat} (h : ∀ c ds d c', R c ds d c' → ds.length + 1 = n) : ∀ vs H Q E, SpPo K R vs H Q E → vs.length = n := fun vs H Q E ⟨F, p, ws, xs, c, ds, d, c', e, r, _, _, _, _, _, hR, _⟩ => by
  subst e
  rw [List.length_cons, r.length]
  exact h c ds d c' hR
theorem sno_len {R : List PyData → List PyData → List PyData → List PyData → Prop} {n : Nat} (h : ∀ c ds d c', R c ds d c' → ds.length + 1 = n) : ∀ vs H Q E, SpNo K R vs H Q E → vs.length = n := fun vs H Q E ⟨F, p, ws, xs, c, ds, d, c', e, r, _, _, _, _, _, hR, _⟩ => by
  subst e
  rw [List.length_cons, r.length]
  exact h c ds d c' hR
theorem AsR.of_all {F : Hp} : ∀ {vs : List V} {ds : List PyData}, RpAll K F vs ds → AsR K F vs (ds.map .val)
  | _, _, .nil => .nil
  | _, _, .cons r t => .val r (AsR.of_all t)
end
end TL

namespace TL
open PySem L2
open Enc
def modO (i j : Int) : Option Int := if 0 < j then some (i % j) else none
def fdivO (i j : Int) : Option Int := if 0 < j ∧ j < 1073741824 then some (i / j) else none
def mulO (i j : Int) : Option Int := if (-18446744073709551616 < i ∧ i < 18446744073709551616) ∨ (-18446744073709551616 < j ∧ j < 18446744073709551616) then some (i * j) else none
def shlO (i j : Int) : Option Int := if 0 ≤ j ∧ j ≤ 1000000 ∧ -18446744073709551616 < i ∧ i < 18446744073709551616 then some (i * 2 ^ j.toNat) else none
def shrO (i j : Int) : Option Int := if 0 ≤ j then some (i / 2 ^ j.toNat) else none
def powO (i j : Int) : Option Int := if 0 ≤ j ∧ j ≤ 1000000 ∧ -18446744073709551616 < i ∧ i < 18446744073709551616 then some (i ^ j.toNat) else none
def repO {α : Type} (xs : List α) (i : Int) : Option (List α) := if xs.length * i.toNat ≤ 16777216 ∧ -9223372036854775808 ≤ i ∧ i < 9223372036854775808 then some (List.replicate i.toNat xs).flatten else none
def eqO {α : Type} [Enc α] [DecidableEq α] [EqD α] (x y : α) : Option Bool := if EqD.ok x = true ∧ EqD.ok y = true then some (decide (x = y)) else none
/-- kinds without texts -/
class EqT (α : Type) [Enc α] [DecidableEq α] [EqD α] : Prop where
  ok : ∀ x : α, EqD.ok x = true
instance : EqT Int := ⟨fun _ => rfl⟩
instance : EqT Bool := ⟨fun _ => rfl⟩
instance : EqT (Option Int) := ⟨fun _ => rfl⟩
instance {α : Type} [Enc α] [DecidableEq α] [EqD α] [EqT α] : EqT (List α) := ⟨fun x => List.all_eq_true.mpr fun y _ => EqT.ok y⟩
instance {α : Type} [Enc α] [DecidableEq α] [EqD α] [EqT α] : EqT (Tp α) := ⟨fun x => List.all_eq_true.mpr fun y _ => EqT.ok y⟩
instance {α β : Type} [Enc α] [DecidableEq α] [EqD α] [EqT α] [Enc β] [DecidableEq β] [EqD β] [EqT β] : EqT (α × β) := ⟨fun x => by
  show (EqD.ok x.1 && EqD.ok x.2) = true
  rw [EqT.ok, EqT.ok]; rfl⟩
section
variable {K : Fg} {ta tb te : TE} {ρ : List Sl} {O O1 O2 : Os} {i j r : Int}
theorem rx_as {α : Type} [Enc α] {x y : α} {O' : Os} (e : x = y) (h : RX K ta ρ O (enc x) O') : RX K ta ρ O (enc y) O' := e ▸ h
theorem rxo_as {α : Type} {f : α → PyData} {x y : List α} {O' : Os} (e : x = y) (h : RXo K ta ρ O (x.map f) O') : RXo K ta ρ O (y.map f) O' := e ▸ h
theorem rx_modO (h : modO i j = some r) (ha : RX K ta ρ O (.int i) O1) (hb : RX K tb ρ O1 (.int j) O2) : RX K (tOp (rI (fun _ j => 0 < j) fun i j => .int (i % j)) ta tb) ρ O (.int r) O2 := by
  unfold modO at h
  split at h
  · rename_i hc; cases h; exact rx_mod ha hb hc
  · cases h
theorem rx_fdivO (h : fdivO i j = some r) (ha : RX K ta ρ O (.int i) O1) (hb : RX K tb ρ O1 (.int j) O2) : RX K (tOp (rI CDiv fun i j => .int (i / j)) ta tb) ρ O (.int r) O2 := by
  unfold fdivO at h
  split at h
  · rename_i hc; cases h; exact rx_fdiv ha hb hc
  · cases h
theorem rx_mulO (h : mulO i j = some r) (ha : RX K ta ρ O (.int i) O1) (hb : RX K tb ρ O1 (.int j) O2) : RX K (tOp (rI CMul fun i j => .int (i * j)) ta tb) ρ O (.int r) O2 := by
  unfold mulO at h
  split at h
  · rename_i hc; cases h; exact rx_mul ha hb hc
  · cases h
theorem cpow_of {i j : Int} (h : 0 ≤ j ∧ j ≤ 1000000 ∧ -18446744073709551616 < i ∧ i < 18446744073709551616) : CPow i j := ⟨h.1, h.2.1, by
  have h1 := h.2.2.1
  have h2 := h.2.2.2
  omega⟩
theorem rx_shlO (h : shlO i j = some r) (ha : RX K ta ρ O (.int i) O1) (hb : RX K tb ρ O1 (.int j) O2) : RX K (tOp (rI CPow fun i j => .int (i * 2 ^ j.toNat)) ta tb) ρ O (.int r) O2 := by
  unfold shlO at h
  split at h
  · rename_i hc; cases h; exact rx_shl ha hb (cpow_of hc)
  · cases h
theorem rx_powO (h : powO i j = some r) (ha : RX K ta ρ O (.int i) O1) (hb : RX K tb ρ O1 (.int j) O2) : RX K (tOp (rI CPow fun i j => .int (i ^ j.toNat)) ta tb) ρ O (.int r) O2 := by
  unfold powO at h
  split at h
  · rename_i hc; cases h; exact rx_pow ha hb (cpow_of hc)
  · cases h
theorem rx_shrO (h : shrO i j = some r) (ha : RX K ta ρ O (.int i) O1) (hb : RX K tb ρ O1 (.int j) O2) : RX K (tOp (rI (fun _ j => 0 ≤ j) fun i j => .int (i / 2 ^ j.toNat)) ta tb) ρ O (.int r) O2 := by
  unfold shrO at h
  split at h
  · rename_i hc; cases h; exact rx_shr ha hb hc
  · cases h
theorem ext_len {α : Type} {xs ys zs : List α} (h : extO xs ys = some zs) : xs.length + ys.length ≤ sizeLine ∧ zs = xs ++ ys := by
  unfold extO at h
  split at h
  · rename_i hc; cases h; rw [sizeLine_eq]; exact ⟨hc, rfl⟩
  · cases h
theorem rxo_catO {α : Type} {f : α → PyData} {xs ys zs : List α} (h : extO xs ys = some zs) (ha : RXs K ta ρ O (xs.map f) O1) (hb : RXs K tb ρ O1 (ys.map f) O1) : RXo K (tOp (rCatR K) ta tb) ρ O (zs.map f) O1 := by
  obtain ⟨h1, rfl⟩ := ext_len h
  rw [List.map_append]
  exact rxo_cat ha hb (by rw [List.length_map, List.length_map]; exact h1)
theorem rxo_catOF {α : Type} {f : α → PyData} {xs ys zs : List α} (h : extO xs ys = some zs) (ha : RX K ta ρ O (.list (xs.map f)) O1) (hb : RX K tb ρ O1 (.list (ys.map f)) O2) : RXo K (tOp (rCatR K) ta tb) ρ O (zs.map f) O2 := by
  obtain ⟨h1, rfl⟩ := ext_len h
  rw [List.map_append]
  exact rxo_catF ha hb (by rw [List.length_map, List.length_map]; exact h1)
theorem rx_catTO {α : Type} {f : α → PyData} {xs ys zs : List α} (h : extO xs ys = some zs) (ha : RX K ta ρ O (.tuple (xs.map f)) O1) (hb : RX K tb ρ O1 (.tuple (ys.map f)) O2) : RX K (tOp (rCatA K) ta tb) ρ O (.tuple (zs.map f)) O2 := by
  obtain ⟨h1, rfl⟩ := ext_len h
  rw [List.map_append]
  exact rx_catT ha hb (by rw [List.length_map, List.length_map]; exact h1)
theorem rxo_repO {α : Type} {f : α → PyData} {xs zs : List α} (h : repO xs i = some zs) (ha : RXo K ta ρ O (xs.map f) O1) (hb : ∀ p, RX K tb ρ (⟨p, true, xs.map f⟩ :: O1) (.int i) (⟨p, true, xs.map f⟩ :: O1)) : RXo K (tOp rRep ta tb) ρ O (zs.map f) O1 := by
  unfold repO at h
  split at h
  · rename_i hc
    cases h
    have e : (List.replicate i.toNat xs).flatten.map f = (List.replicate i.toNat (xs.map f)).flatten := by rw [List.map_flatten, List.map_replicate]
    rw [e]
    exact rxo_rep ha hb (by rw [List.length_map, sizeLine_eq]; exact hc.1) ⟨by omega, by omega⟩
  · cases h
theorem rxo_sliceM {α : Type} {f : α → PyData} {xs : List α} {tl th : TO} {lo hi : Option Int} (ha : RXs K ta ρ O (xs.map f) O1) (hl : RO K tl ρ O1 lo O1) (hh : RO K th ρ O1 hi O1) : RXo K (tSl (rSlL K) ta tl th) ρ O ((cutL xs lo hi).map f) O1 := by
  rw [cutL_map]
  exact rxo_slice ha hl hh
theorem rxo_sliceFM {α : Type} {f : α → PyData} {xs : List α} {tl th : TO} {lo hi : Option Int} {O3 : Os} (ha : RX K ta ρ O (.list (xs.map f)) O1) (hl : RO K tl ρ O1 lo O2) (hh : RO K th ρ O2 hi O3) : RXo K (tSl (rSlL K) ta tl th) ρ O ((cutL xs lo hi).map f) O3 := by
  rw [cutL_map]
  exact rxo_sliceF ha hl hh
theorem rx_sliceTM {α : Type} {f : α → PyData} {xs : List α} {tl th : TO} {lo hi : Option Int} {O3 : Os} (ha : RX K ta ρ O (.tuple (xs.map f)) O1) (hl : RO K tl ρ O1 lo O2) (hh : RO K th ρ O2 hi O3) : RX K (tSl (rSlA K) ta tl th) ρ O (.tuple ((cutL xs lo hi).map f)) O3 := by
  rw [cutL_map]
  exact rx_sliceT ha hl hh
theorem rxo_revM {α : Type} {f : α → PyData} {xs : List α} (ha : RXs K ta ρ O (xs.map f) O1) : RXo K (tRevL K ta) ρ O (xs.reverse.map f) O1 := by
  rw [List.map_reverse]
  exact rxo_rev ha
theorem rx_eqO {α : Type} [Enc α] [DecidableEq α] [EqD α] {x y : α} {b : Bool} (h : eqO x y = some b) (ha : RXh K ta ρ O (enc x) O1) (hb : RXh K tb ρ O1 (enc y) O1) (hd : EqD.dp α ≤ 64 := by decide) : RX K (tOp (rEqD K) ta tb) ρ O (.bool b) O1 := by
  unfold eqO at h
  split at h
  · rename_i hc; cases h; exact rx_eqD ha hb hd hc.1 hc.2
  · cases h
theorem rx_neO {α : Type} [Enc α] [DecidableEq α] [EqD α] {x y : α} {b : Bool} (h : eqO x y = some b) (ha : RXh K ta ρ O (enc x) O1) (hb : RXh K tb ρ O1 (enc y) O1) (hd : EqD.dp α ≤ 64 := by decide) : RX K (tOp (rNeD K) ta tb) ρ O (.bool (!b)) O1 := by
  unfold eqO at h
  split at h
  · rename_i hc; cases h; exact rx_neD ha hb hd hc.1 hc.2
  · cases h
theorem rx_eqT {α : Type} [Enc α] [DecidableEq α] [EqD α] [EqT α] {x y : α} (ha : RXh K ta ρ O (enc x) O1) (hb : RXh K tb ρ O1 (enc y) O1) (hd : EqD.dp α ≤ 64 := by decide) : RX K (tOp (rEqD K) ta tb) ρ O (.bool (decide (x = y))) O1 :=
  rx_eqD ha hb hd (EqT.ok x) (EqT.ok y)
theorem rx_neT {α : Type} [Enc α] [DecidableEq α] [EqD α] [EqT α] {x y : α} (ha : RXh K ta ρ O (enc x) O1) (hb : RXh K tb ρ O1 (enc y) O1) (hd : EqD.dp α ≤ 64 := by decide) : RX K (tOp (rNeD K) ta tb) ρ O (.bool (!decide (x = y))) O1 :=
  rx_neD ha hb hd (EqT.ok x) (EqT.ok y)
theorem len_nat {α : Type} {f : α → PyData} {xs : List α} (ha : RXs K ta ρ O (xs.map f) O1) : RX K (tCB (rLenQ K) (tCons ta tNil)) ρ O (.int (xs.length : Nat)) O1 := by
  have := rx_len ha
  rw [List.length_map] at this
  exact this
theorem len_natT {α : Type} {f : α → PyData} {xs : List α} (ha : RX K ta ρ O (.tuple (xs.map f)) O1) : RX K (tCB (rLenQ K) (tCons ta tNil)) ρ O (.int (xs.length : Nat)) O1 := by
  have := rx_lenT ha
  rw [List.length_map] at this
  exact this
theorem ri_rangeLenM {α : Type} {f : α → PyData} {xs : List α} (ha : RXs K ta ρ O (xs.map f) O1) : RI K (iRng1 (tCons (tCB (rLenQ K) (tCons ta tNil)) tNil)) ρ O ((rngL 0 xs.length).map .int) O1 := by
  have := ri_rangeLen ha
  rw [List.length_map] at this
  exact this
theorem ri_rangeLenTM {α : Type} {f : α → PyData} {xs : List α} (ha : RX K ta ρ O (.tuple (xs.map f)) O1) : RI K (iRng1 (tCons (tCB (rLenQ K) (tCons ta tNil)) tNil)) ρ O ((rngL 0 xs.length).map .int) O1 := by
  have := ri_rangeLenT ha
  rw [List.length_map] at this
  exact this
/-- int(flag) -/
abbrev rInt1 : List V → Hp → VK → Prop := fun xs H Q => (∃ i, xs = [.int i] ∧ Q (.int i) H) ∨ ∃ b, xs = [.bl b] ∧ Q (.int (if b then 1 else 0)) H
end
/-- what comes behind a loop that may return -/
def flK {S R γ : Type} : Fl S R → (S → γ) → (R → γ) → γ
  | .nx s, f, _ => f s
  | .bk s, f, _ => f s
  | .rt r, _, g => g r
theorem letE {α β : Type} {x : α} {f : α → Option β} {r : β} (h : (some x).bind f = some r) : ∃ y, x = y ∧ f y = some r := ⟨x, rfl, h⟩
end TL
namespace TL
open PySem L2
open Enc
section
variable {K : Fg} {ta tb te : TE} {ρ : List Sl} {O O1 O2 : Os} {i j r : Int}
theorem rx_intB {b : Bool} (ha : RX K ta ρ O (.bool b) O1) : RX K (tCB rInt1 (tCons ta tNil)) ρ O (.int (b2n b)) O1 := rx_cb1 ha fun F H x Q f r k => by
  cases r
  exact .inr ⟨b, rfl, k _ (.int _)⟩
theorem rx_intI (ha : RX K ta ρ O (.int i) O1) : RX K (tCB rInt1 (tCons ta tNil)) ρ O (.int i) O1 := rx_cb1 ha fun F H x Q f r k => by
  cases r
  exact .inl ⟨i, rfl, k _ (.int _)⟩
def strI (i : Int) : Str := (toString i : String)
def strO (i : Int) : Option Str := if i.natAbs.log2 < 1920 then some (strI i) else none
theorem rx_strO {z : Str} (h : strO i = some z) (ha : RX K ta ρ O (.int i) O1) : RX K (tCB (fun xs H Q => ∃ i, xs = [.int i] ∧ i.natAbs.log2 < 1920 ∧ Q (.str (toString i)) H) (tCons ta tNil)) ρ O (.str z) O1 := rx_cb1 ha fun F H x Q f r k => by
  cases r
  unfold strO at h
  split at h
  · rename_i hc; cases h; exact ⟨i, rfl, hc, k _ (.str _)⟩
  · cases h
end
end TL

namespace TL
open PySem L2
theorem nxt {D : Ends} {σ : L2.St} {H : Hp} (h : D.nx σ H) : tNext D σ H := h
theorem nxD {f : L2.St → Hp → Prop} {a : VK} {b c : L2.St → Hp → Prop} {σ : L2.St} {H : Hp} (h : f σ H) : Ends.nx ⟨f, a, b, c⟩ σ H := h
/-- turns a while may take -/
def FUEL : Nat := 1000000
/-- calls of itself -/
def RF : Nat := 60
section
variable {X : Cx} (K : Fg)
theorem k_ix_list (hK : X.K = K := by rfl) : IxR X (rIxL K) := by subst hK; exact ix_list
theorem k_ix_tup (hK : X.K = K := by rfl) : IxR X (rIxT K) := by subst hK; exact ix_tup
theorem k_sum (hc : X.calm = true) (hK : X.K = K := by rfl) : CallR X (.builtin "sum") (rSum K) := by subst hK; exact cr_sum hc
theorem k_all (hc : X.calm = true) (hK : X.K = K := by rfl) : CallR X (.builtin "all") (rAll K) := by subst hK; exact cr_all hc
theorem k_any (hc : X.calm = true) (hK : X.K = K := by rfl) : CallR X (.builtin "any") (rAny K) := by subst hK; exact cr_any hc
theorem k_min (hc : X.calm = true) (hK : X.K = K := by rfl) : CallR X (.builtin "min") (rMin K) := by subst hK; exact cr_min hc
theorem k_max (hc : X.calm = true) (hK : X.K = K := by rfl) : CallR X (.builtin "max") (rMax K) := by subst hK; exact cr_max hc
theorem k_sorted (hK : X.K = K := by rfl) : CallR X (.builtin "sorted") (rSorted K) := by subst hK; exact cr_sorted
theorem k_eqD (hu : X.A.units + 64 < cLine) (hK : X.K = K := by rfl) : OpR X (compareOp .Eq) (rEqD K) := by subst hK; exact op_eqD hu
theorem k_neD (hu : X.A.units + 64 < cLine) (hK : X.K = K := by rfl) : OpR X (compareOp .NotEq) (rNeD K) := by subst hK; exact op_neD hu
theorem k_in_seq (hK : X.K = K := by rfl) : OpR X (compareOp .In) (rIn K false) := by subst hK; exact op_in_seq
theorem k_notIn_seq (hK : X.K = K := by rfl) : OpR X (compareOp .NotIn) (rIn K true) := by subst hK; exact op_notIn_seq
theorem k_catA (hK : X.K = K := by rfl) : OpR X (binaryOp .Add) (rCatA K) := by subst hK; exact op_catA
theorem k_catR (hK : X.K = K := by rfl) : OpR X (binaryOp .Add) (rCatR K) := by subst hK; exact op_catR
theorem k_sl_list (hK : X.K = K := by rfl) : L2.SlR X (rSlL K) := by subst hK; exact sl_list
theorem k_sl_tupA (hK : X.K = K := by rfl) : L2.SlR X (rSlA K) := by subst hK; exact sl_tupA
theorem k_len_seq (hK : X.K = K := by rfl) : CallR X (.builtin "len") (rLenQ K) := by subst hK; exact call_len_seq
theorem k_list_of (hK : X.K = K := by rfl) : CallR X (.type "list") (fun xs H Q => ∃ p ys, xs = [.ref p] ∧ (SqL K H p ys ∨ SqT K H p ys) ∧ ∀ l, H l = none → Q (.ref l) (upd H l (.lst ys))) := by subst hK; exact call_list_of
theorem k_tuple_of (hK : X.K = K := by rfl) : CallR X (.type "tuple") (fun xs H Q => ∃ p ys, xs = [.ref p] ∧ ((SqL K H p ys ∧ ∀ l, H l = none → Q (.ref l) (upd H l (.tup ys))) ∨ (SqT K H p ys ∧ Q (.ref p) H))) := by subst hK; exact call_tuple_of
theorem k_revL {e : Expr} {te : TE} {k : Nat} {p1 p2 p3 pos : Pos} (he : PE X e te) (hK : X.K = K := by rfl) : PE X (.Subscript e (.Slice none none (some (.UnaryOp .USub (.Constant (.int 1) k p1) p2)) p3) pos) (tRevL K te) := by subst hK; exact pe_revL he
theorem k_pi_list {tg l : Expr} {tl : TE} (hl : PE X l tl) (hK : X.K = K := by rfl) : PI X tg l (iList K tl) := by subst hK; exact pi_list hl
theorem k_pi_tup {tg l : Expr} {tl : TE} (hl : PE X l tl) (hK : X.K = K := by rfl) : PI X tg l (iTup K tl) := by subst hK; exact pi_tup hl
theorem k_pi_enum {e : Expr} {ta : TA} {p pos tpos : Pos} {elts : List Expr} {kk : Nat} (hg : Gl X "enumerate") (hm : X.mg "enumerate" = none) (ha : PA X [e] ta) (hs : starEach [e] X.env = [(false, eval e X.env)] := by rfl) (hK : X.K = K := by rfl) :
    PI X (.Tuple elts kk tpos) (.Call (.Name "enumerate" p) [e] [] pos) (iEnum K ta) := by subst hK; exact pi_enum hg hm ha hs
theorem k_pi_zip {e e2 : Expr} {ta : TA} {p pos tpos : Pos} {elts : List Expr} {kk : Nat} (hg : Gl X "zip") (hm : X.mg "zip" = none) (ha : PA X [e, e2] ta)
    (hs : starEach [e, e2] X.env = (false, eval e X.env) :: starEach [e2] X.env := by rfl) (hpl : (backTo pos (starEach [e2] X.env)).any (·.1) = false := by rfl) (hK : X.K = K := by rfl) :
    PI X (.Tuple elts kk tpos) (.Call (.Name "zip" p) [e, e2] [] pos) (iZip K ta) := by subst hK; exact pi_zip hg hm ha hs hpl
end
end TL

/-! TLk: lists of own lists, as _law_pots makes them -/
namespace TL
open PySem L2
open Enc
def potsL (ns : List Int) : List Int := if ns.length = 0 then [0] else cutL ns none (some 63)
/-- called with a list of whole numbers: a new list of new lists [n, 0] -/
def SpPots (K : Fg) : Sp := fun vs H Q _ => ∃ F ns, RpAll K F vs [.list (ns.map .int)] ∧ Same F H ∧ ∀ (L : Addr) (ps : List Addr) (H' : Hp), Same H H' → H L = none → L ∉ ps → (∀ p ∈ ps, H p = none) → ps.Nodup → ps.length = (potsL ns).length →
  H' L = some (.lst (ps.map .ref)) → (∀ (i : Nat) (p : Addr) (c : Int), ps[i]? = some p → (potsL ns)[i]? = some c → H' p = some (.lst [.int c, .int 0])) → Q (.ref L) H'
theorem spots_len {K : Fg} : ∀ vs H Q E, SpPots K vs H Q E → vs.length = 1 := fun vs H Q E ⟨F, ns, r, _⟩ => r.length
theorem Hx.same {K : Fg} {F0 H0 F H : Hp} {O : Os} (S : Hx K F0 H0 [] F O H) : Same H0 H := fun a o e => S.keep a o e (by simp)
theorem pots_one {σ : L2.St} {H : Hp} {Q : VK} (k : ∀ (L : Addr) (ps : List Addr) (H' : Hp), Same H H' → H L = none → L ∉ ps → (∀ p ∈ ps, H p = none) → ps.Nodup → ps.length = 1 → H' L = some (.lst (ps.map .ref)) →
    (∀ (i : Nat) (p : Addr) (c : Int), ps[i]? = some p → [(0 : Int)][i]? = some c → H' p = some (.lst [.int c, .int 0])) → Q (.ref L) H') :
    tLst (tCons (tLst (tCons (tC (.int 0)) (tCons (tC (.int 0)) tNil))) tNil) σ H Q := by
  refine ⟨by show (2 : Nat) ≤ sizeLine; decide, fun p hp => ⟨by show (1 : Nat) ≤ sizeLine; decide, fun L hL => ?_⟩⟩
  have hne : L ≠ p := fun e => by
    subst e
    rw [upd_same] at hL
    cases hL
  have hL' : H L = none := by
    rw [upd_ne hne] at hL
    exact hL
  refine k L [p] _ ((same_upd hp).trans (same_upd hL)) hL' (by simpa using hne) (by simpa using hp) (by simp) rfl upd_same fun i q c h1 h2 => ?_
  cases i with
  | zero =>
    cases h1
    cases h2
    rw [upd_ne (Ne.symm hne), upd_same]
  | succ i => cases h1
theorem EnvR.length {K : Fg} {F : Hp} {σ : L2.St} {ρ : List Sl} (h : EnvR K F σ ρ) : σ.length = ρ.length := by
  induction h with
  | nil => rfl
  | cons _ _ ih => rw [List.length_cons, List.length_cons, ih]
theorem wipe_len (σ : L2.St) : ∀ vs : List Nat, (L2.wipe σ vs).length = σ.length := fun vs => wipe_length σ vs
theorem get_snoc {α : Type} {xs : List α} {x y : α} {i : Nat} (h : (xs ++ [x])[i]? = some y) : xs[i]? = some y ∨ (i = xs.length ∧ y = x) := by
  rw [List.getElem?_append] at h
  split at h
  · exact .inl h
  · rename_i hlt
    cases e : i - xs.length with
    | zero =>
      rw [e] at h
      exact .inr ⟨by omega, (Option.some.inj h).symm⟩
    | succ n => rw [e] at h; simp at h
theorem ite_true_of {A B : Prop} (h : A) : (if true = true then A else B) := by rw [if_pos rfl]; exact h
theorem pots_lc {K : Fg} {ρ : List Sl} {te : TE} {cs : List Int} {j : Nat} {vs : List Nat} {F H : Hp} {σ : L2.St} {Q : VK} (hj : j ∈ vs) (hl : j < ρ.length) (ha : RX K te ρ [] (.list (cs.map .int)) []) (E : EnvR K F σ ρ) (hF : Same F H)
    (k : ∀ (L : Addr) (ps : List Addr) (H' : Hp), Same H H' → H L = none → L ∉ ps → (∀ p ∈ ps, H p = none) → ps.Nodup → ps.length = cs.length → H' L = some (.lst (ps.map .ref)) →
      (∀ (i : Nat) (p : Addr) (c : Int), ps[i]? = some p → cs[i]? = some c → H' p = some (.lst [.int c, .int 0])) → Q (.ref L) H') :
    tLc (iList K te) (gName j) tYes (tLst (tCons (tVar j) (tCons (tC (.int 0)) tNil))) vs σ H Q := ha.go E (Hx.start hF) fun x F1 H1 f1 E1 S1 r1 => by
  cases r1 with
  | @lst a xs _ q1 q2 q3 =>
  have hx := RpAll.ints q3
  subst hx
  refine ⟨a, rfl, ⟨_, S1.fh.seq q1⟩, fun D hD => ?_⟩
  have hD0 : H D = none := S1.noh0 hD
  have hσ : j < (L2.wipe σ vs).length := by rw [wipe_len, E1.length]; exact hl
  refine lc_it (walk_list (K := K) (a := a) (xs := cs.map V.int)) (fun i H2 => ∃ ps : List Addr, Same H1 H2 ∧ H2 D = some (.lst (ps.map .ref)) ∧ ps.length = i ∧ D ∉ ps ∧ (∀ p ∈ ps, H1 p = none) ∧ ps.Nodup ∧
    ∀ (i : Nat) (p : Addr) (c : Int), ps[i]? = some p → cs[i]? = some c → H2 p = some (.lst [.int c, .int 0])) ⟨[], same_upd hD, upd_same, rfl, by simp, by simp, by simp, fun i p c e => by simp at e⟩
    (fun i H2 _ q => by obtain ⟨ps, q1', _⟩ := q; exact (S1.fh.trans q1').seq q1) (fun i x H2 H3 hi q y => ?_) (fun H2 q => ?_)
  · obtain ⟨ps, p1, p2, p3, p4, p5, p6, p7⟩ := q
    obtain ⟨e, y⟩ := y
    subst e
    have hi' : i < cs.length := by simpa using hi
    have hx : x = V.int cs[i] := by
      rw [List.getElem?_map, List.getElem?_eq_getElem hi'] at y
      exact (Option.some.inj y).symm
    subst hx
    refine ⟨wipe_set (i := j) (L2.wipe σ vs) hj |>.trans (wipe_wipe σ vs), ?_⟩
    unfold tYes
    refine ite_true_of ?_
    refine ⟨_, List.getElem?_set_self hσ, by show (2 : Nat) ≤ sizeLine; decide, fun p hp => ?_⟩
    have hpD : D ≠ p := ne_of_none p2 hp
    have hpn : p ∉ ps := fun hm => by
      obtain ⟨n, hn, en⟩ := List.mem_iff_getElem.mp hm
      have := p7 n p (cs[n]'(by omega)) (by rw [List.getElem?_eq_getElem hn, en]) (List.getElem?_eq_getElem _)
      rw [hp] at this
      cases this
    have hp1 : H1 p = none := p1.free hp
    refine ⟨ps.map .ref, by rw [upd_ne hpD]; exact p2, ?_, ps ++ [p], ?_, ?_, by rw [List.length_append, List.length_singleton, p3], ?_, ?_, ?_, ?_⟩
    · rw [List.length_map] at q2 ⊢; omega
    · intro b o hb
      have hbD : b ≠ D := ne_of_none hb hD
      rw [upd_ne hbD, upd_ne (ne_of_none hb hp1)]
      exact p1 _ _ hb
    · rw [List.map_append]; exact upd_same
    · rw [List.mem_append, List.mem_singleton]
      rintro (h | h)
      · exact p4 h
      · exact hpD h
    · intro b hb
      rcases List.mem_append.mp hb with h | h
      · exact p5 b h
      · rw [List.mem_singleton.mp h]; exact hp1
    · rw [List.nodup_append]
      refine ⟨p6, by simp, fun b hb c hc e => ?_⟩
      rw [List.mem_singleton] at hc
      subst hc
      subst e
      exact hpn hb
    · intro n b c h1 h2
      rcases get_snoc h1 with h | ⟨h, hb⟩
      · have hbm : b ∈ ps := List.mem_of_getElem? h
        have e1 : b ≠ D := fun e => p4 (e ▸ hbm)
        have e2 : b ≠ p := fun e => hpn (e ▸ hbm)
        rw [upd_ne e1, upd_ne e2]
        exact p7 n b c h h2
      · subst hb
        have en : n = i := h.trans p3
        subst en
        rw [List.getElem?_eq_getElem hi'] at h2
        cases h2
        rw [upd_ne (Ne.symm hpD), upd_same]
  · obtain ⟨ps, p1, p2, p3, p4, p5, p6, p7⟩ := q
    refine k D ps H2 (S1.same.trans p1) hD0 p4 (fun p hp => S1.noh0 (p5 p hp)) p6 (by simpa using p3) p2 p7
def potsOs : List Addr → List Int → Os
  | p :: ps, c :: cs => ⟨p, true, [.int c, .int 0]⟩ :: potsOs ps cs
  | _, _ => []
theorem potsOs_mem : ∀ {ps : List Addr} {cs : List Int} {q : OE}, q ∈ potsOs ps cs → ∃ (i : Nat) (p : Addr) (c : Int), ps[i]? = some p ∧ cs[i]? = some c ∧ q = ⟨p, true, [.int c, .int 0]⟩
  | [], _, _, h => by simp [potsOs] at h
  | p :: ps, [], _, h => by simp [potsOs] at h
  | p :: ps, c :: cs, q, h => by
    rcases List.mem_cons.mp h with e | h
    · exact ⟨0, p, c, rfl, rfl, e⟩
    · obtain ⟨i, p', c', h1, h2, h3⟩ := potsOs_mem h
      exact ⟨i + 1, p', c', by simpa using h1, by simpa using h2, h3⟩
theorem potsOs_map : ∀ {ps : List Addr} {cs : List Int}, ps.length = cs.length → (potsOs ps cs).map OE.a = ps
  | [], [], _ => rfl
  | [], _ :: _, h => by simp at h
  | _ :: _, [], h => by simp at h
  | p :: ps, c :: cs, h => by
    unfold potsOs
    rw [List.map_cons, potsOs_map (by simpa using h)]
theorem Hx.pots {K : Fg} {F0 H0 F H H' : Hp} {D0 : List Addr} {O : Os} (S : Hx K F0 H0 D0 F O H) {L : Addr} {ps : List Addr} {cs : List Int} (h : Same H H') (hL : H L = none) (hn : L ∉ ps) (hp : ∀ p ∈ ps, H p = none) (nd : ps.Nodup) (hl : ps.length = cs.length)
    (hH : H' L = some (.lst (ps.map .ref))) (hc : ∀ (i : Nat) (p : Addr) (c : Int), ps[i]? = some p → cs[i]? = some c → H' p = some (.lst [.int c, .int 0])) : Hx K F0 H0 D0 (upd F L (.lst (ps.map .ref))) (potsOs ps cs ++ O) H' := by
  have hFL := S.nof hL
  have fu : Same F (upd F L (.lst (ps.map .ref))) := same_upd hFL
  refine ⟨S.f0.trans fu, fun a u e => ?_, fun a u e n => h _ _ (S.keep a u e n), fun a u e => ?_, fun a u e n => ?_, fun q hq => ?_, ?_⟩
  · by_cases ha : a = L
    · subst ha
      rw [upd_same] at e
      cases e
      exact hH
    · rw [upd_ne ha] at e
      exact h _ _ (S.fh _ _ e)
  · obtain ⟨u', e'⟩ := S.live a u e
    exact ⟨u', h _ _ e'⟩
  · obtain ⟨u', e'⟩ := S.live a u e
    rw [upd_ne (ne_of_none e' hL)]
    exact S.new a u e n
  · rcases List.mem_append.mp hq with hq | hq
    · obtain ⟨i, p, c, h1, h2, rfl⟩ := potsOs_mem hq
      have hm : p ∈ ps := List.mem_of_getElem? h1
      have hpn := hp p hm
      refine ⟨?_, fun _ => S.noh0 hpn, fun z => (Bool.false_ne_true z.symm).elim, _, hc i p c h1 h2, by show (2 : Nat) ≤ sizeLine; decide, .cons (.int c) (.cons (.int 0) .nil)⟩
      show upd F L _ p = none
      rw [upd_ne (fun e : p = L => hn (by rw [← e]; exact hm))]
      exact S.nof hpn
    · obtain ⟨h1, h2, h3, vs, h4, h5, h6⟩ := S.own q hq
      refine ⟨?_, h2, h3, vs, h _ _ h4, h5, h6.up fu⟩
      rw [upd_ne (ne_of_none h4 hL)]
      exact h1
  · rw [List.map_append, potsOs_map hl, List.nodup_append]
    refine ⟨nd, S.nd, fun a ha b hb e => ?_⟩
    obtain ⟨q, hq, eq⟩ := List.mem_map.mp hb
    obtain ⟨_, _, _, vs, h4, _⟩ := S.own q hq
    rw [eq, ← e, hp a ha] at h4
    cases h4
theorem Hx.sub {K : Fg} {F0 H0 F H : Hp} {D0 : List Addr} {O O' : Os} (S : Hx K F0 H0 D0 F O H) (h : O'.Sublist O) : Hx K F0 H0 D0 F O' H :=
  ⟨S.f0, S.fh, S.keep, S.live, S.new, fun p hp => S.own p (h.subset hp), S.nd.sublist (h.map OE.a)⟩
theorem drop_cons {α : Type} {xs : List α} {i : Nat} (h : i < xs.length) : xs.drop i = xs[i] :: xs.drop (i + 1) := List.drop_eq_getElem_cons h
/-- for pot in _law_pots(..) -/
theorem st_forP {K : Fg} {ρ : List Sl} {F0 H0 F H : Hp} {D0 : List Addr} {O : Os} {σ : L2.St} {D : Ends} {R : Type} {te : TE} {j : Nat} {tb : TS} {ns : List Int} {f : Int → Unit → Option (Fl Unit R)} {fl : Fl Unit R} {E0 : XK} (ρ1 : List Sl)
    (E : EnvR K F σ ρ) (S0 : Hx K F0 H0 D0 F O H) (ha : RX K te ρ O (.list (ns.map .int)) O) (hf : forF f (potsL ns) () = some fl) (hW : Wk ρ ρ1)
    (kn : ∀ s, fl = .nx s → ∀ σ' F' H', Same F F' → EnvR K F' σ' ρ1 → Hx K F0 H0 D0 F' O H' → D.nx σ' H')
    (body : ∀ c out, f c () = some out → (∀ r, out = .rt r → fl = .rt r) → ∀ σ1 F1 H1 p Or, Same F F1 → EnvR K F1 σ1 (ρ1.set j (.adr p)) → Hx K F0 H0 D0 F1 (⟨p, true, ([c, 0] : List Int).map enc⟩ :: Or) H1 →
      ∀ (N B : L2.St → Hp → Prop), (∀ s, out = .nx s → ∀ σ' F' H', Same F1 F' → EnvR K F' σ' ρ1 → Hx K F0 H0 D0 F' Or H' → N σ' H') → (∀ s, out = .bk s → ∀ σ' F' H', Same F1 F' → EnvR K F' σ' ρ1 → Hx K F0 H0 D0 F' Or H' → B σ' H') → tb { D with nx := N, ct := N, bk := B } σ1 H1) :
    tFor (iList K (tCall (SpPots K) [] E0 (tCons te tNil))) (gName j) tb D σ H := by
  refine ha.go E S0 fun x F1 H1 f1 E1 S1 r1 => ?_
  refine ⟨F1, ns, .cons r1 .nil, S1.fh, fun L ps H2 g1 g2 g3 g4 g5 g6 g7 g8 => ?_⟩
  have S2 := S1.pots g1 g2 g3 g4 g5 g6 g7 g8
  have fu : Same F1 (upd F1 L (.lst (ps.map .ref))) := same_upd (S1.nof g2)
  refine ⟨L, rfl, ⟨_, SqL.of g7⟩, ?_⟩
  have hlen : (ps.map V.ref).length = ps.length := List.length_map _
  refine for_it (walk_list (K := K) (a := L) (xs := ps.map V.ref)) (fun i σ H => ∃ F2, Same F F2 ∧ F2 L = some (.lst (ps.map .ref)) ∧ EnvR K F2 σ ρ1 ∧ Hx K F0 H0 D0 F2 (potsOs (ps.drop i) ((potsL ns).drop i) ++ O) H ∧ forF f ((potsL ns).drop i) () = some fl)
    ⟨_, f1.trans fu, upd_same, (E1.up fu).weak hW, S2, hf⟩ (fun i σ H _ q => by obtain ⟨F2, _, q2, _, q4, _⟩ := q; exact SqL.of (q4.fh _ _ q2)) (fun i x σ H H' hi q y => ?_) (fun σ H q => ?_)
  · obtain ⟨F2, q1, q2, q3, q4, q5⟩ := q
    obtain ⟨e, y⟩ := y
    subst e
    rw [hlen] at hi
    have hi2 : i < (potsL ns).length := by omega
    have hx : x = V.ref ps[i] := by
      rw [List.getElem?_map, List.getElem?_eq_getElem hi] at y
      exact (Option.some.inj y).symm
    subst hx
    rw [drop_cons hi2] at q4 q5
    rw [drop_cons hi] at q4
    obtain ⟨out, e1, q5⟩ := bindE q5
    refine body _ out e1 (fun r eo => ?_) _ F2 H' ps[i] (potsOs (ps.drop (i + 1)) ((potsL ns).drop (i + 1)) ++ O) q1 (q3.seta j) q4 _ _ (fun s eo σ' F' H2 ff E' S' => ?_) (fun s eo σ' F' H2 ff E' S' => ?_)
    · subst eo
      exact (Option.some.inj q5).symm
    · subst eo
      exact ⟨F', q1.trans ff, ff _ _ q2, E', S', q5⟩
    · subst eo
      exact kn s (Option.some.inj q5).symm σ' F' H2 (q1.trans ff) E' (S'.sub (List.sublist_append_right _ _))
  · obtain ⟨F2, q1, q2, q3, q4, q5⟩ := q
    rw [hlen, List.drop_length] at q4
    rw [hlen, g6, List.drop_length] at q5
    exact kn () (Option.some.inj q5).symm σ F2 H q1 q3 q4
end TL

/-! TLl: isinstance; likeness of data, as the laws' _law_same and _law_alike reckon it -/
namespace TL
open PySem L2
open Enc
open RZ
def tyN : PyData → String
  | .none => "NoneType"
  | .bool _ => "bool"
  | .int _ => "int"
  | .str _ => "str"
  | .list _ => "list"
  | .tuple _ => "tuple"
  | .dict _ => "dict"
theorem seqL_ty {K : Fg} {H : Hp} {a : Addr} {xs : List V} (h : SqL K H a xs) : TyX K H (.ref a) (.type "list") := by
  rcases h with (h | ⟨o, h⟩) | ⟨o, its, n, h1, h2, _⟩
  · exact .base (.lst h)
  · exact .base (.frz h)
  · exact .kList h1 h2
theorem seqT_ty {K : Fg} {H : Hp} {a : Addr} {xs : List V} (h : SqT K H a xs) : TyX K H (.ref a) (.type "tuple") := by
  rcases h with (h | ⟨o, h⟩) | ⟨o, its, n, h1, h2, _⟩
  · exact .base (.tup h)
  · exact .fTuple h
  · exact .kTuple h1 h2
theorem Rp.ty {K : Fg} {H : Hp} {v : V} {d : PyData} (h : Rp K H v d) : TyX K H v (.type (tyN d)) := by
  cases h with
  | non => exact .base .non
  | bl b => exact .base (.bl b)
  | int i => exact .base (.int i)
  | str x => exact .base (.str x)
  | lst h _ _ => exact seqL_ty h
  | tup h _ _ => exact seqT_ty h
section
variable {K : Fg} {ta tb te : TE} {ρ : List Sl} {O O1 O2 : Os} {d : PyData}
theorem rx_isi {c : String} {r : Bool} (ha : RX K ta ρ O d O1) (h : kitB (tyN d) c = some r) : RX K (tCB (rIsi K) (tCons ta (tCons (tC (.ty c)) tNil))) ρ O (.bool r) O1 := ⟨fun _ _ _ _ _ _ Q E S k => ha.go E S fun x F1 H1 f1 E1 S1 r1 =>
  ⟨x, .ty c, _, _, r, rfl, .ty c, (r1.up S1.fh).ty, kit_ty h, k _ F1 H1 f1 S1 (.bl r)⟩⟩
theorem rx_isiT2 {c c' : String} {r r' : Bool} (ha : RX K ta ρ O d O1) (h : kitB (tyN d) c = some r) (h' : kitB (tyN d) c' = some r') :
    RX K (tCB (rIsiT K) (tCons ta (tCons (tTup (tCons (tC (.ty c)) (tCons (tC (.ty c')) tNil))) tNil))) ρ O (.bool (r || r')) O1 := ⟨fun _ _ _ _ _ _ Q E S k => ha.go E S fun x F1 H1 f1 E1 S1 r1 => by
  refine ⟨by show (2 : Nat) ≤ sizeLine; decide, fun T hT => ?_⟩
  have S2 := S1.junk (o := .tup [.ty c, .ty c']) hT
  refine ⟨x, T, [.ty c, .ty c'], _, [.type c, .type c'], r || r', rfl, upd_same, .cons (.ty c) (.cons (.ty c') .nil), (r1.up S2.fh).ty, kitAny_cons (kit_ty h) (fun e => kitAny_cons (kit_ty h') (fun e' => ?_) fun e' => ?_) (fun e => by rw [e]; rfl), k _ F1 _ f1 S2 (.bl _)⟩
  · rw [e, e']; exact kitAny_nil
  · rw [e, e']; rfl⟩
theorem kit_at {d : PyData} {t c : String} {r : Bool} (ht : tyN d = t) (h : kitB t c = some r) : kitB (tyN d) c = some r := by rw [ht]; exact h
theorem k_isi {X : Cx} (K : Fg) (hK : X.K = K := by rfl) : CallR X (.builtin "isinstance") (rIsi K) := by subst hK; exact call_isi
theorem k_isiT {X : Cx} (K : Fg) (hK : X.K = K := by rfl) : CallR X (.builtin "isinstance") (rIsiT K) := by subst hK; exact call_isiT
theorem k_pi_zipA {X : Cx} (K : Fg) {e e2 : Expr} {ta : TA} {p pos tpos : Pos} {elts : List Expr} {kk : Nat} (hg : Gl X "zip") (hm : X.mg "zip" = none) (ha : PA X [e, e2] ta)
    (hs : starEach [e, e2] X.env = (false, eval e X.env) :: starEach [e2] X.env := by rfl) (hpl : (backTo pos (starEach [e2] X.env)).any (·.1) = false := by rfl) (hK : X.K = K := by rfl) :
    PI X (.Tuple elts kk tpos) (.Call (.Name "zip" p) [e, e2] [] pos) (iZipA K ta) := by subst hK; exact pi_zipA hg hm ha hs hpl
theorem pe_tyn {X : Cx} {x : Str} {c : String} {pos : Pos} (hg : Gl X x) (hm : X.mg x = none) (hv : bootBuiltins x = some (.type c)) (hn : x ≠ "__name__" := by decide) (hd : (x == ("__debug__" : Str)) = false := by decide) : PE X (.Name x pos) (tC (.ty c)) :=
  pe_bltn hg hm hv (show RelV (.ty c) (.type c) from rfl) hn hd
theorem ri_zipAL {ys zs : List PyData} (h : RX K ta ρ O (.list ys) O1) (h' : RX K tb ρ O1 (.list zs) O2) : RI K (iZipA K (tCons ta (tCons tb tNil))) ρ O (zipD ys zs) O2 := ⟨fun F0 H0 D0 σ F H R E S k =>
  (ri_zip h h').run F0 H0 D0 σ F H R E S k |> fun g => by
    refine h.go E S fun x F1 H1 f1 E1 S1 r1 => h'.go E1 S1 fun y F2 H2 f2 E2 S2 r2 => ?_
    have r1' := r1.up f2
    cases r1' with
    | @lst a xs _ q1 q2 q3 =>
      cases r2 with
      | @lst b ws _ p1 p2 p3 =>
        refine ⟨a, b, xs, ws, rfl, .inl ⟨S2.fh.seq q1, S2.fh.seq p1, ?_⟩⟩
        have hl : (zipD ys zs).length = min xs.length ws.length := by unfold zipD; rw [List.length_map, List.length_zip, q3.length, p3.length]
        refine k _ F2 H2 (f1.trans f2) S2 ⟨by omega, fun _ _ _ F O H i hi f S => ?_, fun _ _ _ F O H f S => ?_, fun _ _ _ F O H i x H' hi f S y => ?_⟩
        · have h1 : i < xs.length := by omega
          have h2 : i < ws.length := by omega
          exact ⟨xs, ws, xs[i], ws[i], (f.trans S.fh).seq q1, (f.trans S.fh).seq p1, by simp [h1], by simp [h2]⟩
        · exact ⟨xs, ws, (f.trans S.fh).seq q1, (f.trans S.fh).seq p1, by omega⟩
        · obtain ⟨T, u, v, rfl, hT, rfl, y1, y2⟩ := y
          obtain ⟨d, e, r⟩ := (q3.up f).getV (y1 xs ((f.trans S.fh).seq q1))
          obtain ⟨d', e', r'⟩ := (p3.up f).getV (y2 ws ((f.trans S.fh).seq p1))
          obtain ⟨F3, f3, S3, r3⟩ := pair_put S hT r r'
          refine ⟨F3, _, f3, S3, ?_, r3⟩
          unfold zipD
          have ez : (ys.zip zs)[i]? = some (d, d') := List.getElem?_zip_eq_some.mpr ⟨e, e'⟩
          rw [List.getElem?_map, ez]
          rfl⟩
theorem ri_zipAT {ys zs : List PyData} (h : RX K ta ρ O (.tuple ys) O1) (h' : RX K tb ρ O1 (.tuple zs) O2) : RI K (iZipA K (tCons ta (tCons tb tNil))) ρ O (zipD ys zs) O2 := ⟨fun F0 H0 D0 σ F H R E S k => by
    refine h.go E S fun x F1 H1 f1 E1 S1 r1 => h'.go E1 S1 fun y F2 H2 f2 E2 S2 r2 => ?_
    have r1' := r1.up f2
    cases r1' with
    | @tup a xs _ q1 q2 q3 =>
      cases r2 with
      | @tup b ws _ p1 p2 p3 =>
        refine ⟨a, b, xs, ws, rfl, .inr ⟨same_t S2.fh q1, same_t S2.fh p1, ?_⟩⟩
        have hl : (zipD ys zs).length = min xs.length ws.length := by unfold zipD; rw [List.length_map, List.length_zip, q3.length, p3.length]
        refine k _ F2 H2 (f1.trans f2) S2 ⟨by omega, fun _ _ _ F O H i hi f S => ?_, fun _ _ _ F O H f S => ?_, fun _ _ _ F O H i x H' hi f S y => ?_⟩
        · have h1 : i < xs.length := by omega
          have h2 : i < ws.length := by omega
          exact ⟨xs, ws, xs[i], ws[i], same_t (f.trans S.fh) q1, same_t (f.trans S.fh) p1, by simp [h1], by simp [h2]⟩
        · exact ⟨xs, ws, same_t (f.trans S.fh) q1, same_t (f.trans S.fh) p1, by omega⟩
        · obtain ⟨T, u, v, rfl, hT, rfl, y1, y2⟩ := y
          obtain ⟨d, e, r⟩ := (q3.up f).getV (y1 xs (same_t (f.trans S.fh) q1))
          obtain ⟨d', e', r'⟩ := (p3.up f).getV (y2 ws (same_t (f.trans S.fh) p1))
          obtain ⟨F3, f3, S3, r3⟩ := pair_put S hT r r'
          refine ⟨F3, _, f3, S3, ?_, r3⟩
          unfold zipD
          have ez : (ys.zip zs)[i]? = some (d, d') := List.getElem?_zip_eq_some.mpr ⟨e, e'⟩
          rw [List.getElem?_map, ez]
          rfl⟩
end

/-! ### likeness -/
mutual
inductive Sim : Nat → PyData → PyData → Bool → Prop
  | int {n : Nat} (i j : Int) : Sim n (.int i) (.int j) (decide (i = j))
  | bool {n : Nat} (i j : Bool) : Sim n (.bool i) (.bool j) (decide (i = j))
  | str {n : Nat} (i j : Str) : Sim n (.str i) (.str j) (decide (i = j))
  | list {n : Nat} {xs ys : List PyData} {b : Bool} (h : SimAll n xs ys b) : Sim (n + 1) (.list xs) (.list ys) (decide (xs.length = ys.length) && b)
  | tuple {n : Nat} {xs ys : List PyData} {b : Bool} (h : SimAll n xs ys b) : Sim (n + 1) (.tuple xs) (.tuple ys) (decide (xs.length = ys.length) && b)
inductive SimAll : Nat → List PyData → List PyData → Bool → Prop
  | nil {n : Nat} (ys : List PyData) : SimAll n [] ys true
  | nil' {n : Nat} (xs : List PyData) : SimAll n xs [] true
  | cons {n : Nat} {x y : PyData} {xs ys : List PyData} {b c : Bool} (h : Sim n x y b) (t : SimAll n xs ys c) : SimAll n (x :: xs) (y :: ys) (b && c)
end
mutual
theorem Sim.mono {n m : Nat} {x y : PyData} {b : Bool} (h : Sim n x y b) (e : n ≤ m) : Sim m x y b := by
  cases h with
  | int i j => exact .int i j
  | bool i j => exact .bool i j
  | str i j => exact .str i j
  | list h =>
    cases m with
    | zero => omega
    | succ m => exact .list (SimAll.mono h (by omega))
  | tuple h =>
    cases m with
    | zero => omega
    | succ m => exact .tuple (SimAll.mono h (by omega))
theorem SimAll.mono {n m : Nat} {xs ys : List PyData} {b : Bool} (h : SimAll n xs ys b) (e : n ≤ m) : SimAll m xs ys b := by
  cases h with
  | nil ys => exact .nil ys
  | nil' xs => exact .nil' xs
  | cons h t => exact .cons (Sim.mono h e) (SimAll.mono t e)
end
class SimT (α : Type) [Enc α] [DecidableEq α] where
  dp : Nat
  ok : ∀ x y : α, Sim dp (enc x) (enc y) (decide (x = y))
instance : SimT Int := ⟨0, fun x y => .int x y⟩
instance : SimT Bool := ⟨0, fun x y => .bool x y⟩
instance : SimT Str := ⟨0, fun x y => .str x y⟩
theorem simAll_map {α : Type} [Enc α] [DecidableEq α] [s : SimT α] : ∀ xs ys : List α, ∃ b, SimAll (SimT.dp α) (xs.map enc) (ys.map enc) b ∧ (decide (xs.length = ys.length) && b) = decide (xs = ys)
  | [], ys => ⟨true, .nil _, by cases ys <;> simp⟩
  | x :: xs, [] => ⟨true, .nil' _, by simp⟩
  | x :: xs, y :: ys => by
    obtain ⟨b, h, e⟩ := simAll_map xs ys
    refine ⟨_, .cons (SimT.ok x y) h, ?_⟩
    have e1 : decide (x :: xs = y :: ys) = (decide (x = y) && decide (xs = ys)) := by simp
    rw [e1, ← e]
    have e2 : decide ((x :: xs).length = (y :: ys).length) = decide (xs.length = ys.length) := by simp
    rw [e2]
    cases decide (x = y) <;> cases decide (xs.length = ys.length) <;> cases b <;> rfl
instance {α : Type} [Enc α] [DecidableEq α] [SimT α] : SimT (List α) := ⟨SimT.dp α + 1, fun xs ys => by
  obtain ⟨b, h, e⟩ := simAll_map xs ys
  have := Sim.list h
  rw [List.length_map, List.length_map, e] at this
  exact this⟩
instance {α : Type} [Enc α] [DecidableEq α] [SimT α] : SimT (Tp α) := ⟨SimT.dp α + 1, fun xs ys => by
  obtain ⟨xs⟩ := xs
  obtain ⟨ys⟩ := ys
  obtain ⟨b, h, e⟩ := simAll_map xs ys
  have := Sim.tuple h
  rw [List.length_map, List.length_map, e] at this
  have e2 : decide (Tp.mk xs = Tp.mk ys) = decide (xs = ys) := by simp
  rw [e2]
  exact this⟩
instance {α β : Type} [Enc α] [DecidableEq α] [SimT α] [Enc β] [DecidableEq β] [SimT β] : SimT (α × β) := ⟨SimT.dp α + SimT.dp β + 1, fun x y => by
  obtain ⟨a, b⟩ := x
  obtain ⟨c, d⟩ := y
  have := Sim.tuple (.cons ((SimT.ok a c).mono (Nat.le_add_right _ _)) (.cons ((SimT.ok b d).mono (Nat.le_add_left _ _)) (.nil [])))
  have e2 : decide ((a, b) = (c, d)) = (decide ([enc a, enc b].length = [enc c, enc d].length) && (decide (a = c) && (decide (b = d) && true))) := by simp [Bool.decide_and]
  rw [e2]
  exact this⟩
instance {α β γ : Type} [Enc α] [DecidableEq α] [SimT α] [Enc β] [DecidableEq β] [SimT β] [Enc γ] [DecidableEq γ] [SimT γ] : SimT (T3 α β γ) := ⟨SimT.dp α + SimT.dp β + SimT.dp γ + 1, fun x y => by
  obtain ⟨a, b, c⟩ := x
  obtain ⟨a', b', c'⟩ := y
  have := Sim.tuple (.cons ((SimT.ok a a').mono (by omega : SimT.dp α ≤ SimT.dp α + SimT.dp β + SimT.dp γ)) (.cons ((SimT.ok b b').mono (by omega)) (.cons ((SimT.ok c c').mono (by omega)) (.nil []))))
  have e2 : decide (T3.mk a b c = T3.mk a' b' c') = (decide ([enc a, enc b, enc c].length = [enc a', enc b', enc c'].length) && (decide (a = a') && (decide (b = b') && (decide (c = c') && true)))) := by simp [Bool.decide_and]
  rw [e2]
  exact this⟩
instance {α β γ δ : Type} [Enc α] [DecidableEq α] [SimT α] [Enc β] [DecidableEq β] [SimT β] [Enc γ] [DecidableEq γ] [SimT γ] [Enc δ] [DecidableEq δ] [SimT δ] : SimT (T4 α β γ δ) := ⟨SimT.dp α + SimT.dp β + SimT.dp γ + SimT.dp δ + 1, fun x y => by
  obtain ⟨a, b, c, d⟩ := x
  obtain ⟨a', b', c', d'⟩ := y
  have := Sim.tuple (.cons ((SimT.ok a a').mono (by omega : SimT.dp α ≤ SimT.dp α + SimT.dp β + SimT.dp γ + SimT.dp δ)) (.cons ((SimT.ok b b').mono (by omega)) (.cons ((SimT.ok c c').mono (by omega)) (.cons ((SimT.ok d d').mono (by omega)) (.nil [])))))
  have e2 : decide (T4.mk a b c d = T4.mk a' b' c' d') = (decide ([enc a, enc b, enc c, enc d].length = [enc a', enc b', enc c', enc d'].length) && (decide (a = a') && (decide (b = b') && (decide (c = c') && (decide (d = d') && true))))) := by simp [Bool.decide_and]
  rw [e2]
  exact this⟩
def SimR (n : Nat) : List PyData → PyData → Prop := fun ds d => ∃ x y b, ds = [x, y] ∧ Sim n x y b ∧ d = .bool b
theorem SimAll.all {n : Nat} {xs ys : List PyData} {b : Bool} (h : SimAll n xs ys b) : ∃ zs : List (PyData × PyData × Bool), zs.map (fun t => PyData.tuple [t.1, t.2.1]) = zipD xs ys ∧ (∀ t ∈ zs, Sim n t.1 t.2.1 t.2.2) ∧ (zs.map (·.2.2)).all id = b := by
  induction xs generalizing ys b with
  | nil => cases h; exact ⟨[], rfl, fun t e => by simp at e, rfl⟩; exact ⟨[], rfl, fun t e => by simp at e, rfl⟩
  | cons x xs ih =>
    cases h with
    | nil' => exact ⟨[], rfl, fun t e => by simp at e, rfl⟩
    | @cons _ _ y _ ys b c h t =>
      obtain ⟨zs, h1, h2, h3⟩ := ih t
      refine ⟨(x, y, b) :: zs, ?_, fun t ht => ?_, by rw [List.map_cons, List.all_cons, h3]; rfl⟩
      · rw [List.map_cons, h1]; rfl
      · rcases List.mem_cons.mp ht with e | ht
        · subst e; exact h
        · exact h2 t ht
theorem Cal.never {P : Program} {w : World} {K : Fg} {mg : Str → Option Value} {base : Heap} {x : Str} {st : Stmt} {N ps : List Str} (h : Dfn K mg x st ps) (S : FnScope N ps (defScope st)) : Cal P w K mg base 1 x ps (fun _ _ _ _ => False) :=
  h.cal S (fun _ _ _ _ h => h.elim) fun _ _ _ _ _ _ _ _ _ _ h => h.elim
end TL

namespace TL
open PySem L2
open Enc
/-! ### tuples of own lists -/
theorem perm_erase {α : Type} : ∀ (l : List α) (j : Nat) (x : α), l[j]? = some x → l.Perm (x :: l.eraseIdx j)
  | [], j, x, h => by simp at h
  | y :: l, 0, x, h => by
    simp at h
    subst h
    exact List.Perm.refl _
  | y :: l, j + 1, x, h => by
    rw [List.eraseIdx_cons_succ]
    exact ((perm_erase l j x (by simpa using h)).cons y).trans (List.Perm.swap x y _)
def towOs (ps : List Addr) (ess : List (List PyData)) : Os := List.zipWith (fun p es => ⟨p, true, es⟩) ps ess
inductive Tow (O : Os) : List Addr → List (List PyData) → Prop
  | nil : Tow O [] []
  | cons (j : Nat) {p : Addr} {nw : Bool} {es : List PyData} {ps : List Addr} {ess : List (List PyData)} (h : O[j]? = some ⟨p, nw, es⟩) : Tow O ps ess → Tow O (p :: ps) (es :: ess)
section
variable {K : Fg} {F0 H0 F H F' H' : Hp} {D0 : List Addr} {O O' O1 O2 : Os} {ρ : List Sl} {σ : L2.St} {ps : List Addr} {ess : List (List PyData)}
theorem EnvR.tow {i : Nat} (h : EnvR K F σ ρ) (e : ρ[i]? = some (.tow ps)) : ∃ t, σ[i]? = some (some (.ref t)) ∧ SqT K F t (ps.map .ref) := by
  obtain ⟨s, h1, t, rfl, h2⟩ := h.at e
  exact ⟨t, h1, h2⟩
theorem Tow.rp (S : Hx K F0 H0 D0 F O H) (t : Tow O ps ess) : RpAll K H (ps.map .ref) (ess.map .list) := by
  induction t with
  | nil => exact .nil
  | cons j h _ ih =>
    obtain ⟨_, _, _, vs, h4, h5, h6⟩ := S.get h
    exact .cons (.lst (SqL.of h4) h5 (h6.up S.fh)) ih
theorem Tow.lens (t : Tow O ps ess) : ps.length = ess.length := by
  induction t with
  | nil => rfl
  | cons j h _ ih => rw [List.length_cons, List.length_cons, ih]
theorem Hx.perm (S : Hx K F0 H0 D0 F O H) (h : O.Perm O') : Hx K F0 H0 D0 F O' H :=
  ⟨S.f0, S.fh, S.keep, S.live, S.new, fun p hp => S.own p (h.mem_iff.mpr hp), (h.map OE.a).nodup_iff.mp S.nd⟩
/-- a part of the own lists apart -/
theorem Hx.fr {X : Os} (S : Hx K F0 H0 D0 F (O ++ X) H) : ∃ H1 D1, Hx K F H1 D1 F O H ∧ ∀ F' O' H', Hx K F H1 D1 F' O' H' → Hx K F0 H0 D0 F' (O' ++ X) H' := by
  let nwA (a : Addr) : Bool := O.any fun e => e.nw && decide (e.a = a)
  let H1 : Hp := fun a => if nwA a = true then none else H a
  let D1 : List Addr := (O.filter fun e => !e.nw).map OE.a
  have h1s : ∀ a o, H1 a = some o → H a = some o := fun a o e => by
    show H a = some o
    have e : (if nwA a = true then none else H a) = some o := e
    split at e
    · cases e
    · exact e
  have h1of : ∀ a o, H a = some o → (∀ e ∈ O, e.a = a → e.nw = false) → H1 a = some o := fun a o e n => by
    show (if nwA a = true then none else H a) = some o
    rw [if_neg]
    · exact e
    · intro q
      obtain ⟨x, hx, q⟩ := List.any_eq_true.mp q
      rw [Bool.and_eq_true, decide_eq_true_eq] at q
      rw [n x hx q.2] at q
      exact Bool.false_ne_true q.1
  have inO : ∀ e ∈ O, e ∈ O ++ X := fun e h => List.mem_append_left _ h
  have inX : ∀ e ∈ X, e ∈ O ++ X := fun e h => List.mem_append_right _ h
  have dj : ∀ e ∈ O, ∀ x ∈ X, e.a ≠ x.a := fun e he x hx q => by
    have := S.nd
    rw [List.map_append, List.nodup_append] at this
    exact this.2.2 e.a (List.mem_map.mpr ⟨e, he, rfl⟩) x.a (List.mem_map.mpr ⟨x, hx, rfl⟩) q
  have d1 : ∀ a, a ∈ D1 → ∃ e ∈ O, e.a = a ∧ e.nw = false := fun a h => by
    obtain ⟨e, he, rfl⟩ := List.mem_map.mp h
    rw [List.mem_filter] at he
    exact ⟨e, he.1, rfl, by simpa using he.2⟩
  -- what stood at the entry is in H1
  have old : ∀ a o, H0 a = some o → ∀ e ∈ O, e.a = a → e.nw = false := fun a o e x hx q => by
    cases hw : x.nw with
    | false => rfl
    | true =>
      have := (S.own x (inO x hx)).2.1 hw
      rw [q, e] at this
      cases this
  refine ⟨H1, D1, ⟨Same.refl _, S.fh, fun a o e _ => h1s a o e, fun a o e => ⟨o, h1s a o e⟩, fun _ _ _ e => e, fun p hp => ?_, ?_⟩, fun F' O' H' S2 => ?_⟩
  · obtain ⟨g1, g2, g3, g4⟩ := S.own p (inO p hp)
    refine ⟨g1, fun hw => ?_, fun hw => List.mem_map.mpr ⟨p, List.mem_filter.mpr ⟨hp, by rw [hw]; rfl⟩, rfl⟩, g4⟩
    show (if nwA p.a = true then none else H p.a) = none
    rw [if_pos]
    exact List.any_eq_true.mpr ⟨p, hp, by rw [hw]; simp⟩
  · have := S.nd
    rw [List.map_append, List.nodup_append] at this
    exact this.1
  · refine ⟨S.f0.trans S2.f0, S2.fh, fun a o e n => ?_, fun a o e => ?_, fun a o e n => ?_, fun p hp => ?_, ?_⟩
    · refine S2.keep a o (h1of a o (S.keep a o e n) (old a o e)) fun hd => ?_
      obtain ⟨x, hx, q, hw⟩ := d1 a hd
      exact n (q ▸ (S.own x (inO x hx)).2.2.1 hw)
    · obtain ⟨o', e'⟩ := S.live a o e
      exact S2.live a o' (h1of a o' e' (old a o e))
    · obtain ⟨o', e'⟩ := S.live a o e
      exact S2.new a o' (h1of a o' e' (old a o e)) (S.new a o e n)
    · rcases List.mem_append.mp hp with hp | hp
      · obtain ⟨g1, g2, g3, g4⟩ := S2.own p hp
        refine ⟨g1, fun hw => ?_, fun hw => ?_, g4⟩
        · have g2 := g2 hw
          cases e : H0 p.a with
          | none => rfl
          | some o =>
            obtain ⟨o', e'⟩ := S.live p.a o e
            rw [h1of p.a o' e' (old p.a o e)] at g2
            cases g2
        · obtain ⟨x, hx, q, hw'⟩ := d1 _ (g3 hw)
          exact q ▸ (S.own x (inO x hx)).2.2.1 hw'
      · obtain ⟨g1, g2, g3, vs, g4, g5, g6⟩ := S.own p (inX p hp)
        have n : ∀ e ∈ O, e.a = p.a → e.nw = false := fun e he q => (dj e he p hp q).elim
        have k1 := h1of p.a _ g4 n
        refine ⟨S2.new _ _ k1 g1, g2, g3, vs, S2.keep _ _ k1 fun hd => ?_, g5, g6.up S2.f0⟩
        obtain ⟨x, hx, q, _⟩ := d1 _ hd
        exact dj x hx p hp q
    · rw [List.map_append, List.nodup_append]
      have := S.nd
      rw [List.map_append, List.nodup_append] at this
      refine ⟨S2.nd, this.2.1, fun a ha b hb q => ?_⟩
      subst q
      obtain ⟨e, he, rfl⟩ := List.mem_map.mp ha
      obtain ⟨x, hx, q⟩ := List.mem_map.mp hb
      obtain ⟨g1, g2, g3, vs, g4, g5, g6⟩ := S.own x (inX x hx)
      have n : ∀ e ∈ O, e.a = x.a → e.nw = false := fun e he q => (dj e he x hx q).elim
      have k1 := h1of x.a _ g4 n
      obtain ⟨k2, k3, k4, _⟩ := S2.own e he
      cases hw : e.nw with
      | true =>
        have := k3 hw
        rw [← q, k1] at this
        cases this
      | false =>
        obtain ⟨y, hy, q2, _⟩ := d1 _ (k4 hw)
        exact dj y hy x hx (q2.trans q.symm)
/-- arguments that are own lists, each by itself -/
structure RAo (K : Fg) (t : TA) (ρ : List Sl) (O : Os) (ess : List (List PyData)) (O' : Os) : Prop where
  run : ∀ (F0 H0 : Hp) (D0 : List Addr) (σ : L2.St) (F H : Hp) (Q : List V → Hp → Prop), EnvR K F σ ρ → Hx K F0 H0 D0 F O H →
    (∀ ps F' H', Same F F' → ps.length = ess.length → Hx K F0 H0 D0 F' (towOs ps ess ++ O') H' → Q (ps.map .ref) H') → t σ H Q
theorem rao_nil : RAo K tNil ρ O [] O := ⟨fun _ _ _ _ _ _ Q E S k => k [] _ _ (Same.refl _) rfl S⟩
theorem rao_cons {te : TE} {t : TA} {es : List PyData} (h : RXo K te ρ O es O1) (ht : RAo K t ρ O1 ess O2) : RAo K (tCons te t) ρ O (es :: ess) O2 := ⟨fun _ _ _ _ _ _ Q E S k =>
  h.go E S fun p F1 H1 f1 E1 S1 => by
    obtain ⟨H1', D1, Sf, back⟩ := Hx.fr (X := [⟨p, true, es⟩]) (S1.perm (List.perm_append_singleton (⟨p, true, es⟩ : OE) O1).symm)
    refine ht.run _ _ _ _ _ _ _ E1 Sf fun ps F2 H2 f2 hl S2 => k (p :: ps) F2 H2 (f1.trans f2) (by rw [List.length_cons, List.length_cons, hl]) ?_
    exact (back _ _ _ S2).perm (List.perm_append_singleton _ _)⟩
theorem rxo_own {i j : Nat} {p : Addr} {ds : List PyData} (hs : ρ[i]? = some (.adr p)) (ho : O[j]? = some ⟨p, true, ds⟩) : RXo K (tVar i) ρ O ds (O.eraseIdx j) := ⟨fun _ _ _ _ _ _ Q E S k => by
  exact ⟨_, E.adr hs, k p _ _ (Same.refl _) (S.perm (perm_erase _ _ _ ho))⟩⟩
theorem st_retT {t : TA} {D : Ends} (h : RAo K t ρ O ess O') (E : EnvR K F σ ρ) (S : Hx K F0 H0 D0 F O H)
    (k : ∀ (T : Addr) (ps : List Addr) (F' H' : Hp), Same F F' → ps.length = ess.length → SqT K F' T (ps.map .ref) → Hx K F0 H0 D0 F' (towOs ps ess ++ O') H' → D.rt (.ref T) H') (hz : ess.length ≤ 1000 := by exact Nat.le_of_ble_eq_true rfl) : tRet (tTup t) D σ H :=
  h.run _ _ _ _ _ _ _ E S fun ps F1 H1 f1 hl S1 => by
    refine ⟨by rw [List.length_map, hl]; exact Nat.le_trans hz (by decide), fun T hT => ?_⟩
    exact k T ps _ _ (f1.trans (same_upd (S1.nof hT))) hl (SqT.of upd_same) (S1.put hT)
/-- what a def promises that hands back a tuple of new lists -/
def SpT (K : Fg) (R : List PyData → List (List PyData) → Prop) : Sp := fun vs H Q _ => ∃ F ds ess, RpAll K F vs ds ∧ Same F H ∧ R ds ess ∧
  ∀ (T : Addr) (ps : List Addr) (F' H' : Hp), Stp [] F H F' H' → SqT K F' T (ps.map .ref) → ps.length = ess.length → ps.Nodup → (∀ (i : Nat) p es, ps[i]? = some p → ess[i]? = some es → H p = none ∧ F' p = none ∧ ∃ xs, H' p = some (.lst xs) ∧ xs.length ≤ sizeLine ∧ RpAll K F' xs es) → Q (.ref T) H'
theorem st_len {R : List PyData → List (List PyData) → Prop} {n : Nat} (h : ∀ ds d, R ds d → ds.length = n) : ∀ vs H Q E, SpT K R vs H Q E → vs.length = n := fun vs H Q E ⟨F, ds, d, r, _, hR, _⟩ => r.length.trans (h ds d hR)
theorem tow_map (hl : ps.length = ess.length) : (towOs ps ess).map OE.a = ps := by
  unfold towOs
  induction ps generalizing ess with
  | nil => rfl
  | cons p ps ih =>
    cases ess with
    | nil => cases hl
    | cons e ess => rw [List.zipWith_cons_cons, List.map_cons, ih (by simpa using hl)]
theorem tow_get {i : Nat} {p : Addr} {es : List PyData} (h : ps[i]? = some p) (h' : ess[i]? = some es) : (towOs ps ess)[i]? = some ⟨p, true, es⟩ := by
  unfold towOs
  rw [List.getElem?_zipWith, h, h']
theorem tow_of {e : OE} (h : e ∈ towOs ps ess) : ∃ i : Nat, ps[i]? = some e.a ∧ ess[i]? = some e.ds ∧ e.nw = true := by
  obtain ⟨i, q⟩ := List.mem_iff_getElem?.mp h
  unfold towOs at q
  rw [List.getElem?_zipWith] at q
  split at q
  · rename_i a b h1 h2
    cases q
    exact ⟨i, h1, h2, rfl⟩
  · cases q
/-- the end of such a def -/
theorem Hx.outT (S : Hx K F0 H0 D0 F (towOs ps ess ++ O) H) (hl : ps.length = ess.length) : ps.Nodup ∧ ∀ (i : Nat) p es, ps[i]? = some p → ess[i]? = some es → H0 p = none ∧ F p = none ∧ ∃ xs, H p = some (.lst xs) ∧ xs.length ≤ sizeLine ∧ RpAll K F xs es := by
  refine ⟨?_, fun i p es h h' => ?_⟩
  · have := S.nd
    rw [List.map_append, List.nodup_append, tow_map hl] at this
    exact this.1
  · obtain ⟨g1, g2, g3, g4⟩ := S.own _ (List.mem_append_left _ (List.mem_of_getElem? (tow_get h h')))
    exact ⟨g2 rfl, g1, g4⟩
/-- new own lists behind a call -/
theorem Hx.inT (S : Hx K F0 H0 D0 F O H) (st : Stp [] F H F' H') (hl : ps.length = ess.length) (nd : ps.Nodup) (h : ∀ (i : Nat) p es, ps[i]? = some p → ess[i]? = some es → H p = none ∧ F' p = none ∧ ∃ xs, H' p = some (.lst xs) ∧ xs.length ≤ sizeLine ∧ RpAll K F' xs es) :
    Hx K F0 H0 D0 F' (towOs ps ess ++ O) H' := by
  have S2 := S.call st
  refine ⟨S2.f0, S2.fh, S2.keep, S2.live, S2.new, fun e he => ?_, ?_⟩
  · rcases List.mem_append.mp he with he | he
    · obtain ⟨i, q1, q2, q3⟩ := tow_of he
      obtain ⟨g1, g2, g3⟩ := h i _ _ q1 q2
      exact ⟨g2, fun _ => S.noh0 g1, (fun z => by rw [q3] at z; cases z), g3⟩
    · exact S2.own e he
  · rw [List.map_append, List.nodup_append, tow_map hl]
    refine ⟨nd, S2.nd, fun a ha b hb q => ?_⟩
    subst q
    obtain ⟨e, he, rfl⟩ := List.mem_map.mp hb
    obtain ⟨_, _, _, vs, g4, _⟩ := S.own e he
    obtain ⟨i, q⟩ := List.mem_iff_getElem?.mp ha
    have hi : i < ess.length := by rw [← hl]; exact (List.getElem?_eq_some_iff.mp q).1
    obtain ⟨g1, _⟩ := h i _ _ q (List.getElem?_eq_getElem hi)
    rw [g1] at g4
    cases g4
variable {t : TA} {D : Ends} {R : List PyData → List (List PyData) → Prop} {ds : List PyData} {E0 : XK}
theorem st_setT {i : Nat} (hR : R ds ess) (ha : RA K t ρ O (ds.map .val) O1) (E : EnvR K F σ ρ) (S : Hx K F0 H0 D0 F O H)
    (k : ∀ (ps : List Addr) (σ' : L2.St) (F' H' : Hp), ps.length = ess.length → Same F F' → EnvR K F' σ' (ρ.set i (.tow ps)) → Hx K F0 H0 D0 F' (towOs ps ess ++ O1) H' → D.nx σ' H') : tAsg (tCall (SpT K R) [] E0 t) (gName i) D σ H :=
  ha.go E S fun vs F1 H1 f1 E1 S1 r1 => by
    show SpT K R (vs ++ []) H1 _ E0
    rw [List.append_nil]
    exact ⟨F1, ds, ess, r1.all, S1.fh, hR, fun T ps F' H' st q hl nd h => k ps _ F' H' hl (f1.trans st.ff) (EnvR.set (s := some (.ref T)) (r := .tow ps) ⟨T, rfl, q⟩ i (E1.up st.ff)) (S1.inT st hl nd h)⟩
theorem st_retCT (hR : R ds ess) (ha : RA K t ρ O (ds.map .val) O1) (E : EnvR K F σ ρ) (S : Hx K F0 H0 D0 F O H)
    (k : ∀ (T : Addr) (ps : List Addr) (F' H' : Hp), Same F F' → ps.length = ess.length → SqT K F' T (ps.map .ref) → Hx K F0 H0 D0 F' (towOs ps ess ++ O1) H' → D.rt (.ref T) H') : tRet (tCall (SpT K R) [] E0 t) D σ H :=
  ha.go E S fun vs F1 H1 f1 E1 S1 r1 => by
    show SpT K R (vs ++ []) H1 _ E0
    rw [List.append_nil]
    exact ⟨F1, ds, ess, r1.all, S1.fh, hR, fun T ps F' H' st q hl nd h => k T ps F' H' (f1.trans st.ff) hl q (S1.inT st hl nd h)⟩
theorem Hx.frzT (S : Hx K F0 H0 D0 F (towOs ps ess ++ O) H) (hl : ps.length = ess.length) : ∃ F', Same F F' ∧ Hx K F0 H0 D0 F' O H ∧ RpAll K F' (ps.map .ref) (ess.map .list) := by
  induction ps generalizing ess F with
  | nil =>
    cases ess with
    | nil => exact ⟨F, Same.refl _, S, .nil⟩
    | cons e ess => cases hl
  | cons p ps ih =>
    cases ess with
    | nil => cases hl
    | cons e ess =>
      obtain ⟨F1, f1, S1, r1⟩ := S.frz (j := 0) (l := p) (ds := e) rfl
      obtain ⟨F2, f2, S2, r2⟩ := ih (ess := ess) S1 (by simpa using hl)
      exact ⟨F2, f1.trans f2, S2, .cons (r1.up f2) r2⟩
theorem SpT.toP {R' : List PyData → PyData → Prop} (hi : ∀ ds d, R' ds d → ∃ ess, R ds ess ∧ d = .tuple (ess.map .list) ∧ ess.length ≤ 1000) : ∀ vs H Q E, SpP K R' vs H Q E → SpT K R vs H Q E := fun vs H Q E ⟨F, ds, d, r, fh, hR, k⟩ => by
  obtain ⟨ess, hR2, rfl, hz⟩ := hi ds d hR
  refine ⟨F, ds, ess, r, fh, hR2, fun T ps F' H' st q hl nd h => ?_⟩
  have S := (Hx.start (K := K) fh).inT st hl nd h
  obtain ⟨F2, f2, S2, r2⟩ := S.frzT hl
  exact k _ F2 H' S2.stp (.tup (same_t f2 q) (by rw [List.length_map, hl]; exact Nat.le_trans hz (by decide)) r2)
/-! ### how such a tuple is read -/
theorem rxh_tow {i : Nat} (hs : ρ[i]? = some (.tow ps)) (ht : Tow O ps ess) (hz : ess.length ≤ 1000 := by exact Nat.le_of_ble_eq_true rfl) : RXh K (tVar i) ρ O (.tuple (ess.map .list)) O := ⟨fun _ _ _ _ _ _ Q E S k => by
  obtain ⟨T, h1, h2⟩ := E.tow hs
  refine ⟨_, h1, k _ _ _ (Same.refl _) S fun F2 H2 f2 S2 => .tup (same_t (f2.trans S2.fh) h2) ?_ (ht.rp S2)⟩
  rw [List.length_map, ht.lens]
  exact Nat.le_trans hz (by decide)⟩
theorem rxs_tow {i j n : Nat} {p : Addr} {nw : Bool} {es : List PyData} (hs : ρ[i]? = some (.tow ps)) (hp : L2.atI (ps.map V.ref) (n : Int) = some (.ref p)) (ho : O[j]? = some ⟨p, nw, es⟩) : RXs K (tOp (rIxT K) (tVar i) (tC (.int n))) ρ O es O := ⟨fun _ _ _ _ _ _ Q E S k => by
  obtain ⟨T, h1, h2⟩ := E.tow hs
  refine ⟨_, h1, T, _, (n : Int), _, rfl, rfl, same_t S.fh h2, hp, k p _ _ (Same.refl _) S fun F2 H2 f2 S2 => ?_⟩
  obtain ⟨_, _, _, vs, h4, h5, h6⟩ := S2.get ho
  exact ⟨vs, SqL.of h4, h5, h6⟩⟩
variable {ta tb : TE}
theorem rx_isiH {c : String} {r : Bool} {d : PyData} (ha : RXh K ta ρ O d O1) (h : kitB (tyN d) c = some r) : RX K (tCB (rIsi K) (tCons ta (tCons (tC (.ty c)) tNil))) ρ O (.bool r) O1 := ⟨fun _ _ _ _ _ _ Q E S k => ha.go E S fun x F1 H1 f1 E1 S1 r1 =>
  ⟨x, .ty c, _, _, r, rfl, .ty c, (r1 F1 H1 (Same.refl _) S1).ty, kit_ty h, k _ F1 H1 f1 S1 (.bl r)⟩⟩
/-- a call that reads its two arguments, by the whole heap -/
theorem rx_callH {R : List PyData → PyData → Prop} {d e : PyData} {b : Bool} (hR : R [d, e] (.bool b)) (ha : RXh K ta ρ O d O1) (hb : RXh K tb ρ O1 e O1) : RX K (tCall (SpP K R) [] E0 (tCons ta (tCons tb tNil))) ρ O (.bool b) O1 := ⟨fun _ _ _ _ _ _ Q E S k =>
  ha.go E S fun x F1 H1 f1 E1 S1 r1 => hb.go E1 S1 fun y F2 H2 f2 E2 S2 r2 => by
    refine ⟨H2, [d, e], .bool b, .cons (r1 F2 H2 f2 S2) (.cons (r2 F2 H2 (Same.refl _) S2) .nil), Same.refl _, hR, fun v F' H' st r => ?_⟩
    have keep : Same H2 H' := fun a o q => st.keep a o q (by simp)
    cases r
    exact k _ F2 H' (f1.trans f2) (S2.call ⟨Same.refl _, S2.fh.trans keep, st.keep, st.live, fun _ _ _ q => q⟩) (.bl b)⟩
/-- an own list behind the others is moved to the front -/
theorem tow_move (A : Os) (p : Addr) (es : List PyData) (B : Os) : (A ++ ⟨p, true, es⟩ :: B).Perm (⟨p, true, es⟩ :: (A ++ B)) := List.perm_middle
/-- for part in t: .., which changes the part -/
theorem st_forT {i j : Nat} {tb : TS} {g : List PyData → List PyData} (ρ1 : List Sl) (hs : ρ[i]? = some (.tow ps)) (hl : ps.length = ess.length) (E : EnvR K F σ ρ) (S : Hx K F0 H0 D0 F (towOs ps ess ++ O) H) (hW : Wk ρ ρ1)
    (kn : ∀ σ' F' H', Same F F' → EnvR K F' σ' ρ1 → Hx K F0 H0 D0 F' (towOs ps (ess.map g) ++ O) H' → D.nx σ' H')
    (body : ∀ es ∈ ess, ∀ σ1 F1 H1 p Or, Same F F1 → EnvR K F1 σ1 (ρ1.set j (.adr p)) → Hx K F0 H0 D0 F1 (⟨p, true, es⟩ :: Or) H1 →
      ∀ (N B : L2.St → Hp → Prop), (∀ σ' F' H', Same F1 F' → EnvR K F' σ' ρ1 → Hx K F0 H0 D0 F' (⟨p, true, g es⟩ :: Or) H' → N σ' H') → tb { D with nx := N, ct := N, bk := B } σ1 H1) :
    tFor (iTup K (tVar i)) (gName j) tb D σ H := by
  obtain ⟨T, h1, h2⟩ := E.tow hs
  refine ⟨_, h1, T, rfl, ⟨_, same_t S.fh h2⟩, ?_⟩
  have hlen : (ps.map V.ref).length = ps.length := List.length_map _
  refine for_it (walk_tup (K := K) (a := T) (xs := ps.map V.ref)) (fun n σ H => ∃ F2, Same F F2 ∧ EnvR K F2 σ ρ1 ∧ Hx K F0 H0 D0 F2 (towOs (ps.take n) ((ess.map g).take n) ++ (towOs (ps.drop n) (ess.drop n) ++ O)) H)
    ⟨F, Same.refl _, E.weak hW, S⟩ (fun n σ H _ q => by obtain ⟨F2, q1, _, q4⟩ := q; exact same_t (q1.trans q4.fh) h2) (fun n x σ H H' hn q y => ?_) (fun σ H q => ?_)
  · obtain ⟨F2, q1, q3, q4⟩ := q
    obtain ⟨e, y⟩ := y
    subst e
    rw [hlen] at hn
    have hn2 : n < ess.length := by omega
    have hx : x = V.ref ps[n] := by
      rw [List.getElem?_map, List.getElem?_eq_getElem hn] at y
      exact (Option.some.inj y).symm
    subst hx
    rw [drop_cons hn2, drop_cons hn] at q4
    have q4 := q4.perm (tow_move _ _ _ _)
    refine body _ (List.getElem_mem hn2) _ F2 H' ps[n] _ q1 (q3.seta j) q4 _ _ (fun σ' F' H2 ff E' S' => ⟨F', q1.trans ff, E', ?_⟩)
    have S' := S'.perm (tow_move _ _ _ _).symm
    have t1 : towOs (ps.take (n + 1)) ((ess.map g).take (n + 1)) = towOs (ps.take n) ((ess.map g).take n) ++ [⟨ps[n], true, g ess[n]⟩] := by
      unfold towOs
      have hn3 : n < (ess.map g).length := by rw [List.length_map]; exact hn2
      rw [List.take_succ_eq_append_getElem hn, List.take_succ_eq_append_getElem hn3, List.zipWith_append (by rw [List.length_take, List.length_take, List.length_map, hl]), List.getElem_map]
      rfl
    rw [t1, List.append_assoc]
    exact S'
  · obtain ⟨F2, q1, q3, q4⟩ := q
    rw [hlen, List.take_length, hl, List.drop_length] at q4
    have e : (ess.map g).take ess.length = ess.map g := List.take_of_length_le (by rw [List.length_map]; exact Nat.le_refl _)
    have e2 : ps.drop ess.length = [] := by rw [← hl, List.drop_length]
    rw [e, e2] at q4
    exact kn σ F2 H q1 q3 q4
/-- .. is frozen -/
theorem frz_tow {i : Nat} (hs : ρ[i]? = some (.tow ps)) (hl : ps.length = ess.length) (E : EnvR K F σ ρ) (S : Hx K F0 H0 D0 F (towOs ps ess ++ O) H) (hz : ess.length ≤ 1000 := by exact Nat.le_of_ble_eq_true rfl) :
    ∃ F', Same F F' ∧ EnvR K F' σ (ρ.set i (.val (.tuple (ess.map .list)))) ∧ Hx K F0 H0 D0 F' O H := by
  obtain ⟨T, h1, h2⟩ := E.tow hs
  obtain ⟨F', f, S', r⟩ := S.frzT hl
  have E2 := EnvR.setv (E.up f) (v := .ref T) (.tup (same_t f h2) (by rw [List.length_map, hl]; exact Nat.le_trans hz (by decide)) r) i
  have e : σ.set i (some (.ref T)) = σ := by
    apply List.ext_getElem?
    intro n
    by_cases e : i = n
    · subst e
      rw [List.getElem?_set_self (List.getElem?_eq_some_iff.mp h1).1, h1]
    · rw [List.getElem?_set_ne e]
  rw [e] at E2
  exact ⟨F', f, E2, S'⟩
theorem len3 {α β : Type} {ps : List α} {a b c : β} (h : ps.length = [a, b, c].length) : ∃ p q r, ps = [p, q, r] := by
  match ps, h with
  | [p, q, r], _ => exact ⟨p, q, r, rfl⟩
/-- the slots as the whole heap shows them -/
inductive Vw (O : Os) : List Sl → List Sl → Prop
  | nil : Vw O [] []
  | same {r : Sl} {ρ ρ' : List Sl} (h : (∃ d, r = .val d) ∨ r = .un) : Vw O ρ ρ' → Vw O (r :: ρ) (r :: ρ')
  | adr (j : Nat) {a : Addr} {nw : Bool} {ds : List PyData} {ρ ρ' : List Sl} (h : O[j]? = some ⟨a, nw, ds⟩) : Vw O ρ ρ' → Vw O (.adr a :: ρ) (.val (.list ds) :: ρ')
  | tow {ps : List Addr} {ess : List (List PyData)} {ρ ρ' : List Sl} (h : Tow O ps ess) (hz : ess.length ≤ 1000) : Vw O ρ ρ' → Vw O (.tow ps :: ρ) (.val (.tuple (ess.map .list)) :: ρ')
theorem EnvR.whole {ρ' : List Sl} (w : Vw O ρ ρ') (S : Hx K F0 H0 D0 F O H) : ∀ {σ : L2.St}, EnvR K F σ ρ → EnvR K H σ ρ' := by
  induction w with
  | nil => intro σ E; cases E; exact .nil
  | same h _ ih =>
    intro σ E
    cases E with
    | cons r t => exact .cons (r.up S.fh) (ih t)
  | adr j h _ ih =>
    intro σ E
    cases E with
    | cons r t =>
      obtain ⟨_, _, _, vs, h4, h5, h6⟩ := S.get h
      exact .cons ⟨_, r, .lst (SqL.of h4) h5 (h6.up S.fh)⟩ (ih t)
  | tow h hz _ ih =>
    intro σ E
    cases E with
    | cons r t =>
      obtain ⟨T, h1, h2⟩ := r
      exact .cons ⟨_, h1, .tup (same_t S.fh h2) (by rw [List.length_map, h.lens]; exact Nat.le_trans hz (by decide)) (h.rp S)⟩ (ih t)
/-- a truth that is reckoned from what stands -/
theorem rx_whole {ρ' : List Sl} {b : Bool} (w : Vw O ρ ρ') (h : RX K ta ρ' [] (.bool b) []) : RX K ta ρ O (.bool b) O := ⟨fun _ _ _ _ F H Q E S k => by
  refine h.run _ _ _ _ _ _ Q (E.whole w S) (Hx.start (Same.refl H)) fun v F' H' f S' r => ?_
  have st := S'.stp
  have keep : Same H H' := fun a o q => st.keep a o q (by simp)
  cases r
  exact k _ F H' (Same.refl _) (S.call ⟨Same.refl _, S.fh.trans keep, st.keep, st.live, fun _ _ _ q => q⟩) (.bl b)⟩
end
end TL
namespace TL
open PySem L2
/-- a module's own number, text -/
theorem pe_gint {X : Cx} {x : Str} {i : Int} {pos : Pos} (h : ∃ t, X.mg x = some (.int i t)) (hg : Gl X x := by rfl) (hd : (x == ("__debug__" : Str)) = false := by decide) : PE X (.Name x pos) (tC (.int i)) := by
  obtain ⟨t, e⟩ := h
  exact pe_glob hg e ⟨t, rfl⟩ hd
theorem pe_gstr {X : Cx} {x z : Str} {pos : Pos} (h : ∃ t, X.mg x = some (.str z t)) (hg : Gl X x := by rfl) (hd : (x == ("__debug__" : Str)) = false := by decide) : PE X (.Name x pos) (tC (.str z)) := by
  obtain ⟨t, e⟩ := h
  exact pe_glob hg e ⟨t, rfl⟩ hd
end TL

namespace TL
open PySem PySem.Spec PyProof.Rows L2
open Enc
/-! ### zip of a list and a tuple -/
/-- the list at a, the tuple at b, as they stand at each turn -/
def ItMix (K : Fg) (a b : Addr) : It :=
  ⟨fun i H => ∃ (xs ys : List V) (x y : V), (SqL K H a xs ∧ SqT K H b ys) ∧ xs[i]? = some x ∧ ys[i]? = some y,
    fun i H v H' => ∃ T x y, (v = .ref T ∧ H T = none ∧ H' = upd H T (.tup [x, y])) ∧ (∀ xs, SqL K H a xs → xs[i]? = some x) ∧ ∀ ys, SqT K H b ys → ys[i]? = some y,
    fun i H => ∃ xs ys : List V, (SqL K H a xs ∧ SqT K H b ys) ∧ i ≤ xs.length ∧ i ≤ ys.length ∧ (xs.length = i ∨ ys.length = i)⟩
theorem sep_mix {z TI TO i1 i2 a b : Addr} (D : ZipApart z TI TO i1 i2 a b) : ZipSep2 z TI TO i1 i2 [i1, a] [i2, b] :=
  { TIz := D.TIz, TOz := D.TOz, TITO := D.TITO, TIi1 := D.TIi1, TIi2 := D.TIi2, mem1 := by simp, mem2 := by simp
    zf1 := fun q => by rcases (by simpa using q : z = i1 ∨ z = a) with e | e; exact D.i1z e.symm; exact D.l1z e.symm
    Tf1 := fun q => by rcases (by simpa using q : TO = i1 ∨ TO = a) with e | e; exact D.TOi1 e; exact D.l1TO e.symm
    zf2 := fun q => by rcases (by simpa using q : z = i2 ∨ z = b) with e | e; exact D.i2z e.symm; exact D.l2z e.symm
    Tf2 := fun q => by rcases (by simpa using q : TO = i2 ∨ TO = b) with e | e; exact D.TOi2 e; exact D.l2TO e.symm
    sep1_2 := fun q => by rcases (by simpa using q : i1 = i2 ∨ i1 = b) with e | e; exact D.i12 e; exact D.l2i1 e.symm
    sep2_1 := fun q => by rcases (by simpa using q : i2 = i1 ∨ i2 = a) with e | e; exact D.i12 e.symm; exact D.l1i2 e.symm }
def mixSt (z TI TO i1 i2 a b : Addr) (i : Nat) (h : Heap) : Prop := (IsZip h z TI TO .none ∧ IsPair h TI (.ref i1) (.ref i2)) ∧ (∃ x y, IsPair h TO x y) ∧ h.IsListIter i1 a i ∧ h.IsTupleIter i2 b i
theorem five {z TI TO i1 i2 c : Addr} (h : c ∈ [z, TI, TO, i1, i2]) : c = z ∨ c = TI ∨ c = TO ∨ c = i1 ∨ c = i2 := by simpa using h
theorem out5 {z TI TO i1 i2 c : Addr} (h : c ∉ [z, TI, TO, i1, i2]) : c ≠ z ∧ c ≠ TO ∧ c ≠ i1 ∧ c ≠ i2 :=
  ⟨fun e => h (by simp [e]), fun e => h (by simp [e]), fun e => h (by simp [e]), fun e => h (by simp [e])⟩
theorem turn_mix {P : Program} {w : World} {K : Fg} {elts : List Expr} {kk : Nat} {tpos : Pos} {a b z TI TO i1 i2 : Addr} (D : ZipApart z TI TO i1 i2 a b) :
    Turn P w K (.Tuple elts kk tpos) (ItMix K a b) [z, TI, TO, i1, i2] z (mixSt z TI TO i1 i2 a b) := by
  have sep := sep_mix D
  refine ⟨by simp, fun i h st c hc => ?_, fun i h h' st k => ?_, ?_, ?_, fun A i s Q E st q => wpAny_pyIter_zip st.1.1 q⟩
  · obtain ⟨⟨q1, q2⟩, ⟨x, y, q3⟩, ⟨o1, e1, _, d1⟩, o2, e2, _, d2⟩ := st
    rcases five hc with rfl | rfl | rfl | rfl | rfl
    · exact ⟨_, q1, fun v => nofun⟩
    · exact ⟨_, q2, fun v => nofun⟩
    · exact ⟨_, q3, fun v => nofun⟩
    · exact ⟨_, e1, fun v e => nomatch d1.symm.trans e⟩
    · exact ⟨_, e2, fun v e => nomatch d2.symm.trans e⟩
  · obtain ⟨⟨q1, q2⟩, ⟨x, y, q3⟩, q4, q5⟩ := st
    exact ⟨⟨k z (by simp) _ q1, k TI (by simp) _ q2⟩, ⟨x, y, k TO (by simp) _ q3⟩, q4.at fun o => k i1 (by simp) o, q5.at fun o => k i2 (by simp) o⟩
  · rintro X rfl rfl rfl hc i pins s σ H E I hf st ⟨xs, ys, x, y, ⟨hqx, hqy⟩, hx, hy⟩
    obtain ⟨⟨q1, q2⟩, ⟨x0, y0, q3⟩, q4, q5⟩ := st
    obtain ⟨its, rv, p, _⟩ := I.list hqx
    obtain ⟨its2, rv2, p2, _⟩ := I.tuple hqy
    obtain ⟨u, hu, ru⟩ := rv.get hx
    obtain ⟨u2, hu2, ru2⟩ := rv2.get hy
    have zlt : z < s.heap.objs.size := Heap.lt_size q1
    have hh : X.A.in1.handled = none := I.ok.hd hc
    refine wpAny_pyNext_zipD2_item sep (Draws.list hh i1 a D.l1i1 its.toArray) (Draws.tuple hh i2 b D.l2i2 its2.toArray) q1 q2 q3 ⟨q4, p.isList⟩ ⟨q5, p2⟩ (by simpa using (List.getElem?_eq_some_iff.mp hu).1) (by simpa using (List.getElem?_eq_some_iff.mp hu2).1) fun x1 x2 h' tk e1 e2 z' TO' n1 n2 hT hsz hk => ?_
    have ex1 : x1 = u := Option.some.inj (e1.symm.trans (by simpa using hu))
    have ex2 : x2 = u2 := Option.some.inj (e2.symm.trans (by simpa using hu2))
    subst ex1
    subst ex2
    refine ⟨_, rfl, wpAny_letOwnedTupleGo_zip (s := { s with heap := h', toks := tk }) z' fun h2 z2 sb => ?_⟩
    have hT2 : h2.get? s.heap.objs.size = some { cls := .type "tuple", data := .seq #[x1, x2] } := (sb.2 _ (Nat.ne_of_gt zlt)).trans hT
    have new : ObjOk X.prog X.w (upd H s.heap.objs.size (.tup [x, y])) h2 s.heap.objs.size (.tup [x, y]) := ⟨by show 2 ≤ sizeLine; decide, [x1, x2], .cons ru (.cons ru2 .nil), ⟨_, hT2, rfl, _, rfl⟩⟩
    have I1 : Inv X pins σ (upd H s.heap.objs.size (.tup [x, y])) { s with heap := h2, toks := tk } := I.turnedNew (t' := tk) (ch := [z, TI, TO, i1, i2]) (fun c o hb q => by
      obtain ⟨c1, c2, c3, c4⟩ := out5 hb
      exact (sb.2 c c1).trans (hk c o c1 c2 c3 c4 q)) hf (Nat.le_refl _) new
    refine ⟨.ref s.heap.objs.size, _, I1, rfl, ⟨_, x, y, ⟨rfl, I.hok.fresh (Nat.le_refl _), rfl⟩, fun l hl => by rw [I.list_inj hl hqx]; exact hx, fun l hl => by rw [I.tuple_inj hl hqy]; exact hy⟩, ⟨⟨z2, ?_⟩, ⟨x1, x2, ?_⟩, ?_, ?_⟩, fun c hcm => ?_⟩
    · exact (sb.2 TI D.TIz).trans (hk TI _ D.TIz D.TITO D.TIi1 D.TIi2 q2)
    · exact (sb.2 TO D.TOz).trans TO'
    · exact n1.1.at fun o q => (sb.2 i1 D.i1z).trans q
    · exact n2.1.at fun o q => (sb.2 i2 D.i2z).trans q
    · have hlt : c < s.heap.objs.size := by
        rcases five hcm with rfl | rfl | rfl | rfl | rfl
        · exact zlt
        · exact Heap.lt_size q2
        · exact Heap.lt_size q3
        · obtain ⟨_, e, _⟩ := q4; exact Heap.lt_size e
        · obtain ⟨_, e, _⟩ := q5; exact Heap.lt_size e
      rw [upd_ne (Nat.ne_of_lt hlt)]
      exact (hf c hcm).1
  · rintro X rfl rfl rfl hc i pins s σ H E I hf st ⟨xs, ys, ⟨hqx, hqy⟩, l1, l2, hend⟩
    obtain ⟨⟨q1, q2⟩, ⟨x0, y0, q3⟩, q4, q5⟩ := st
    obtain ⟨its, rv, p, _⟩ := I.list hqx
    obtain ⟨its2, rv2, p2, _⟩ := I.tuple hqy
    have e1 := rv.length
    have e2 := rv2.length
    have hh : X.A.in1.handled = none := I.ok.hd hc
    refine wpAny_pyNext_zipD2_end sep (Draws.list hh i1 a D.l1i1 its.toArray) (Draws.tuple hh i2 b D.l2i2 its2.toArray) q1 q2 q3 ⟨q4, p.isList⟩ ⟨q5, p2⟩ (by simp; omega) (by simp; omega) (by simp; omega) fun h' tk hk => ?_
    refine ⟨rfl, I.turnedL (t' := tk) (ch := [z, TI, TO, i1, i2]) (fun c o hb q => ?_) hf⟩
    obtain ⟨c1, c2, c3, c4⟩ := out5 hb
    exact hk c o c1 c2 c3 c4 q
def iMix (K : Fg) (ta : TA) : TI := fun σ H R => ta σ H fun vs H1 => ∃ a b xs ys, vs = [.ref a, .ref b] ∧ (SqL K H1 a xs ∧ SqT K H1 b ys) ∧ R (ItMix K a b) H1
theorem k_pi_mix {X : Cx} (K : Fg) {e e2 : Expr} {ta : TA} {p pos tpos : Pos} {elts : List Expr} {kk : Nat} (hg : Gl X "zip") (hm : X.mg "zip" = none) (ha : PA X [e, e2] ta)
    (hs : starEach [e, e2] X.env = (false, eval e X.env) :: starEach [e2] X.env := by rfl) (hpl : (backTo pos (starEach [e2] X.env)).any (·.1) = false := by rfl) (hK : X.K = K := by rfl) :
    PI X (.Tuple elts kk tpos) (.Call (.Name "zip" p) [e, e2] [] pos) (iMix K ta) := by
  subst hK
  refine ⟨fun pins s σ H R I h => ?_⟩
  refine Call_ (ld_blt I hg hm PyProof.Rows.boot_zip (PyProof.Rows.callWith_type1 (thn (ha.run pos pins s σ H _ I h) fun us s1 ⟨vs, H1, I1, r1, q1⟩ => ?_) hs hpl))
  obtain ⟨a, b, xs, ys, ex, ⟨hqx, hqy⟩, q⟩ := q1
  subst ex
  cases r1 with
  | cons r rr =>
   cases rr with
   | cons r' rr =>
    cases rr
    cases r
    cases r'
    obtain ⟨its, rv, p1, _⟩ := I1.list hqx
    obtain ⟨its2, rv2, p2, _⟩ := I1.tuple hqy
    have lt1 := p1.lt
    obtain ⟨o2, ho2, p3⟩ := id p2
    have lt2 := Heap.lt_size ho2
    refine zip_begins2 (begins_list a its.toArray) (begins_tuple b its2.toArray) p1.isList p2 fun h' hz hTI hTO g1 g2 hsz hk => wpAny_pyIter_zip hz ?_
    have I2 : Inv X pins σ H1 { s1 with heap := h' } := I1.kept (t' := s1.toks) hk
    refine ⟨s1.heap.objs.size + 4, [s1.heap.objs.size + 4, s1.heap.objs.size + 2, s1.heap.objs.size + 3, s1.heap.objs.size, s1.heap.objs.size + 1], _, _, H1, rfl, I2, turn_mix (PySem.W.ktu_apart s1.heap.objs.size a b lt1 lt2), ⟨⟨hz, hTI⟩, ⟨_, _, hTO⟩, ⟨_, g1, rfl, rfl⟩, ⟨_, g2, rfl, rfl⟩⟩, fun c hcm => ?_, q⟩
    have hle : s1.heap.objs.size ≤ c := by
      rcases five hcm with rfl | rfl | rfl | rfl | rfl
      · exact Nat.le_add_right _ _
      · exact Nat.le_add_right _ _
      · exact Nat.le_add_right _ _
      · exact Nat.le_refl _
      · exact Nat.le_add_right _ _
    exact I1.fpOk hle (I1.hok.fresh hle)
section
variable {K : Fg} {ta tb : TE} {ρ : List Sl} {O O1 O2 : Os}
theorem ri_mix {ys zs : List PyData} (h : RX K ta ρ O (.list ys) O1) (h' : RX K tb ρ O1 (.tuple zs) O2) : RI K (iMix K (tCons ta (tCons tb tNil))) ρ O (zipD ys zs) O2 := ⟨fun F0 H0 D0 σ F H R E S k => by
    refine h.go E S fun x F1 H1 f1 E1 S1 r1 => h'.go E1 S1 fun y F2 H2 f2 E2 S2 r2 => ?_
    have r1' := r1.up f2
    cases r1' with
    | @lst a xs _ q1 q2 q3 =>
     cases r2 with
     | @tup b ws _ p1 p2 p3 =>
      have s1 : ∀ {G0 J0 : Hp} {D1 : List Addr} {F : Hp} {O : Os} {H : Hp}, Same F2 F → Hx K G0 J0 D1 F O H → SqL K H a xs ∧ SqT K H b ws := fun f S => ⟨(f.trans S.fh).seq q1, same_t (f.trans S.fh) p1⟩
      refine ⟨a, b, xs, ws, rfl, s1 (Same.refl _) S2, ?_⟩
      have hl : (zipD ys zs).length = min xs.length ws.length := by unfold zipD; rw [List.length_map, List.length_zip, q3.length, p3.length]
      refine k _ F2 H2 (f1.trans f2) S2 ⟨by omega, fun _ _ _ F O H i hi f S => ?_, fun _ _ _ F O H f S => ⟨xs, ws, s1 f S, by omega, by omega, by omega⟩, fun _ _ _ F O H i x H' hi f S y => ?_⟩
      · have h1 : i < xs.length := by omega
        have h2 : i < ws.length := by omega
        exact ⟨xs, ws, xs[i], ws[i], s1 f S, by simp [h1], by simp [h2]⟩
      · obtain ⟨T, u, v, ⟨eu, hT, eT⟩, y1, y2⟩ := y
        subst eu
        subst eT
        obtain ⟨d, e, r⟩ := (q3.up f).getV (y1 xs (s1 f S).1)
        obtain ⟨d', e', r'⟩ := (p3.up f).getV (y2 ws (s1 f S).2)
        obtain ⟨F3, f3, S3, r3⟩ := pair_put S hT r r'
        refine ⟨F3, _, f3, S3, ?_, r3⟩
        unfold zipD
        have ez : (ys.zip zs)[i]? = some (d, d') := List.getElem?_zip_eq_some.mpr ⟨e, e'⟩
        rw [List.getElem?_map, ez]
        rfl⟩
theorem ri_mixM {α β : Type} [Enc α] [Enc β] {xs : List α} {ys : List β} (h : RX K ta ρ O (.list (xs.map enc)) O1) (h' : RX K tb ρ O1 (.tuple (ys.map enc)) O2) : RI K (iMix K (tCons ta (tCons tb tNil))) ρ O ((xs.zip ys).map enc) O2 := by
  have e : (xs.zip ys).map enc = zipD (xs.map enc) (ys.map enc) := by
    unfold zipD
    rw [List.zip_map, List.map_map]
    rfl
  rw [e]
  exact ri_mix h h'
end
end TL

namespace TL
open PySem L2
open Enc
/-! ### texts -/
def catSO (x y : Str) : Option Str := if x.length + y.length ≤ 16777216 then some (x ++ y) else none
def cutSO (z : Str) (lo hi : Option Int) : Option Str := if z.length ≤ 16777216 then some (cutS z lo hi) else none
def lenO (z : Str) : Option Int := if z.length ≤ 16777216 then some (z.length : Int) else none
def intO (z : Str) : Option Int := if z.length ≤ 640 then intText? z else none
/-- // by what lies below 2 ^ 200 -/
def fdivWO (i j : Int) : Option Int := if 0 < j ∧ j < 1606938044258990275541962092341162602522202993782792835301376 then some (i / j) else none
section
variable {K : Fg} {ta tb tc : TE} {ρ : List Sl} {O O1 O2 O3 : Os} {x y z : Str} {i j r : Int}
theorem rx_catS {s : Str} (h : catSO x y = some s) (ha : RX K ta ρ O (.str x) O1) (hb : RX K tb ρ O1 (.str y) O2) :
    RX K (tOp (fun x y H Q => ∃ i j, x = .str i ∧ y = .str j ∧ i.length + j.length ≤ sizeLine ∧ Q (.str (i ++ j)) H) ta tb) ρ O (.str s) O2 := rx_op ha hb fun F H u v Q _ ru rv k => by
  cases ru
  cases rv
  unfold catSO at h
  split at h
  · rename_i hc
    cases h
    exact ⟨x, y, rfl, rfl, by rw [sizeLine_eq]; exact hc, k _ (.str _)⟩
  · cases h
theorem rx_cutS {s : Str} {tl th : TO} {lo hi : Option Int} (h : cutSO z lo hi = some s) (ha : RX K ta ρ O (.str z) O1) (hl : RO K tl ρ O1 lo O2) (hh : RO K th ρ O2 hi O3) : RX K (tSl rSlS ta tl th) ρ O (.str s) O3 := ⟨fun _ _ _ _ _ _ Q E S k =>
  ha.go E S fun u F1 H1 f1 E1 S1 r1 => hl.go E1 S1 fun F2 H2 f2 E2 S2 => hh.go E2 S2 fun F3 H3 f3 E3 S3 => by
    cases r1
    unfold cutSO at h
    split at h
    · rename_i hc
      cases h
      exact ⟨z, rfl, by rw [sizeLine_eq]; exact hc, k _ F3 H3 ((f1.trans f2).trans f3) S3 (.str _)⟩
    · cases h⟩
theorem rx_find (ha : RX K ta ρ O (.str x) O1) (hb : RX K tb ρ O1 (.str y) O2) : RX K (tM1 (fun x xs H Q => ∃ a b, x = .str a ∧ xs = [.str b] ∧ Q (.int (Txt.find a b)) H) ta tb) ρ O (.int (Txt.find x y)) O2 := ⟨fun _ _ _ _ _ _ Q E S k =>
  ha.go E S fun u F1 H1 f1 E1 S1 r1 => by
    cases r1
    exact ⟨⟨x, rfl⟩, hb.go E1 S1 fun v F2 H2 f2 E2 S2 r2 => by
      cases r2
      exact ⟨x, y, rfl, rfl, k _ F2 H2 (f1.trans f2) S2 (.int _)⟩⟩⟩
theorem rx_lenO (h : lenO z = some r) (ha : RX K ta ρ O (.str z) O1) : RX K (tCB (fun xs H Q => ∃ z, xs = [.str z] ∧ z.length ≤ sizeLine ∧ Q (.int (z.length : Int)) H) (tCons ta tNil)) ρ O (.int r) O1 := by
  unfold lenO at h
  split at h
  · rename_i hc
    cases h
    exact rx_lenS ha (by rw [sizeLine_eq]; exact hc)
  · cases h
theorem rx_intO (h : intO z = some r) (ha : RX K ta ρ O (.str z) O1) : RX K (tCB (fun xs H Q => ∃ a n, xs = [.str a] ∧ PySem.intText? a = some n ∧ a.length ≤ 640 ∧ Q (.int n) H) (tCons ta tNil)) ρ O (.int r) O1 := rx_cb1 ha fun F H x Q f rx k => by
  cases rx
  unfold intO at h
  split at h
  · rename_i hc
    exact ⟨z, r, rfl, h, hc, k _ (.int _)⟩
  · cases h
theorem rx_fdivWO (h : fdivWO i j = some r) (ha : RX K ta ρ O (.int i) O1) (hb : RX K tb ρ O1 (.int j) O2) : RX K (tOp (rI CDivW fun i j => .int (i / j)) ta tb) ρ O (.int r) O2 := by
  unfold fdivWO at h
  split at h
  · rename_i hc
    cases h
    refine rx_iiC (C := CDivW) (fun _ => .int _) (wide_div (b := 200) hc.1 ?_ (by decide) (by decide)) ha hb
    have e : (2 : Nat) ^ 200 = 1606938044258990275541962092341162602522202993782792835301376 := by decide
    rw [e]
    omega
  · cases h
/-- sorted of whole numbers -/
def sortI (ns : List Int) : List Int := ns.mergeSort fun a b => decide (a ≤ b)
theorem sortI_of {ns ns' : List Int} (p : ns'.Perm ns) (s : ns'.Pairwise (· ≤ ·)) : ns' = sortI ns := by
  have p2 : ns'.Perm (sortI ns) := p.trans (List.mergeSort_perm _ _).symm
  refine p2.eq_of_pairwise (le := (· ≤ ·)) (fun a b _ _ h1 h2 => Int.le_antisymm h1 h2) s ?_
  exact (List.pairwise_mergeSort (le := fun a b : Int => decide (a ≤ b)) (fun a b c h1 h2 => by simp at *; omega) (fun a b => by simp; omega) ns).imp fun h => by simpa using h
theorem rxo_sorted {ns : List Int} (ha : RXs K ta ρ O (ns.map .int) O1) : RXo K (tCB (rSortedI K) (tCons ta tNil)) ρ O ((sortI ns).map .int) O1 := ⟨fun _ _ _ _ _ _ Q E S k =>
  ha.go E S fun a F1 H1 f1 E1 S1 r1 => by
    obtain ⟨vs, q1, q2, q3⟩ := r1 F1 H1 (Same.refl _) S1
    have hv := q3.ints
    refine ⟨a, ns, rfl, by rw [← hv]; exact q1, fun ns' p hp hs hn => ?_⟩
    have e := sortI_of hp hs
    subst e
    refine k p F1 _ f1 (S1.mine hn ?_ (RpAll.of_ints _))
    rw [List.length_map, hp.length_eq]
    have := q3.length
    rw [List.length_map] at this
    omega⟩
theorem k_sortedI {X : Cx} (K : Fg) (hK : X.K = K := by rfl) : CallR X (.builtin "sorted") (rSortedI K) := by subst hK; exact cr_sortedI
end
end TL

namespace TL
open PySem L2
open Enc
section
variable {K : Fg} {ta tb tc : TE} {ρ : List Sl} {O O1 O2 O3 : Os} {F0 H0 F H : Hp} {D0 : List Addr} {σ : L2.St}
/-! ### items of what may be a list or a tuple -/
theorem rx_ixA {ds : List PyData} {i : Int} {d : PyData} (h : L2.atI ds i = some d) (ha : RX K ta ρ O (.list ds) O1) (hb : RX K tb ρ O1 (.int i) O2) : RX K (tOp (rIx K) ta tb) ρ O d O2 := ⟨fun _ _ _ _ _ _ Q E S k =>
  ha.go E S fun x F1 H1 f1 E1 S1 r1 => hb.go E1 S1 fun y F2 H2 f2 E2 S2 r2 => by
    cases r2
    have r1' := r1.up f2
    cases r1' with
    | lst q1 q2 q3 =>
      obtain ⟨v, e, r⟩ := q3.atI h
      exact .inl ⟨_, _, i, v, rfl, rfl, S2.fh.seq q1, e, k v F2 H2 (f1.trans f2) S2 r⟩⟩
theorem rx_ixAT {ds : List PyData} {i : Int} {d : PyData} (h : L2.atI ds i = some d) (ha : RX K ta ρ O (.tuple ds) O1) (hb : RX K tb ρ O1 (.int i) O2) : RX K (tOp (rIx K) ta tb) ρ O d O2 := ⟨fun _ _ _ _ _ _ Q E S k =>
  ha.go E S fun x F1 H1 f1 E1 S1 r1 => hb.go E1 S1 fun y F2 H2 f2 E2 S2 r2 => by
    cases r2
    have r1' := r1.up f2
    cases r1' with
    | tup q1 q2 q3 =>
      obtain ⟨v, e, r⟩ := q3.atI h
      exact .inr (.inl ⟨_, _, i, v, rfl, rfl, same_t S2.fh q1, e, k v F2 H2 (f1.trans f2) S2 r⟩)⟩
theorem k_ix_seq {X : Cx} (K : Fg) (hK : X.K = K := by rfl) : IxR X (rIx K) := by subst hK; exact ix_seq
theorem rx_noN {d : PyData} (hn : d ≠ .none) (ha : RX K ta ρ O d O1) : RX K (tIsN ta) ρ O (.bool false) O1 := ⟨fun _ _ _ _ _ _ Q E S k => ha.go E S fun x F1 H1 f1 E1 S1 r1 => by
  have e : decide (x = V.non) = false := decide_eq_false fun q => by
    subst q
    cases r1
    exact hn rfl
  show Q (.bl (decide (x = V.non))) H1
  rw [e]
  exact k _ F1 H1 f1 S1 (.bl false)⟩
/-- a loop that ends where something is not so -/
theorem forF_all {α : Type} (g : α → Bool) : ∀ xs : List α, forF (S := Unit) (R := Bool) (fun x _ => some (if g x = true then .nx () else .rt false)) xs () = some (if xs.all g = true then .nx () else .rt false)
  | [] => rfl
  | x :: xs => by
    unfold forF
    simp only [Option.bind_some]
    by_cases h : g x = true
    · rw [if_pos h]
      simp only
      rw [forF_all g xs, List.all_cons, h, Bool.true_and]
    · rw [if_neg h]
      simp only
      rw [if_neg]
      rw [List.all_cons]
      intro q
      rw [Bool.and_eq_true] at q
      exact h q.1
def simG (zs : List (PyData × PyData × Bool)) (k : Int) : Bool := match zs[k.toNat]? with
  | some t => t.2.2
  | none => true
theorem simG_all (zs : List (PyData × PyData × Bool)) : (rngL 0 zs.length).all (simG zs) = (zs.map (·.2.2)).all id := by
  rw [Bool.eq_iff_iff, List.all_eq_true, List.all_eq_true]
  constructor
  · intro h b hb
    obtain ⟨t, ht, rfl⟩ := List.mem_map.mp hb
    obtain ⟨i, hi⟩ := List.mem_iff_getElem?.mp ht
    have hl := (List.getElem?_eq_some_iff.mp hi).1
    have := h (i : Int) (by unfold rngL; exact List.mem_map.mpr ⟨i, List.mem_range.mpr hl, by simp⟩)
    unfold simG at this
    rw [Int.toNat_natCast, hi] at this
    exact this
  · intro h k _
    unfold simG
    cases e : zs[k.toNat]? with
    | none => rfl
    | some t => exact h t.2.2 (List.mem_map.mpr ⟨t, List.mem_of_getElem? e, rfl⟩)
theorem zip_len {xs ys : List PyData} {zs : List (PyData × PyData × Bool)} (z1 : zipD xs ys = zs.map fun t => PyData.tuple [t.1, t.2.1]) (hl : xs.length = ys.length) : zs.length = ys.length := by
  have := congrArg List.length z1
  unfold zipD at this
  rw [List.length_map, List.length_map, List.length_zip, hl, Nat.min_self] at this
  exact this.symm
theorem zip_at {xs ys : List PyData} {zs : List (PyData × PyData × Bool)} (z1 : zipD xs ys = zs.map fun t => PyData.tuple [t.1, t.2.1]) (hl : xs.length = ys.length) {k : Int} (hk : k ∈ rngL 0 ys.length) :
    ∃ t, t ∈ zs ∧ simG zs k = t.2.2 ∧ L2.atI xs k = some t.1 ∧ L2.atI ys k = some t.2.1 := by
  unfold rngL at hk
  obtain ⟨i, hi, rfl⟩ := List.mem_map.mp hk
  rw [List.mem_range] at hi
  have hz : i < zs.length := by rw [zip_len z1 hl]; exact hi
  have hx : i < xs.length := by omega
  have e : (zs.map fun t => PyData.tuple [t.1, t.2.1])[i]? = some (.tuple [zs[i].1, zs[i].2.1]) := by rw [List.getElem?_map, List.getElem?_eq_getElem hz]; rfl
  rw [← z1] at e
  unfold zipD at e
  have ez : (xs.zip ys)[i]? = some (xs[i], ys[i]) := List.getElem?_zip_eq_some.mpr ⟨List.getElem?_eq_getElem hx, List.getElem?_eq_getElem hi⟩
  rw [List.getElem?_map, ez] at e
  have e := Option.some.inj e
  injection e with e
  injection e with e1 e2
  injection e2 with e2 _
  refine ⟨zs[i], List.getElem_mem hz, ?_, ?_, ?_⟩
  · unfold simG
    rw [show (0 + (i : Int)).toNat = i by omega, List.getElem?_eq_getElem hz]
  · unfold L2.atI ixN
    rw [if_pos (by omega), if_pos (by omega)]
    simp only [Option.bind_some]
    rw [show (0 + (i : Int)).toNat = i by omega, List.getElem?_eq_getElem hx]
    exact congrArg some e1
  · unfold L2.atI ixN
    rw [if_pos (by omega), if_pos (by omega)]
    simp only [Option.bind_some]
    rw [show (0 + (i : Int)).toNat = i by omega, List.getElem?_eq_getElem hi]
    exact congrArg some e2
/-! ### a written dict of texts by texts -/
def dlitS (kvs : List (Str × Str)) (k : Str) : Option Str := (kvs.find? fun kv => decide (kv.1 = k)).map (·.2)
theorem valV_litS {k : Str} : ∀ (kvs : List (Str × Str)), valV (litS kvs) (Sum.inr k : Key) = (dlitS kvs k).map V.str
  | [] => rfl
  | (a, v) :: r => by
    have ih := valV_litS (k := k) r
    unfold valV dlitS litS at ih ⊢
    rw [List.map_cons, List.find?_cons, List.find?_cons]
    by_cases e : a = k
    · subst e
      simp
    · have e1 : decide ((Sum.inr a : Key) = Sum.inr k) = false := decide_eq_false fun q => e (Sum.inr.inj q)
      have e2 : decide (a = k) = false := decide_eq_false e
      rw [e1, e2]
      exact ih
theorem pairs_litS : ∀ (kvs : List (Str × Str)) {σ : L2.St} {H : Hp} {Q : List (V × V) → Hp → Prop}, Q (kvs.map fun p => (V.str p.1, V.str p.2)) H → tPairs (kvs.map fun p => (tC (.str p.1), tC (.str p.2))) σ H Q
  | [], _, _, _, h => h
  | (k, v) :: r, σ, H, Q, h => by
    show tC (.str k) σ H fun x H1 => tC (.str v) σ H1 fun y H2 => tPairs (r.map fun p => (tC (.str p.1), tC (.str p.2))) σ H2 fun ps H3 => Q ((x, y) :: ps) H3
    exact pairs_litS r (Q := fun ps H3 => Q ((V.str k, V.str v) :: ps) H3) h
variable {D : Ends}
theorem st_setD {i : Nat} {kvs : List (Str × Str)} (hl : kvs.length ≤ 15) (hm : mergeK [] (litS kvs) = litS kvs) (E : EnvR K F σ ρ) (S : Hx K F0 H0 D0 F O H)
    (k : ∀ σ' F' H', Same F F' → EnvR K F' σ' (ρ.set i (.dic kvs)) → Hx K F0 H0 D0 F' O H' → D.nx σ' H') : tAsg (tDisp (kvs.map fun p => (tC (.str p.1), tC (.str p.2)))) (gName i) D σ H := by
  intro p hp
  refine pairs_litS kvs ⟨upd_same, litS kvs, ?_, ?_, ?_⟩
  · unfold litS; rw [List.map_map]; rfl
  · unfold litS; rw [List.length_map]; exact hl
  · rw [upd_upd, hm]
    have f0 := same_upd (o := .dK (litS kvs)) (S.nof hp)
    exact k _ _ _ f0 (EnvR.set (s := some (.ref p)) (r := .dic kvs) ⟨p, rfl, upd_same⟩ i (E.up f0)) (S.put (o := .dK (litS kvs)) hp)
theorem rx_dget {i : Nat} {kvs : List (Str × Str)} {k v : Str} (h : dlitS kvs k = some v) (hs : ρ[i]? = some (.dic kvs)) (hk : RX K tb ρ O (.str k) O1) : RX K (tDGet (tVar i) tb) ρ O (.str v) O1 := ⟨fun _ _ _ _ _ _ Q E S kk => by
  obtain ⟨s, h1, t, rfl, h2⟩ := E.at hs
  refine ⟨_, h1, hk.go E S fun y F1 H1 f1 E1 S1 r1 => ?_⟩
  cases r1
  have hd : H1 t = some (.dK (litS kvs)) := S1.fh _ _ (f1 _ _ h2)
  refine ⟨t, .str v, rfl, ?_, kk _ F1 H1 f1 S1 (.str v)⟩
  have q := DGet.k (k := Sum.inr k) hd
  rw [valV_litS, h] at q
  exact q⟩
/-! ### tuple(range(n)), list(range(n)) -/
theorem rg_rng {n : Int} (h : 0 ≤ n) : rgV 0 n = (rngL 0 n.toNat).map V.int := by
  unfold rgV rngL
  rw [List.map_map, Int.sub_zero]
  rfl
theorem rngO_ok {n : Int} {r : List Int} (h : rngO n = some r) : RgOk 0 n ∧ rgV 0 n = r.map V.int ∧ r.length ≤ 16777216 := by
  obtain ⟨⟨h1, h2⟩, rfl⟩ := rngO_some h
  refine ⟨⟨by omega, by omega, by omega, by omega, by omega⟩, ?_, by rw [rngL_length]; omega⟩
  unfold rgV rngL
  rw [List.map_map, Int.sub_zero]
  rfl
theorem rx_tupRg {n : Int} {r : List Int} (h : rngO n = some r) (ha : RX K ta ρ O (.int n) O1) : RX K (tTupRg (tRg1 ta)) ρ O (.tuple (r.map .int)) O1 := ⟨fun _ _ _ _ _ _ Q E S k => ha.go E S fun x F1 H1 f1 E1 S1 r1 => by
  cases r1
  obtain ⟨h1, h2, h3⟩ := rngO_ok h
  refine ⟨n, rfl, h1, fun q hq => ?_⟩
  rw [h2]
  have f2 := same_upd (o := .tup (r.map V.int)) (S1.nof hq)
  exact k _ _ _ (f1.trans f2) (S1.put hq) (.tup (SqT.of upd_same) (by rw [List.length_map, sizeLine_eq]; exact h3) (RpAll.of_ints r))⟩
theorem rxo_listRg {n : Int} {r : List Int} (h : rngO n = some r) (ha : RX K ta ρ O (.int n) O1) : RXo K (tLstRg (tRg1 ta)) ρ O (r.map .int) O1 := ⟨fun _ _ _ _ _ _ Q E S k => ha.go E S fun x F1 H1 f1 E1 S1 r1 => by
  cases r1
  obtain ⟨h1, h2, h3⟩ := rngO_ok h
  refine ⟨n, rfl, h1, fun q hq => ?_⟩
  rw [h2]
  exact k q F1 _ f1 (S1.mine hq (by rw [List.length_map, sizeLine_eq]; exact h3) (RpAll.of_ints r))⟩
end
end TL

namespace TL
open PySem L2
open Enc
section
variable {K : Fg} {F0 H0 F H : Hp} {D0 : List Addr} {O : Os} {ρ : List Sl} {σ : L2.St} {D : Ends}
/-- a loop in which an own list is made anew each turn -/
theorem st_forSA {α S : Type} {eα : α → PyData} {wi : TI} {g : TG} {tb : TS} {xs : List α} {f : α → S → Option S} {s0 s1 : S} (ρf : S → Addr → List Sl) (Of : S → Addr → Os) (a0 : Addr) (E : EnvR K F σ ρ) (S0 : Hx K F0 H0 D0 F O H) (hI : RI K wi ρ O (xs.map eα) (Of s0 a0)) (hf : forS f xs s0 = some s1) (hW : Wk ρ (ρf s0 a0))
    (kn : ∀ a σ' F' H', Same F F' → EnvR K F' σ' (ρf s1 a) → Hx K F0 H0 D0 F' (Of s1 a) H' → D.nx σ' H')
    (body : ∀ x ∈ xs, ∀ s s' a, f x s = some s' → ∀ σ1 F1 H1 v, Same F F1 → EnvR K F1 σ1 (ρf s a) → Hx K F0 H0 D0 F1 (Of s a) H1 → Rp K F1 v (eα x) →
      ∀ (N B : L2.St → Hp → Prop), (∀ a' σ' F' H', Same F1 F' → EnvR K F' σ' (ρf s' a') → Hx K F0 H0 D0 F' (Of s' a') H' → N σ' H') → g v σ1 H1 fun σ2 H2 => tb { D with nx := N, ct := N, bk := B } σ2 H2) :
    tFor wi g tb D σ H := hI.go E S0 fun J F1 H1 f1 E1 S1 w => by
  refine for_it (walk_of w) (fun i σ H => ∃ s a F2, Same F1 F2 ∧ EnvR K F2 σ (ρf s a) ∧ Hx K F0 H0 D0 F2 (Of s a) H ∧ forS f (xs.drop i) s = some s1) ⟨s0, a0, F1, Same.refl _, E1.weak hW, S1, hf⟩
    (fun i σ H _ q => by obtain ⟨s, a, F2, q1, q2, q3, _⟩ := q; exact ⟨F2, _, q1, q3⟩) (fun i x σ H H' hi q y => ?_) (fun σ H q => ?_)
  · obtain ⟨s, a, F2, q1, q2, q3, q4⟩ := q
    obtain ⟨F3, z, f3, S3, ez, rz⟩ := y F2 _ q1 q3
    have hm : z ∈ xs := List.mem_of_getElem? ez
    have hi' : xs[i] = z := (List.getElem?_eq_some_iff.mp ez).2
    rw [List.drop_eq_getElem_cons hi, hi'] at q4
    unfold forS at q4
    obtain ⟨s', e1, e2⟩ := bindE q4
    exact body z hm s s' a e1 σ F3 H' x (f1.trans (q1.trans f3)) (q2.up f3) S3 rz _ _ fun a' σ' F' H2 ff E' S' => ⟨s', a', F', (q1.trans f3).trans ff, E', S', e2⟩
  · obtain ⟨s, a, F2, q1, q2, q3, q4⟩ := q
    rw [List.drop_length] at q4
    obtain rfl := Option.some.inj q4
    exact kn a σ F2 H (f1.trans q1) q2 q3
/-- xs.clear(), xs an own list -/
theorem st_clear {i j : Nat} {a : Addr} {nw : Bool} {ds : List PyData} (hs : ρ[i]? = some (.adr a)) (hj : O[j]? = some ⟨a, nw, ds⟩) (E : EnvR K F σ ρ) (S : Hx K F0 H0 D0 F O H)
    (k : ∀ F' H', Same F F' → EnvR K F' σ ρ → Hx K F0 H0 D0 F' (O.set j ⟨a, nw, []⟩) H' → D.nx σ H') : tDrop (tBM0 K "list" rClear (tVar i)) D σ H := by
  obtain ⟨g1, g2, g3, vs, g4, g5, g6⟩ := S.get hj
  have g4 : H a = some (.lst vs) := g4
  exact ⟨_, E.adr hs, .inl ⟨rfl, _, .inl (.inl g4)⟩, a, vs, rfl, rfl, g4, k F _ (Same.refl _) E (S.mut hj (Nat.zero_le _) .nil)⟩
/-! ### a second own list, read only -/
theorem Hx.start2 {p q : Addr} {vs ws : List V} {ds es : List PyData} (h : Same F H) (n : F p = none) (hp : H p = some (.lst vs)) (hz : vs.length ≤ sizeLine) (r : RpAll K F vs ds) (n' : F q = none) (hq : H q = some (.lst ws)) (hz' : ws.length ≤ sizeLine) (r' : RpAll K F ws es) (ne : p ≠ q) :
    Hx K F H [p, q] F [⟨p, false, ds⟩, ⟨q, false, es⟩] H := by
  refine ⟨Same.refl _, h, fun _ _ e _ => e, fun _ o e => ⟨o, e⟩, fun _ _ _ e => e, fun u hu => ?_, by simp [ne]⟩
  rcases List.mem_cons.mp hu with rfl | hu
  · exact ⟨n, fun z => (Bool.false_ne_true z).elim, fun _ => by simp, vs, hp, hz, r⟩
  · have e : u = ⟨q, false, es⟩ := by simpa using hu
    subst e
    exact ⟨n', fun z => (Bool.false_ne_true z).elim, fun _ => by simp, ws, hq, hz', r'⟩
theorem Hx.call2 {F' H' : Hp} (S : Hx K F0 H0 D0 F O H) {j k : Nat} {l m : Addr} {nw nw' : Bool} {ds ds' es : List PyData} {vs ws : List V} (h : O[j]? = some ⟨l, nw, ds⟩) (h' : O[k]? = some ⟨m, nw', es⟩) (q : Stp [l, m] F H F' H')
    (hl : H' l = some (.lst vs)) (hz : vs.length ≤ sizeLine) (r : RpAll K F' vs ds') (hm : H' m = some (.lst ws)) (hz' : ws.length ≤ sizeLine) (r' : RpAll K F' ws es) : Hx K F0 H0 D0 F' (O.set j ⟨l, nw, ds'⟩) H' := by
  obtain ⟨h1, h2, h3, vs0, h4, h5, h6⟩ := S.get h
  obtain ⟨k1, k2, k3, ws0, k4, k5, k6⟩ := S.get h'
  have mine : ∀ a o, H0 a = some o → a ∉ D0 → a ≠ l ∧ a ≠ m := fun a o e n => by
    constructor
    · intro z
      rw [z] at e n
      cases nw with
      | true => rw [h2 rfl] at e; cases e
      | false => exact n (h3 rfl)
    · intro z
      rw [z] at e n
      cases nw' with
      | true => rw [k2 rfl] at e; cases e
      | false => exact n (k3 rfl)
  refine ⟨S.f0.trans q.ff, q.fh, fun a u e n => ?_, fun a u e => ?_, fun a u e n => ?_, fun p hp => ?_, ?_⟩
  · have := mine a u e n
    exact q.keep _ _ (S.keep a u e n) (by simp [this.1, this.2])
  · obtain ⟨u', e'⟩ := S.live a u e
    exact q.live _ _ e'
  · obtain ⟨u', e'⟩ := S.live a u e
    exact q.new _ _ e' (S.new a u e n)
  · obtain ⟨i, hi⟩ := List.mem_iff_getElem?.mp hp
    by_cases e : j = i
    · subst e
      have hj : j < O.length := (List.getElem?_eq_some_iff.mp h).1
      rw [List.getElem?_set_self hj] at hi
      cases hi
      exact ⟨q.new _ _ h4 h1, h2, h3, vs, hl, hz, r⟩
    · rw [List.getElem?_set_ne e] at hi
      obtain ⟨g1, g2, g3, vs', g4, g5, g6⟩ := S.get hi
      have ne : p.a ≠ l := fun z => e (nodup_at S.nd (x := l) (by rw [List.getElem?_map, h]; rfl) (by rw [List.getElem?_map, hi]; simp [z]))
      by_cases em : k = i
      · subst em
        rw [h'] at hi
        have hi := Option.some.inj hi
        subst hi
        exact ⟨q.new _ _ k4 k1, g2, g3, ws, hm, hz', r'⟩
      · have ne2 : p.a ≠ m := fun z => em (nodup_at S.nd (x := m) (by rw [List.getElem?_map, h']; rfl) (by rw [List.getElem?_map, hi]; simp [z]))
        exact ⟨q.new _ _ g4 g1, g2, g3, vs', q.keep _ _ g4 (by simp [ne, ne2]), g5, g6.up q.ff⟩
  · have e : (O.set j ⟨l, nw, ds'⟩).map OE.a = O.map OE.a := by
      rw [List.map_set]
      apply List.ext_getElem?
      intro i
      by_cases e : j = i
      · subst e
        have hj : j < O.length := (List.getElem?_eq_some_iff.mp h).1
        rw [List.getElem?_set_self (by simpa using hj), List.getElem?_map, h]; rfl
      · rw [List.getElem?_set_ne e]
    rw [e]
    exact S.nd
def SpQ (K : Fg) (R : List Sl → Addr → Addr → List PyData → List PyData → PyData → List PyData → Prop) : Sp := fun vs H Q _ => ∃ F as p q xs ys c e d c', (AsR K F vs as ∧ Same F H) ∧ (F p = none ∧ H p = some (.lst xs) ∧ xs.length ≤ sizeLine ∧ RpAll K F xs c) ∧ (F q = none ∧ H q = some (.lst ys) ∧ ys.length ≤ sizeLine ∧ RpAll K F ys e) ∧ p ≠ q ∧ R as p q c e d c' ∧
  ∀ v F' H' xs' ys', Stp [p, q] F H F' H' → (F' p = none ∧ H' p = some (.lst xs') ∧ xs'.length ≤ sizeLine ∧ RpAll K F' xs' c') → (F' q = none ∧ H' q = some (.lst ys') ∧ ys'.length ≤ sizeLine ∧ RpAll K F' ys' e) → Rp K F' v d → Q v H'
theorem sq_len {R : List Sl → Addr → Addr → List PyData → List PyData → PyData → List PyData → Prop} {n : Nat} (h : ∀ as p q c e d c', R as p q c e d c' → as.length = n) : ∀ vs H Q E, SpQ K R vs H Q E → vs.length = n := fun vs H Q E ⟨F, as, p, q, xs, ys, c, e, d, c', ⟨r, _⟩, _, _, _, hR, _⟩ => r.length.trans (h _ _ _ _ _ _ _ hR)
variable {t : TA} {E0 : XK} {O1 : Os}
theorem rx_callq {R : List Sl → Addr → Addr → List PyData → List PyData → PyData → List PyData → Prop} {as : List Sl} {p q : Addr} {nw nw' : Bool} {j k : Nat} {c e c' : List PyData} {d : PyData} (ha : RA K t ρ O as O1) (hj : O1[j]? = some ⟨p, nw, c⟩) (hk : O1[k]? = some ⟨q, nw', e⟩) (hjk : j ≠ k) (hR : R as p q c e d c') :
    RX K (tCall (SpQ K R) [] E0 t) ρ O d (O1.set j ⟨p, nw, c'⟩) := ⟨fun _ _ _ _ _ _ Q E S kk => ha.go E S fun vs F1 H1 f1 E1 S1 r1 => by
  show SpQ K R (vs ++ []) H1 _ E0
  rw [List.append_nil]
  obtain ⟨g1, g2, g3, xs, g4, g5, g6⟩ := S1.get hj
  obtain ⟨k1, k2, k3, ys, k4, k5, k6⟩ := S1.get hk
  have ne : p ≠ q := fun z => hjk (nodup_at S1.nd (x := p) (by rw [List.getElem?_map, hj]; rfl) (by rw [List.getElem?_map, hk, z]; rfl))
  exact ⟨F1, as, p, q, xs, ys, c, e, d, c', ⟨r1, S1.fh⟩, ⟨g1, g4, g5, g6⟩, ⟨k1, k4, k5, k6⟩, ne, hR, fun v F' H' xs' ys' st hp hq r => kk v F' H' (f1.trans st.ff) (S1.call2 hj hk st hp.2.1 hp.2.2.1 hp.2.2.2 hq.2.1 hq.2.2.1 hq.2.2.2) r⟩⟩
end
end TL

namespace TL
open PySem L2
open Enc
/-! ### None in a list of numbers and Nones -/
def oV : Option Int → V
  | none => .non
  | some i => .int i
theorem RpAll.opts {K : Fg} {F : Hp} : ∀ {vs : List V} {ns : List (Option Int)}, RpAll K F vs (ns.map enc) → vs = ns.map oV
  | _, [], h => by cases h; rfl
  | _, none :: ns, h => by
    cases h with
    | cons r t => cases r; rw [RpAll.opts t]; rfl
  | _, some i :: ns, h => by
    cases h with
    | cons r t => cases r; rw [RpAll.opts t]; rfl
theorem inV_opts (xs : List (Option Int)) : inV .non (xs.map oV) = decide (none ∈ xs) := by
  induction xs with
  | nil => rfl
  | cons a xs ih =>
    show (eqV (oV a) .non || inV .non (xs.map oV)) = _
    rw [ih]
    cases a with
    | none => simp [oV, eqV]
    | some i => simp [oV, eqV]
theorem flat_opts (xs : List (Option Int)) : (xs.map oV).all flatV = true := by
  rw [List.all_eq_true]
  intro v hv
  obtain ⟨o, _, rfl⟩ := List.mem_map.mp hv
  cases o <;> rfl
section
variable {K : Fg} {ta tb : TE} {ρ : List Sl} {O O1 O2 : Os}
theorem rx_inN {xs : List (Option Int)} {neg : Bool} (ha : RX K ta ρ O .none O1) (hb : RXs K tb ρ O1 (xs.map enc) O2) : RX K (tOp (rIn K neg) ta tb) ρ O (.bool (if neg then !decide (none ∈ xs) else decide (none ∈ xs))) O2 := ⟨fun _ _ _ _ _ _ Q E S k =>
  ha.go E S fun v F1 H1 f1 E1 S1 r1 => hb.go E1 S1 fun a F2 H2 f2 E2 S2 r2 => by
    cases r1
    obtain ⟨vs, q1, q2, q3⟩ := r2 F2 H2 (Same.refl _) S2
    have e := q3.opts
    subst e
    refine ⟨a, _, rfl, .inl q1, rfl, flat_opts xs, ?_⟩
    rw [inV_opts]
    exact k _ F2 H2 (f1.trans f2) S2 (.bl _)⟩
end
end TL

namespace TL
open PySem L2
open Enc
/-! ### likeness, None too -/
mutual
inductive SiN : Nat → PyData → PyData → Bool → Prop
  | int {n : Nat} (i j : Int) : SiN n (.int i) (.int j) (decide (i = j))
  | bool {n : Nat} (i j : Bool) : SiN n (.bool i) (.bool j) (decide (i = j))
  | str {n : Nat} (i j : Str) : SiN n (.str i) (.str j) (decide (i = j))
  | non {n : Nat} : SiN n .none .none true
  | ni {n : Nat} (j : Int) : SiN n .none (.int j) false
  | iN {n : Nat} (i : Int) : SiN n (.int i) .none false
  | list {n : Nat} {xs ys : List PyData} {b : Bool} (h : SiNAll n xs ys b) : SiN (n + 1) (.list xs) (.list ys) (decide (xs.length = ys.length) && b)
  | tuple {n : Nat} {xs ys : List PyData} {b : Bool} (h : SiNAll n xs ys b) : SiN (n + 1) (.tuple xs) (.tuple ys) (decide (xs.length = ys.length) && b)
inductive SiNAll : Nat → List PyData → List PyData → Bool → Prop
  | nil {n : Nat} (ys : List PyData) : SiNAll n [] ys true
  | nil' {n : Nat} (xs : List PyData) : SiNAll n xs [] true
  | cons {n : Nat} {x y : PyData} {xs ys : List PyData} {b c : Bool} (h : SiN n x y b) (t : SiNAll n xs ys c) : SiNAll n (x :: xs) (y :: ys) (b && c)
end
mutual
theorem SiN.mono {n m : Nat} {x y : PyData} {b : Bool} (h : SiN n x y b) (e : n ≤ m) : SiN m x y b := by
  cases h with
  | int i j => exact .int i j
  | bool i j => exact .bool i j
  | str i j => exact .str i j
  | non => exact .non
  | ni j => exact .ni j
  | iN i => exact .iN i
  | list h =>
    cases m with
    | zero => omega
    | succ m => exact .list (SiNAll.mono h (by omega))
  | tuple h =>
    cases m with
    | zero => omega
    | succ m => exact .tuple (SiNAll.mono h (by omega))
theorem SiNAll.mono {n m : Nat} {xs ys : List PyData} {b : Bool} (h : SiNAll n xs ys b) (e : n ≤ m) : SiNAll m xs ys b := by
  cases h with
  | nil ys => exact .nil ys
  | nil' xs => exact .nil' xs
  | cons h t => exact .cons (SiN.mono h e) (SiNAll.mono t e)
end
class SiNT (α : Type) [Enc α] [DecidableEq α] where
  dp : Nat
  ok : ∀ x y : α, SiN dp (enc x) (enc y) (decide (x = y))
instance : SiNT Int := ⟨0, fun x y => .int x y⟩
instance : SiNT Bool := ⟨0, fun x y => .bool x y⟩
instance : SiNT Str := ⟨0, fun x y => .str x y⟩
instance : SiNT (Option Int) := ⟨0, fun x y => by
  cases x <;> cases y
  · exact .non
  · exact .ni _
  · exact .iN _
  · rename_i i j
    have e : decide (some i = some j) = decide (i = j) := by simp
    rw [e]
    exact .int i j⟩
theorem siNAll_map {α : Type} [Enc α] [DecidableEq α] [s : SiNT α] : ∀ xs ys : List α, ∃ b, SiNAll (SiNT.dp α) (xs.map enc) (ys.map enc) b ∧ (decide (xs.length = ys.length) && b) = decide (xs = ys)
  | [], ys => ⟨true, .nil _, by cases ys <;> simp⟩
  | x :: xs, [] => ⟨true, .nil' _, by simp⟩
  | x :: xs, y :: ys => by
    obtain ⟨b, h, e⟩ := siNAll_map xs ys
    refine ⟨_, .cons (SiNT.ok x y) h, ?_⟩
    have e1 : decide (x :: xs = y :: ys) = (decide (x = y) && decide (xs = ys)) := by simp
    rw [e1, ← e]
    have e2 : decide ((x :: xs).length = (y :: ys).length) = decide (xs.length = ys.length) := by simp
    rw [e2]
    cases decide (x = y) <;> cases decide (xs.length = ys.length) <;> cases b <;> rfl
instance {α : Type} [Enc α] [DecidableEq α] [SiNT α] : SiNT (List α) := ⟨SiNT.dp α + 1, fun xs ys => by
  obtain ⟨b, h, e⟩ := siNAll_map xs ys
  have := SiN.list h
  rw [List.length_map, List.length_map, e] at this
  exact this⟩
instance {α : Type} [Enc α] [DecidableEq α] [SiNT α] : SiNT (Tp α) := ⟨SiNT.dp α + 1, fun xs ys => by
  obtain ⟨xs⟩ := xs
  obtain ⟨ys⟩ := ys
  obtain ⟨b, h, e⟩ := siNAll_map xs ys
  have := SiN.tuple h
  rw [List.length_map, List.length_map, e] at this
  have e2 : decide (Tp.mk xs = Tp.mk ys) = decide (xs = ys) := by simp
  rw [e2]
  exact this⟩
instance {α β : Type} [Enc α] [DecidableEq α] [SiNT α] [Enc β] [DecidableEq β] [SiNT β] : SiNT (α × β) := ⟨SiNT.dp α + SiNT.dp β + 1, fun x y => by
  obtain ⟨a, b⟩ := x
  obtain ⟨c, d⟩ := y
  have := SiN.tuple (.cons ((SiNT.ok a c).mono (Nat.le_add_right _ _)) (.cons ((SiNT.ok b d).mono (Nat.le_add_left _ _)) (.nil [])))
  have e2 : decide ((a, b) = (c, d)) = (decide ([enc a, enc b].length = [enc c, enc d].length) && (decide (a = c) && (decide (b = d) && true))) := by simp [Bool.decide_and]
  rw [e2]
  exact this⟩
instance {α β γ : Type} [Enc α] [DecidableEq α] [SiNT α] [Enc β] [DecidableEq β] [SiNT β] [Enc γ] [DecidableEq γ] [SiNT γ] : SiNT (T3 α β γ) := ⟨SiNT.dp α + SiNT.dp β + SiNT.dp γ + 1, fun x y => by
  obtain ⟨a, b, c⟩ := x
  obtain ⟨a', b', c'⟩ := y
  have := SiN.tuple (.cons ((SiNT.ok a a').mono (by omega : SiNT.dp α ≤ SiNT.dp α + SiNT.dp β + SiNT.dp γ)) (.cons ((SiNT.ok b b').mono (by omega)) (.cons ((SiNT.ok c c').mono (by omega)) (.nil []))))
  have e2 : decide (T3.mk a b c = T3.mk a' b' c') = (decide ([enc a, enc b, enc c].length = [enc a', enc b', enc c'].length) && (decide (a = a') && (decide (b = b') && (decide (c = c') && true)))) := by simp [Bool.decide_and]
  rw [e2]
  exact this⟩
instance {α β γ δ : Type} [Enc α] [DecidableEq α] [SiNT α] [Enc β] [DecidableEq β] [SiNT β] [Enc γ] [DecidableEq γ] [SiNT γ] [Enc δ] [DecidableEq δ] [SiNT δ] : SiNT (T4 α β γ δ) := ⟨SiNT.dp α + SiNT.dp β + SiNT.dp γ + SiNT.dp δ + 1, fun x y => by
  obtain ⟨a, b, c, d⟩ := x
  obtain ⟨a', b', c', d'⟩ := y
  have := SiN.tuple (.cons ((SiNT.ok a a').mono (by omega : SiNT.dp α ≤ SiNT.dp α + SiNT.dp β + SiNT.dp γ + SiNT.dp δ)) (.cons ((SiNT.ok b b').mono (by omega)) (.cons ((SiNT.ok c c').mono (by omega)) (.cons ((SiNT.ok d d').mono (by omega)) (.nil [])))))
  have e2 : decide (T4.mk a b c d = T4.mk a' b' c' d') = (decide ([enc a, enc b, enc c, enc d].length = [enc a', enc b', enc c', enc d'].length) && (decide (a = a') && (decide (b = b') && (decide (c = c') && (decide (d = d') && true))))) := by simp [Bool.decide_and]
  rw [e2]
  exact this⟩
def SiNR (n : Nat) : List PyData → PyData → Prop := fun ds d => ∃ x y b, ds = [x, y] ∧ SiN n x y b ∧ d = .bool b
theorem SiNAll.all {n : Nat} {xs ys : List PyData} {b : Bool} (h : SiNAll n xs ys b) : ∃ zs : List (PyData × PyData × Bool), zs.map (fun t => PyData.tuple [t.1, t.2.1]) = zipD xs ys ∧ (∀ t ∈ zs, SiN n t.1 t.2.1 t.2.2) ∧ (zs.map (·.2.2)).all id = b := by
  induction xs generalizing ys b with
  | nil => cases h; exact ⟨[], rfl, fun t e => by simp at e, rfl⟩; exact ⟨[], rfl, fun t e => by simp at e, rfl⟩
  | cons x xs ih =>
    cases h with
    | nil' => exact ⟨[], rfl, fun t e => by simp at e, rfl⟩
    | @cons _ _ y _ ys b c h t =>
      obtain ⟨zs, h1, h2, h3⟩ := ih t
      refine ⟨(x, y, b) :: zs, ?_, fun t ht => ?_, by rw [List.map_cons, List.all_cons, h3]; rfl⟩
      · rw [List.map_cons, h1]; rfl
      · rcases List.mem_cons.mp ht with e | ht
        · subst e; exact h
        · exact h2 t ht
/-! ### what is told as one of two tuples -/
inductive Ans where
  | a1 (s : Str)
  | a3 (s : Str) (t : Tp Int) (n : Option Int)
  deriving DecidableEq
def Ans.en : Ans → PyData
  | .a1 s => .tuple [.str s]
  | .a3 s t n => .tuple [.str s, enc t, enc n]
@[reducible] instance : Enc Ans := ⟨Ans.en⟩
instance : SiNT Ans := ⟨SiNT.dp (Tp Int) + SiNT.dp (Tp Int) + 1, fun x y => by
  cases x <;> cases y
  · rename_i s s'
    have := SiN.tuple (n := SiNT.dp (Tp Int) + SiNT.dp (Tp Int)) (.cons (.str s s') (.nil []))
    have e : decide (Ans.a1 s = Ans.a1 s') = (decide ([PyData.str s].length = [PyData.str s'].length) && (decide (s = s') && true)) := by simp
    rw [e]; exact this
  · exact SiN.tuple (n := SiNT.dp (Tp Int) + SiNT.dp (Tp Int)) (xs := [_]) (ys := [_, _, _]) (.cons (.str _ _) (.nil _))
  · exact SiN.tuple (n := SiNT.dp (Tp Int) + SiNT.dp (Tp Int)) (xs := [_, _, _]) (ys := [_]) (.cons (.str _ _) (.nil' _))
  · rename_i s t n s' t' n'
    have := SiN.tuple (n := SiNT.dp (Tp Int) + SiNT.dp (Tp Int)) (.cons (.str s s') (.cons ((SiNT.ok t t').mono (by omega)) (.cons ((SiNT.ok n n').mono (Nat.zero_le _)) (.nil []))))
    have e : decide (Ans.a3 s t n = Ans.a3 s' t' n') = (decide ([PyData.str s, enc t, enc n].length = [PyData.str s', enc t', enc n'].length) && (decide (s = s') && (decide (t = t') && (decide (n = n') && true)))) := by simp [Bool.decide_and]
    rw [e]; exact this⟩
def Ans.ok : Ans → Bool
  | .a1 s => EqD.ok s
  | .a3 s _ _ => EqD.ok s
instance : EqD Ans := ⟨Ans.ok, fun x y => by
  cases x <;> cases y
  · rename_i s s'
    have := EqD.eqv (Tp.mk [s]) (Tp.mk [s'])
    have e : decide (Ans.a1 s = Ans.a1 s') = decide (Tp.mk [s] = Tp.mk [s']) := by simp
    rw [e]; exact this
  · simp [enc, Ans.en, PyData.eqv, PyData.eqvAll]
  · simp [enc, Ans.en, PyData.eqv, PyData.eqvAll]
  · rename_i s t n s' t' n'
    have := EqD.eqv (T3.mk s t n) (T3.mk s' t' n')
    have e : decide (Ans.a3 s t n = Ans.a3 s' t' n') = decide (T3.mk s t n = T3.mk s' t' n') := by simp
    rw [e]; exact this, EqD.dp (Tp Str) + EqD.dp (T3 Str (Tp Int) (Option Int)), fun x => by
  cases x with
  | a1 s => exact Nat.le_trans (EqD.dep (Tp.mk [s])) (Nat.le_add_right _ _)
  | a3 s t n => exact Nat.le_trans (EqD.dep (T3.mk s t n)) (Nat.le_add_left _ _), fun x h => by
  cases x with
  | a1 s => exact EqD.lay (Tp.mk [s]) (by have h : EqD.ok s = true := h; show ([s].all EqD.ok) = true; simp [h])
  | a3 s t n => exact EqD.lay (T3.mk s t n) (by have h : EqD.ok s = true := h; show (EqD.ok s && (EqD.ok t && EqD.ok n)) = true; rw [h, EqT.ok t, EqT.ok n]; rfl)⟩
end TL

namespace TL
open PySem PySem.Spec PyProof.Rows L2
open Enc
/-! ### zip of a list with a list or a tuple -/
/-- two lists, as they stand at each turn -/
def ItLL (K : Fg) (a b : Addr) : It :=
  ⟨fun i H => ∃ (xs ys : List V) (x y : V), (SqL K H a xs ∧ SqL K H b ys) ∧ xs[i]? = some x ∧ ys[i]? = some y,
    fun i H v H' => ∃ T x y, (v = .ref T ∧ H T = none ∧ H' = upd H T (.tup [x, y])) ∧ (∀ xs, SqL K H a xs → xs[i]? = some x) ∧ ∀ ys, SqL K H b ys → ys[i]? = some y,
    fun i H => ∃ xs ys : List V, (SqL K H a xs ∧ SqL K H b ys) ∧ i ≤ xs.length ∧ i ≤ ys.length ∧ (xs.length = i ∨ ys.length = i)⟩
def llSt (z TI TO i1 i2 a b : Addr) (i : Nat) (h : Heap) : Prop := (IsZip h z TI TO .none ∧ IsPair h TI (.ref i1) (.ref i2)) ∧ (∃ x y, IsPair h TO x y) ∧ h.IsListIter i1 a i ∧ h.IsListIter i2 b i
theorem turn_ll {P : Program} {w : World} {K : Fg} {elts : List Expr} {kk : Nat} {tpos : Pos} {a b z TI TO i1 i2 : Addr} (D : ZipApart z TI TO i1 i2 a b) :
    Turn P w K (.Tuple elts kk tpos) (ItLL K a b) [z, TI, TO, i1, i2] z (llSt z TI TO i1 i2 a b) := by
  have sep := sep_mix D
  refine ⟨by simp, fun i h st c hc => ?_, fun i h h' st k => ?_, ?_, ?_, fun A i s Q E st q => wpAny_pyIter_zip st.1.1 q⟩
  · obtain ⟨⟨q1, q2⟩, ⟨x, y, q3⟩, ⟨o1, e1, _, d1⟩, o2, e2, _, d2⟩ := st
    rcases five hc with rfl | rfl | rfl | rfl | rfl
    · exact ⟨_, q1, fun v => nofun⟩
    · exact ⟨_, q2, fun v => nofun⟩
    · exact ⟨_, q3, fun v => nofun⟩
    · exact ⟨_, e1, fun v e => nomatch d1.symm.trans e⟩
    · exact ⟨_, e2, fun v e => nomatch d2.symm.trans e⟩
  · obtain ⟨⟨q1, q2⟩, ⟨x, y, q3⟩, q4, q5⟩ := st
    exact ⟨⟨k z (by simp) _ q1, k TI (by simp) _ q2⟩, ⟨x, y, k TO (by simp) _ q3⟩, q4.at fun o => k i1 (by simp) o, q5.at fun o => k i2 (by simp) o⟩
  · rintro X rfl rfl rfl hc i pins s σ H E I hf st ⟨xs, ys, x, y, ⟨hqx, hqy⟩, hx, hy⟩
    obtain ⟨⟨q1, q2⟩, ⟨x0, y0, q3⟩, q4, q5⟩ := st
    obtain ⟨its, rv, p, _⟩ := I.list hqx
    obtain ⟨its2, rv2, p2, _⟩ := I.list hqy
    obtain ⟨u, hu, ru⟩ := rv.get hx
    obtain ⟨u2, hu2, ru2⟩ := rv2.get hy
    have zlt : z < s.heap.objs.size := Heap.lt_size q1
    have hh : X.A.in1.handled = none := I.ok.hd hc
    refine wpAny_pyNext_zipD2_item sep (Draws.list hh i1 a D.l1i1 its.toArray) (Draws.list hh i2 b D.l2i2 its2.toArray) q1 q2 q3 ⟨q4, p.isList⟩ ⟨q5, p2.isList⟩ (by simpa using (List.getElem?_eq_some_iff.mp hu).1) (by simpa using (List.getElem?_eq_some_iff.mp hu2).1) fun x1 x2 h' tk e1 e2 z' TO' n1 n2 hT hsz hk => ?_
    have ex1 : x1 = u := Option.some.inj (e1.symm.trans (by simpa using hu))
    have ex2 : x2 = u2 := Option.some.inj (e2.symm.trans (by simpa using hu2))
    subst ex1
    subst ex2
    refine ⟨_, rfl, wpAny_letOwnedTupleGo_zip (s := { s with heap := h', toks := tk }) z' fun h2 z2 sb => ?_⟩
    have hT2 : h2.get? s.heap.objs.size = some { cls := .type "tuple", data := .seq #[x1, x2] } := (sb.2 _ (Nat.ne_of_gt zlt)).trans hT
    have new : ObjOk X.prog X.w (upd H s.heap.objs.size (.tup [x, y])) h2 s.heap.objs.size (.tup [x, y]) := ⟨by show 2 ≤ sizeLine; decide, [x1, x2], .cons ru (.cons ru2 .nil), ⟨_, hT2, rfl, _, rfl⟩⟩
    have I1 : Inv X pins σ (upd H s.heap.objs.size (.tup [x, y])) { s with heap := h2, toks := tk } := I.turnedNew (t' := tk) (ch := [z, TI, TO, i1, i2]) (fun c o hb q => by
      obtain ⟨c1, c2, c3, c4⟩ := out5 hb
      exact (sb.2 c c1).trans (hk c o c1 c2 c3 c4 q)) hf (Nat.le_refl _) new
    refine ⟨.ref s.heap.objs.size, _, I1, rfl, ⟨_, x, y, ⟨rfl, I.hok.fresh (Nat.le_refl _), rfl⟩, fun l hl => by rw [I.list_inj hl hqx]; exact hx, fun l hl => by rw [I.list_inj hl hqy]; exact hy⟩, ⟨⟨z2, ?_⟩, ⟨x1, x2, ?_⟩, ?_, ?_⟩, fun c hcm => ?_⟩
    · exact (sb.2 TI D.TIz).trans (hk TI _ D.TIz D.TITO D.TIi1 D.TIi2 q2)
    · exact (sb.2 TO D.TOz).trans TO'
    · exact n1.1.at fun o q => (sb.2 i1 D.i1z).trans q
    · exact n2.1.at fun o q => (sb.2 i2 D.i2z).trans q
    · have hlt : c < s.heap.objs.size := by
        rcases five hcm with rfl | rfl | rfl | rfl | rfl
        · exact zlt
        · exact Heap.lt_size q2
        · exact Heap.lt_size q3
        · obtain ⟨_, e, _⟩ := q4; exact Heap.lt_size e
        · obtain ⟨_, e, _⟩ := q5; exact Heap.lt_size e
      rw [upd_ne (Nat.ne_of_lt hlt)]
      exact (hf c hcm).1
  · rintro X rfl rfl rfl hc i pins s σ H E I hf st ⟨xs, ys, ⟨hqx, hqy⟩, l1, l2, hend⟩
    obtain ⟨⟨q1, q2⟩, ⟨x0, y0, q3⟩, q4, q5⟩ := st
    obtain ⟨its, rv, p, _⟩ := I.list hqx
    obtain ⟨its2, rv2, p2, _⟩ := I.list hqy
    have e1 := rv.length
    have e2 := rv2.length
    have hh : X.A.in1.handled = none := I.ok.hd hc
    refine wpAny_pyNext_zipD2_end sep (Draws.list hh i1 a D.l1i1 its.toArray) (Draws.list hh i2 b D.l2i2 its2.toArray) q1 q2 q3 ⟨q4, p.isList⟩ ⟨q5, p2.isList⟩ (by simp; omega) (by simp; omega) (by simp; omega) fun h' tk hk => ?_
    refine ⟨rfl, I.turnedL (t' := tk) (ch := [z, TI, TO, i1, i2]) (fun c o hb q => ?_) hf⟩
    obtain ⟨c1, c2, c3, c4⟩ := out5 hb
    exact hk c o c1 c2 c3 c4 q
def iAny (K : Fg) (ta : TA) : TI := fun σ H R => ta σ H fun vs H1 => ∃ a b xs ys, vs = [.ref a, .ref b] ∧ (((SqL K H1 a xs ∧ SqT K H1 b ys) ∧ R (ItMix K a b) H1) ∨ ((SqL K H1 a xs ∧ SqL K H1 b ys) ∧ R (ItLL K a b) H1))
theorem k_pi_any {X : Cx} (K : Fg) {e e2 : Expr} {ta : TA} {p pos tpos : Pos} {elts : List Expr} {kk : Nat} (hg : Gl X "zip") (hm : X.mg "zip" = none) (ha : PA X [e, e2] ta)
    (hs : starEach [e, e2] X.env = (false, eval e X.env) :: starEach [e2] X.env := by rfl) (hpl : (backTo pos (starEach [e2] X.env)).any (·.1) = false := by rfl) (hK : X.K = K := by rfl) :
    PI X (.Tuple elts kk tpos) (.Call (.Name "zip" p) [e, e2] [] pos) (iAny K ta) := by
  subst hK
  refine ⟨fun pins s σ H R I h => ?_⟩
  refine Call_ (ld_blt I hg hm PyProof.Rows.boot_zip (PyProof.Rows.callWith_type1 (thn (ha.run pos pins s σ H _ I h) fun us s1 ⟨vs, H1, I1, r1, q1⟩ => ?_) hs hpl))
  obtain ⟨a, b, xs, ys, ex, q1⟩ := q1
  subst ex
  cases r1 with
  | cons r rr =>
   cases rr with
   | cons r' rr =>
    cases rr
    cases r
    cases r'
    rcases q1 with ⟨⟨hqx, hqy⟩, q⟩ | ⟨⟨hqx, hqy⟩, q⟩
    · obtain ⟨its, rv, p1, _⟩ := I1.list hqx
      obtain ⟨its2, rv2, p2, _⟩ := I1.tuple hqy
      have lt1 := p1.lt
      obtain ⟨o2, ho2, p3⟩ := id p2
      have lt2 := Heap.lt_size ho2
      refine zip_begins2 (begins_list a its.toArray) (begins_tuple b its2.toArray) p1.isList p2 fun h' hz hTI hTO g1 g2 hsz hk => wpAny_pyIter_zip hz ?_
      have I2 : Inv X pins σ H1 { s1 with heap := h' } := I1.kept (t' := s1.toks) hk
      refine ⟨s1.heap.objs.size + 4, [s1.heap.objs.size + 4, s1.heap.objs.size + 2, s1.heap.objs.size + 3, s1.heap.objs.size, s1.heap.objs.size + 1], _, _, H1, rfl, I2, turn_mix (PySem.W.ktu_apart s1.heap.objs.size a b lt1 lt2), ⟨⟨hz, hTI⟩, ⟨_, _, hTO⟩, ⟨_, g1, rfl, rfl⟩, ⟨_, g2, rfl, rfl⟩⟩, fun c hcm => ?_, q⟩
      have hle : s1.heap.objs.size ≤ c := by
        rcases five hcm with rfl | rfl | rfl | rfl | rfl
        · exact Nat.le_add_right _ _
        · exact Nat.le_add_right _ _
        · exact Nat.le_add_right _ _
        · exact Nat.le_refl _
        · exact Nat.le_add_right _ _
      exact I1.fpOk hle (I1.hok.fresh hle)
    · obtain ⟨its, rv, p1, _⟩ := I1.list hqx
      obtain ⟨its2, rv2, p2, _⟩ := I1.list hqy
      have lt1 := p1.lt
      have lt2 := p2.lt
      refine zip_begins2 (begins_list a its.toArray) (begins_list b its2.toArray) p1.isList p2.isList fun h' hz hTI hTO g1 g2 hsz hk => wpAny_pyIter_zip hz ?_
      have I2 : Inv X pins σ H1 { s1 with heap := h' } := I1.kept (t' := s1.toks) hk
      refine ⟨s1.heap.objs.size + 4, [s1.heap.objs.size + 4, s1.heap.objs.size + 2, s1.heap.objs.size + 3, s1.heap.objs.size, s1.heap.objs.size + 1], _, _, H1, rfl, I2, turn_ll (PySem.W.ktu_apart s1.heap.objs.size a b lt1 lt2), ⟨⟨hz, hTI⟩, ⟨_, _, hTO⟩, ⟨_, g1, rfl, rfl⟩, ⟨_, g2, rfl, rfl⟩⟩, fun c hcm => ?_, q⟩
      have hle : s1.heap.objs.size ≤ c := by
        rcases five hcm with rfl | rfl | rfl | rfl | rfl
        · exact Nat.le_add_right _ _
        · exact Nat.le_add_right _ _
        · exact Nat.le_add_right _ _
        · exact Nat.le_refl _
        · exact Nat.le_add_right _ _
      exact I1.fpOk hle (I1.hok.fresh hle)
section
variable {K : Fg} {ta tb : TE} {ρ : List Sl} {O O1 O2 : Os}
theorem ri_anyT {ys zs : List PyData} (h : RX K ta ρ O (.list ys) O1) (h' : RX K tb ρ O1 (.tuple zs) O2) : RI K (iAny K (tCons ta (tCons tb tNil))) ρ O (zipD ys zs) O2 := ⟨fun F0 H0 D0 σ F H R E S k => by
    refine h.go E S fun x F1 H1 f1 E1 S1 r1 => h'.go E1 S1 fun y F2 H2 f2 E2 S2 r2 => ?_
    have r1' := r1.up f2
    cases r1' with
    | @lst a xs _ q1 q2 q3 =>
     cases r2 with
     | @tup b ws _ p1 p2 p3 =>
      have s1 : ∀ {G0 J0 : Hp} {D1 : List Addr} {F : Hp} {O : Os} {H : Hp}, Same F2 F → Hx K G0 J0 D1 F O H → SqL K H a xs ∧ SqT K H b ws := fun f S => ⟨(f.trans S.fh).seq q1, same_t (f.trans S.fh) p1⟩
      refine ⟨a, b, xs, ws, rfl, .inl ⟨s1 (Same.refl _) S2, ?_⟩⟩
      have hl : (zipD ys zs).length = min xs.length ws.length := by unfold zipD; rw [List.length_map, List.length_zip, q3.length, p3.length]
      refine k _ F2 H2 (f1.trans f2) S2 ⟨by omega, fun _ _ _ F O H i hi f S => ?_, fun _ _ _ F O H f S => ⟨xs, ws, s1 f S, by omega, by omega, by omega⟩, fun _ _ _ F O H i x H' hi f S y => ?_⟩
      · have h1 : i < xs.length := by omega
        have h2 : i < ws.length := by omega
        exact ⟨xs, ws, xs[i], ws[i], s1 f S, by simp [h1], by simp [h2]⟩
      · obtain ⟨T, u, v, ⟨eu, hT, eT⟩, y1, y2⟩ := y
        subst eu
        subst eT
        obtain ⟨d, e, r⟩ := (q3.up f).getV (y1 xs (s1 f S).1)
        obtain ⟨d', e', r'⟩ := (p3.up f).getV (y2 ws (s1 f S).2)
        obtain ⟨F3, f3, S3, r3⟩ := pair_put S hT r r'
        refine ⟨F3, _, f3, S3, ?_, r3⟩
        unfold zipD
        have ez : (ys.zip zs)[i]? = some (d, d') := List.getElem?_zip_eq_some.mpr ⟨e, e'⟩
        rw [List.getElem?_map, ez]
        rfl⟩
theorem ri_anyL {ys zs : List PyData} (h : RX K ta ρ O (.list ys) O1) (h' : RX K tb ρ O1 (.list zs) O2) : RI K (iAny K (tCons ta (tCons tb tNil))) ρ O (zipD ys zs) O2 := ⟨fun F0 H0 D0 σ F H R E S k => by
    refine h.go E S fun x F1 H1 f1 E1 S1 r1 => h'.go E1 S1 fun y F2 H2 f2 E2 S2 r2 => ?_
    have r1' := r1.up f2
    cases r1' with
    | @lst a xs _ q1 q2 q3 =>
     cases r2 with
     | @lst b ws _ p1 p2 p3 =>
      have s1 : ∀ {G0 J0 : Hp} {D1 : List Addr} {F : Hp} {O : Os} {H : Hp}, Same F2 F → Hx K G0 J0 D1 F O H → SqL K H a xs ∧ SqL K H b ws := fun f S => ⟨(f.trans S.fh).seq q1, (f.trans S.fh).seq p1⟩
      refine ⟨a, b, xs, ws, rfl, .inr ⟨s1 (Same.refl _) S2, ?_⟩⟩
      have hl : (zipD ys zs).length = min xs.length ws.length := by unfold zipD; rw [List.length_map, List.length_zip, q3.length, p3.length]
      refine k _ F2 H2 (f1.trans f2) S2 ⟨by omega, fun _ _ _ F O H i hi f S => ?_, fun _ _ _ F O H f S => ⟨xs, ws, s1 f S, by omega, by omega, by omega⟩, fun _ _ _ F O H i x H' hi f S y => ?_⟩
      · have h1 : i < xs.length := by omega
        have h2 : i < ws.length := by omega
        exact ⟨xs, ws, xs[i], ws[i], s1 f S, by simp [h1], by simp [h2]⟩
      · obtain ⟨T, u, v, ⟨eu, hT, eT⟩, y1, y2⟩ := y
        subst eu
        subst eT
        obtain ⟨d, e, r⟩ := (q3.up f).getV (y1 xs (s1 f S).1)
        obtain ⟨d', e', r'⟩ := (p3.up f).getV (y2 ws (s1 f S).2)
        obtain ⟨F3, f3, S3, r3⟩ := pair_put S hT r r'
        refine ⟨F3, _, f3, S3, ?_, r3⟩
        unfold zipD
        have ez : (ys.zip zs)[i]? = some (d, d') := List.getElem?_zip_eq_some.mpr ⟨e, e'⟩
        rw [List.getElem?_map, ez]
        rfl⟩
/-! ### a list or a tuple -/
structure Sq (α : Type) where
  t : Bool
  l : List α
def Sq.en {α : Type} [Enc α] : Sq α → PyData
  | ⟨true, l⟩ => .tuple (l.map enc)
  | ⟨false, l⟩ => .list (l.map enc)
@[reducible] instance {α : Type} [Enc α] : Enc (Sq α) := ⟨Sq.en⟩
theorem ri_any {α β : Type} [Enc α] [Enc β] {xs : List α} {ys : Sq β} (h : RX K ta ρ O (.list (xs.map enc)) O1) (h' : RX K tb ρ O1 (enc ys) O2) : RI K (iAny K (tCons ta (tCons tb tNil))) ρ O ((xs.zip ys.l).map enc) O2 := by
  have e : (xs.zip ys.l).map enc = zipD (xs.map enc) (ys.l.map enc) := by
    unfold zipD
    rw [List.zip_map, List.map_map]
    rfl
  rw [e]
  obtain ⟨t, l⟩ := ys
  cases t with
  | true => exact ri_anyT h h'
  | false => exact ri_anyL h h'
theorem rx_lenQ {α : Type} [Enc α] {s : Sq α} (ha : RX K ta ρ O (enc s) O1) : RX K (tCB (rLenQ K) (tCons ta tNil)) ρ O (.int (s.l.length : Nat)) O1 := by
  obtain ⟨t, l⟩ := s
  have e : ((l.map enc).length : Nat) = l.length := List.length_map _
  cases t with
  | true => have := rx_lenT (ds := l.map enc) ha; rw [e] at this; exact this
  | false => have := rx_len (RX.s (ds := l.map enc) ha); rw [e] at this; exact this
theorem rx_ixQ {α : Type} [Enc α] {s : Sq α} {i : Int} {x : α} (h : L2.atI s.l i = some x) (ha : RX K ta ρ O (enc s) O1) (hb : RX K tb ρ O1 (.int i) O2) : RX K (tOp (rIx K) ta tb) ρ O (enc x) O2 := by
  obtain ⟨t, l⟩ := s
  cases t with
  | true => exact rx_ixAT (ds := l.map enc) (atI_map enc h) ha hb
  | false => exact rx_ixA (ds := l.map enc) (atI_map enc h) ha hb
end
end TL

namespace TL
open PySem L2
open Enc
section
variable {K : Fg} {ta tb : TE} {ρ : List Sl} {O O1 O2 : Os}
theorem rx_count {ns : List Int} {i : Int} (ha : RXs K ta ρ O (ns.map .int) O1) (hb : RX K tb ρ O1 (.int i) O1) : RX K (tBM K "list" (rCntI K) ta (tCons tb tNil)) ρ O (.int (ns.count i : Nat)) O1 := ⟨fun _ _ _ _ _ _ Q E S k =>
  ha.go E S fun a F1 H1 f1 E1 S1 r1 => by
    obtain ⟨vs1, p1, _, _⟩ := r1 F1 H1 (Same.refl _) S1
    refine ⟨.inl ⟨rfl, _, p1⟩, hb.go E1 S1 fun y F2 H2 f2 E2 S2 r2 => ?_⟩
    cases r2
    obtain ⟨vs, q1, q2, q3⟩ := r1 F2 H2 f2 S2
    exact ⟨a, ns, i, rfl, rfl, by rw [← q3.ints]; exact q1, k _ F2 H2 (f1.trans f2) S2 (.int _)⟩⟩
theorem k_lcount {X : Cx} (K : Fg) (hK : X.K = K := by rfl) : MtR X "list.count" (rCntI K) := by subst hK; exact mt_lcount
end
end TL

namespace TL
open PySem L2
open Enc
/-! ### lists of own lists -/
def lolOs {α : Type} [Enc α] (ps : List Addr) (xs : List (List α)) : Os := towOs ps (xs.map fun r => r.map enc)
section
variable {K : Fg} {F0 H0 F H F' H' : Hp} {D0 : List Addr} {O O' O1 O2 X : Os} {ρ : List Sl} {σ : L2.St} {ps : List Addr} {ess : List (List PyData)}
theorem EnvR.lol {i : Nat} (h : EnvR K F σ ρ) (e : ρ[i]? = some (.lol ps)) : ∃ t, σ[i]? = some (some (.ref t)) ∧ SqL K F t (ps.map .ref) ∧ ps.length ≤ sizeLine := by
  obtain ⟨s, h1, t, rfl, h2⟩ := h.at e
  exact ⟨t, h1, h2⟩
/-- what stands besides stays -/
theorem Hx.fr2 (S : Hx K F0 H0 D0 F O H) : ∃ H1 D1, Hx K F H1 D1 F O H ∧ (∀ a o, H a = some o → (∀ e ∈ O, e.a ≠ a) → H1 a = some o ∧ a ∉ D1) ∧ ∀ F' O' H', Hx K F H1 D1 F' O' H' → Hx K F0 H0 D0 F' O' H' := by
  let nwA (a : Addr) : Bool := O.any fun e => e.nw && decide (e.a = a)
  let H1 : Hp := fun a => if nwA a = true then none else H a
  let D1 : List Addr := (O.filter fun e => !e.nw).map OE.a
  have h1s : ∀ a o, H1 a = some o → H a = some o := fun a o e => by
    show H a = some o
    have e : (if nwA a = true then none else H a) = some o := e
    split at e
    · cases e
    · exact e
  have h1of : ∀ a o, H a = some o → (∀ e ∈ O, e.a = a → e.nw = false) → H1 a = some o := fun a o e n => by
    show (if nwA a = true then none else H a) = some o
    rw [if_neg]
    · exact e
    · intro q
      obtain ⟨x, hx, q⟩ := List.any_eq_true.mp q
      rw [Bool.and_eq_true, decide_eq_true_eq] at q
      rw [n x hx q.2] at q
      exact Bool.false_ne_true q.1
  have d1 : ∀ a, a ∈ D1 → ∃ e ∈ O, e.a = a ∧ e.nw = false := fun a h => by
    obtain ⟨e, he, rfl⟩ := List.mem_map.mp h
    rw [List.mem_filter] at he
    exact ⟨e, he.1, rfl, by simpa using he.2⟩
  have old : ∀ a o, H0 a = some o → ∀ e ∈ O, e.a = a → e.nw = false := fun a o e x hx q => by
    cases hw : x.nw with
    | false => rfl
    | true =>
      have := (S.own x hx).2.1 hw
      rw [q, e] at this
      cases this
  refine ⟨H1, D1, ⟨Same.refl _, S.fh, fun a o e _ => h1s a o e, fun a o e => ⟨o, h1s a o e⟩, fun _ _ _ e => e, fun p hp => ?_, S.nd⟩, fun a o e n => ⟨h1of a o e fun x hx q => (n x hx q).elim, fun hd => ?_⟩, fun F' O' H' S2 => ?_⟩
  · obtain ⟨g1, g2, g3, g4⟩ := S.own p hp
    refine ⟨g1, fun hw => ?_, fun hw => List.mem_map.mpr ⟨p, List.mem_filter.mpr ⟨hp, by rw [hw]; rfl⟩, rfl⟩, g4⟩
    show (if nwA p.a = true then none else H p.a) = none
    rw [if_pos]
    exact List.any_eq_true.mpr ⟨p, hp, by rw [hw]; simp⟩
  · obtain ⟨x, hx, q, _⟩ := d1 a hd
    exact n x hx q
  · refine ⟨S.f0.trans S2.f0, S2.fh, fun a o e n => ?_, fun a o e => ?_, fun a o e n => ?_, fun p hp => ?_, S2.nd⟩
    · refine S2.keep a o (h1of a o (S.keep a o e n) (old a o e)) fun hd => ?_
      obtain ⟨x, hx, q, hw⟩ := d1 a hd
      exact n (q ▸ (S.own x hx).2.2.1 hw)
    · obtain ⟨o', e'⟩ := S.live a o e
      exact S2.live a o' (h1of a o' e' (old a o e))
    · obtain ⟨o', e'⟩ := S.live a o e
      exact S2.new a o' (h1of a o' e' (old a o e)) (S.new a o e n)
    · obtain ⟨g1, g2, g3, g4⟩ := S2.own p hp
      refine ⟨g1, fun hw => ?_, fun hw => ?_, g4⟩
      · have g2 := g2 hw
        cases e : H0 p.a with
        | none => rfl
        | some o =>
          obtain ⟨o', e'⟩ := S.live p.a o e
          rw [h1of p.a o' e' (old p.a o e)] at g2
          cases g2
      · obtain ⟨x, hx, q, hw'⟩ := d1 _ (g3 hw)
        exact q ▸ (S.own x hx).2.2.1 hw'
/-- a thing besides is changed -/
theorem Hx.hold (S : Hx K F0 H0 D0 F O H) {p : Addr} {o : HO} (hF : F p = none) (h0 : H0 p = none) (hO : ∀ e ∈ O, e.a ≠ p) : Hx K F0 H0 D0 F O (upd H p o) := by
  refine ⟨S.f0, fun a u e => ?_, fun a u e n => ?_, fun a u e => ?_, S.new, fun q hq => ?_, S.nd⟩
  · rw [upd_ne (ne_of_none e hF)]
    exact S.fh _ _ e
  · rw [upd_ne (ne_of_none e h0)]
    exact S.keep a u e n
  · obtain ⟨u', e'⟩ := S.live a u e
    exact ⟨u', by rw [upd_ne (ne_of_none e h0)]; exact e'⟩
  · obtain ⟨g1, g2, g3, vs, g4, g5⟩ := S.own q hq
    exact ⟨g1, g2, g3, vs, by rw [upd_ne (hO q hq)]; exact g4, g5⟩
/-- .. is frozen -/
theorem Hx.pin (S : Hx K F0 H0 D0 F O H) {p : Addr} {o : HO} (hF : F p = none) (h0 : H0 p = none) (hO : ∀ e ∈ O, e.a ≠ p) (hp : H p = some o) : Hx K F0 H0 D0 (upd F p o) O H := by
  refine ⟨S.f0.trans (same_upd hF), fun a u e => ?_, S.keep, S.live, fun a u e n => ?_, fun q hq => ?_, S.nd⟩
  · unfold upd at e
    split at e
    · rename_i z
      subst z
      cases e
      exact hp
    · exact S.fh _ _ e
  · rw [upd_ne (ne_of_none e h0)]
    exact S.new a u e n
  · obtain ⟨g1, g2, g3, vs, g4, g5, g6⟩ := S.own q hq
    exact ⟨by rw [upd_ne (hO q hq)]; exact g1, g2, g3, vs, g4, g5, g6.up (same_upd hF)⟩
/-- [.. for x in ..], each a new list -/
theorem lol_run {α β : Type} {eα : α → PyData} {eβ : β → List PyData} {wi : TI} {g : TG} {te : TE} {vs : List Nat} {xs : List α} {ys : List β} {f : α → Option β} (ρx : α → List Sl) (ts : List Nat) (hI : RI K wi ρ O (xs.map eα) O1)
    (hf : mapO f xs = some ys) (hts : ∀ t ∈ ts, t ∈ vs) (hg : ∀ x ∈ xs, RG K g (eα x) (wipeS ρ vs) (ρx x) ts) (he : ∀ x ∈ xs, ∀ y, f x = some y → ∀ O, RXo K te (ρx x) O (eβ y) O) (E : EnvR K F σ ρ) (S : Hx K F0 H0 D0 F O H) {Q : VK}
    (k : ∀ T ps F' H', Same F F' → ps.length = ys.length → SqL K F' T (ps.map .ref) → ps.length ≤ sizeLine → Hx K F0 H0 D0 F' (O1 ++ towOs ps (ys.map eβ)) H' → Q (.ref T) H') : tLc wi g tYes te vs σ H Q := hI.go E S fun J F1 H1 f1 E1 S1 w => by
  intro D hD
  have hl : (xs.map eα).length = xs.length := List.length_map _
  have W : Walk J xs.length (fun H => ∃ F0 H0 D0 F O, Same F1 F ∧ Hx K F0 H0 D0 F O H) (fun i H x H' => ∀ F0 H0 D0 F O, Same F1 F → Hx K F0 H0 D0 F O H → ∃ F' y, Same F F' ∧ Hx K F0 H0 D0 F' O H' ∧ xs[i]? = some y ∧ Rp K F' x (eα y)) := by
    refine ⟨fun i H hi q => ?_, fun H q => ?_, fun i H x H' hi _ y F0 H0 D0 F O f S => ?_⟩
    · obtain ⟨F0, H0, D0, F, O, f, S⟩ := q
      exact w.go F0 H0 D0 F O H i (by rw [hl]; exact hi) f S
    · obtain ⟨F0, H0, D0, F, O, f, S⟩ := q
      have := w.stop F0 H0 D0 F O H f S
      rw [hl] at this
      exact this
    · obtain ⟨F', y', f', S', e, r⟩ := w.yld F0 H0 D0 F O H i x H' (by rw [hl]; exact hi) f S y
      rw [List.getElem?_map] at e
      cases e2 : xs[i]? with
      | none => rw [e2] at e; cases e
      | some z =>
        rw [e2] at e
        have e3 : eα z = y' := Option.some.inj e
        subst e3
        exact ⟨F', z, f', S', rfl, r⟩
  have hsz : xs.length ≤ sizeLine := by have := w.sz; rw [hl] at this; exact this
  have h0D := S1.noh0 hD
  refine lc_it W (fun i H => ∃ F ps acc zr, Same F1 F ∧ Hx K F0 H0 D0 F (O1 ++ towOs ps (acc.map eβ)) H ∧ H D = some (.lst (ps.map .ref)) ∧ F D = none ∧ (∀ e ∈ O1 ++ towOs ps (acc.map eβ), e.a ≠ D) ∧ mapO f (xs.drop i) = some zr ∧ acc ++ zr = ys ∧ ps.length = acc.length ∧ acc.length = i)
    ⟨F1, [], [], ys, Same.refl _, by show Hx K F0 H0 D0 F1 (O1 ++ []) _; rw [List.append_nil]; exact S1.junk hD, upd_same, S1.nof hD, fun e he q => ?_, hf, rfl, rfl, rfl⟩
    (fun i H _ q => by obtain ⟨F, ps, acc, zr, q1, q2, _⟩ := q; exact ⟨_, _, _, F, _, q1, q2⟩) (fun i x H H' hi q y => ?_) (fun H q => ?_)
  · have he : e ∈ O1 := by simpa [towOs] using he
    obtain ⟨_, _, _, vs, g4, _⟩ := S1.own e he
    rw [q, hD] at g4
    cases g4
  · obtain ⟨F, ps, acc, zr, q1, q2, q3, q4, q5, q6, q7, q8, q9⟩ := q
    obtain ⟨Ha, Da, Sf, kp, back⟩ := q2.fr2
    obtain ⟨ka, kb⟩ := kp D _ q3 q5
    obtain ⟨F2, z, f2, S2, ez, rz⟩ := y _ _ _ F _ q1 Sf
    have d2 := S2.keep D _ ka kb
    have n2 := S2.new D _ ka q4
    have S2 := back _ _ _ S2
    have hm : z ∈ xs := List.mem_of_getElem? ez
    have hi' : xs[i] = z := by
      rw [List.getElem?_eq_getElem hi] at ez
      exact Option.some.inj ez
    rw [List.drop_eq_getElem_cons hi, hi'] at q6
    obtain ⟨v, e1, q6⟩ := bindE q6
    obtain ⟨zr', e2, q6⟩ := bindE q6
    obtain rfl := Option.some.inj q6
    refine (hg z hm).run _ F2 H' x _ ((E1.wipe vs).up (q1.trans f2)) rz S2.fh fun σ' E' wq => ⟨(wq vs hts).trans (wipe_wipe σ vs), ?_⟩
    unfold tYes
    simp only [if_true]
    obtain ⟨Hb, Db, Sg, kq, bock⟩ := S2.fr2
    obtain ⟨kc, kd⟩ := kq D _ d2 q5
    refine (he z hm v e1 _).go E' Sg fun p F3 H3 f3 E3 S3 => ?_
    have d3 := S3.keep D _ kc kd
    have n3 := S3.new D _ kc n2
    have hp : p ≠ D := by
      intro e
      have := (S3.own ⟨p, true, eβ v⟩ (List.mem_cons_self ..)).2.1 rfl
      have this : Hb p = none := this
      rw [e, kc] at this
      cases this
    have S3 := bock _ _ _ S3
    have t1 : towOs (ps ++ [p]) ((acc ++ [v]).map eβ) = towOs ps (acc.map eβ) ++ [⟨p, true, eβ v⟩] := by
      unfold towOs
      rw [List.map_append, List.zipWith_append (by rw [List.length_map]; exact q8)]
      rfl
    have S3 := S3.perm (List.perm_append_singleton (⟨p, true, eβ v⟩ : OE) _).symm
    rw [List.append_assoc, ← t1] at S3
    have hO : ∀ e ∈ O1 ++ towOs (ps ++ [p]) ((acc ++ [v]).map eβ), e.a ≠ D := fun e he => by
      rw [t1, ← List.append_assoc] at he
      rcases List.mem_append.mp he with he | he
      · exact q5 e he
      · rw [List.mem_singleton] at he
        subst he
        exact hp
    refine ⟨_, d3, by rw [List.length_map]; omega, F3, ps ++ [p], acc ++ [v], zr', (q1.trans f2).trans f3, S3.hold n3 h0D hO, ?_, n3, hO, e2, by rw [← q7]; simp, by simp [q8], by simp [q9]⟩
    rw [upd_same, List.map_append]
    rfl
  · obtain ⟨F, ps, acc, zr, q1, q2, q3, q4, q5, q6, q7, q8, q9⟩ := q
    rw [List.drop_length] at q6
    have q6 : (some [] : Option (List β)) = some zr := q6
    obtain rfl := Option.some.inj q6
    rw [List.append_nil] at q7
    subst q7
    exact k D ps _ H ((f1.trans q1).trans (same_upd q4)) q8 (SqL.of upd_same) (by omega) (q2.pin q4 h0D q5 q3)
variable {D : Ends}
theorem st_setL {α β : Type} {eα : α → PyData} [Enc β] {wi : TI} {g : TG} {te : TE} {vs : List Nat} {xs : List α} {ys : List (List β)} {f : α → Option (List β)} {i : Nat} (ρx : α → List Sl) (ts : List Nat) (hI : RI K wi ρ O (xs.map eα) O1)
    (hf : mapO f xs = some ys) (hts : ∀ t ∈ ts, t ∈ vs) (hg : ∀ x ∈ xs, RG K g (eα x) (wipeS ρ vs) (ρx x) ts) (he : ∀ x ∈ xs, ∀ y, f x = some y → ∀ O, RXo K te (ρx x) O (y.map enc) O) (E : EnvR K F σ ρ) (S : Hx K F0 H0 D0 F O H)
    (k : ∀ ps σ' F' H', ps.length = ys.length → Same F F' → EnvR K F' σ' (ρ.set i (.lol ps)) → Hx K F0 H0 D0 F' (O1 ++ lolOs ps ys) H' → D.nx σ' H') : tAsg (tLc wi g tYes te vs) (gName i) D σ H :=
  lol_run (eβ := fun y : List β => y.map enc) ρx ts hI hf hts hg he E S fun T ps F' H' f hl q hz S' => k ps _ F' H' hl f (EnvR.set (s := some (.ref T)) (r := .lol ps) ⟨T, rfl, q, hz⟩ i (E.up f)) S'
/-- what a def promises that hands back a list of new lists -/
def SpL (K : Fg) (R : List PyData → List (List PyData) → Prop) : Sp := fun vs H Q _ => ∃ F ds ess, RpAll K F vs ds ∧ Same F H ∧ R ds ess ∧
  ∀ (T : Addr) (ps : List Addr) (F' H' : Hp), Stp [] F H F' H' → SqL K F' T (ps.map .ref) → ps.length ≤ sizeLine → ps.length = ess.length → ps.Nodup → (∀ (i : Nat) p es, ps[i]? = some p → ess[i]? = some es → H p = none ∧ F' p = none ∧ ∃ xs, H' p = some (.lst xs) ∧ xs.length ≤ sizeLine ∧ RpAll K F' xs es) → Q (.ref T) H'
theorem lst_len {R : List PyData → List (List PyData) → Prop} {n : Nat} (h : ∀ ds d, R ds d → ds.length = n) : ∀ vs H Q E, SpL K R vs H Q E → vs.length = n := fun vs H Q E ⟨F, ds, d, r, _, hR, _⟩ => r.length.trans (h ds d hR)
theorem st_retL {α β : Type} {eα : α → PyData} {eβ : β → List PyData} {wi : TI} {g : TG} {te : TE} {vs : List Nat} {xs : List α} {ys : List β} {f : α → Option β} (ρx : α → List Sl) (ts : List Nat) (hI : RI K wi ρ O (xs.map eα) O1)
    (hf : mapO f xs = some ys) (hts : ∀ t ∈ ts, t ∈ vs) (hg : ∀ x ∈ xs, RG K g (eα x) (wipeS ρ vs) (ρx x) ts) (he : ∀ x ∈ xs, ∀ y, f x = some y → ∀ O, RXo K te (ρx x) O (eβ y) O) (E : EnvR K F σ ρ) (S : Hx K F0 H0 D0 F O H)
    (k : ∀ T ps F' H', Same F F' → ps.length = (ys.map eβ).length → SqL K F' T (ps.map .ref) → ps.length ≤ sizeLine → Hx K F0 H0 D0 F' (towOs ps (ys.map eβ) ++ O1) H' → D.rt (.ref T) H') : tRet (tLc wi g tYes te vs) D σ H :=
  lol_run ρx ts hI hf hts hg he E S fun T ps F' H' f hl q hz S' => k T ps F' H' f (by rw [List.length_map]; exact hl) q hz (S'.perm List.perm_append_comm)
variable {t : TA} {R : List PyData → List (List PyData) → Prop} {ds : List PyData} {E0 : XK}
theorem st_setCL {β : Type} [Enc β] {ys : List (List β)} {i : Nat} (hR : R ds (ys.map fun y => y.map enc)) (ha : RA K t ρ O (ds.map .val) O1) (E : EnvR K F σ ρ) (S : Hx K F0 H0 D0 F O H)
    (k : ∀ (ps : List Addr) (σ' : L2.St) (F' H' : Hp), ps.length = ys.length → Same F F' → EnvR K F' σ' (ρ.set i (.lol ps)) → Hx K F0 H0 D0 F' (O1 ++ lolOs ps ys) H' → D.nx σ' H') : tAsg (tCall (SpL K R) [] E0 t) (gName i) D σ H :=
  ha.go E S fun vs F1 H1 f1 E1 S1 r1 => by
    show SpL K R (vs ++ []) H1 _ E0
    rw [List.append_nil]
    exact ⟨F1, ds, _, r1.all, S1.fh, hR, fun T ps F' H' st q hz hl nd h => k ps _ F' H' (by rw [hl, List.length_map]) (f1.trans st.ff) (EnvR.set (s := some (.ref T)) (r := .lol ps) ⟨T, rfl, q, hz⟩ i (E1.up st.ff)) ((S1.inT st hl nd h).perm List.perm_append_comm)⟩
theorem SpL.toP {R' : List PyData → PyData → Prop} (hi : ∀ ds d, R' ds d → ∃ ess, R ds ess ∧ d = .list (ess.map .list)) : ∀ vs H Q E, SpP K R' vs H Q E → SpL K R vs H Q E := fun vs H Q E ⟨F, ds, d, r, fh, hR, k⟩ => by
  obtain ⟨ess, hR2, rfl⟩ := hi ds d hR
  refine ⟨F, ds, ess, r, fh, hR2, fun T ps F' H' st q hz hl nd h => ?_⟩
  have S := (Hx.start (K := K) fh).inT st hl nd h
  obtain ⟨F2, f2, S2, r2⟩ := S.frzT hl
  exact k _ F2 H' S2.stp (.lst (f2.seq q) (by rw [List.length_map]; exact hz) r2)
/-! ### how such a list is read, changed -/
theorem tow_all (hl : ps.length = ess.length) (h : ∀ (i : Nat) p es, ps[i]? = some p → ess[i]? = some es → ∃ j : Nat, O[j]? = some ⟨p, true, es⟩) : Tow O ps ess := by
  induction ps generalizing ess with
  | nil =>
    cases ess with
    | nil => exact .nil
    | cons e ess => cases hl
  | cons p ps ih =>
    cases ess with
    | nil => cases hl
    | cons e ess =>
      obtain ⟨j, hj⟩ := h 0 p e rfl rfl
      exact .cons j hj (ih (by simpa using hl) fun i q es h1 h2 => h (i + 1) q es (by simpa using h1) (by simpa using h2))
theorem tow_end (hl : ps.length = ess.length) : Tow (X ++ towOs ps ess) ps ess := tow_all hl fun i p es h1 h2 => ⟨X.length + i, by rw [List.getElem?_append_right (by omega), Nat.add_sub_cancel_left]; exact tow_get h1 h2⟩
theorem enc_lol {β : Type} [Enc β] (xs : List (List β)) : (enc xs : PyData) = .list ((xs.map fun r => r.map enc).map .list) := by
  show PyData.list (xs.map enc) = _
  rw [List.map_map]; rfl
theorem rxh_lol {β : Type} [Enc β] {xs : List (List β)} {i : Nat} (hs : ρ[i]? = some (.lol ps)) (hl : ps.length = xs.length) : RXh K (tVar i) ρ (X ++ lolOs ps xs) (enc xs) (X ++ lolOs ps xs) := ⟨fun _ _ _ _ _ _ Q E S k => by
  obtain ⟨T, h1, h2, h3⟩ := E.lol hs
  refine ⟨_, h1, k _ _ _ (Same.refl _) S fun F2 H2 f2 S2 => ?_⟩
  rw [enc_lol]
  exact .lst ((f2.trans S2.fh).seq h2) (by rw [List.length_map]; exact h3) ((tow_end (by rw [List.length_map]; exact hl)).rp S2)⟩
/-- .. is frozen -/
theorem frz_lol {β : Type} [Enc β] {xs : List (List β)} {i : Nat} (hs : ρ[i]? = some (.lol ps)) (hl : ps.length = xs.length) (E : EnvR K F σ ρ) (S : Hx K F0 H0 D0 F (X ++ lolOs ps xs) H) :
    ∃ F', Same F F' ∧ EnvR K F' σ (ρ.set i (.val (enc xs))) ∧ Hx K F0 H0 D0 F' X H := by
  obtain ⟨T, h1, h2, h3⟩ := E.lol hs
  obtain ⟨F', f, S', r⟩ := (S.perm List.perm_append_comm).frzT (by rw [List.length_map]; exact hl)
  have E2 := EnvR.setv (E.up f) (v := .ref T) (.lst (f.seq h2) (by rw [List.length_map]; exact h3) r) i
  have e : σ.set i (some (.ref T)) = σ := by
    apply List.ext_getElem?
    intro n
    by_cases e : i = n
    · subst e
      rw [List.getElem?_set_self (List.getElem?_eq_some_iff.mp h1).1, h1]
    · rw [List.getElem?_set_ne e]
  rw [e, ← enc_lol] at E2
  exact ⟨F', f, E2, S'⟩
def lolO {α : Type} (n : Nat) (xs : List (List α)) (i : Int) (x : α) : Option (List (List α)) := if xs.length = n then (ixN xs.length i).bind fun j => (xs[j]?).bind fun r => (appO r x).bind fun r' => some (xs.set j r') else none
def lolL {α : Type} (n : Nat) (xs : List (List α)) : Option (List (List α)) := if xs.length = n then some xs else none
theorem lolL_of {α : Type} {n : Nat} {xs r : List (List α)} (h : lolL n xs = some r) : xs.length = n ∧ xs = r := by
  unfold lolL at h
  split at h
  · exact ⟨by assumption, Option.some.inj h⟩
  · cases h
/-- found[k].append(e) -/
theorem st_lolApp {β : Type} [Enc β] {xs ys : List (List β)} {x : β} {i N : Nat} {tk te : TE} {n : Int} (hl : ps.length = N) (hn : lolO N xs n x = some ys) (hs : ρ[i]? = some (.lol ps)) (hk : RX K tk ρ (X ++ lolOs ps xs) (.int n) (X ++ lolOs ps xs))
    (h : RX K te ρ (X ++ lolOs ps xs) (enc x) (X ++ lolOs ps xs)) (E : EnvR K F σ ρ) (S : Hx K F0 H0 D0 F (X ++ lolOs ps xs) H) (k : ∀ F' H', Same F F' → EnvR K F' σ ρ → Hx K F0 H0 D0 F' (X ++ lolOs ps ys) H' → D.nx σ H') :
    tDrop (tBM K "list" rAppend (tOp (rIxL K) (tVar i) tk) (tCons te tNil)) D σ H := by
  unfold lolO at hn
  split at hn
  · rename_i hN
    obtain ⟨m, e1, hn⟩ := bindE hn
    obtain ⟨r, e2, hn⟩ := bindE hn
    obtain ⟨r', e3, hn⟩ := bindE hn
    obtain rfl := Option.some.inj hn
    have hm : m < xs.length := (List.getElem?_eq_some_iff.mp e2).1
    obtain ⟨T, h1, h2, h3⟩ := E.lol hs
    obtain ⟨p, hp⟩ : ∃ p, ps[m]? = some p := ⟨_, List.getElem?_eq_getElem (by omega)⟩
    have hj : ∀ (O : Os), O = X ++ lolOs ps xs → O[X.length + m]? = some ⟨p, true, r.map enc⟩ := fun O e => by
      rw [e, List.getElem?_append_right (by omega), Nat.add_sub_cancel_left]
      exact tow_get hp (by rw [List.getElem?_map, e2]; rfl)
    refine ⟨_, h1, hk.go E S fun y F1 H1 f1 E1 S1 r1 => ?_⟩
    cases r1
    refine ⟨T, ps.map .ref, n, .ref p, rfl, rfl, (f1.trans S1.fh).seq h2, ?_, ?_⟩
    · unfold L2.atI
      rw [List.length_map, show ps.length = xs.length by omega, e1]
      show (ps.map V.ref)[m]? = _
      rw [List.getElem?_map, hp]; rfl
    · obtain ⟨_, _, _, vs0, g0, _⟩ := S1.get (hj _ rfl)
      refine ⟨.inl ⟨rfl, _, .inl (.inl g0)⟩, h.go E1 S1 fun v F2 H2 f2 E2 S2 r2 => ?_⟩
      obtain ⟨g1, g2, g3, vs, g4, g5, g6⟩ := S2.get (hj _ rfl)
      have g4 : H2 p = some (.lst vs) := g4
      have g6 : RpAll K F2 vs (r.map enc) := g6
      have e3 := appO_map enc e3
      unfold appO at e3
      split at e3
      · rename_i hc
        have e3 := Option.some.inj e3
        have hz : vs.length < sizeLine := by rw [g6.length, sizeLine_eq]; exact hc
        have S3 := S2.mut (hj _ rfl) (vs := vs ++ [v]) (ds' := r'.map enc) (by rw [List.length_append, List.length_singleton]; omega) (by rw [← e3]; exact g6.append (.cons r2 .nil))
        have eO : (X ++ lolOs ps xs).set (X.length + m) ⟨p, true, r'.map enc⟩ = X ++ lolOs ps (xs.set m r') := by
          apply List.ext_getElem?
          intro j
          by_cases q : X.length + m = j
          · subst q
            rw [List.getElem?_set_self (by have := hj _ rfl; exact (List.getElem?_eq_some_iff.mp this).1), List.getElem?_append_right (by omega), Nat.add_sub_cancel_left]
            exact (tow_get hp (by rw [List.getElem?_map, List.getElem?_set_self hm]; rfl)).symm
          · rw [List.getElem?_set_ne q]
            rcases Nat.lt_or_ge j X.length with hx | hx
            · rw [List.getElem?_append_left hx, List.getElem?_append_left hx]
            · rw [List.getElem?_append_right hx, List.getElem?_append_right hx]
              unfold lolOs towOs
              rw [List.getElem?_zipWith, List.getElem?_zipWith, List.getElem?_map, List.getElem?_map, List.getElem?_set_ne (by omega)]
        rw [eO] at S3
        exact ⟨_, vs, v, rfl, rfl, g4, hz, k F2 _ (f1.trans f2) E2 S3⟩
      · cases e3
  · cases hn
end
/-! ### is True, is not True -/
def tIsB (c : Bool) (ta : TE) : TE := fun σ H Q => ta σ H fun x H1 => ∃ b, x = .bl b ∧ Q (.bl (b == c)) H1
def tNotB (c : Bool) (ta : TE) : TE := fun σ H Q => ta σ H fun x H1 => ∃ b, x = .bl b ∧ Q (.bl (b != c)) H1
section
open PyProof.Rows
variable {X : Cx} {a : Expr} {ta : TE}
theorem pc_isB {c : Bool} {j pos'} (ha : PE X a ta) : PC X .Is a (.Constant (.bool c) j pos') (tIsB c ta) := by
  refine ⟨fun pins s σ H Q I h => ?_⟩
  refine thn (ha.run pins s σ H _ I h) fun v s1 ⟨x, H1, I1, r1, b, e, q1⟩ => ?_
  subst e
  cases r1
  exact Constant_bool (is_bool ⟨.bl _, H1, I1, rfl, q1⟩)
theorem pc_notB {c : Bool} {j pos'} (ha : PE X a ta) : PC X .IsNot a (.Constant (.bool c) j pos') (tNotB c ta) := by
  refine ⟨fun pins s σ H Q I h => ?_⟩
  refine thn (ha.run pins s σ H _ I h) fun v s1 ⟨x, H1, I1, r1, b, e, q1⟩ => ?_
  subst e
  cases r1
  exact Constant_bool (isnot_bool ⟨.bl _, H1, I1, rfl, q1⟩)
end
section
variable {K : Fg} {ta : TE} {ρ : List Sl} {O O1 : Os}
theorem rx_isB {b c : Bool} (ha : RX K ta ρ O (.bool b) O1) : RX K (tIsB c ta) ρ O (.bool (b == c)) O1 := ⟨fun _ _ _ _ _ _ Q E S k => ha.go E S fun x F1 H1 f1 E1 S1 r1 => by
  cases r1
  exact ⟨b, rfl, k _ F1 H1 f1 S1 (.bl _)⟩⟩
theorem rx_notB {b c : Bool} (ha : RX K ta ρ O (.bool b) O1) : RX K (tNotB c ta) ρ O (.bool (b != c)) O1 := ⟨fun _ _ _ _ _ _ Q E S k => ha.go E S fun x F1 H1 f1 E1 S1 r1 => by
  cases r1
  exact ⟨b, rfl, k _ F1 H1 f1 S1 (.bl _)⟩⟩
end
end TL
namespace TL
open PySem L2
open Enc
theorem rx_some {K : Fg} {t : TE} {ρ : List Sl} {O O1 : Os} {o : Option Int} {v : Int} (h : o = some v) (ha : RX K t ρ O (enc o) O1) : RX K t ρ O (.int v) O1 := by
  subst h
  exact ha
end TL
namespace L2
open PySem
/-- a built-in type's method, within a comprehension, too -/
theorem pe_bmK (K : TL.Fg) {X : Cx} {T name id : String} {r : V → List V → Hp → VK → Prop} {o e : Expr} {es : List Expr} {to : TE} {t : TA} {apos cpos : Pos} (pa : PlainAttrs T) (slot : Slot T name id) (hty : typeOf (.builtin id) = pure (.type "method_descriptor")) (hm : MtR X id r) (ho : PE X o to) (ha : PA X (e :: es) t)
    (hK : X.K = K := by rfl)
    (hbase : attributeBase o name X.env (eval o X.env) = eval o X.env := by rfl)
    (hfew : ((backTo cpos (starEach (e :: es) X.env)).all (fun x => !x.1) && (backToKw cpos (keywordEach [] X.env)).all (fun x => x.1.isSome)
      && decide ((e :: es).length + ([] : List Keyword).length + (if ([] : List Keyword).isEmpty then 0 else 1) < 30)) = true := by rfl)
    (hline : (apos.endLine == cpos.line) = true := by rfl) (hs : starEach (e :: es) X.env = (false, eval e X.env) :: starEach es X.env := by rfl) (hplain : (backTo cpos (starEach es X.env)).any (·.1) = false := by rfl) :
    PE X (.Call (.Attribute o name apos) (e :: es) [] cpos) (tBM K T r to t) := by
  subst hK
  exact pe_bm pa slot hty hm ho ha hbase hfew hline hs hplain
end L2
namespace TL
open PySem L2
theorem pe_cal0 {X : Cx} {j k : Nat} {x : Str} {ps : List Str} {sp : Sp} {p pos : Pos} (C : Cal X.prog X.w X.K X.mg X.base j x ps sp) (hr : Room k X.A) (hjk : j ≤ k := by decide) (hg : Gl X x := by rfl) (hdb : (x == ("__debug__" : Str)) = false := by decide) :
    PE X (.Call (.Name x p) [] [] pos) (tCall sp [] L2.E0 tNil) := by
  obtain ⟨f, fd, F, hm, kp, b⟩ := C
  exact pe_call0 F (hr.mono hjk) hg hm kp b .nil pass0 hdb
end TL
namespace TL
open PySem L2
instance {α β γ : Type} [Enc α] [DecidableEq α] [EqD α] [EqT α] [Enc β] [DecidableEq β] [EqD β] [EqT β] [Enc γ] [DecidableEq γ] [EqD γ] [EqT γ] : EqT (T3 α β γ) := ⟨fun x => by
  show (EqD.ok x.a && (EqD.ok x.b && EqD.ok x.c)) = true
  rw [EqT.ok, EqT.ok, EqT.ok]; rfl⟩
end TL
namespace TL
open PySem L2
open Enc
theorem rx_opt {α : Type} [Enc α] {K : Fg} {t : TE} {ρ : List Sl} {O O1 : Os} {x : α} (h : RX K t ρ O (enc x) O1) : RX K t ρ O (enc (some x : Option α)) O1 := h
end TL
namespace TL
open PySem L2
section
variable {K : Fg} {te : TE} {t : TA} {ρ : List Sl} {O O1 : Os} {E0 : XK}
/-- a list just made is the one that is changed -/
theorem rx_callqN {R : List Sl → Addr → Addr → List PyData → List PyData → PyData → List PyData → Prop} {as : List Sl} {q : Addr} {nw' : Bool} {k : Nat} {c e c' : List PyData} {d : PyData} (h : RXo K te ρ O c O1) (ha : ∀ p, RA K t ρ (⟨p, true, c⟩ :: O1) as (⟨p, true, c⟩ :: O1))
    (hk : O1[k]? = some ⟨q, nw', e⟩) (hR : ∀ p, R (.adr p :: as) p q c e d c') : RX K (tCall (SpQ K R) [] E0 (tCons te t)) ρ O d O1 := ⟨fun _ _ _ _ _ _ Q E S kk => h.go E S fun p F0 H0 f0 E0 S0 => (ha p).go E0 S0 fun vs F1 H1 f1 E1 S1 r1 => by
  show SpQ K R (.ref p :: vs ++ []) H1 _ _
  rw [List.append_nil]
  have hj : (⟨p, true, c⟩ :: O1)[0]? = some ⟨p, true, c⟩ := rfl
  have hk' : (⟨p, true, c⟩ :: O1)[k + 1]? = some ⟨q, nw', e⟩ := hk
  obtain ⟨g1, g2, g3, xs, g4, g5, g6⟩ := S1.get hj
  obtain ⟨k1, k2, k3, ys, k4, k5, k6⟩ := S1.get hk'
  have ne : p ≠ q := fun z => absurd (nodup_at S1.nd (x := p) (i := 0) (j := k + 1) rfl (by rw [List.getElem?_map, hk', z]; rfl)) (by omega)
  exact ⟨F1, _, p, q, xs, ys, c, e, d, c', ⟨.adr r1, S1.fh⟩, ⟨g1, g4, g5, g6⟩, ⟨k1, k4, k5, k6⟩, ne, hR p, fun v F' H' xs' ys' st hp hq r => kk v F' H' ((f0.trans f1).trans st.ff) ((S1.call2 hj hk' st hp.2.1 hp.2.2.1 hp.2.2.2 hq.2.1 hq.2.2.1 hq.2.2.2).drop 0) r⟩⟩
theorem rx_calloN {O2 : Os} {R : List PyData → List PyData → PyData → List PyData → Prop} {c c' ds : List PyData} {d : PyData} (h : RXo K te ρ O c O1) (ha : ∀ p, RA K t ρ (⟨p, true, c⟩ :: O1) (ds.map .val) (⟨p, true, c⟩ :: O2)) (hR : R c ds d c') : RX K (tCall (SpPo K R) [] E0 (tCons te t)) ρ O d O2 :=
  ⟨fun _ _ _ _ _ _ Q E S kk => h.go E S fun p F0 H0 f0 E0 S0 => (ha p).go E0 S0 fun vs F1 H1 f1 E1 S1 r1 => by
  show SpPo K R (.ref p :: vs ++ []) H1 _ _
  rw [List.append_nil]
  have hj : (⟨p, true, c⟩ :: O2)[0]? = some ⟨p, true, c⟩ := rfl
  obtain ⟨g1, g2, g3, xs, g4, g5, g6⟩ := S1.get hj
  exact ⟨F1, p, _, xs, c, ds, d, c', rfl, r1.all, S1.fh, g1, g4, g5, g6, hR, fun v F' H' ys st h1 h2 h3 h4 r => kk v F' H' ((f0.trans f1).trans st.ff) ((S1.call1 hj st h2 h3 h4).drop 0) r⟩⟩
end
end TL

namespace TL
open PySem PySem.Spec PyProof.Rows L2
open Enc
/-! ### zip of a tuple and a list -/
/-- the tuple at a, the list at b, as they stand at each turn -/
def ItMxi (K : Fg) (a b : Addr) : It :=
  ⟨fun i H => ∃ (xs ys : List V) (x y : V), (SqT K H a xs ∧ SqL K H b ys) ∧ xs[i]? = some x ∧ ys[i]? = some y,
    fun i H v H' => ∃ T x y, (v = .ref T ∧ H T = none ∧ H' = upd H T (.tup [x, y])) ∧ (∀ xs, SqT K H a xs → xs[i]? = some x) ∧ ∀ ys, SqL K H b ys → ys[i]? = some y,
    fun i H => ∃ xs ys : List V, (SqT K H a xs ∧ SqL K H b ys) ∧ i ≤ xs.length ∧ i ≤ ys.length ∧ (xs.length = i ∨ ys.length = i)⟩
def mxiSt (z TI TO i1 i2 a b : Addr) (i : Nat) (h : Heap) : Prop := (IsZip h z TI TO .none ∧ IsPair h TI (.ref i1) (.ref i2)) ∧ (∃ x y, IsPair h TO x y) ∧ h.IsTupleIter i1 a i ∧ h.IsListIter i2 b i
theorem turn_mxi {P : Program} {w : World} {K : Fg} {elts : List Expr} {kk : Nat} {tpos : Pos} {a b z TI TO i1 i2 : Addr} (D : ZipApart z TI TO i1 i2 a b) :
    Turn P w K (.Tuple elts kk tpos) (ItMxi K a b) [z, TI, TO, i1, i2] z (mxiSt z TI TO i1 i2 a b) := by
  have sep := sep_mix D
  refine ⟨by simp, fun i h st c hc => ?_, fun i h h' st k => ?_, ?_, ?_, fun A i s Q E st q => wpAny_pyIter_zip st.1.1 q⟩
  · obtain ⟨⟨q1, q2⟩, ⟨x, y, q3⟩, ⟨o1, e1, _, d1⟩, o2, e2, _, d2⟩ := st
    rcases five hc with rfl | rfl | rfl | rfl | rfl
    · exact ⟨_, q1, fun v => nofun⟩
    · exact ⟨_, q2, fun v => nofun⟩
    · exact ⟨_, q3, fun v => nofun⟩
    · exact ⟨_, e1, fun v e => nomatch d1.symm.trans e⟩
    · exact ⟨_, e2, fun v e => nomatch d2.symm.trans e⟩
  · obtain ⟨⟨q1, q2⟩, ⟨x, y, q3⟩, q4, q5⟩ := st
    exact ⟨⟨k z (by simp) _ q1, k TI (by simp) _ q2⟩, ⟨x, y, k TO (by simp) _ q3⟩, q4.at fun o => k i1 (by simp) o, q5.at fun o => k i2 (by simp) o⟩
  · rintro X rfl rfl rfl hc i pins s σ H E I hf st ⟨xs, ys, x, y, ⟨hqx, hqy⟩, hx, hy⟩
    obtain ⟨⟨q1, q2⟩, ⟨x0, y0, q3⟩, q4, q5⟩ := st
    obtain ⟨its, rv, p, _⟩ := I.tuple hqx
    obtain ⟨its2, rv2, p2, _⟩ := I.list hqy
    obtain ⟨u, hu, ru⟩ := rv.get hx
    obtain ⟨u2, hu2, ru2⟩ := rv2.get hy
    have zlt : z < s.heap.objs.size := Heap.lt_size q1
    have hh : X.A.in1.handled = none := I.ok.hd hc
    refine wpAny_pyNext_zipD2_item sep (Draws.tuple hh i1 a D.l1i1 its.toArray) (Draws.list hh i2 b D.l2i2 its2.toArray) q1 q2 q3 ⟨q4, p⟩ ⟨q5, p2.isList⟩ (by simpa using (List.getElem?_eq_some_iff.mp hu).1) (by simpa using (List.getElem?_eq_some_iff.mp hu2).1) fun x1 x2 h' tk e1 e2 z' TO' n1 n2 hT hsz hk => ?_
    have ex1 : x1 = u := Option.some.inj (e1.symm.trans (by simpa using hu))
    have ex2 : x2 = u2 := Option.some.inj (e2.symm.trans (by simpa using hu2))
    subst ex1
    subst ex2
    refine ⟨_, rfl, wpAny_letOwnedTupleGo_zip (s := { s with heap := h', toks := tk }) z' fun h2 z2 sb => ?_⟩
    have hT2 : h2.get? s.heap.objs.size = some { cls := .type "tuple", data := .seq #[x1, x2] } := (sb.2 _ (Nat.ne_of_gt zlt)).trans hT
    have new : ObjOk X.prog X.w (upd H s.heap.objs.size (.tup [x, y])) h2 s.heap.objs.size (.tup [x, y]) := ⟨by show 2 ≤ sizeLine; decide, [x1, x2], .cons ru (.cons ru2 .nil), ⟨_, hT2, rfl, _, rfl⟩⟩
    have I1 : Inv X pins σ (upd H s.heap.objs.size (.tup [x, y])) { s with heap := h2, toks := tk } := I.turnedNew (t' := tk) (ch := [z, TI, TO, i1, i2]) (fun c o hb q => by
      obtain ⟨c1, c2, c3, c4⟩ := out5 hb
      exact (sb.2 c c1).trans (hk c o c1 c2 c3 c4 q)) hf (Nat.le_refl _) new
    refine ⟨.ref s.heap.objs.size, _, I1, rfl, ⟨_, x, y, ⟨rfl, I.hok.fresh (Nat.le_refl _), rfl⟩, fun l hl => by rw [I.tuple_inj hl hqx]; exact hx, fun l hl => by rw [I.list_inj hl hqy]; exact hy⟩, ⟨⟨z2, ?_⟩, ⟨x1, x2, ?_⟩, ?_, ?_⟩, fun c hcm => ?_⟩
    · exact (sb.2 TI D.TIz).trans (hk TI _ D.TIz D.TITO D.TIi1 D.TIi2 q2)
    · exact (sb.2 TO D.TOz).trans TO'
    · exact n1.1.at fun o q => (sb.2 i1 D.i1z).trans q
    · exact n2.1.at fun o q => (sb.2 i2 D.i2z).trans q
    · have hlt : c < s.heap.objs.size := by
        rcases five hcm with rfl | rfl | rfl | rfl | rfl
        · exact zlt
        · exact Heap.lt_size q2
        · exact Heap.lt_size q3
        · obtain ⟨_, e, _⟩ := q4; exact Heap.lt_size e
        · obtain ⟨_, e, _⟩ := q5; exact Heap.lt_size e
      rw [upd_ne (Nat.ne_of_lt hlt)]
      exact (hf c hcm).1
  · rintro X rfl rfl rfl hc i pins s σ H E I hf st ⟨xs, ys, ⟨hqx, hqy⟩, l1, l2, hend⟩
    obtain ⟨⟨q1, q2⟩, ⟨x0, y0, q3⟩, q4, q5⟩ := st
    obtain ⟨its, rv, p, _⟩ := I.tuple hqx
    obtain ⟨its2, rv2, p2, _⟩ := I.list hqy
    have e1 := rv.length
    have e2 := rv2.length
    have hh : X.A.in1.handled = none := I.ok.hd hc
    refine wpAny_pyNext_zipD2_end sep (Draws.tuple hh i1 a D.l1i1 its.toArray) (Draws.list hh i2 b D.l2i2 its2.toArray) q1 q2 q3 ⟨q4, p⟩ ⟨q5, p2.isList⟩ (by simp; omega) (by simp; omega) (by simp; omega) fun h' tk hk => ?_
    refine ⟨rfl, I.turnedL (t' := tk) (ch := [z, TI, TO, i1, i2]) (fun c o hb q => ?_) hf⟩
    obtain ⟨c1, c2, c3, c4⟩ := out5 hb
    exact hk c o c1 c2 c3 c4 q
def iMxi (K : Fg) (ta : TA) : TI := fun σ H R => ta σ H fun vs H1 => ∃ a b xs ys, vs = [.ref a, .ref b] ∧ (SqT K H1 a xs ∧ SqL K H1 b ys) ∧ R (ItMxi K a b) H1
theorem k_pi_mxi {X : Cx} (K : Fg) {e e2 : Expr} {ta : TA} {p pos tpos : Pos} {elts : List Expr} {kk : Nat} (hg : Gl X "zip") (hm : X.mg "zip" = none) (ha : PA X [e, e2] ta)
    (hs : starEach [e, e2] X.env = (false, eval e X.env) :: starEach [e2] X.env := by rfl) (hpl : (backTo pos (starEach [e2] X.env)).any (·.1) = false := by rfl) (hK : X.K = K := by rfl) :
    PI X (.Tuple elts kk tpos) (.Call (.Name "zip" p) [e, e2] [] pos) (iMxi K ta) := by
  subst hK
  refine ⟨fun pins s σ H R I h => ?_⟩
  refine Call_ (ld_blt I hg hm PyProof.Rows.boot_zip (PyProof.Rows.callWith_type1 (thn (ha.run pos pins s σ H _ I h) fun us s1 ⟨vs, H1, I1, r1, q1⟩ => ?_) hs hpl))
  obtain ⟨a, b, xs, ys, ex, ⟨hqx, hqy⟩, q⟩ := q1
  subst ex
  cases r1 with
  | cons r rr =>
   cases rr with
   | cons r' rr =>
    cases rr
    cases r
    cases r'
    obtain ⟨its, rv, p1, _⟩ := I1.tuple hqx
    obtain ⟨its2, rv2, p2, _⟩ := I1.list hqy
    obtain ⟨o2, ho2, p3⟩ := id p1
    have lt1 := Heap.lt_size ho2
    have lt2 := p2.lt
    refine zip_begins2 (begins_tuple a its.toArray) (begins_list b its2.toArray) p1 p2.isList fun h' hz hTI hTO g1 g2 hsz hk => wpAny_pyIter_zip hz ?_
    have I2 : Inv X pins σ H1 { s1 with heap := h' } := I1.kept (t' := s1.toks) hk
    refine ⟨s1.heap.objs.size + 4, [s1.heap.objs.size + 4, s1.heap.objs.size + 2, s1.heap.objs.size + 3, s1.heap.objs.size, s1.heap.objs.size + 1], _, _, H1, rfl, I2, turn_mxi (PySem.W.ktu_apart s1.heap.objs.size a b lt1 lt2), ⟨⟨hz, hTI⟩, ⟨_, _, hTO⟩, ⟨_, g1, rfl, rfl⟩, ⟨_, g2, rfl, rfl⟩⟩, fun c hcm => ?_, q⟩
    have hle : s1.heap.objs.size ≤ c := by
      rcases five hcm with rfl | rfl | rfl | rfl | rfl
      · exact Nat.le_add_right _ _
      · exact Nat.le_add_right _ _
      · exact Nat.le_add_right _ _
      · exact Nat.le_refl _
      · exact Nat.le_add_right _ _
    exact I1.fpOk hle (I1.hok.fresh hle)
section
variable {K : Fg} {ta tb : TE} {ρ : List Sl} {O O1 O2 : Os}
theorem ri_mxi {ys zs : List PyData} (h : RX K ta ρ O (.tuple ys) O1) (h' : RX K tb ρ O1 (.list zs) O2) : RI K (iMxi K (tCons ta (tCons tb tNil))) ρ O (zipD ys zs) O2 := ⟨fun F0 H0 D0 σ F H R E S k => by
    refine h.go E S fun x F1 H1 f1 E1 S1 r1 => h'.go E1 S1 fun y F2 H2 f2 E2 S2 r2 => ?_
    have r1' := r1.up f2
    cases r1' with
    | @tup a xs _ q1 q2 q3 =>
     cases r2 with
     | @lst b ws _ p1 p2 p3 =>
      have s1 : ∀ {G0 J0 : Hp} {D1 : List Addr} {F : Hp} {O : Os} {H : Hp}, Same F2 F → Hx K G0 J0 D1 F O H → SqT K H a xs ∧ SqL K H b ws := fun f S => ⟨same_t (f.trans S.fh) q1, (f.trans S.fh).seq p1⟩
      refine ⟨a, b, xs, ws, rfl, s1 (Same.refl _) S2, ?_⟩
      have hl : (zipD ys zs).length = min xs.length ws.length := by unfold zipD; rw [List.length_map, List.length_zip, q3.length, p3.length]
      refine k _ F2 H2 (f1.trans f2) S2 ⟨by omega, fun _ _ _ F O H i hi f S => ?_, fun _ _ _ F O H f S => ⟨xs, ws, s1 f S, by omega, by omega, by omega⟩, fun _ _ _ F O H i x H' hi f S y => ?_⟩
      · have h1 : i < xs.length := by omega
        have h2 : i < ws.length := by omega
        exact ⟨xs, ws, xs[i], ws[i], s1 f S, by simp [h1], by simp [h2]⟩
      · obtain ⟨T, u, v, ⟨eu, hT, eT⟩, y1, y2⟩ := y
        subst eu
        subst eT
        obtain ⟨d, e, r⟩ := (q3.up f).getV (y1 xs (s1 f S).1)
        obtain ⟨d', e', r'⟩ := (p3.up f).getV (y2 ws (s1 f S).2)
        obtain ⟨F3, f3, S3, r3⟩ := pair_put S hT r r'
        refine ⟨F3, _, f3, S3, ?_, r3⟩
        unfold zipD
        have ez : (ys.zip zs)[i]? = some (d, d') := List.getElem?_zip_eq_some.mpr ⟨e, e'⟩
        rw [List.getElem?_map, ez]
        rfl⟩
theorem ri_mxiM {α β : Type} [Enc α] [Enc β] {xs : List α} {ys : List β} (h : RX K ta ρ O (.tuple (xs.map enc)) O1) (h' : RX K tb ρ O1 (.list (ys.map enc)) O2) : RI K (iMxi K (tCons ta (tCons tb tNil))) ρ O ((xs.zip ys).map enc) O2 := by
  have e : (xs.zip ys).map enc = zipD (xs.map enc) (ys.map enc) := by
    unfold zipD
    rw [List.zip_map, List.map_map]
    rfl
  rw [e]
  exact ri_mxi h h'
end
end TL
namespace PySem
open PyProof.Rows
section
variable {prog : Program} {w : World} {A : Around} {E : Value → Shared → Prop} {s : Shared} {l : Addr} {xs : Array (Int × Tok)}
theorem sum_intTupG {Q : Value → Shared → Prop} (hh : A.handled = none) (hl : s.heap.IsTuple l (intItems xs))
    (h : ∀ h' tk t', (∀ b o, s.heap.get? b = some o → h'.get? b = some o) → Q (.int (preSum (numAt xs) xs.size) t') { s with heap := h', toks := tk }) :
    wpAny (model prog w) A (call (.builtin "sum") [.ref l]) Q E s := by
  have hlt : l < s.heap.objs.size := by obtain ⟨o, e, _⟩ := hl; exact Heap.lt_size e
  refine call_sum_walkG (wpAny_pyIter_tuple hl ?_)
  refine ⟨_, [s.heap.objs.size, l], [_], _, _, _, numAt xs, rfl, Walks.tuple (A := A.in1) hh _ l (Nat.ne_of_lt hlt) (intItems xs), ⟨⟨_, Heap.get?_push_size _ rfl, rfl, rfl⟩, hl.push _⟩, fun c hc => ?_, fun _ _ => intItems_at, fun h' tk t' hk => ?_⟩
  · show c < (s.heap.push _).objs.size
    rw [Heap.size_push]
    rcases List.mem_cons.mp hc with rfl | hc
    · exact Nat.lt_succ_self _
    · rcases List.mem_cons.mp hc with rfl | hc
      · exact Nat.lt_succ_of_lt hlt
      · cases hc
  · have := h h' tk t' fun b o e => hk b o (fun hm => by
      rcases List.mem_cons.mp hm with e1 | hm
      · have := Heap.lt_size e; rw [e1] at this; exact Nat.lt_irrefl _ this
      · cases hm) (Heap.get?_push_of_some _ e)
    simpa [intItems] using this
end
end PySem
namespace L2
open PySem PyProof.Rows
section
variable {prog : Program} {w : World} {A : Around} {E : Value → Shared → Prop} {s : Shared} {l : Addr} {its : List Value} {ns : List Int} {Q : Value → Shared → Prop}
theorem sum_rawT (hh : A.handled = none) (hl : s.heap.IsTuple l its.toArray) (hi : IntsAre its ns)
    (h : ∀ h' tk t', (∀ b o, s.heap.get? b = some o → h'.get? b = some o) → Q (.int ns.sum t') { s with heap := h', toks := tk }) : wpAny (model prog w) A (call (.builtin "sum") [.ref l]) Q E s := by
  obtain ⟨xs, e⟩ := hi.allInts.items
  have hn : numsOf (intItems xs).toList = ns := by rw [← e]; exact hi.numsOf
  rw [nums_intItems] at hn
  rw [e] at hl
  refine PySem.sum_intTupG hh hl fun h' tk t' hk => ?_
  have := h h' tk t' hk
  rw [preSum_eq, List.take_of_length_le (by simp), hn]; exact this
end
def rSumT (K : PySem.W.Frag) : List V → Hp → VK → Prop := fun vs H Q => ∃ (a : Addr) (ns : List Int), vs = [V.ref a] ∧ SqT K H a (ns.map V.int) ∧ Q (.int ns.sum) H
theorem cr_sumT {X : Cx} (hc : X.calm = true) : CallR X (.builtin "sum") (rSumT X.K) := by
  intro pins s σ H vs us Q I r h
  obtain ⟨a, ns, rfl, hs, q⟩ := h
  obtain ⟨its, rv, hl, _⟩ := I.tuple hs
  rw [Vals.ref1 r]
  exact sum_rawT (I.ok.hd hc) hl rv.ints fun h' tk t' hk => ⟨.int _, H, I.kept hk, ⟨_, rfl⟩, q⟩
end L2
namespace TL
open PySem L2
open Enc
theorem k_sumT {X : Cx} (K : Fg) (hc : X.calm = true) (hK : X.K = K := by rfl) : CallR X (.builtin "sum") (rSumT K) := by subst hK; exact cr_sumT hc
section
variable {K : Fg} {ta tb tc : TE} {ρ : List Sl} {O O1 O2 : Os} {F0 H0 F H : Hp} {D0 : List Addr} {σ : L2.St}
theorem rx_sumT {ns : List Int} (ha : RX K ta ρ O (.tuple (ns.map .int)) O1) : RX K (tCB (rSumT K) (tCons ta tNil)) ρ O (.int ns.sum) O1 := ⟨fun _ _ _ _ _ _ Q E S k => ha.go E S fun x F1 H1 f1 E1 S1 r1 => by
  cases r1 with
  | tup q1 q2 q3 =>
    have e := q3.ints
    subst e
    exact ⟨_, ns, rfl, same_t S1.fh q1, k _ F1 H1 f1 S1 (.int _)⟩⟩
/-! ### a written dict of reckoned ints by texts -/
inductive RPs (K : Fg) (ρ : List Sl) (O : Os) : List (TE × TE) → List (Str × Int) → Prop
  | nil : RPs K ρ O [] []
  | cons {x : Str} {i : Int} {tv : TE} {trs : List (TE × TE)} {kvs : List (Str × Int)} : RX K tv ρ O (.int i) O → RPs K ρ O trs kvs → RPs K ρ O ((tC (.str x), tv) :: trs) ((x, i) :: kvs)
theorem RPs.run {trs : List (TE × TE)} {kvs : List (Str × Int)} (h : RPs K ρ O trs kvs) : ∀ {F0 H0 : Hp} {D0 : List Addr} {F H : Hp} {Q : List (V × V) → Hp → Prop}, EnvR K F σ ρ → Hx K F0 H0 D0 F O H →
    (∀ F' H', Same F F' → Hx K F0 H0 D0 F' O H' → Q (kvs.map fun p => (V.str p.1, V.int p.2)) H') → tPairs trs σ H Q := by
  induction h with
  | nil => intro F0 H0 D0 F H Q E S k; exact k F H (Same.refl _) S
  | @cons x i tv trs kvs h1 _ ih =>
    intro F0 H0 D0 F H Q E S k
    show tC (.str x) σ H fun y H1 => tv σ H1 fun z H2 => tPairs trs σ H2 fun ps H3 => Q ((y, z) :: ps) H3
    refine h1.go E S fun v F1 H1 f1 E1 S1 r1 => ?_
    cases r1
    exact ih E1 S1 fun F2 H2 f2 S2 => k F2 H2 (f1.trans f2) S2
theorem merge_go (kvs : List (Str × Int)) : ∀ acc : List (Str × Int), ((acc ++ kvs).map (·.1)).Nodup → mergeK (litV acc) (litV kvs) = litV (acc ++ kvs) := by
  induction kvs with
  | nil => intro acc _; rw [List.append_nil]; rfl
  | cons p kvs ih =>
    intro acc h
    have e : putK (litV acc) (Sum.inr p.1 : Key) (V.int p.2) = litV (acc ++ [p]) := by
      unfold putK
      rw [if_neg]
      · unfold litV; rw [List.map_append]; rfl
      · intro z
        obtain ⟨q, hq, e⟩ := List.any_eq_true.mp z
        obtain ⟨a, ha, rfl⟩ := List.mem_map.mp hq
        have e : (Sum.inr a.1 : Key) = Sum.inr p.1 := of_decide_eq_true e
        have e : a.1 = p.1 := Sum.inr.inj e
        rw [List.map_append, List.nodup_append] at h
        exact h.2.2 a.1 (List.mem_map.mpr ⟨a, ha, rfl⟩) p.1 (by simp) e
    show mergeK (putK (litV acc) (Sum.inr p.1 : Key) (V.int p.2)) (litV kvs) = _
    rw [e, ih (acc ++ [p]) (by rw [List.append_assoc]; exact h), List.append_assoc]
    rfl
theorem EnvR.dii {i : Nat} {kvs : List (Str × Int)} (h : EnvR K F σ ρ) (e : ρ[i]? = some (.dii kvs)) : ∃ t, σ[i]? = some (some (.ref t)) ∧ F t = some (.dK (litI kvs)) := by
  obtain ⟨s, h1, t, rfl, h2⟩ := h.at e
  exact ⟨t, h1, h2⟩
variable {D : Ends}
theorem st_setDI {i : Nat} {trs : List (TE × TE)} {kvs : List (Str × Int)} (h : RPs K ρ O trs kvs) (hl : kvs.length ≤ 15) (hm : (kvs.map (·.1)).Nodup) (E : EnvR K F σ ρ) (S : Hx K F0 H0 D0 F O H)
    (k : ∀ σ' F' H', Same F F' → EnvR K F' σ' (ρ.set i (.dii kvs)) → Hx K F0 H0 D0 F' O H' → D.nx σ' H') : tAsg (tDisp trs) (gName i) D σ H := by
  intro p hp
  have hF := S.nof hp
  have h0 := S.noh0 hp
  have hO : ∀ e ∈ O, e.a ≠ p := fun e he q => by
    obtain ⟨_, _, _, vs, g4, _⟩ := S.own e he
    rw [q, hp] at g4
    cases g4
  obtain ⟨H1, D1, Sf, kp, back⟩ := (S.junk (o := .dK []) hp).fr2
  obtain ⟨ka, kb⟩ := kp p _ upd_same hO
  refine h.run E Sf fun F2 H2 f2 S2 => ?_
  have d2 := S2.keep p _ ka kb
  have n2 := S2.new p _ ka hF
  have S2 := back _ _ _ S2
  refine ⟨d2, litI kvs, ?_, ?_, ?_⟩
  · unfold litI; rw [List.map_map]; rfl
  · unfold litI; rw [List.length_map]; exact hl
  · have e : mergeK [] (litI kvs) = litI kvs := merge_go kvs [] hm
    rw [e]
    have S3 := (S2.hold (o := .dK (litI kvs)) n2 h0 hO).pin n2 h0 hO upd_same
    have f3 := same_upd (o := .dK (litI kvs)) n2
    exact k _ _ _ (f2.trans f3) (EnvR.set (s := some (.ref p)) (r := .dii kvs) ⟨p, rfl, upd_same⟩ i (E.up (f2.trans f3))) S3
/-- d.get(k, x) -/
theorem rx_dii {i : Nat} {kvs : List (Str × Int)} {x : Str} {d : Int} (hs : ρ[i]? = some (.dii kvs)) (hk : RX K tb ρ O (.str x) O1) (hd : RX K tc ρ O1 (.int d) O2) : RX K (tDGet2 (tVar i) tb tc) ρ O (.int ((dlit kvs x).getD d)) O2 := ⟨fun _ _ _ _ _ _ Q E S kk => by
  obtain ⟨t, h1, h2⟩ := E.dii hs
  refine ⟨_, h1, t, rfl, .inl ⟨_, .inl (S.fh _ _ h2)⟩, hk.go E S fun y F1 H1 f1 E1 S1 r1 => hd.go E1 S1 fun z F2 H2 f2 E2 S2 r2 => ?_⟩
  cases r1
  cases r2
  have hp2 : H2 t = some (.dK (litV kvs)) := S2.fh _ _ (f2 _ _ (f1 _ _ h2))
  refine ⟨_, DGet.k (k := Sum.inr x) hp2, ?_⟩
  rw [valV_lit]
  have e : (((dlit kvs x).map V.int).getD (V.int d)) = V.int ((dlit kvs x).getD d) := by cases dlit kvs x <;> rfl
  rw [e]
  exact kk _ F2 H2 (f1.trans f2) S2 (.int _)⟩
end
end TL

namespace TL
open PySem L2
open Enc
/-! ### answers of bears, read -/
def ansHd : Ans → Str
  | .a1 s => s
  | .a3 s _ _ => s
def ansT : Ans → Option (Tp Int)
  | .a1 _ => none
  | .a3 _ t _ => some t
def ansN : Ans → Option (Option Int)
  | .a1 _ => none
  | .a3 _ _ n => some n
def ansLen : Ans → Int
  | .a1 _ => 1
  | .a3 _ _ _ => 3
section
variable {K : Fg} {ta : TE} {ρ : List Sl} {O O1 : Os}
theorem rx_ans0 {a : Ans} (h : RX K ta ρ O (enc a) O1) : RX K (tOp (rIxT K) ta (tC (.int 0))) ρ O (.str (ansHd a)) O1 := by
  cases a with
  | a1 s => exact rx_ixT (ds := [.str s]) rfl h rx_int
  | a3 s t n => exact rx_ixT (ds := [.str s, enc t, enc n]) rfl h rx_int
theorem rx_ans1 {a : Ans} {t : Tp Int} (e : ansT a = some t) (h : RX K ta ρ O (enc a) O1) : RX K (tOp (rIxT K) ta (tC (.int 1))) ρ O (enc t) O1 := by
  cases a with
  | a1 s => cases e
  | a3 s t' n =>
    cases e
    exact rx_ixT (ds := [.str s, enc t, enc n]) rfl h rx_int
theorem rx_ans2 {a : Ans} {n : Option Int} (e : ansN a = some n) (h : RX K ta ρ O (enc a) O1) : RX K (tOp (rIxT K) ta (tC (.int 2))) ρ O (enc n) O1 := by
  cases a with
  | a1 s => cases e
  | a3 s t' n' =>
    cases e
    exact rx_ixT (ds := [.str s, enc t', enc n]) rfl h rx_int
theorem rx_ansLen {a : Ans} (h : RX K ta ρ O (enc a) O1) : RX K (tCB (rLenQ K) (tCons ta tNil)) ρ O (.int (ansLen a)) O1 := by
  cases a with
  | a1 s => exact rx_lenT (ds := [.str s]) h
  | a3 s t n => exact rx_lenT (ds := [.str s, enc t, enc n]) h
theorem rx_isiA {a : Ans} {c : String} {r : Bool} (ha : RX K ta ρ O (enc a) O1) (h : kitB "tuple" c = some r) : RX K (tCB (rIsi K) (tCons ta (tCons (tC (.ty c)) tNil))) ρ O (.bool r) O1 := by
  cases a with
  | a1 s => exact rx_isi ha (kit_at (t := "tuple") rfl h)
  | a3 s t n => exact rx_isi ha (kit_at (t := "tuple") rfl h)
end
instance : EqD (Option (Tp Int)) := ⟨fun _ => true, fun x y => by
  cases x with
  | none =>
    cases y with
    | none => simp [enc, encO, PyData.eqv]
    | some b => simp [enc, encO, PyData.eqv]
  | some a =>
    cases y with
    | none => simp [enc, encO, PyData.eqv]
    | some b =>
      show PyData.eqv (enc a) (enc b) = _
      rw [EqD.eqv]
      exact decide_eq_decide.mpr ⟨fun h => congrArg some h, fun h => Option.some.inj h⟩, EqD.dp (Tp Int), fun x => by
  cases x with
  | none => exact Nat.zero_le _
  | some a => exact EqD.dep a, fun x _ => by
  cases x with
  | none => rfl
  | some a => exact EqD.lay a (EqT.ok a)⟩
instance : EqT (Option (Tp Int)) := ⟨fun _ => rfl⟩
/-! ### an own list is walked within a comprehension -/
section
variable {K : Fg} {ρ : List Sl} {O : Os} {α β : Type} {eα : α → PyData} {eβ : β → PyData} {g : TG} {tt : TT} {te : TE} {vs : List Nat} {xs : List α}
theorem rxo_filtW {i j : Nat} {a : Addr} {nw : Bool} {p : α → Option Bool} {f : α → Option β} {zs : List β} (ρx : α → List Sl) (ts : List Nat) (hs : ρ[i]? = some (.adr a)) (ho : O[j]? = some ⟨a, nw, xs.map eα⟩) (hf : filtO p f xs = some zs) (hts : ∀ t ∈ ts, t ∈ vs)
    (hg : ∀ x ∈ xs, RG K g (eα x) (wipeS ρ vs) (ρx x) ts) (ht : ∀ x ∈ xs, ∀ b, p x = some b → ∀ D acc, RT K tt (ρx x) (⟨D, true, acc⟩ :: O) b (⟨D, true, acc⟩ :: O))
    (he : ∀ x ∈ xs, ∀ y, f x = some y → ∀ D acc, RX K te (ρx x) (⟨D, true, acc⟩ :: O) (eβ y) (⟨D, true, acc⟩ :: O)) : RXo K (tLc (iList K (tVar i)) g tt te vs) ρ O (zs.map eβ) O := ⟨fun F0 H0 D0 σ F1 H1 Q E1 S1 k => by
  have ha := E1.adr hs
  obtain ⟨_, _, _, us0, k4, k5, k6⟩ := S1.get ho
  refine ⟨_, ha, a, rfl, ⟨us0, SqL.of k4⟩, ?_⟩
  have hlx : us0.length = xs.length := by
    have k6 : RpAll K F1 us0 (xs.map eα) := k6
    rw [k6.length, List.length_map]
  intro D hD
  have W : Walk (Itl K a) xs.length (fun H => ∃ F acc, Same F1 F ∧ Hx K F0 H0 D0 F (⟨D, true, acc⟩ :: O) H) (fun i H x H' => H' = H ∧ ∀ F acc, Same F1 F → Hx K F0 H0 D0 F (⟨D, true, acc⟩ :: O) H → ∃ y, xs[i]? = some y ∧ Rp K F x (eα y)) := by
    have own : ∀ {F : Hp} {acc : List PyData} {H : Hp}, Hx K F0 H0 D0 F (⟨D, true, acc⟩ :: O) H → ∃ us, SqL K H a us ∧ RpAll K F us (xs.map eα) := fun {F acc H} S => by
      obtain ⟨_, _, _, us, g4, _, g6⟩ := S.get (j := j + 1) (q := ⟨a, nw, xs.map eα⟩) ho
      exact ⟨us, SqL.of g4, g6⟩
    refine ⟨fun i H hi q => ?_, fun H q => ?_, fun i H x H' hi _ y => ?_⟩
    · obtain ⟨F, acc, f, S⟩ := q
      obtain ⟨us, h1, h2⟩ := own S
      have hu : i < us.length := by rw [h2.length, List.length_map]; exact hi
      exact ⟨us, us[i], h1, List.getElem?_eq_getElem hu⟩
    · obtain ⟨F, acc, f, S⟩ := q
      obtain ⟨us, h1, h2⟩ := own S
      exact ⟨us, h1, by rw [h2.length, List.length_map]; exact Nat.le_refl _⟩
    · obtain ⟨e, y⟩ := y
      refine ⟨e, fun F acc f S => ?_⟩
      obtain ⟨us, h1, h2⟩ := own S
      obtain ⟨d, e1, r⟩ := h2.getV (y us h1)
      rw [List.getElem?_map] at e1
      cases e2 : xs[i]? with
      | none => rw [e2] at e1; cases e1
      | some z =>
        rw [e2] at e1
        have e3 : eα z = d := Option.some.inj e1
        subst e3
        exact ⟨z, rfl, r⟩
  refine lc_it W (fun i H => ∃ F acc zr, Same F1 F ∧ Hx K F0 H0 D0 F (⟨D, true, acc⟩ :: O) H ∧ filtO p f (xs.drop i) = some zr ∧ acc ++ zr.map eβ = zs.map eβ ∧ acc.length ≤ i) ⟨F1, [], zs, Same.refl _, S1.mine hD (Nat.zero_le _) .nil, hf, rfl, Nat.le_refl _⟩
    (fun i H _ q => by obtain ⟨F, acc, zr, q1, q2, _⟩ := q; exact ⟨F, acc, q1, q2⟩) (fun i x H H' hi q y => ?_) (fun H q => ?_)
  · obtain ⟨F, acc, zr, q1, q2, q3, q4, q5⟩ := q
    obtain ⟨eH, y⟩ := y
    subst eH
    obtain ⟨z, ez, rz⟩ := y F acc q1 q2
    have hm : z ∈ xs := List.mem_of_getElem? ez
    have hi' : xs[i] = z := by
      rw [List.getElem?_eq_getElem hi] at ez
      exact Option.some.inj ez
    rw [List.drop_eq_getElem_cons hi, hi'] at q3
    obtain ⟨b, eb, q3⟩ := bindE q3
    refine (hg z hm).run _ F H' x _ ((E1.wipe vs).up q1) rz q2.fh fun σ' E' wq => ⟨(wq vs hts).trans (wipe_wipe σ vs), (ht z hm b eb D acc).go E' q2 fun F3 H3 f3 E3 S3 => ?_⟩
    cases b with
    | true =>
      have q3 : ((f z).bind fun y => (filtO p f (xs.drop (i + 1))).bind fun ys => some (y :: ys)) = some zr := q3
      obtain ⟨v, ev, q3⟩ := bindE q3
      obtain ⟨zr', ezr, q3⟩ := bindE q3
      obtain rfl := Option.some.inj q3
      refine iteT ((he z hm v ev D acc).go E3 S3 fun u F4 H4 f4 E4 S4 r4 => ?_)
      obtain ⟨g1, g2, g3, us, g4, g5, g6⟩ := S4.get (j := 0) (q := ⟨D, true, acc⟩) rfl
      have g4' : H4 D = some (.lst us) := g4
      have gl : us.length = acc.length := RpAll.length g6
      have hlt : us.length < sizeLine := by omega
      refine ⟨us, g4', hlt, F4, acc ++ [eβ v], zr', (q1.trans f3).trans f4, ?_, ezr, ?_, ?_⟩
      · exact S4.mut (j := 0) (l := D) (nw := true) (ds := acc) (ds' := acc ++ [eβ v]) rfl (by rw [List.length_append, List.length_singleton]; omega) (RpAll.append g6 (.cons r4 .nil))
      · rw [← q4, List.map_cons, List.append_assoc]
        rfl
      · rw [List.length_append, List.length_singleton]; omega
    | false =>
      have q3 : filtO p f (xs.drop (i + 1)) = some zr := q3
      exact iteF ⟨F3, acc, zr, q1.trans f3, S3, q3, q4, by omega⟩
  · obtain ⟨F, acc, zr, q1, q2, q3, q4, q5⟩ := q
    rw [List.drop_length] at q3
    have q3 : (some [] : Option (List β)) = some zr := q3
    obtain rfl := Option.some.inj q3
    rw [List.map_nil, List.append_nil] at q4
    rw [← q4] at k
    exact k D F H q1 q2⟩
end
end TL
namespace TL
open PySem L2
open Enc
/-! ### a list of two unlike things -/
structure L2p (α β : Type) where
  a : α
  b : β
  deriving DecidableEq
@[reducible] instance {α β : Type} [Enc α] [Enc β] : Enc (L2p α β) := ⟨fun p => .list [enc p.a, enc p.b]⟩
section
variable {K : Fg} {ta : TE} {ρ ρ' : List Sl} {O O1 : Os}
theorem rg_lst {gs : TGs} {n : Nat} {ds : List PyData} {ts : List Nat} (h : RGs K gs ds ρ ρ' ts) (hn : ds.length = n := by rfl) : RG K (gLst K n gs) (.list ds) ρ ρ' ts := ⟨fun σ F H v Q E r f k => by
  cases r with
  | lst q1 q2 q3 => exact ⟨_, _, rfl, f.seq q1, by rw [q3.length, hn], h.run σ F H _ Q E q3 f k⟩⟩
theorem rx_to {d e : PyData} (q : d = e) (h : RX K ta ρ O d O1) : RX K ta ρ O e O1 := q ▸ h
end
end TL

/-! sorted(set(t)) of a tuple of ints -/
namespace L2
open PySem PySem.Spec PyProof.Rows
def tSortSet (K : PySem.W.Frag) (ta : TE) : TE := fun σ H Q => ta σ H fun x H1 => ∃ (p : Addr) (ns : List Int), x = V.ref p ∧ SqT K H1 p (ns.map V.int) ∧ ns.length < 64 ∧ ∀ (out : List Int) (q : Addr), out.Pairwise (· < ·) → (∀ k : Int, k ∈ out ↔ k ∈ ns) → H1 q = none → Q (.ref q) (upd H1 q (.lst (out.map V.int)))
section
variable {X : Cx}
theorem pe_sortSet {a : Expr} {ta : TE} {p p2 q pos : Pos} (hc : X.calm = true) (hg : Gl X "sorted") (hm : X.mg "sorted" = none) (hg2 : Gl X "set") (hm2 : X.mg "set" = none) (ha : PE X a ta)
    (na : starEach [a] X.env = (false, eval a X.env) :: starEach [] X.env := by rfl) : PE X (.Call (.Name "sorted" p) [.Call (.Name "set" p2) [a] [] q] [] pos) (tSortSet X.K ta) := by
  refine ⟨fun pins s σ H Q I h => ?_⟩
  refine Call_ (ld_blt I hg hm PyProof.Rows.boot_sorted ?_)
  refine PyProof.Rows.callWith_builtin1 (PyProof.Rows.args_cons ?_ rfl) rfl rfl
  refine Call_ (ld_blt I hg2 hm2 PyProof.Rows.boot_set ?_)
  refine PyProof.Rows.callWith_type1 (PyProof.Rows.args_cons (thn (ha.run pins s σ H _ I h) fun v s1 ⟨x, H1, I1, r1, q1⟩ => PyProof.Rows.args_nil ?_) na) na rfl
  obtain ⟨l, ns, rfl, hq, h64, q1⟩ := q1
  cases r1
  obtain ⟨its, rv, pt, hz⟩ := I1.tuple hq
  have hi : IntsAre its.toArray.toList ns := ints_of_vals rv
  have hd := I1.ok.hd hc
  refine call_set_tupI ns hd (show s1.heap.IsTuple l its.toArray from pt) hi (by unfold scanBound; omega) fun h' tk c R1 hcn k => ?_
  refine PyProof.Rows.args_nil ?_
  have I2 : Inv X pins σ H1 { s1 with heap := h', toks := tk } := I1.kept fun b o e => k b o e
  refine sorted_set R1 hd (by omega) fun s' p out c ns' kk g o hp hg hi' hs hm hl => ?_
  have hlen : (ns'.map V.int).length ≤ sizeLine := by rw [List.length_map, hl, sizeLine_eq]; omega
  have hn : H1 p = none := I2.hok.fresh hp
  have J : Inv X pins σ (upd H1 p (.lst (ns'.map V.int))) { ({ s1 with heap := h', toks := tk } : Shared) with heap := s'.heap, gens := s'.gens, drawn := s'.drawn, toks := s'.toks } :=
    I2.call (ch := []) (Un.laid kk hp hn) (I2.hok.laid kk hp ⟨hlen, out.toList, c, vals_of_ints hi', hg⟩) (by rw [g]; exact I2.bare) (fun _ z => nomatch z)
  have e : s' = { ({ s1 with heap := h', toks := tk } : Shared) with heap := s'.heap, gens := s'.gens, drawn := s'.drawn, toks := s'.toks } := by
    cases s'
    cases s1
    cases o
    rfl
  rw [e]
  exact ⟨.ref p, _, J, rfl, q1 ns' p hs (fun j => (hm j).trans decide_eq_true_iff) hn⟩
end
end L2
namespace TL
open PySem L2
open Enc
/-! ### what is told of it -/
def insI (x : Int) : List Int → List Int
  | [] => [x]
  | y :: ys => if x < y then x :: y :: ys else if x = y then y :: ys else y :: insI x ys
def setI (ns : List Int) : List Int := ns.foldr insI []
theorem mem_insI {x k : Int} : ∀ {l : List Int}, k ∈ insI x l ↔ k = x ∨ k ∈ l
  | [] => by simp [insI]
  | y :: ys => by
    unfold insI
    split
    · simp
    · split
      · rename_i e; subst e; simp
      · rw [List.mem_cons, mem_insI, List.mem_cons]
        constructor
        · rintro (h | h | h)
          · exact Or.inr (Or.inl h)
          · exact Or.inl h
          · exact Or.inr (Or.inr h)
        · rintro (h | h | h)
          · exact Or.inr (Or.inl h)
          · exact Or.inl h
          · exact Or.inr (Or.inr h)
theorem insI_up {x : Int} : ∀ {l : List Int}, l.Pairwise (· < ·) → (insI x l).Pairwise (· < ·)
  | [], _ => List.pairwise_singleton ..
  | y :: ys, h => by
    have h' := List.pairwise_cons.mp h
    unfold insI
    split
    · rename_i c
      refine List.pairwise_cons.mpr ⟨fun k hk => ?_, h⟩
      rcases List.mem_cons.mp hk with e | e
      · rw [e]; exact c
      · have := h'.1 k e; omega
    · split
      · exact h
      · refine List.pairwise_cons.mpr ⟨fun k hk => ?_, insI_up h'.2⟩
        rcases mem_insI.mp hk with e | e
        · omega
        · exact h'.1 k e
theorem mem_setI {k : Int} : ∀ {ns : List Int}, k ∈ setI ns ↔ k ∈ ns
  | [] => Iff.rfl
  | x :: ns => by
    show k ∈ insI x (setI ns) ↔ _
    rw [mem_insI, mem_setI, List.mem_cons]
theorem len_insI (x : Int) : ∀ l : List Int, (insI x l).length ≤ l.length + 1
  | [] => Nat.le_refl _
  | y :: ys => by
    have := len_insI x ys
    unfold insI
    split
    · simp
    · split
      · simp
      · simp; omega
theorem len_setI : ∀ ns : List Int, (setI ns).length ≤ ns.length
  | [] => Nat.le_refl _
  | x :: ns => by
    have := len_setI ns
    have := len_insI x (setI ns)
    show (insI x (setI ns)).length ≤ _
    rw [List.length_cons]
    omega
theorem setI_up : ∀ ns : List Int, (setI ns).Pairwise (· < ·)
  | [] => List.Pairwise.nil
  | x :: ns => insI_up (setI_up ns)
theorem up_same : ∀ {l t : List Int}, l.Pairwise (· < ·) → t.Pairwise (· < ·) → (∀ k, k ∈ l ↔ k ∈ t) → l = t
  | [], [], _, _, _ => rfl
  | [], b :: t, _, _, h => by have := (h b).mpr (List.mem_cons_self ..); cases this
  | a :: l, [], _, _, h => by have := (h a).mp (List.mem_cons_self ..); cases this
  | a :: l, b :: t, hl, ht, h => by
    have hl' := List.pairwise_cons.mp hl
    have ht' := List.pairwise_cons.mp ht
    have e : a = b := by
      rcases List.mem_cons.mp ((h a).mp (List.mem_cons_self ..)) with q | q
      · exact q
      · rcases List.mem_cons.mp ((h b).mpr (List.mem_cons_self ..)) with r | r
        · exact r.symm
        · have := ht'.1 a q
          have := hl'.1 b r
          omega
    subst e
    rw [up_same hl'.2 ht'.2 fun k => ⟨fun q => ?_, fun q => ?_⟩]
    · rcases List.mem_cons.mp ((h k).mp (List.mem_cons_of_mem _ q)) with r | r
      · have := hl'.1 k q; omega
      · exact r
    · rcases List.mem_cons.mp ((h k).mpr (List.mem_cons_of_mem _ q)) with r | r
      · have := ht'.1 k q; omega
      · exact r
def setIO (ns : List Int) : Option (List Int) := if ns.length < 64 then some (setI ns) else none
theorem up_nd {l : List Int} (h : l.Pairwise (· < ·)) : l.Nodup := h.imp fun {a b} q => by omega
section
variable {K : Fg} {ta tb : TE} {ρ : List Sl} {O O1 O2 : Os}
theorem rxo_sortSet {ns r : List Int} (e : setIO ns = some r) (ha : RX K ta ρ O (.tuple (ns.map .int)) O1) : RXo K (tSortSet K ta) ρ O (r.map .int) O1 := ⟨fun _ _ _ _ _ _ Q E S k => ha.go E S fun x F1 H1 f1 E1 S1 r1 => by
  unfold setIO at e
  split at e
  · rename_i h64
    cases e
    cases r1 with
    | tup q1 q2 q3 =>
    have hv := q3.ints
    subst hv
    refine ⟨_, ns, rfl, same_t S1.fh q1, h64, fun out q hs hm hn => ?_⟩
    have e2 := up_same hs (setI_up ns) fun k => (hm k).trans mem_setI.symm
    subst e2
    refine k q F1 _ f1 (S1.mine hn ?_ (RpAll.of_ints _))
    have := len_setI ns
    rw [List.length_map, sizeLine_eq]
    omega
  · cases e⟩
theorem rx_inIQ {x : Int} {xs : Sq Int} {neg : Bool} (ha : RX K ta ρ O (.int x) O1) (hb : RX K tb ρ O1 (enc xs) O2) : RX K (tOp (rIn K neg) ta tb) ρ O (.bool (if neg then !decide (x ∈ xs.l) else decide (x ∈ xs.l))) O2 := by
  obtain ⟨t, l⟩ := xs
  cases t with
  | true => exact rx_inIT ha hb
  | false => exact rx_inI ha (RX.s hb)
end
end TL

namespace TL
open PySem L2
open Enc
/-! ### a tuple so many times -/
def repTO {α : Type} (xs : List α) (k : Int) : Option (List α) := if (1 ≤ xs.length ∧ xs.length ≤ 1000) ∧ 2 ≤ k ∧ k ≤ 1000 then some (List.replicate k.toNat xs).flatten else none
section
variable {K : Fg} {ta tb : TE} {ρ : List Sl} {O O1 O2 : Os}
theorem rx_repT {α : Type} {f : α → PyData} {xs zs : List α} {i : Int} (h : repTO xs i = some zs) (ha : RX K ta ρ O (.tuple (xs.map f)) O1) (hb : RX K tb ρ O1 (.int i) O2) : RX K (tOp (rRepT K) ta tb) ρ O (.tuple (zs.map f)) O2 := ⟨fun _ _ _ _ _ _ Q E S k =>
  ha.go E S fun x F1 H1 f1 E1 S1 r1 => hb.go E1 S1 fun y F2 H2 f2 E2 S2 r2 => by
    have r1' := r1.up f2
    unfold repTO at h
    split at h
    · rename_i hc
      cases h
      cases r2
      cases r1' with
      | @tup _ vs _ q1 q2 q3 =>
        have e1 := q3.length
        rw [List.length_map] at e1
        refine ⟨_, i, vs, rfl, rfl, same_t S2.fh q1, fun z => by rw [z] at e1; simp at e1; omega, hc.2.1, hc.2.2, by omega, fun p hp => ?_⟩
        have f3 := same_upd (o := .tup (List.replicate i.toNat vs).flatten) (S2.nof hp)
        have e : (List.replicate i.toNat xs).flatten.map f = (List.replicate i.toNat (xs.map f)).flatten := by rw [List.map_flatten, List.map_replicate]
        rw [e] at k
        have rr := (q3.rep i.toNat).up f3
        refine k _ _ _ ((f1.trans f2).trans f3) (S2.put hp) (.tup (SqT.of upd_same) ?_ rr)
        rw [rr.length, sizeLine_eq]
        have : (List.replicate i.toNat (xs.map f)).flatten.length = i.toNat * xs.length := by rw [List.length_flatten, List.map_replicate, List.sum_replicate_nat, List.length_map]
        rw [this]
        have := Nat.mul_le_mul (show i.toNat ≤ 1000 by omega) hc.1.2
        omega
    · cases h⟩
end
theorem k_repT {X : Cx} (K : Fg) (hK : X.K = K := by rfl) : OpR X (binaryOp .Mult) (rRepT K) := by subst hK; exact op_repT
end TL

namespace TL
open PySem L2
open Enc
/-! ### pots = _law_pots(..); pot = pots[0]; for one in pots[1:] -/
section
variable {K : Fg} {te ta : TE} {ρ : List Sl} {O O1 O2 : Os} {F0 H0 F H : Hp} {D0 : List Addr} {σ : L2.St} {D : Ends} {E0 : XK}
theorem pots_ne (ns : List Int) : ∃ c cs, potsL ns = c :: cs := by
  unfold potsL
  split
  · exact ⟨0, [], rfl⟩
  · rename_i h
    rw [show cutL ns none (some (63 : Int)) = ns.take 63 by
      unfold cutL HT.sIx
      simp only
      rw [if_neg (by omega), List.drop_zero]
      show ns.take (min 63 ns.length - 0) = _
      rw [Nat.sub_zero, ← List.take_eq_take_min]]
    cases ns with
    | nil => exact absurd rfl h
    | cons c cs => exact ⟨c, cs.take 62, rfl⟩
theorem st_pots {ns : List Int} {jp : Nat} (ha : RX K te ρ O (.list (ns.map .int)) O) (E : EnvR K F σ ρ) (S : Hx K F0 H0 D0 F O H)
    (k : ∀ p ps c cs σ' F' H', potsL ns = c :: cs → ps.length = cs.length → Same F F' → EnvR K F' σ' (ρ.set jp (.lol (p :: ps))) → Hx K F0 H0 D0 F' (⟨p, true, ([c, 0] : List Int).map enc⟩ :: (potsOs ps cs ++ O)) H' → D.nx σ' H') :
    tAsg (tCall (SpPots K) [] E0 (tCons te tNil)) (gName jp) D σ H := ha.go E S fun x F1 H1 f1 E1 S1 r1 => by
  refine ⟨F1, ns, .cons r1 .nil, S1.fh, fun L ps H2 g1 g2 g3 g4 g5 g6 g7 g8 => ?_⟩
  have S2 := S1.pots g1 g2 g3 g4 g5 g6 g7 g8
  have fu : Same F1 (upd F1 L (.lst (ps.map .ref))) := same_upd (S1.nof g2)
  obtain ⟨c, cs, e⟩ := pots_ne ns
  rw [e] at g6 S2
  cases ps with
  | nil => simp at g6
  | cons p ps =>
    have hl : ps.length = cs.length := by simpa using g6
    have hz : (p :: ps).length ≤ sizeLine := by
      have : (potsL ns).length ≤ 63 := by
        unfold potsL
        split
        · decide
        · unfold cutL HT.sIx
          simp only
          rw [if_neg (by omega), List.drop_zero, List.length_take]
          show min (min 63 ns.length - 0) ns.length ≤ 63
          omega
      rw [e] at this
      rw [sizeLine_eq, List.length_cons]
      rw [List.length_cons] at this
      omega
    exact k p ps c cs _ _ H2 e hl (f1.trans fu) (EnvR.set (s := some (.ref L)) (r := .lol (p :: ps)) ⟨L, rfl, SqL.of upd_same, hz⟩ jp (E1.up fu)) S2
theorem st_pots1 {ns : List Int} {jp : Nat} {c : Int} (hc : (potsL ns).head? = some c) (ha : RX K te ρ [] (.list (ns.map .int)) []) (E : EnvR K F σ ρ) (S : Hx K F0 H0 D0 F [] H)
    (k : ∀ p ps σ' F' H', ps.length = (potsL ns).tail.length → Same F F' → EnvR K F' σ' (ρ.set jp (.lol (p :: ps))) → Hx K F0 H0 D0 F' (⟨p, true, ([c, 0] : List Int).map enc⟩ :: potsOs ps (potsL ns).tail) H' → D.nx σ' H') :
    tAsg (tCall (SpPots K) [] E0 (tCons te tNil)) (gName jp) D σ H := st_pots ha E S fun p ps c' cs σ' F' H' e hl f E' S' => by
  rw [e] at hc
  obtain rfl := Option.some.inj hc
  rw [List.append_nil] at S'
  refine k p ps σ' F' H' ?_ f E' ?_
  · rw [e]; exact hl
  · rw [e]; exact S'
theorem st_pot0 {p : Addr} {ps : List Addr} {i j : Nat} (hs : ρ[i]? = some (.lol (p :: ps))) (E : EnvR K F σ ρ) (S : Hx K F0 H0 D0 F O H)
    (k : ∀ σ', EnvR K F σ' (ρ.set j (.adr p)) → D.nx σ' H) : tAsg (tOp (rIxL K) (tVar i) (tC (.int 0))) (gName j) D σ H := by
  obtain ⟨s, h1, t, rfl, h2, h3⟩ := E.at hs
  refine ⟨_, h1, t, _, 0, .ref p, rfl, rfl, S.fh.seq h2, ?_, k _ (E.seta j)⟩
  unfold L2.atI ixN
  rw [if_pos (Int.le_refl 0), if_pos (by rw [List.length_map, List.length_cons]; omega)]
  rfl
/-- for one in pots[1:], what else is own being dropped -/
theorem st_forPs {R : Type} {p : Addr} {ps : List Addr} {cs : List Int} {Ow : Os} {tl th : TO} {i j : Nat} {tb : TS} {f : Int → Unit → Option (Fl Unit R)} {fl : Fl Unit R} (ρ1 : List Sl) (hs : ρ[i]? = some (.lol (p :: ps)))
    (E : EnvR K F σ ρ) (S0 : Hx K F0 H0 D0 F (Ow ++ potsOs ps cs) H) (hl : ps.length = cs.length) (ho : RO K tl ρ (Ow ++ potsOs ps cs) (some 1) (Ow ++ potsOs ps cs)) (hh : RO K th ρ (Ow ++ potsOs ps cs) none (Ow ++ potsOs ps cs))
    (hf : forF f cs () = some fl) (hW : Wk ρ ρ1)
    (kn : ∀ s, fl = .nx s → ∀ σ' F' H', Same F F' → EnvR K F' σ' ρ1 → Hx K F0 H0 D0 F' [] H' → D.nx σ' H')
    (body : ∀ c out, f c () = some out → (∀ r, out = .rt r → fl = .rt r) → ∀ σ1 F1 H1 p Or, Same F F1 → EnvR K F1 σ1 (ρ1.set j (.adr p)) → Hx K F0 H0 D0 F1 (⟨p, true, ([c, 0] : List Int).map enc⟩ :: Or) H1 →
      ∀ (N B : L2.St → Hp → Prop), (∀ s, out = .nx s → ∀ σ' F' H', Same F1 F' → EnvR K F' σ' ρ1 → Hx K F0 H0 D0 F' Or H' → N σ' H') → (∀ s, out = .bk s → ∀ σ' F' H', Same F1 F' → EnvR K F' σ' ρ1 → Hx K F0 H0 D0 F' Or H' → B σ' H') → tb { D with nx := N, ct := N, bk := B } σ1 H1) :
    tFor (iList K (tSl (rSlL K) (tVar i) tl th)) (gName j) tb D σ H := by
  obtain ⟨s, h1, t, rfl, h2, h3⟩ := E.at hs
  refine ⟨_, h1, ho.go E S0 fun F1 H1 f1 E1 S1 => hh.go E1 S1 fun F2 H2 f2 E2 S2 => ?_⟩
  refine ⟨t, _, rfl, (f1.trans (f2.trans S2.fh)).seq h2, fun L hL => ?_⟩
  have hc : cutV ((p :: ps).map V.ref) (some 1) none = ps.map V.ref := by
    unfold cutV HT.sIx
    simp only
    rw [if_neg (by omega), List.length_map, List.length_cons]
    rw [show min (1 : Int).toNat (ps.length + 1) = 1 by show min 1 _ = 1; omega]
    show (ps.map V.ref).take _ = _
    exact List.take_of_length_le (by rw [List.length_map]; omega)
  rw [hc]
  have S3 : Hx K F0 H0 D0 (upd F2 L (.lst (ps.map .ref))) (Ow ++ potsOs ps cs) (upd H2 L (.lst (ps.map .ref))) := S2.put hL
  have fu : Same F2 (upd F2 L (.lst (ps.map .ref))) := same_upd (S2.nof hL)
  refine ⟨L, rfl, ⟨_, SqL.of upd_same⟩, ?_⟩
  have hlen : (ps.map V.ref).length = ps.length := List.length_map _
  refine for_it (walk_list (K := K) (a := L) (xs := ps.map V.ref)) (fun i σ H => ∃ F2, Same F F2 ∧ F2 L = some (.lst (ps.map .ref)) ∧ EnvR K F2 σ ρ1 ∧ Hx K F0 H0 D0 F2 (potsOs (ps.drop i) (cs.drop i)) H ∧ forF f (cs.drop i) () = some fl)
    ⟨_, (f1.trans f2).trans fu, upd_same, (E2.up fu).weak hW, S3.sub (List.sublist_append_right _ _), hf⟩ (fun i σ H _ q => by obtain ⟨F2, _, q2, _, q4, _⟩ := q; exact SqL.of (q4.fh _ _ q2)) (fun i x σ H H' hi q y => ?_) (fun σ H q => ?_)
  · obtain ⟨F2, q1, q2, q3, q4, q5⟩ := q
    obtain ⟨e, y⟩ := y
    subst e
    rw [hlen] at hi
    have hi2 : i < cs.length := by omega
    have hx : x = V.ref ps[i] := by
      rw [List.getElem?_map, List.getElem?_eq_getElem hi] at y
      exact (Option.some.inj y).symm
    subst hx
    rw [drop_cons hi2] at q4 q5
    rw [drop_cons hi] at q4
    obtain ⟨out, e1, q5⟩ := bindE q5
    refine body _ out e1 (fun r eo => ?_) _ F2 H' ps[i] (potsOs (ps.drop (i + 1)) (cs.drop (i + 1))) q1 (q3.seta j) q4 _ _ (fun s eo σ' F' H2 ff E' S' => ?_) (fun s eo σ' F' H2 ff E' S' => ?_)
    · subst eo
      exact (Option.some.inj q5).symm
    · subst eo
      exact ⟨F', q1.trans ff, ff _ _ q2, E', S', q5⟩
    · subst eo
      exact kn s (Option.some.inj q5).symm σ' F' H2 (q1.trans ff) E' (S'.sub (List.nil_sublist _))
  · obtain ⟨F2, q1, q2, q3, q4, q5⟩ := q
    rw [hlen, hl, List.drop_length] at q5
    exact kn () (Option.some.inj q5).symm σ F2 H q1 q3 (q4.sub (List.nil_sublist _))
/-! ### xs.pop(i), xs.insert(i, y) of an own list, i not below 0 -/
def popO {α : Type} (xs : List α) (i : Int) : Option (α × List α) := if 0 ≤ i ∧ i < 16777216 then (xs[i.toNat]?).map fun x => (x, xs.eraseIdx i.toNat) else none
def insO {α : Type} (xs : List α) (i : Int) (x : α) : Option (List α) := if (0 ≤ i ∧ i < 16777216) ∧ xs.length < 16777216 then some (xs.take i.toNat ++ [x] ++ xs.drop i.toNat) else none
theorem map_eraseIdx {α β : Type} (f : α → β) : ∀ (l : List α) (j : Nat), (l.map f).eraseIdx j = (l.eraseIdx j).map f
  | [], _ => rfl
  | _ :: _, 0 => rfl
  | x :: l, j + 1 => by
    show f x :: (l.map f).eraseIdx j = f x :: (l.eraseIdx j).map f
    rw [map_eraseIdx f l j]
theorem popO_map {α β : Type} (f : α → β) {xs : List α} {i : Int} {r : α × List α} (h : popO xs i = some r) : popO (xs.map f) i = some (f r.1, r.2.map f) := by
  unfold popO at h ⊢
  split at h
  · rename_i c
    rw [if_pos c, List.getElem?_map]
    obtain ⟨x, hx, rfl⟩ := Option.map_eq_some_iff.mp h
    rw [hx]
    show some (f x, (xs.map f).eraseIdx i.toNat) = some (f x, (xs.eraseIdx i.toNat).map f)
    rw [map_eraseIdx]
  · cases h
theorem RpAll.erase {vs : List V} {ds : List PyData} : ∀ (n : Nat), RpAll K F vs ds → RpAll K F (vs.eraseIdx n) (ds.eraseIdx n) := fun n h => by
  induction n generalizing vs ds with
  | zero =>
    cases h with
    | nil => exact .nil
    | cons r t => exact t
  | succ n ih =>
    cases h with
    | nil => exact .nil
    | cons r t => exact .cons r (ih t)
theorem rx_pop {i j : Nat} {a : Addr} {nw : Bool} {ds ds' : List PyData} {n : Int} {d : PyData} (hn : popO ds n = some (d, ds')) (hs : ρ[i]? = some (.adr a)) (h : RX K te ρ O (.int n) O1) (hj0 : ∃ e, O[j]? = some ⟨a, nw, e⟩) (hj : O1[j]? = some ⟨a, nw, ds⟩) :
    RX K (tBM K "list" rPopAt (tVar i) (tCons te tNil)) ρ O d (O1.set j ⟨a, nw, ds'⟩) := ⟨fun _ _ _ _ _ _ Q E S k => by
  obtain ⟨e0, hj0⟩ := hj0
  obtain ⟨_, _, _, vs0, g0, _⟩ := S.get hj0
  refine ⟨_, E.adr hs, .inl ⟨rfl, _, .inl (.inl g0)⟩, h.go E S fun v F1 H1 f1 E1 S1 r1 => ?_⟩
  obtain ⟨g1, g2, g3, vs, g4, g5, g6⟩ := S1.get hj
  have g4 : H1 a = some (.lst vs) := g4
  have g5 : vs.length ≤ sizeLine := g5
  have g6 : RpAll K F1 vs ds := g6
  cases r1
  unfold popO at hn
  split at hn
  · rename_i hc
    obtain ⟨x, hx, e⟩ := Option.map_eq_some_iff.mp hn
    cases e
    obtain ⟨y, hy, ry⟩ := g6.get hx
    have lt := (List.getElem?_eq_some_iff.mp hy).1
    refine ⟨a, vs, n, n.toNat, y, rfl, rfl, g4, by omega, by omega, ?_, hy, k _ F1 _ f1 (S1.mut hj ?_ (g6.erase _)) ry⟩
    · unfold seqIndex?
      first
        | (rw [if_neg (by omega)]; rfl)
        | (simp; omega)
    · have := List.length_eraseIdx_le vs n.toNat
      omega
  · cases hn⟩
theorem st_insert {i j : Nat} {a : Addr} {nw : Bool} {ds ds' : List PyData} {n : Int} {d : PyData} (hn : insO ds n d = some ds') (hs : ρ[i]? = some (.adr a)) (h1 : RX K te ρ O (.int n) O1) (h2 : RX K ta ρ O1 d O2) (hj0 : ∃ e, O[j]? = some ⟨a, nw, e⟩) (hj : O2[j]? = some ⟨a, nw, ds⟩)
    (E : EnvR K F σ ρ) (S : Hx K F0 H0 D0 F O H) (k : ∀ F' H', Same F F' → EnvR K F' σ ρ → Hx K F0 H0 D0 F' (O2.set j ⟨a, nw, ds'⟩) H' → D.nx σ H') :
    tDrop (tBM K "list" (fun x vs H Q => ∃ (l : Addr) (xs : List V) (i : Int) (y : V), x = .ref l ∧ vs = [.int i, y] ∧ H l = some (.lst xs) ∧ xs.length < sizeLine ∧ 0 ≤ i ∧ i < 2 ^ 63 ∧
    Q .non (upd H l (.lst (xs.take i.toNat ++ [y] ++ xs.drop i.toNat)))) (tVar i) (tCons te (tCons ta tNil))) D σ H := by
  obtain ⟨e0, hj0⟩ := hj0
  obtain ⟨_, _, _, vs0, g0, _⟩ := S.get hj0
  refine ⟨_, E.adr hs, .inl ⟨rfl, _, .inl (.inl g0)⟩, h1.go E S fun u F1 H1 f1 E1 S1 r1 => h2.go E1 S1 fun v F2 H2 f2 E2 S2 r2 => ?_⟩
  obtain ⟨g1, g2, g3, vs, g4, g5, g6⟩ := S2.get hj
  have g4 : H2 a = some (.lst vs) := g4
  have g6 : RpAll K F2 vs ds := g6
  cases r1
  unfold insO at hn
  split at hn
  · rename_i hc
    cases hn
    have e := g6.length
    refine ⟨a, vs, n, v, rfl, rfl, g4, by rw [sizeLine_eq]; omega, by omega, by omega, k F2 _ (f1.trans f2) E2 (S2.mut hj ?_ (((g6.take _).append (.cons r2 .nil)).append (g6.drop _)))⟩
    rw [List.length_append, List.length_append, List.length_take, List.length_drop, List.length_singleton, sizeLine_eq]
    omega
  · cases hn
theorem insO_map {α β : Type} (f : α → β) {xs : List α} {i : Int} {x : α} {r : List α} (h : insO xs i x = some r) : insO (xs.map f) i (f x) = some (r.map f) := by
  unfold insO at h ⊢
  split at h
  · rename_i c
    cases h
    rw [if_pos (by rw [List.length_map]; exact c)]
    simp
  · cases h
end
end TL

/-! x = {}; for one in sets: for place in one: x[place] = True; sorted(x) -/
namespace TL
open PySem L2
open Enc
instance {α β γ δ : Type} [Enc α] [DecidableEq α] [EqD α] [EqT α] [Enc β] [DecidableEq β] [EqD β] [EqT β] [Enc γ] [DecidableEq γ] [EqD γ] [EqT γ] [Enc δ] [DecidableEq δ] [EqD δ] [EqT δ] : EqT (T4 α β γ δ) := ⟨fun x => by
  show (EqD.ok x.a && (EqD.ok x.b && (EqD.ok x.c && EqD.ok x.d))) = true
  rw [EqT.ok, EqT.ok, EqT.ok, EqT.ok]; rfl⟩
def addK (ks : List Int) (k : Int) : List Int := if k ∈ ks then ks else ks ++ [k]
def addKO (k : Int) (ks : List Int) : Option (List Int) := if ks.length < 16777216 then some (addK ks k) else none
def knownO (sets : List (Tp Int)) : Option (List Int) := forS (fun (t : Tp Int) ks => forS addKO t.l ks) sets []
def sortKO (ks : List Int) : Option (List Int) := if ks.length < 64 then some (sortI ks) else none
theorem keyB_any {k : Int} : ∀ {ks : List Int}, ((keyB ks).any fun kv => decide (kv.1 = (Sum.inl k : Key))) = decide (k ∈ ks)
  | [] => by simp [keyB]
  | j :: ks => by
    have ih := keyB_any (k := k) (ks := ks)
    show (decide ((Sum.inl j : Key) = Sum.inl k) || (keyB ks).any fun kv => decide (kv.1 = (Sum.inl k : Key))) = _
    rw [ih]
    by_cases e : j = k
    · subst e; simp
    · have e1 : ¬ (Sum.inl j : Key) = Sum.inl k := fun z => e (Sum.inl.inj z)
      have e2 : ¬ k = j := fun z => e z.symm
      rw [decide_eq_false e1, Bool.false_or]
      simp [e2]
theorem keyB_put (ks : List Int) (k : Int) : putK (keyB ks) (Sum.inl k : Key) (V.bl true) = keyB (addK ks k) := by
  unfold putK addK
  rw [keyB_any]
  by_cases h : k ∈ ks
  · rw [if_pos (decide_eq_true h), if_pos h]
    unfold keyB
    rw [List.map_map]
    refine List.map_congr_left fun j _ => ?_
    show (if (Sum.inl j : Key) = Sum.inl k then ((Sum.inl j : Key), V.bl true) else (Sum.inl j, V.bl true)) = _
    split <;> rfl
  · rw [if_neg (by simp [h]), if_neg h]
    unfold keyB
    rw [List.map_append]
    rfl
section
variable {K : Fg} {te ta : TE} {ρ : List Sl} {O O1 O2 : Os} {F0 H0 F H : Hp} {D0 : List Addr} {σ : L2.St} {D : Ends} {E0 : XK}
theorem EnvR.len (h : EnvR K F σ ρ) : σ.length = ρ.length := by
  induction h with
  | nil => rfl
  | cons _ _ ih => rw [List.length_cons, List.length_cons, ih]
theorem set_same {σ : L2.St} {i : Nat} {s : Option V} (h : σ[i]? = some s) : σ.set i s = σ := by
  apply List.ext_getElem?
  intro j
  by_cases e : i = j
  · subst e; rw [h, List.getElem?_set_self (List.getElem?_eq_some_iff.mp h).1]
  · rw [List.getElem?_set_ne e]
theorem Hx.loose (S : Hx K F0 H0 D0 F O H) {p : Addr} {o : HO} (h : H p = none) : Hx K F0 H0 D0 F O (upd H p o) := by
  refine ⟨S.f0, S.fh.trans (same_upd h), fun a u e n => ?_, fun a u e => ?_, S.new, fun q hq => ?_, S.nd⟩
  · have := S.keep a u e n
    rw [upd_ne (ne_of_none this h)]
    exact this
  · obtain ⟨u', e'⟩ := S.live a u e
    exact ⟨u', by rw [upd_ne (ne_of_none e' h)]; exact e'⟩
  · obtain ⟨h1, h2, h3, vs', h4, h5, h6⟩ := S.own q hq
    exact ⟨h1, h2, h3, vs', by rw [upd_ne (ne_of_none h4 h)]; exact h4, h5, h6⟩
theorem Hx.off (S : Hx K F0 H0 D0 F O H) {p : Addr} {kvs : List (Key × V)} (hp : H p = some (.dK kvs)) {q : OE} (hq : q ∈ O) : q.a ≠ p := by
  obtain ⟨_, _, _, vs', h4, _⟩ := S.own q hq
  rintro e
  rw [e, hp] at h4
  cases h4
theorem Hx.turn (S : Hx K F0 H0 D0 F O H) {p : Addr} {kvs : List (Key × V)} {o : HO} (hp : H p = some (.dK kvs)) (hF : F p = none) (h0 : H0 p = none) : Hx K F0 H0 D0 F O (upd H p o) := by
  refine ⟨S.f0, fun a u e => ?_, fun a u e n => ?_, fun a u e => ?_, S.new, fun q hq => ?_, S.nd⟩
  · rw [upd_ne (ne_of_none e hF)]
    exact S.fh _ _ e
  · rw [upd_ne (ne_of_none e h0)]
    exact S.keep a u e n
  · rw [upd_ne (ne_of_none e h0)]
    exact S.live a u e
  · have ne := S.off hp hq
    obtain ⟨h1, h2, h3, vs', h4, h5, h6⟩ := S.own q hq
    exact ⟨h1, h2, h3, vs', by rw [upd_ne ne]; exact h4, h5, h6⟩
theorem Hx.tie (S : Hx K F0 H0 D0 F O H) {p : Addr} {kvs : List (Key × V)} (hp : H p = some (.dK kvs)) (hF : F p = none) (h0 : H0 p = none) : Hx K F0 H0 D0 (upd F p (.dK kvs)) O H := by
  refine ⟨S.f0.trans (same_upd hF), fun a u e => ?_, S.keep, S.live, fun a u e n => ?_, fun q hq => ?_, S.nd⟩
  · unfold upd at e
    split at e
    · rename_i z
      subst z
      cases e
      exact hp
    · exact S.fh _ _ e
  · rw [upd_ne (ne_of_none e h0)]
    exact S.new a u e n
  · have ne := S.off hp hq
    obtain ⟨h1, h2, h3, vs', h4, h5, h6⟩ := S.own q hq
    exact ⟨by rw [upd_ne ne]; exact h1, h2, h3, vs', h4, h5, h6.up (same_upd hF)⟩
theorem forS_nil {α S : Type} {f : α → S → Option S} {s t : S} (h : forS f [] s = some t) : s = t := Option.some.inj h
theorem forS_cons {α S : Type} {f : α → S → Option S} {x : α} {xs : List α} {s t : S} (h : forS f (x :: xs) s = some t) : ∃ q, f x s = some q ∧ forS f xs q = some t := Option.bind_eq_some_iff.mp h
theorem st_known {sets : List (Tp Int)} {ks : List Int} {jk js j1 j2 : Nat} {rest : TS} (ρ1 : List Sl) (hk : knownO sets = some ks) (hs : ρ1[js]? = some (.val (enc sets))) (hW : Wk ρ ρ1)
    (e0 : ρ1.set jk .un = ρ1) (e1 : ρ1.set j1 .un = ρ1) (e2 : ρ1.set j2 .un = ρ1) (n1 : jk ≠ j1) (n2 : jk ≠ j2) (l0 : jk < ρ1.length) (l1 : j1 < ρ1.length) (l2 : j2 < ρ1.length)
    (E : EnvR K F σ ρ) (S : Hx K F0 H0 D0 F O H) (k : ∀ σ' F' H', Same F F' → EnvR K F' σ' (ρ1.set jk (.dkb ks)) → Hx K F0 H0 D0 F' O H' → rest D σ' H') :
    tSeq (tAsg tDNewK (gName jk)) (tSeq (tFor (iList K (tVar js)) (gName j1) (tFor (iTup K (tVar j1)) (gName j2) (sDPut (tVar jk) (tVar j2) (tC (.bl true))))) rest) D σ H := fun p hp => by
  have E1 := E.weak hW
  have hF := S.nof hp
  have h0 := S.noh0 hp
  have E2 : EnvR K F (σ.set jk (some (.ref p))) ρ1 := by
    have := EnvR.set (s := some (.ref p)) (r := .un) (K := K) (F := F) trivial jk E1
    rw [e0] at this
    exact this
  have S2 : Hx K F0 H0 D0 F O (upd H p (.dK [])) := S.loose hp
  obtain ⟨v, h1, r1⟩ := E2.val hs
  have r1 : Rp K F v (.list (sets.map enc)) := r1
  cases r1 with
  | @lst a vs _ q1 q2 q3 =>
  have hlen : vs.length = sets.length := by rw [q3.length, List.length_map]
  have hj : jk < σ.length := by rw [E1.len]; exact l0
  have hI : (σ.set jk (some (.ref p)))[jk]? = some (some (.ref p)) := List.getElem?_set_self hj
  refine ⟨_, h1, a, rfl, ⟨vs, S2.fh.seq q1⟩, ?_⟩
  refine for_it (walk_list (K := K) (a := a) (xs := vs)) (fun i σ' H' => ∃ q, forS (fun (t : Tp Int) ks => forS addKO t.l ks) (sets.drop i) q = some ks ∧ σ'[jk]? = some (some (.ref p)) ∧ EnvR K F σ' ρ1 ∧ Hx K F0 H0 D0 F O H' ∧ H' p = some (.dK (keyB q)))
    ⟨[], hk, hI, E2, S2, upd_same⟩ (fun i σ' H' _ z => by obtain ⟨_, _, _, _, z, _⟩ := z; exact z.fh.seq q1) (fun i x σ1 H1 H1' hi z y => ?_) (fun σ1 H1 z => ?_)
  · obtain ⟨q, z1, z2, z3, z4, z5⟩ := z
    obtain ⟨ey, y⟩ := y
    subst ey
    have hi2 : i < sets.length := by omega
    rw [List.drop_eq_getElem_cons hi2] at z1
    obtain ⟨q', w1, w2⟩ := forS_cons z1
    obtain ⟨d, d1, d2⟩ := q3.getV y
    have ed : d = .tuple (sets[i].l.map PyData.int) := by
      rw [List.getElem?_map, List.getElem?_eq_getElem hi2] at d1
      exact (Option.some.inj d1).symm
    subst ed
    cases d2 with
    | @tup b xs _ g1 g2 g3 =>
    have ex := g3.ints
    subst ex
    have E3 : EnvR K F (σ1.set j1 (some (.ref b))) ρ1 := by
      have := EnvR.set (s := some (.ref b)) (r := .un) (K := K) (F := F) trivial j1 z3
      rw [e1] at this
      exact this
    have hj1 : j1 < σ1.length := by rw [z3.len]; exact l1
    refine ⟨_, List.getElem?_set_self hj1, b, rfl, ⟨_, same_t z4.fh g1⟩, ?_⟩
    refine for_it (walk_tup (K := K) (a := b) (xs := sets[i].l.map V.int)) (fun m σ' H' => ∃ q, forS addKO (sets[i].l.drop m) q = some q' ∧ σ'[jk]? = some (some (.ref p)) ∧ EnvR K F σ' ρ1 ∧ Hx K F0 H0 D0 F O H' ∧ H' p = some (.dK (keyB q)))
      ⟨q, w1, ?_, E3, z4, z5⟩ (fun i σ' H' _ z => by obtain ⟨_, _, _, _, z, _⟩ := z; exact same_t z.fh g1) (fun m x σ2 H2 H2' hm z y => ?_) (fun σ2 H2 z => ?_)
    · rw [List.getElem?_set_ne (Ne.symm n1)]; exact z2
    · obtain ⟨q, z1, z2, z3, z4, z5⟩ := z
      obtain ⟨ey, y⟩ := y
      subst ey
      rw [List.length_map] at hm
      rw [List.drop_eq_getElem_cons hm] at z1
      obtain ⟨q2, w1, w2⟩ := forS_cons z1
      have hx : x = V.int sets[i].l[m] := by
        rw [List.getElem?_map, List.getElem?_eq_getElem hm] at y
        exact (Option.some.inj y).symm
      subst hx
      unfold addKO at w1
      split at w1
      · rename_i c
        cases w1
        have hj2 : j2 < σ2.length := by rw [z3.len]; exact l2
        have E4 : EnvR K F (σ2.set j2 (some (.int sets[i].l[m]))) ρ1 := by
          have := EnvR.set (s := some (.int sets[i].l[m])) (r := .un) (K := K) (F := F) trivial j2 z3
          rw [e2] at this
          exact this
        have hJ : (σ2.set j2 (some (.int sets[i].l[m])))[jk]? = some (some (.ref p)) := by rw [List.getElem?_set_ne (Ne.symm n2)]; exact z2
        have hd := DPut.k (H := H2') (a := p) (kvs := keyB q) (k := Sum.inl sets[i].l[m]) (v := .bl true) z5 (by unfold keyB; rw [List.length_map, sizeLine_eq]; omega)
        rw [keyB_put] at hd
        refine ⟨_, hJ, _, List.getElem?_set_self hj2, p, _, rfl, hd, _, w2, hJ, E4, z4.turn z5 hF h0, upd_same⟩
      · cases w1
    · obtain ⟨q, z1, z2, z3, z4, z5⟩ := z
      rw [List.length_map, List.drop_length] at z1
      have := forS_nil z1
      subst this
      exact ⟨q, w2, z2, z3, z4, z5⟩
  · obtain ⟨q, z1, z2, z3, z4, z5⟩ := z
    rw [hlen, List.drop_length] at z1
    have := forS_nil z1
    subst this
    refine k σ1 (upd F p (.dK (keyB q))) H1 (same_upd hF) ?_ (z4.tie z5 hF h0)
    have := EnvR.set (s := some (.ref p)) (r := .dkb q) (K := K) (F := upd F p (.dK (keyB q))) ⟨p, rfl, upd_same⟩ jk (z3.up (same_upd hF))
    rw [set_same z2] at this
    exact this
/-! ### sorted of it -/
def rSortDI : List V → Hp → VK → Prop := fun xs H Q => ∃ (a : Addr) (kvs : List (Key × V)) (ks : List Int), xs = [.ref a] ∧ Rd H a (.dK kvs) ∧ kvs.map (·.1) = ks.map Sum.inl ∧ ks.length < 64 ∧
    ∀ (ys : List Int) (p : Addr), ys.Perm ks → ys.Pairwise (· ≤ ·) → H p = none → Q (.ref p) (upd H p (.lst (ys.map V.int)))
theorem k_sortDI {X : Cx} (hc : X.calm = true) : CallR X (.builtin "sorted") rSortDI := call_sortedDI hc
theorem rx_someL {l : List Int} (h : RX K ta ρ O (.list (l.map .int)) O1) : RX K ta ρ O (enc (l.map (some : Int → Option Int))) O1 := by
  have e : enc (l.map (some : Int → Option Int)) = PyData.list (l.map .int) := by
    show PyData.list ((l.map (some : Int → Option Int)).map enc) = _
    rw [List.map_map]
    rfl
  rw [e]
  exact h
theorem keyB_keys (ks : List Int) : (keyB ks).map (·.1) = ks.map (Sum.inl : Int → Key) := by
  unfold keyB
  rw [List.map_map]
  rfl
theorem rxo_sortK {i : Nat} {ks r : List Int} (h : sortKO ks = some r) (hs : ρ[i]? = some (.dkb ks)) : RXo K (tCB rSortDI (tCons (tVar i) tNil)) ρ O (r.map .int) O := ⟨fun _ _ _ _ F H Q E S k => by
  obtain ⟨s, h1, t, rfl, h2⟩ := E.at hs
  unfold sortKO at h
  split at h
  · rename_i c
    cases h
    refine ⟨_, h1, t, keyB ks, ks, rfl, .inl (S.fh _ _ h2), keyB_keys ks, c, fun ys p hp hu hn => ?_⟩
    have e := sortI_of hp hu
    subst e
    refine k p F _ (Same.refl _) (S.mine hn ?_ (RpAll.of_ints _))
    rw [List.length_map, hp.length_eq, sizeLine_eq]
    omega
  · cases h⟩
end
end TL

namespace TL
open PySem L2
/-- it is told, and what is told is so -/
def Ok {α : Type} (m : Option α) (P : α → Prop) : Prop := ∃ r, m = some r ∧ P r
namespace Ok
variable {α β γ S R : Type}
theorem pure {P : α → Prop} {r : α} (h : P r) : Ok (some r) P := ⟨r, rfl, h⟩
theorem bind {m : Option α} {f : α → Option β} {P : α → Prop} {Q : β → Prop} (h : Ok m P) (k : ∀ r, P r → Ok (f r) Q) : Ok (m.bind f) Q := by
  obtain ⟨r, e, p⟩ := h
  subst e
  exact k r p
theorem bindE {m : Option α} {f : α → Option β} {P : α → Prop} {Q : β → Prop} (h : Ok m P) (k : ∀ r, m = some r → P r → Ok (f r) Q) : Ok (m.bind f) Q := by
  obtain ⟨r, e, p⟩ := h
  have := k r e p
  subst e
  exact this
theorem lt {x : α} {f : α → Option β} {Q : β → Prop} (k : Ok (f x) Q) : Ok ((some x).bind f) Q := k
theorem mono {m : Option α} {P Q : α → Prop} (h : Ok m P) (k : ∀ r, P r → Q r) : Ok m Q := by
  obtain ⟨r, e, p⟩ := h
  exact ⟨r, e, k r p⟩
theorem ite {c : Prop} [Decidable c] {a b : Option α} {Q : α → Prop} (h : c → Ok a Q) (k : ¬c → Ok b Q) : Ok (if c then a else b) Q := by
  split
  · exact h ‹_›
  · exact k ‹_›
theorem eqv {m : Option α} {P : α → Prop} {v : α} (h : Ok m P) (k : ∀ r, P r → r = v) : m = some v := by
  obtain ⟨r, e, p⟩ := h
  rw [e, k r p]
theorem forS {f : α → S → Option S} (I : S → Prop) : ∀ (xs : List α) (s : S), I s → (∀ x ∈ xs, ∀ s, I s → Ok (f x s) I) → Ok (forS f xs s) I
  | [], s, h, _ => ⟨s, rfl, h⟩
  | x :: xs, s, h, k => bind (k x (List.mem_cons_self ..) s h) fun s' h' => Ok.forS I xs s' h' fun y hy => k y (List.mem_cons_of_mem _ hy)
/-- the state by what was gone through -/
theorem forSd {f : α → S → Option S} (I : List α → S → Prop) : ∀ (xs ds : List α) (s : S), I ds s → (∀ x ds rs s, I ds s → ds ++ x :: rs = ds ++ xs.drop (ds.length - ds.length) ∨ True → x ∈ xs → Ok (f x s) (I (ds ++ [x]))) → Ok (TL.forS f xs s) (I (ds ++ xs))
  | [], ds, s, h, _ => ⟨s, rfl, by rw [List.append_nil]; exact h⟩
  | x :: xs, ds, s, h, k => bind (k x ds xs s h (.inr trivial) (List.mem_cons_self ..)) fun s' h' => by
      have := Ok.forSd I xs (ds ++ [x]) s' h' fun y ds' rs s q _ m => k y ds' rs s q (.inr trivial) (List.mem_cons_of_mem _ m)
      rw [List.append_assoc] at this
      exact this
/-- the state by how many were gone through -/
theorem forSi {f : α → S → Option S} (I : Nat → S → Prop) : ∀ (xs : List α) (n : Nat) (s : S), I n s → (∀ (i : Nat) (x : α) (s : S), xs[i]? = some x → I (n + i) s → Ok (f x s) (I (n + i + 1))) → Ok (TL.forS f xs s) (I (n + xs.length))
  | [], n, s, h, _ => ⟨s, rfl, h⟩
  | x :: xs, n, s, h, k => bind (k 0 x s rfl h) fun s' h' => by
      have := Ok.forSi I xs (n + 1) s' h' fun i y s e q => by
        have := k (i + 1) y s e (by rw [show n + (i + 1) = n + 1 + i by omega]; exact q)
        rw [show n + (i + 1) + 1 = n + 1 + i + 1 by omega] at this
        exact this
      rw [show n + 1 + xs.length = n + (x :: xs).length by simp; omega] at this
      exact this
/-- gone through whole -/
theorem forF {f : α → S → Option (Fl S R)} (I : S → Prop) : ∀ (xs : List α) (s : S), I s → (∀ x ∈ xs, ∀ s, I s → Ok (f x s) fun r => ∃ s', r = .nx s' ∧ I s') → Ok (forF f xs s) fun r => ∃ s', r = .nx s' ∧ I s'
  | [], s, h, _ => ⟨.nx s, rfl, s, rfl, h⟩
  | x :: xs, s, h, k => by
    obtain ⟨r, e, s', rfl, h'⟩ := k x (List.mem_cons_self ..) s h
    have := Ok.forF I xs s' h' fun y hy => k y (List.mem_cons_of_mem _ hy)
    unfold TL.forF
    rw [e]
    exact this
theorem mapO {f : α → Option β} {P : α → β → Prop} : ∀ (xs : List α), (∀ x ∈ xs, Ok (f x) (P x)) → Ok (mapO f xs) fun ys => ys.length = xs.length ∧ ∀ (i : Nat) x y, xs[i]? = some x → ys[i]? = some y → P x y
  | [], _ => ⟨[], rfl, rfl, fun i x y h => by simp at h⟩
  | x :: xs, h => bind (h x (List.mem_cons_self ..)) fun y hy => bind (Ok.mapO xs fun z hz => h z (List.mem_cons_of_mem _ hz)) fun ys hys => ⟨_, rfl, by simp [hys.1], fun i u v hu hv => by
    cases i with
    | zero => simp at hu hv; subst hu; subst hv; exact hy
    | succ i => exact hys.2 i u v hu hv⟩
theorem mapS {f : α → S → Option (β × S)} (P : α → β → Prop) (I : S → Prop) : ∀ (xs : List α) (s : S), I s → (∀ x ∈ xs, ∀ s, I s → Ok (f x s) fun r => P x r.1 ∧ I r.2) → Ok (mapS f xs s) fun r => I r.2 ∧ r.1.length = xs.length ∧ ∀ (i : Nat) x y, xs[i]? = some x → r.1[i]? = some y → P x y
  | [], s, h, _ => ⟨([], s), rfl, h, rfl, fun i x y h => by simp at h⟩
  | x :: xs, s, h, k => bind (k x (List.mem_cons_self ..) s h) fun r hr => bind (Ok.mapS P I xs r.2 hr.2 fun z hz => k z (List.mem_cons_of_mem _ hz)) fun ys hys => ⟨_, rfl, hys.1, by simp [hys.2.1], fun i u v hu hv => by
    cases i with
    | zero => simp at hu hv; subst hu; subst hv; exact hr.1
    | succ i => exact hys.2.2 i u v hu hv⟩
theorem atI {xs : List α} {i : Int} (h0 : 0 ≤ i) (h1 : i < xs.length) : Ok (atI xs i) fun x => xs[i.toNat]? = some x := by
  unfold L2.atI ixN
  rw [if_pos h0, if_pos h1]
  have : i.toNat < xs.length := by omega
  exact ⟨xs[i.toNat], by simp [this], by simp [this]⟩
theorem atIN {xs : List α} {i : Int} (h0 : i < 0) (h1 : 0 ≤ i + xs.length) : Ok (L2.atI xs i) fun x => xs[(i + xs.length).toNat]? = some x := by
  unfold L2.atI ixN
  rw [if_neg (by omega), if_pos (by omega)]
  have : (i + xs.length).toNat < xs.length := by omega
  exact ⟨xs[(i + xs.length).toNat], by simp [this], by simp [this]⟩
theorem setO {xs : List α} {i : Int} {x : α} (h0 : 0 ≤ i) (h1 : i < xs.length) : Ok (setO xs i x) fun r => r = xs.set i.toNat x := by
  unfold TL.setO ixN
  rw [if_pos h0, if_pos h1]
  exact ⟨_, rfl, rfl⟩
theorem appO {xs : List α} {x : α} (h : xs.length < 16777216) : Ok (appO xs x) fun r => r = xs ++ [x] := by
  unfold TL.appO
  rw [if_pos h]
  exact ⟨_, rfl, rfl⟩
theorem modO {i j : Int} (h : 0 < j) : Ok (modO i j) fun r => r = i % j ∧ 0 ≤ r ∧ r < j := by
  unfold TL.modO
  rw [if_pos h]
  exact ⟨_, rfl, rfl, Int.emod_nonneg _ (by omega), Int.emod_lt_of_pos _ h⟩
theorem fdivO {i j : Int} (h : 0 < j) (h1 : j < 1073741824) : Ok (fdivO i j) fun r => r = i / j := by
  unfold TL.fdivO
  rw [if_pos ⟨h, h1⟩]
  exact ⟨_, rfl, rfl⟩
theorem mulO {i j : Int} (h : -18446744073709551616 < i) (h1 : i < 18446744073709551616) : Ok (mulO i j) fun r => r = i * j := by
  unfold TL.mulO
  rw [if_pos (.inl ⟨h, h1⟩)]
  exact ⟨_, rfl, rfl⟩
theorem rngO {n : Int} (h : -4611686018427387904 ≤ n) (h1 : n ≤ 16777216) : Ok (rngO n) fun r => r = rngL 0 n.toNat := by
  unfold TL.rngO
  rw [if_pos ⟨h, h1⟩]
  exact ⟨_, rfl, rfl⟩
theorem repO1 {x : α} {i : Int} (h : -9223372036854775808 ≤ i) (h1 : i ≤ 16777216) : Ok (repO [x] i) fun r => r = List.replicate i.toNat x := by
  unfold TL.repO
  rw [if_pos ⟨by simp; omega, by omega, by omega⟩]
  refine ⟨_, rfl, ?_⟩
  generalize i.toNat = n
  induction n with
  | zero => rfl
  | succ n ih => rw [List.replicate_succ, List.replicate_succ, List.flatten_cons, ih]; rfl
theorem maxO {xs : List Int} (h : xs ≠ []) : Ok (maxO xs) fun m => m ∈ xs ∧ ∀ x ∈ xs, x ≤ m := by
  unfold TL.maxO
  cases e : xs.max? with
  | none => rw [List.max?_eq_none_iff] at e; exact absurd e h
  | some m =>
    rw [List.max?_eq_some_iff] at e
    exact ⟨m, rfl, e⟩
theorem eqO [Enc α] [DecidableEq α] [EqD α] {x y : α} (h : EqD.ok x = true) (h1 : EqD.ok y = true) : Ok (eqO x y) fun r => r = decide (x = y) := by
  unfold TL.eqO
  rw [if_pos ⟨h, h1⟩]
  exact ⟨_, rfl, rfl⟩
end Ok
theorem mem_rngL {x lo : Int} {n : Nat} : x ∈ rngL lo n ↔ lo ≤ x ∧ x < lo + n := by
  unfold rngL
  rw [List.mem_map]
  constructor
  · rintro ⟨i, hi, rfl⟩
    rw [List.mem_range] at hi
    omega
  · rintro ⟨h1, h2⟩
    exact ⟨(x - lo).toNat, List.mem_range.mpr (by omega), by omega⟩
theorem rngL_get {x lo : Int} {n i : Nat} (h : (rngL lo n)[i]? = some x) : i < n ∧ x = lo + i := by
  unfold rngL at h
  rw [List.getElem?_map] at h
  have hi : i < n := by
    rcases Nat.lt_or_ge i n with q | q
    · exact q
    · rw [List.getElem?_eq_none (by simp; exact q)] at h; cases h
  rw [List.getElem?_eq_getElem (by simp; exact hi)] at h
  simp at h
  exact ⟨hi, h.symm⟩
theorem mem_get {α : Type} {xs : List α} {x : α} (h : x ∈ xs) : ∃ i : Nat, xs[i]? = some x := List.mem_iff_getElem?.mp h
theorem get_mem {α : Type} {xs : List α} {x : α} {i : Nat} (h : xs[i]? = some x) : x ∈ xs := List.mem_iff_getElem?.mpr ⟨i, h⟩
theorem get_lt {α : Type} {xs : List α} {x : α} {i : Nat} (h : xs[i]? = some x) : i < xs.length := by
  rcases Nat.lt_or_ge i xs.length with q | q
  · exact q
  · rw [List.getElem?_eq_none q] at h; cases h
theorem lt_get {α : Type} {xs : List α} {i : Nat} (h : i < xs.length) : ∃ x, xs[i]? = some x := ⟨xs[i], List.getElem?_eq_getElem h⟩
theorem cutL_to {α : Type} (xs : List α) (n : Int) (h : 0 ≤ n) : cutL xs none (some n) = xs.take n.toNat := by
  unfold cutL HT.sIx
  simp only
  rw [if_neg (by omega)]
  simp only [List.drop_zero, Nat.sub_zero]
  rcases Nat.le_total n.toNat xs.length with q | q
  · rw [Nat.min_eq_left q]
  · rw [Nat.min_eq_right q, List.take_of_length_le (Nat.le_refl _), List.take_of_length_le q]
/-- each y of the told list belongs to an x -/
theorem all_of {α β : Type} {xs : List α} {ys : List β} {P : α → β → Prop} (hl : ys.length = xs.length) (h : ∀ (i : Nat) x y, xs[i]? = some x → ys[i]? = some y → P x y) : ∀ y ∈ ys, ∃ x ∈ xs, P x y := fun y hy => by
  obtain ⟨i, e⟩ := mem_get hy
  obtain ⟨x, ex⟩ := lt_get (xs := xs) (i := i) (by rw [← hl]; exact get_lt e)
  exact ⟨x, get_mem ex, h i x y ex e⟩
theorem all_to {α β : Type} {xs : List α} {ys : List β} {P : α → β → Prop} (hl : ys.length = xs.length) (h : ∀ (i : Nat) x y, xs[i]? = some x → ys[i]? = some y → P x y) : ∀ x ∈ xs, ∃ y ∈ ys, P x y := fun x hx => by
  obtain ⟨i, e⟩ := mem_get hx
  obtain ⟨y, ey⟩ := lt_get (xs := ys) (i := i) (by rw [hl]; exact get_lt e)
  exact ⟨y, get_mem ey, h i x y e ey⟩
end TL
namespace TL
theorem mem_dec {α : Type} (P : α → Prop) [DecidablePred P] {xs : List α} (h : xs.all (fun x => decide (P x)) = true) : ∀ x ∈ xs, P x := fun x hx => of_decide_eq_true (List.all_eq_true.mp h x hx)
end TL
namespace TL
open PySem L2
/-- an item of a list of whole numbers, 0 outside -/
def at0 (D : List Int) (i : Int) : Int := (D[i.toNat]?).getD 0
theorem at0_of {D : List Int} {i : Int} {x : Int} (h : D[i.toNat]? = some x) : at0 D i = x := by unfold at0; rw [h]; rfl
theorem at0_app (D : List Int) (x i : Int) (h0 : 0 ≤ i) : at0 (D ++ [x]) i = if i < D.length then at0 D i else if i = D.length then x else 0 := by
  unfold at0
  rw [List.getElem?_append]
  split
  · rw [if_pos (by omega)]
  · rw [if_neg (by omega)]
    split
    · rename_i h; rw [show i.toNat - D.length = 0 by omega]; rfl
    · rw [List.getElem?_eq_none (by simp; omega)]; rfl
theorem at0_set (D : List Int) (x i j : Int) (h0 : 0 ≤ i) (h1 : i < D.length) (h2 : 0 ≤ j) : at0 (D.set i.toNat x) j = if j = i then x else at0 D j := by
  unfold at0
  rw [List.getElem?_set]
  by_cases e : j = i
  · subst e; rw [if_pos rfl, if_pos rfl, if_pos (by omega)]; rfl
  · rw [if_neg (by omega), if_neg e]
theorem at0_rep (n : Nat) (x i : Int) (h0 : 0 ≤ i) (h1 : i < n) : at0 (List.replicate n x) i = x := by
  unfold at0
  rw [List.getElem?_replicate, if_pos (by omega)]; rfl
theorem Ok.at0 {xs : List Int} {i : Int} (h0 : 0 ≤ i) (h1 : i < xs.length) : Ok (L2.atI xs i) fun x => x = at0 xs i := (Ok.atI h0 h1).mono fun x h => (at0_of h).symm
theorem rngC_get {a c x : Int} {n i : Nat} (h : (rngC a c n)[i]? = some x) : i < n ∧ x = a + i * c := by
  unfold rngC at h
  rw [List.getElem?_map] at h
  have hi : i < n := by
    rcases Nat.lt_or_ge i n with q | q
    · exact q
    · rw [List.getElem?_eq_none (by simp; exact q)] at h; cases h
  rw [List.getElem?_eq_getElem (by simp; exact hi)] at h
  simp at h
  exact ⟨hi, h.symm⟩
theorem rngC_length (a c : Int) (n : Nat) : (rngC a c n).length = n := by unfold rngC; simp
theorem Ok.rngDownO {a b : Int} (h1 : -16777216 ≤ a) (h2 : a ≤ 16777216) (h3 : -16777216 ≤ b) (h4 : b ≤ 16777216) (h5 : a - b ≤ 16777216) : Ok (rngDownO a b) fun r => r = rngC a (-1) (a - b).toNat := by
  unfold TL.rngDownO
  rw [if_pos ⟨h1, h2, h3, h4, h5⟩]
  exact ⟨_, rfl, rfl⟩
end TL

namespace W
open PySem L2 TL
open Enc
def top (i : Nat) : Stmt := PySem.Challenge.pw_bearfaults_k31_whole_made_nets_bear.main.body.getD i (.Pass ⟨0, 0, 0, 0⟩)
structure Bi (mg : Str → Option Value) : Prop where
  triv : True
  c_MOST_GATES : ∃ t, mg "MOST_GATES" = some (.int 60 t)
  enumerate : mg "enumerate" = none
  int : mg "int" = none
  len : mg "len" = none
  list : mg "list" = none
  max : mg "max" = none
  min : mg "min" = none
  range : mg "range" = none
  sum : mg "sum" = none
  tuple : mg "tuple" = none
  zip : mg "zip" = none

def m__law_next (v_pot : (List Int)) (v_many : Int) : Option (Int × List Int) :=
(atI v_pot (1 : Int)).bind fun t1 =>
(setO v_pot (1 : Int) (t1 + (1 : Int))).bind fun u3 =>
(atI u3 (0 : Int)).bind fun t5 =>
if (decide (((10 : Int) ^ (18 : Int).toNat) ≤ t5)) = true then (
(fdivO t5 v_many).bind fun t7 =>
(setO u3 (0 : Int) t7).bind fun u9 =>
(modO t5 v_many).bind fun t13 =>
some (t13, u9))
else (
(atI u3 (1 : Int)).bind fun t15 =>
(some ((((t5 * (69621 : Int)) + (t15 * (7919 : Int))) + (13 : Int)) % (2147483647 : Int))).bind fun v17 =>
(mulO v17 v17).bind fun t19 =>
(some (t19 % (2147483629 : Int))).bind fun v21 =>
(atI u3 (1 : Int)).bind fun t27 =>
(modO ((((v21 * (48271 : Int)) + (t27 * (40692 : Int))) % (2147483587 : Int)) / (8 : Int)) v_many).bind fun t29 =>
some (t29, u3))
def R__law_next : List PyData → List PyData → PyData → List PyData → Prop := fun c ds d c' => ∃ (v_pot : (List Int)) (v_many : Int) (r : Int × List Int), c = v_pot.map enc ∧ ds = [enc (v_many : Int)] ∧ d = enc (r.1 : Int) ∧ c' = r.2.map enc ∧ m__law_next v_pot v_many = some r
def m__law_plain (v_pot : (List Int)) (v_most : Int) (v_gates : Int) : Option ((T3 (List (Str × Int)) (List (T3 Str (Tp Int) Bool)) (List (Str × (Tp Int)))) × List Int) :=
(some ([("a" : Str), ("bb" : Str), ("signal" : Str), ("x" : Str), ("yes" : Str), ("abcdefgh" : Str)] : (List Str))).bind fun v1 =>
(m__law_next v_pot (6 : Int)).bind fun r3 =>
(m__law_next r3.2 v_most).bind fun r5 =>
(rngO ((1 : Int) + r5.1)).bind fun l7 =>
(mapO (fun (x10 : Int) => (atI v1 ((r3.1 + x10) % (6 : Int))).bind fun t15 => some ((t15, (1 : Int)) : (Str × Int))) l7).bind fun l17 =>
(some ([] : (List (T3 Str (Tp Int) Bool)))).bind fun v19 =>
(rngO v_gates).bind fun l22 =>
(forS (S := List Int × List (T3 Str (Tp Int) Bool)) (fun (x26 : Int) (s25 : List Int × List (T3 Str (Tp Int) Bool)) => (
(some ((l17.length : Int) + x26)).bind fun v30 =>
(m__law_next s25.1 (8 : Int)).bind fun r32 =>
(atI ([("not" : Str), ("and" : Str), ("or" : Str), ("xor" : Str), ("vote" : Str), ("and" : Str), ("or" : Str), ("xor" : Str)] : (List Str)) r32.1).bind fun t34 =>
(some ((dlit [(("not" : Str), (1 : Int)), (("vote" : Str), (3 : Int))] t34).getD (2 : Int))).bind fun v36 =>
(rngO v36).bind fun l38 =>
(mapS (fun (x41 : Int) (s48 : List Int) => (atI ([v30, (min2 v30 (4 : Int))] : (List Int)) (x41 % (2 : Int))).bind fun t49 => (m__law_next s48 t49).bind fun r51 => some ((((v30 - (1 : Int)) - r51.1) : Int), r51.2)) l38 r32.2).bind fun l53 =>
(m__law_next l53.2 (6 : Int)).bind fun r55 =>
(appO s25.2 (T3.mk t34 (Tp.mk l53.1) (decide (r55.1 = (0 : Int))))).bind fun u57 =>
some (r55.2, u57) : Option (List Int × List (T3 Str (Tp Int) Bool)))) l22 (r5.2, v19)).bind fun s59 =>
(some ([] : (List (Str × (Tp Int))))).bind fun v60 =>
(m__law_next s59.1 (6 : Int)).bind fun r63 =>
(rngO ((1 : Int) + r63.1)).bind fun l65 =>
(forS (S := List Int × List (Str × (Tp Int))) (fun (x69 : Int) (s68 : List Int × List (Str × (Tp Int))) => (
(some ((l17.length : Int) + (s59.2.length : Int))).bind fun v73 =>
(atI ([v73, (min2 v73 (4 : Int))] : (List Int)) (x69 % (2 : Int))).bind fun t75 =>
(m__law_next s68.1 t75).bind fun r77 =>
(some ((v73 - (1 : Int)) - r77.1)).bind fun v79 =>
(atI ([("p" : Str), ("ou" : Str), ("result" : Str), ("q" : Str), ("abcdefgh" : Str), ("z" : Str)] : (List Str)) x69).bind fun t81 =>
(appO s68.2 (t81, ((Tp.mk [v79]) : (Tp Int)))).bind fun u83 =>
some (r77.2, u83) : Option (List Int × List (Str × (Tp Int))))) l65 (r63.2, v60)).bind fun s85 =>
some ((T3.mk l17 s59.2 s85.2), s85.1)
def R__law_plain : List PyData → List PyData → PyData → List PyData → Prop := fun c ds d c' => ∃ (v_pot : (List Int)) (v_most : Int) (v_gates : Int) (r : (T3 (List (Str × Int)) (List (T3 Str (Tp Int) Bool)) (List (Str × (Tp Int)))) × List Int), c = v_pot.map enc ∧ ds = [enc (v_most : Int), enc (v_gates : Int)] ∧ d = enc (r.1 : (T3 (List (Str × Int)) (List (T3 Str (Tp Int) Bool)) (List (Str × (Tp Int))))) ∧ c' = r.2.map enc ∧ m__law_plain v_pot v_most v_gates = some r
def m_need_plain (v_net : (T3 (List (Str × Int)) (List (T3 Str (Tp Int) Bool)) (List (Str × (Tp Int))))) : Option (Unit) :=
(extO ((v_net.a.filter (fun (x2 : (Str × Int)) => (!decide (x2.2 = (1 : Int))))).map (fun (x2 : (Str × Int)) => (x2.1 : Str))) ((v_net.c.filter (fun (x6 : (Str × (Tp Int))) => (!decide ((x6.2.l.length : Int) = (1 : Int))))).map (fun (x6 : (Str × (Tp Int))) => (x6.1 : Str)))).bind fun t9 =>
(eqO (t9 : (List Str)) ([] : (List Str))).bind fun b11 =>
if (!b11) = true then (
none)
else (
some ())
def R_need_plain : List PyData → PyData → Prop := fun ds d => ∃ (v_net : (T3 (List (Str × Int)) (List (T3 Str (Tp Int) Bool)) (List (Str × (Tp Int))))) (r : Unit), ds = [enc (v_net : (T3 (List (Str × Int)) (List (T3 Str (Tp Int) Bool)) (List (Str × (Tp Int)))))] ∧ d = enc (r : Unit) ∧ m_need_plain v_net = some r
def m_copied (v_net : (T3 (List (Str × Int)) (List (T3 Str (Tp Int) Bool)) (List (Str × (Tp Int))))) (v_copies : Int) (v_votes : Bool) : Option ((T3 (List (Str × Int)) (List (T3 Str (Tp Int) Bool)) (List (Str × (Tp Int))))) :=
(m_need_plain v_net).bind fun r1 =>
(mulO v_copies ((1 : Int) + (b2n v_votes))).bind fun t3 =>
(mulO (v_net.b.length : Int) t3).bind fun t5 =>
if (decide ((60 : Int) < t5)) = true then (
none)
else (
(mulO (v_net.a.length : Int) v_copies).bind fun t7 =>
(mapO (fun (x10 : Int) => (mulO x10 v_copies).bind fun t15 => some (t15 : Int)) (rngL 0 v_net.a.length)).bind fun l17 =>
(mapO (fun (x20 : Int) => (mulO x20 t3).bind fun t27 => (mulO (b2n v_votes) v_copies).bind fun t29 => some (((t7 + t27) + t29) : Int)) (rngL 0 v_net.b.length)).bind fun l31 =>
(extO l17 l31).bind fun t33 =>
(some ([] : (List (T3 Str (Tp Int) Bool)))).bind fun v35 =>
(forS (S := List (T3 Str (Tp Int) Bool)) (fun (x40 : (Int × (T3 Str (Tp Int) Bool))) (s39 : List (T3 Str (Tp Int) Bool)) => (
(rngO v_copies).bind fun l44 =>
(mapO (fun (x47 : Int) => (mapO (fun (x61 : Int) => (atI t33 x61).bind fun t66 => some ((t66 + x47) : Int)) x40.2.b.l).bind fun l68 => some ((T3.mk x40.2.a (Tp.mk l68) x40.2.c) : (T3 Str (Tp Int) Bool))) l44).bind fun l70 =>
(extO s39 l70).bind fun u72 =>
(rngO v_copies).bind fun l74 =>
(mapO (fun (x77 : Int) => (mulO x40.1 t3).bind fun t82 => some (((t7 + t82) + x77) : Int)) l74).bind fun l84 =>
(some (Tp.mk l84)).bind fun v86 =>
(mulO v_copies (b2n v_votes)).bind fun t88 =>
(repO ([(T3.mk ("vote" : Str) v86 x40.2.c)] : (List (T3 Str (Tp Int) Bool))) t88).bind fun t90 =>
(extO u72 t90).bind fun u92 =>
some u92 : Option (List (T3 Str (Tp Int) Bool)))) (enumL v_net.b) v35).bind fun s94 =>
(mapO (fun (x96 : (Str × (Tp Int))) => (rngO v_copies).bind fun l115 => (mapO (fun (x118 : Int) => (atI x96.2.l (0 : Int)).bind fun t125 => (atI t33 t125).bind fun t127 => some ((t127 + x118) : Int)) l115).bind fun l129 => some ((x96.1, (Tp.mk l129)) : (Str × (Tp Int)))) v_net.c).bind fun l131 =>
some (T3.mk (v_net.a.map (fun (x138 : (Str × Int)) => ((x138.1, v_copies) : (Str × Int)))) s94 l131))
def R_copied : List PyData → PyData → Prop := fun ds d => ∃ (v_net : (T3 (List (Str × Int)) (List (T3 Str (Tp Int) Bool)) (List (Str × (Tp Int))))) (v_copies : Int) (v_votes : Bool) (r : (T3 (List (Str × Int)) (List (T3 Str (Tp Int) Bool)) (List (Str × (Tp Int))))), ds = [enc (v_net : (T3 (List (Str × Int)) (List (T3 Str (Tp Int) Bool)) (List (Str × (Tp Int))))), enc (v_copies : Int), enc (v_votes : Bool)] ∧ d = enc (r : (T3 (List (Str × Int)) (List (T3 Str (Tp Int) Bool)) (List (Str × (Tp Int))))) ∧ m_copied v_net v_copies v_votes = some r
def m_in_threes (v_net : (T3 (List (Str × Int)) (List (T3 Str (Tp Int) Bool)) (List (Str × (Tp Int))))) : Option ((T3 (List (Str × Int)) (List (T3 Str (Tp Int) Bool)) (List (Str × (Tp Int))))) :=
(m_copied v_net (3 : Int) false).bind fun r3 =>
some r3
def R_in_threes : List PyData → PyData → Prop := fun ds d => ∃ (v_net : (T3 (List (Str × Int)) (List (T3 Str (Tp Int) Bool)) (List (Str × (Tp Int))))) (r : (T3 (List (Str × Int)) (List (T3 Str (Tp Int) Bool)) (List (Str × (Tp Int))))), ds = [enc (v_net : (T3 (List (Str × Int)) (List (T3 Str (Tp Int) Bool)) (List (Str × (Tp Int)))))] ∧ d = enc (r : (T3 (List (Str × Int)) (List (T3 Str (Tp Int) Bool)) (List (Str × (Tp Int))))) ∧ m_in_threes v_net = some r
def m_in_pairs (v_net : (T3 (List (Str × Int)) (List (T3 Str (Tp Int) Bool)) (List (Str × (Tp Int))))) : Option ((T3 (List (Str × Int)) (List (T3 Str (Tp Int) Bool)) (List (Str × (Tp Int))))) :=
(m_copied v_net (2 : Int) false).bind fun r3 =>
some r3
def R_in_pairs : List PyData → PyData → Prop := fun ds d => ∃ (v_net : (T3 (List (Str × Int)) (List (T3 Str (Tp Int) Bool)) (List (Str × (Tp Int))))) (r : (T3 (List (Str × Int)) (List (T3 Str (Tp Int) Bool)) (List (Str × (Tp Int))))), ds = [enc (v_net : (T3 (List (Str × Int)) (List (T3 Str (Tp Int) Bool)) (List (Str × (Tp Int)))))] ∧ d = enc (r : (T3 (List (Str × Int)) (List (T3 Str (Tp Int) Bool)) (List (Str × (Tp Int))))) ∧ m_in_pairs v_net = some r
def m_with_votes (v_net : (T3 (List (Str × Int)) (List (T3 Str (Tp Int) Bool)) (List (Str × (Tp Int))))) : Option ((T3 (List (Str × Int)) (List (T3 Str (Tp Int) Bool)) (List (Str × (Tp Int))))) :=
(m_copied v_net (3 : Int) true).bind fun r3 =>
some r3
def R_with_votes : List PyData → PyData → Prop := fun ds d => ∃ (v_net : (T3 (List (Str × Int)) (List (T3 Str (Tp Int) Bool)) (List (Str × (Tp Int))))) (r : (T3 (List (Str × Int)) (List (T3 Str (Tp Int) Bool)) (List (Str × (Tp Int))))), ds = [enc (v_net : (T3 (List (Str × Int)) (List (T3 Str (Tp Int) Bool)) (List (Str × (Tp Int)))))] ∧ d = enc (r : (T3 (List (Str × Int)) (List (T3 Str (Tp Int) Bool)) (List (Str × (Tp Int))))) ∧ m_with_votes v_net = some r
def m_size (v_net : (T3 (List (Str × Int)) (List (T3 Str (Tp Int) Bool)) (List (Str × (Tp Int))))) : Option ((T4 Int Int Int Int)) :=
(repO ([(0 : Int)] : (List Int)) ((v_net.a.map (fun (x2 : (Str × Int)) => (x2.2 : Int))).sum)).bind fun t5 =>
(forS (S := List Int) (fun (x10 : (T3 Str (Tp Int) Bool)) (s9 : List Int) => (
(mapO (fun (x15 : Int) => (atI s9 x15).bind fun t20 => some (t20 : Int)) x10.b.l).bind fun l22 =>
(maxO l22).bind fun t24 =>
(appO s9 ((1 : Int) + t24)).bind fun u26 =>
some u26 : Option (List Int))) v_net.b t5).bind fun s28 =>
(some (((v_net.b.filter (fun (x30 : (T3 Str (Tp Int) Bool)) => (decide (x30.a = ("vote" : Str))))).map (fun (x30 : (T3 Str (Tp Int) Bool)) => (x30.a : Str))).length : Int)).bind fun v33 =>
(some (((v_net.b.filter (fun (x36 : (T3 Str (Tp Int) Bool)) => x36.c)).map (fun (x36 : (T3 Str (Tp Int) Bool)) => (x36.a : Str))).length : Int)).bind fun v39 =>
(mapO (fun (x74 : (Str × (Tp Int))) => (mapO (fun (x90 : Int) => (atI s28 x90).bind fun t95 => some (t95 : Int)) x74.2.l).bind fun l97 => (maxO l97).bind fun t99 => some (t99 : Int)) v_net.c).bind fun l101 =>
(maxO l101).bind fun t103 =>
some (T4.mk (v_net.b.length : Int) v33 v39 t103)
def R_size : List PyData → PyData → Prop := fun ds d => ∃ (v_net : (T3 (List (Str × Int)) (List (T3 Str (Tp Int) Bool)) (List (Str × (Tp Int))))) (r : (T4 Int Int Int Int)), ds = [enc (v_net : (T3 (List (Str × Int)) (List (T3 Str (Tp Int) Bool)) (List (Str × (Tp Int)))))] ∧ d = enc (r : (T4 Int Int Int Int)) ∧ m_size v_net = some r
def m_all_inputs (v_net : (T3 (List (Str × Int)) (List (T3 Str (Tp Int) Bool)) (List (Str × (Tp Int))))) : Option (((List Int) × Int)) :=
(shlO (1 : Int) (v_net.a.length : Int)).bind fun t1 =>
(some ([] : (List Int))).bind fun v3 =>
(forS (S := List Int) (fun (x8 : Int) (s7 : List Int) => (
(some (((v_net.a.length : Int) - (1 : Int)) - x8)).bind fun v12 =>
(rngO t1).bind fun l14 =>
(mapO (fun (x17 : Int) => (shrO x17 v12).bind fun t24 => (shlO (Builtin.bitAnd t24 (1 : Int)) x17).bind fun t26 => some (t26 : Int)) l14).bind fun l28 =>
(appO s7 l28.sum).bind fun u30 =>
some u30 : Option (List Int))) (rngL 0 v_net.a.length) v3).bind fun s32 =>
(shlO (1 : Int) t1).bind fun t35 =>
some (s32, (t35 - (1 : Int)))
def R_all_inputs : List PyData → PyData → Prop := fun ds d => ∃ (v_net : (T3 (List (Str × Int)) (List (T3 Str (Tp Int) Bool)) (List (Str × (Tp Int))))) (r : ((List Int) × Int)), ds = [enc (v_net : (T3 (List (Str × Int)) (List (T3 Str (Tp Int) Bool)) (List (Str × (Tp Int)))))] ∧ d = enc (r : ((List Int) × Int)) ∧ m_all_inputs v_net = some r
def m_gate_bits (v_kind : Str) (v_some : (Sq Int)) (v_ones : Int) : Option (Int) :=
if (decide (v_kind = ("not" : Str))) = true then (
(atI v_some.l (0 : Int)).bind fun t3 =>
some (Builtin.bitXor v_ones t3))
else (
if (decide (v_kind = ("and" : Str))) = true then (
(atI v_some.l (0 : Int)).bind fun t9 =>
(atI v_some.l (1 : Int)).bind fun t11 =>
some (Builtin.bitAnd t9 t11))
else (
if (decide (v_kind = ("or" : Str))) = true then (
(atI v_some.l (0 : Int)).bind fun t17 =>
(atI v_some.l (1 : Int)).bind fun t19 =>
some (Builtin.bitOr t17 t19))
else (
if (decide (v_kind = ("xor" : Str))) = true then (
(atI v_some.l (0 : Int)).bind fun t25 =>
(atI v_some.l (1 : Int)).bind fun t27 =>
some (Builtin.bitXor t25 t27))
else (
(atI v_some.l (0 : Int)).bind fun t41 =>
(atI v_some.l (1 : Int)).bind fun t43 =>
(atI v_some.l (0 : Int)).bind fun t45 =>
(atI v_some.l (2 : Int)).bind fun t47 =>
(atI v_some.l (1 : Int)).bind fun t49 =>
(atI v_some.l (2 : Int)).bind fun t51 =>
some (Builtin.bitOr (Builtin.bitOr (Builtin.bitAnd t41 t43) (Builtin.bitAnd t45 t47)) (Builtin.bitAnd t49 t51))))))
def R_gate_bits : List PyData → PyData → Prop := fun ds d => ∃ (v_kind : Str) (v_some : (Sq Int)) (v_ones : Int) (r : Int), ds = [enc (v_kind : Str), enc (v_some : (Sq Int)), enc (v_ones : Int)] ∧ d = enc (r : Int) ∧ m_gate_bits v_kind v_some v_ones = some r
def m_how_many_ahead (v_net : (T3 (List (Str × Int)) (List (T3 Str (Tp Int) Bool)) (List (Str × (Tp Int))))) : Option (Int) :=
some ((v_net.a.map (fun (x6 : (Str × Int)) => (x6.2 : Int))).sum)
def R_how_many_ahead : List PyData → PyData → Prop := fun ds d => ∃ (v_net : (T3 (List (Str × Int)) (List (T3 Str (Tp Int) Bool)) (List (Str × (Tp Int))))) (r : Int), ds = [enc (v_net : (T3 (List (Str × Int)) (List (T3 Str (Tp Int) Bool)) (List (Str × (Tp Int)))))] ∧ d = enc (r : Int) ∧ m_how_many_ahead v_net = some r
def m_gone_on (v_net : (T3 (List (Str × Int)) (List (T3 Str (Tp Int) Bool)) (List (Str × (Tp Int))))) (v_first : (List Int)) (v_ones : Int) (v_turned : (Tp Int)) : Option ((List Int)) :=
(m_how_many_ahead v_net).bind fun r2 =>
(rng2O ((v_first.length : Int) - r2) (v_net.b.length : Int)).bind fun l4 =>
(forS (S := List Int) (fun (x8 : Int) (s7 : List Int) => (
(atI v_net.b x8).bind fun t12 =>
(mapO (fun (x15 : Int) => (atI s7 x15).bind fun t20 => some (t20 : Int)) t12.b.l).bind fun l22 =>
(m_gate_bits t12.a (Sq.mk false l22) v_ones).bind fun r24 =>
(if (decide (x8 ∈ v_turned.l)) = true then (
(some (Builtin.bitXor v_ones r24)).bind fun v28 =>
some v28)
else (
some r24) : Option (Int)).bind fun j26 =>
(appO s7 j26).bind fun u30 =>
some u30 : Option (List Int))) l4 v_first).bind fun s32 =>
some s32
def R_gone_on : List PyData → List PyData → Prop := fun ds es => ∃ (v_net : (T3 (List (Str × Int)) (List (T3 Str (Tp Int) Bool)) (List (Str × (Tp Int))))) (v_first : (List Int)) (v_ones : Int) (v_turned : (Tp Int)) (r : (List Int)), ds = [enc (v_net : (T3 (List (Str × Int)) (List (T3 Str (Tp Int) Bool)) (List (Str × (Tp Int))))), enc (v_first : (List Int)), enc (v_ones : Int), enc (v_turned : (Tp Int))] ∧ es = r.map enc ∧ m_gone_on v_net v_first v_ones v_turned = some r
def m_ins_wires (v_net : (T3 (List (Str × Int)) (List (T3 Str (Tp Int) Bool)) (List (Str × (Tp Int))))) (v_own : (Sq Int)) (v_ones : Int) (v_bad : (Tp Int)) : Option ((List Int)) :=
(some ([] : (List Int))).bind fun v1 =>
(forS (S := List Int) (fun (x6 : ((Str × Int) × Int)) (s5 : List Int) => (
(rngO x6.1.2).bind fun l10 =>
(forS (S := List Int) (fun (x14 : Int) (s13 : List Int) => (
(if (decide ((s13.length : Int) ∈ v_bad.l)) = true then (
(appO s13 (Builtin.bitXor v_ones x6.2)).bind fun u20 =>
some u20)
else (
(appO s13 x6.2).bind fun u22 =>
some u22) : Option (List Int)).bind fun j18 =>
some j18 : Option (List Int))) l10 s5).bind fun s24 =>
some s24 : Option (List Int))) (v_net.a.zip v_own.l) v1).bind fun s25 =>
some s25
def R_ins_wires : List PyData → List PyData → Prop := fun ds es => ∃ (v_net : (T3 (List (Str × Int)) (List (T3 Str (Tp Int) Bool)) (List (Str × (Tp Int))))) (v_own : (Sq Int)) (v_ones : Int) (v_bad : (Tp Int)) (r : (List Int)), ds = [enc (v_net : (T3 (List (Str × Int)) (List (T3 Str (Tp Int) Bool)) (List (Str × (Tp Int))))), enc (v_own : (Sq Int)), enc (v_ones : Int), enc (v_bad : (Tp Int))] ∧ es = r.map enc ∧ m_ins_wires v_net v_own v_ones v_bad = some r
def m_all_wires (v_net : (T3 (List (Str × Int)) (List (T3 Str (Tp Int) Bool)) (List (Str × (Tp Int))))) : Option (((List Int) × Int)) :=
(m_all_inputs v_net).bind fun r1 =>
(m_ins_wires v_net (Sq.mk false r1.1) r1.2 ((Tp.mk []) : (Tp Int))).bind fun r7 =>
(m_gone_on v_net r7 r1.2 ((Tp.mk []) : (Tp Int))).bind fun r9 =>
some (r9, r1.2)
def R_all_wires : List PyData → PyData → Prop := fun ds d => ∃ (v_net : (T3 (List (Str × Int)) (List (T3 Str (Tp Int) Bool)) (List (Str × (Tp Int))))) (r : ((List Int) × Int)), ds = [enc (v_net : (T3 (List (Str × Int)) (List (T3 Str (Tp Int) Bool)) (List (Str × (Tp Int)))))] ∧ d = enc (r : ((List Int) × Int)) ∧ m_all_wires v_net = some r
def m_sets_of (v_places : (List Int)) (v_size : Int) : Option ((List (Tp Int))) :=
(some ([((Tp.mk []) : (Tp Int))] : (List (Tp Int)))).bind fun v1 =>
(rngO v_size).bind fun l3 =>
(forS (S := (List (Tp Int))) (fun (x7 : Int) (s6 : (List (Tp Int))) => (
(some ([] : (List (Tp Int)))).bind fun v11 =>
(forS (S := List (Tp Int)) (fun (x16 : (Tp Int)) (s15 : List (Tp Int)) => (
(filtO (fun (x21 : Int) => (if (decide ((x16 : (Tp Int)) = ((Tp.mk []) : (Tp Int)))) = true then some true else ((atI x16.l (-(1 : Int))).bind fun t31 => some (decide (t31 < x21)))).bind fun b33 => some b33) (fun (x21 : Int) => (extO x16.l ((Tp.mk [x21]) : (Tp Int)).l).bind fun t34 => some ((Tp.mk t34) : (Tp Int))) v_places).bind fun l36 =>
(extO s15 l36).bind fun u38 =>
some u38 : Option (List (Tp Int)))) s6 v11).bind fun s40 =>
some s40 : Option ((List (Tp Int))))) l3 v1).bind fun s41 =>
some s41
def R_sets_of : List PyData → PyData → Prop := fun ds d => ∃ (v_places : (List Int)) (v_size : Int) (r : (List (Tp Int))), ds = [enc (v_places : (List Int)), enc (v_size : Int)] ∧ d = enc (r : (List (Tp Int))) ∧ m_sets_of v_places v_size = some r
def m_free_places (v_net : (T3 (List (Str × Int)) (List (T3 Str (Tp Int) Bool)) (List (Str × (Tp Int))))) : Option ((List Int)) :=
some (((enumL v_net.b).filter (fun (x6 : (Int × (T3 Str (Tp Int) Bool))) => (!x6.2.c))).map (fun (x6 : (Int × (T3 Str (Tp Int) Bool))) => (x6.1 : Int)))
def R_free_places : List PyData → List PyData → Prop := fun ds es => ∃ (v_net : (T3 (List (Str × Int)) (List (T3 Str (Tp Int) Bool)) (List (Str × (Tp Int))))) (r : (List Int)), ds = [enc (v_net : (T3 (List (Str × Int)) (List (T3 Str (Tp Int) Bool)) (List (Str × (Tp Int)))))] ∧ es = r.map enc ∧ m_free_places v_net = some r
def m_read_bits (v_some : (Sq Int)) : Option ((Int × Int)) :=
if (decide ((v_some.l.length : Int) = (1 : Int))) = true then (
(atI v_some.l (0 : Int)).bind fun t3 =>
some (t3, (0 : Int)))
else (
if (decide ((v_some.l.length : Int) = (2 : Int))) = true then (
(atI v_some.l (0 : Int)).bind fun t13 =>
(atI v_some.l (1 : Int)).bind fun t15 =>
(atI v_some.l (0 : Int)).bind fun t17 =>
(atI v_some.l (1 : Int)).bind fun t19 =>
some ((Builtin.bitAnd t13 t15), (Builtin.bitXor t17 t19)))
else (
(m_gate_bits ("vote" : Str) v_some (0 : Int)).bind fun r23 =>
some (r23, (0 : Int))))
def R_read_bits : List PyData → PyData → Prop := fun ds d => ∃ (v_some : (Sq Int)) (r : (Int × Int)), ds = [enc (v_some : (Sq Int))] ∧ d = enc (r : (Int × Int)) ∧ m_read_bits v_some = some r
def m_outs_read (v_net : (T3 (List (Str × Int)) (List (T3 Str (Tp Int) Bool)) (List (Str × (Tp Int))))) (v_wires : (List Int)) : Option ((List (Int × Int))) :=
(mapO (fun (x32 : (Str × (Tp Int))) => (mapO (fun (x48 : Int) => (atI v_wires x48).bind fun t53 => some (t53 : Int)) x32.2.l).bind fun l55 => (m_read_bits (Sq.mk false l55)).bind fun r57 => some (r57 : (Int × Int))) v_net.c).bind fun l59 =>
some l59
def R_outs_read : List PyData → List PyData → Prop := fun ds es => ∃ (v_net : (T3 (List (Str × Int)) (List (T3 Str (Tp Int) Bool)) (List (Str × (Tp Int))))) (v_wires : (List Int)) (r : (List (Int × Int))), ds = [enc (v_net : (T3 (List (Str × Int)) (List (T3 Str (Tp Int) Bool)) (List (Str × (Tp Int))))), enc (v_wires : (List Int))] ∧ es = r.map enc ∧ m_outs_read v_net v_wires = some r
def m_reads_with (v_net : (T3 (List (Str × Int)) (List (T3 Str (Tp Int) Bool)) (List (Str × (Tp Int))))) (v_plain : (List Int)) (v_ones : Int) (v_turned : (Tp Int)) : Option ((List (Int × Int))) :=
(if (!decide ((v_turned : (Tp Int)) = ((Tp.mk []) : (Tp Int)))) = true then (
(m_how_many_ahead v_net).bind fun r3 =>
(atI v_turned.l (0 : Int)).bind fun t5 =>
(some (cutL v_plain none (some (r3 + t5)))).bind fun v7 =>
some v7)
else (
some v_plain) : Option ((List Int))).bind fun j1 =>
(m_gone_on v_net j1 v_ones v_turned).bind fun r13 =>
(m_outs_read v_net r13).bind fun r15 =>
some r15
def R_reads_with : List PyData → List PyData → Prop := fun ds es => ∃ (v_net : (T3 (List (Str × Int)) (List (T3 Str (Tp Int) Bool)) (List (Str × (Tp Int))))) (v_plain : (List Int)) (v_ones : Int) (v_turned : (Tp Int)) (r : (List (Int × Int))), ds = [enc (v_net : (T3 (List (Str × Int)) (List (T3 Str (Tp Int) Bool)) (List (Str × (Tp Int))))), enc (v_plain : (List Int)), enc (v_ones : Int), enc (v_turned : (Tp Int))] ∧ es = r.map enc ∧ m_reads_with v_net v_plain v_ones v_turned = some r
def m_spoilt (v_net : (T3 (List (Str × Int)) (List (T3 Str (Tp Int) Bool)) (List (Str × (Tp Int))))) (v_plain : (List Int)) (v_ones : Int) (v_turned : (Tp Int)) : Option ((Int × Int)) :=
(m_reads_with v_net v_plain v_ones v_turned).bind fun r1 =>
(m_outs_read v_net v_plain).bind fun r3 =>
(forS (S := Int × Int) (fun (x7 : ((Int × Int) × (Int × Int))) (s6 : Int × Int) => (
(some (Builtin.bitOr s6.1 (Builtin.bitAnd (Builtin.bitXor x7.1.1 x7.2.1) (Builtin.bitXor v_ones x7.1.2)))).bind fun v11 =>
(some (Builtin.bitOr s6.2 x7.1.2)).bind fun v13 =>
some (v11, v13) : Option (Int × Int))) (r1.zip r3) ((0 : Int), (0 : Int))).bind fun s15 =>
some (s15.1, s15.2)
def R_spoilt : List PyData → PyData → Prop := fun ds d => ∃ (v_net : (T3 (List (Str × Int)) (List (T3 Str (Tp Int) Bool)) (List (Str × (Tp Int))))) (v_plain : (List Int)) (v_ones : Int) (v_turned : (Tp Int)) (r : (Int × Int)), ds = [enc (v_net : (T3 (List (Str × Int)) (List (T3 Str (Tp Int) Bool)) (List (Str × (Tp Int))))), enc (v_plain : (List Int)), enc (v_ones : Int), enc (v_turned : (Tp Int))] ∧ d = enc (r : (Int × Int)) ∧ m_spoilt v_net v_plain v_ones v_turned = some r
def m_broken_at (v_net : (T3 (List (Str × Int)) (List (T3 Str (Tp Int) Bool)) (List (Str × (Tp Int))))) (v_plain : (List Int)) (v_ones : Int) (v_turned : (Tp Int)) (v_level : Str) : Option (Int) :=
(m_spoilt v_net v_plain v_ones v_turned).bind fun r1 =>
if (decide (v_level = ("right" : Str))) = true then (
some (Builtin.bitOr r1.1 r1.2))
else (
some r1.1)
def R_broken_at : List PyData → PyData → Prop := fun ds d => ∃ (v_net : (T3 (List (Str × Int)) (List (T3 Str (Tp Int) Bool)) (List (Str × (Tp Int))))) (v_plain : (List Int)) (v_ones : Int) (v_turned : (Tp Int)) (v_level : Str) (r : Int), ds = [enc (v_net : (T3 (List (Str × Int)) (List (T3 Str (Tp Int) Bool)) (List (Str × (Tp Int))))), enc (v_plain : (List Int)), enc (v_ones : Int), enc (v_turned : (Tp Int)), enc (v_level : Str)] ∧ d = enc (r : Int) ∧ m_broken_at v_net v_plain v_ones v_turned v_level = some r
def m_first_bit (v_bits : Int) : Option (Int) :=
(whileS (S := Int) (fun (s2 : Int) => (shrO v_bits s2).bind fun t8 => some (decide ((Builtin.bitAnd t8 (1 : Int)) = (0 : Int)))) (fun (s2 : Int) => (
some (s2 + (1 : Int)) : Option (Int))) FUEL (0 : Int)).bind fun s10 =>
some s10
def R_first_bit : List PyData → PyData → Prop := fun ds d => ∃ (v_bits : Int) (r : Int), ds = [enc (v_bits : Int)] ∧ d = enc (r : Int) ∧ m_first_bit v_bits = some r
def m_bears (v_net : (T3 (List (Str × Int)) (List (T3 Str (Tp Int) Bool)) (List (Str × (Tp Int))))) (v_many : Int) (v_level : Str) : Option (Ans) :=
(m_all_wires v_net).bind fun r1 =>
(rng2O (1 : Int) (v_many + (1 : Int))).bind fun l3 =>
(forF (S := Unit) (R := Ans) (fun (x7 : Int) (s6 : Unit) => (
(m_free_places v_net).bind fun r11 =>
(m_sets_of r11 x7).bind fun r13 =>
(forF (S := Unit) (R := Ans) (fun (x17 : (Tp Int)) (s16 : Unit) => (
(m_broken_at v_net r1.1 r1.2 x17 v_level).bind fun r21 =>
if (!decide (r21 = (0 : Int))) = true then (
(m_first_bit r21).bind fun r25 =>
some (.rt (Ans.a3 ("breaks" : Str) x17 (some r25))))
else (
some (.nx ())) : Option (Fl (Unit) (Ans)))) r13 ()).bind fun fl18 =>
flK fl18 (fun s27 =>
some (.nx ())) (fun r => some (.rt r)) : Option (Fl (Unit) (Ans)))) l3 ()).bind fun fl8 =>
flK fl8 (fun s28 =>
some (Ans.a1 ("bears" : Str))) some
def R_bears : List PyData → PyData → Prop := fun ds d => ∃ (v_net : (T3 (List (Str × Int)) (List (T3 Str (Tp Int) Bool)) (List (Str × (Tp Int))))) (v_many : Int) (v_level : Str) (r : Ans), ds = [enc (v_net : (T3 (List (Str × Int)) (List (T3 Str (Tp Int) Bool)) (List (Str × (Tp Int))))), enc (v_many : Int), enc (v_level : Str)] ∧ d = enc (r : Ans) ∧ m_bears v_net v_many v_level = some r
def m_run (v_net : (T3 (List (Str × Int)) (List (T3 Str (Tp Int) Bool)) (List (Str × (Tp Int))))) (v_bits : (Tp Int)) (v_turned : (Tp Int)) (v_bad : (Tp Int)) : Option ((List (Tp Int))) :=
(m_ins_wires v_net (Sq.mk true v_bits.l) (1 : Int) v_bad).bind fun r1 =>
(m_gone_on v_net r1 (1 : Int) v_turned).bind fun r3 =>
(mapO (fun (x32 : (Str × (Tp Int))) => (mapO (fun (x46 : Int) => (atI r3 x46).bind fun t51 => some (t51 : Int)) x32.2.l).bind fun l53 => some ((Tp.mk l53) : (Tp Int))) v_net.c).bind fun l55 =>
some l55
def R_run : List PyData → List PyData → Prop := fun ds es => ∃ (v_net : (T3 (List (Str × Int)) (List (T3 Str (Tp Int) Bool)) (List (Str × (Tp Int))))) (v_bits : (Tp Int)) (v_turned : (Tp Int)) (v_bad : (Tp Int)) (r : (List (Tp Int))), ds = [enc (v_net : (T3 (List (Str × Int)) (List (T3 Str (Tp Int) Bool)) (List (Str × (Tp Int))))), enc (v_bits : (Tp Int)), enc (v_turned : (Tp Int)), enc (v_bad : (Tp Int))] ∧ es = r.map enc ∧ m_run v_net v_bits v_turned v_bad = some r
def m_is_sound (v_net : (T3 (List (Str × Int)) (List (T3 Str (Tp Int) Bool)) (List (Str × (Tp Int))))) : Option (Bool) :=
(m_all_wires v_net).bind fun r9 =>
(m_outs_read v_net r9.1).bind fun r11 =>
some (decide ((((r11.filter (fun (x14 : (Int × Int)) => (!decide (x14.2 = (0 : Int))))).map (fun (x14 : (Int × Int)) => (x14.2 : Int))) : (List Int)) = ([] : (List Int))))
def R_is_sound : List PyData → PyData → Prop := fun ds d => ∃ (v_net : (T3 (List (Str × Int)) (List (T3 Str (Tp Int) Bool)) (List (Str × (Tp Int))))) (r : Bool), ds = [enc (v_net : (T3 (List (Str × Int)) (List (T3 Str (Tp Int) Bool)) (List (Str × (Tp Int)))))] ∧ d = enc (r : Bool) ∧ m_is_sound v_net = some r
def m_column_of (v_value : Int) (v_unlike : Int) (v_many : Int) : Option ((List (Option Int))) :=
(some ([] : (List (Option Int)))).bind fun v1 =>
(rngO v_many).bind fun l4 =>
(forS (S := List (Option Int)) (fun (x8 : Int) (s7 : List (Option Int)) => (
(shrO v_unlike x8).bind fun t12 =>
(if (decide ((Builtin.bitAnd t12 (1 : Int)) = (1 : Int))) = true then (
(appO s7 none).bind fun u16 =>
some u16)
else (
(shrO v_value x8).bind fun t18 =>
(appO s7 (some (Builtin.bitAnd t18 (1 : Int)))).bind fun u20 =>
some u20) : Option (List (Option Int))).bind fun j14 =>
some j14 : Option (List (Option Int)))) l4 v1).bind fun s22 =>
some s22
def R_column_of : List PyData → List PyData → Prop := fun ds es => ∃ (v_value : Int) (v_unlike : Int) (v_many : Int) (r : (List (Option Int))), ds = [enc (v_value : Int), enc (v_unlike : Int), enc (v_many : Int)] ∧ es = r.map enc ∧ m_column_of v_value v_unlike v_many = some r
def m_columns (v_net : (T3 (List (Str × Int)) (List (T3 Str (Tp Int) Bool)) (List (Str × (Tp Int))))) : Option ((List (List (Option Int)))) :=
(m_all_wires v_net).bind fun r1 =>
(m_outs_read v_net r1.1).bind fun r3 =>
(mapO (fun (x20 : (Int × Int)) => (shlO (1 : Int) (v_net.a.length : Int)).bind fun t27 => (m_column_of x20.1 x20.2 t27).bind fun r29 => some (r29 : (List (Option Int)))) r3).bind fun l31 =>
some l31
def R_columns : List PyData → List PyData → Prop := fun ds es => ∃ (v_net : (T3 (List (Str × Int)) (List (T3 Str (Tp Int) Bool)) (List (Str × (Tp Int))))) (r : (List (List (Option Int)))), ds = [enc (v_net : (T3 (List (Str × Int)) (List (T3 Str (Tp Int) Bool)) (List (Str × (Tp Int)))))] ∧ es = r.map enc ∧ m_columns v_net = some r
def m_told (v_bits : (Sq Int)) : Option ((Option Int)) :=
(m_read_bits v_bits).bind fun r1 =>
if (decide (r1.2 = (1 : Int))) = true then (
some none)
else (
some (some r1.1))
def R_told : List PyData → PyData → Prop := fun ds d => ∃ (v_bits : (Sq Int)) (r : (Option Int)), ds = [enc (v_bits : (Sq Int))] ∧ d = enc (r : (Option Int)) ∧ m_told v_bits = some r
def m__law_good (v_net : (T3 (List (Str × Int)) (List (T3 Str (Tp Int) Bool)) (List (Str × (Tp Int))))) (v_made : (T3 (List (Str × Int)) (List (T3 Str (Tp Int) Bool)) (List (Str × (Tp Int))))) (v_many : Int) : Option (Bool) :=
(m_is_sound v_made).bind fun r1 =>
(if (r1 != true) = true then some true else ((m_columns v_made).bind fun r4 => (m_columns v_net).bind fun r6 => some (!decide ((r4 : (List (List (Option Int)))) = r6)))).bind fun b8 =>
if b8 = true then (
some false)
else (
(shlO (1 : Int) (v_net.a.length : Int)).bind fun t9 =>
(rngO t9).bind fun l11 =>
(forF (S := Unit) (R := Bool) (fun (x15 : Int) (s14 : Unit) => (
(mapO (fun (x20 : Int) => (shrO x15 (((v_net.a.length : Int) - (1 : Int)) - x20)).bind fun t25 => some ((Builtin.bitAnd t25 (1 : Int)) : Int)) (rngL 0 v_net.a.length)).bind fun l27 =>
(some (Tp.mk l27)).bind fun v29 =>
(m_run v_net v29 ((Tp.mk []) : (Tp Int)) ((Tp.mk []) : (Tp Int))).bind fun r31 =>
(m_run v_made v29 ((Tp.mk []) : (Tp Int)) ((Tp.mk []) : (Tp Int))).bind fun r33 =>
(mapO (fun (x36 : (Tp Int)) => (repTO x36.l v_many).bind fun t41 => some ((Tp.mk t41) : (Tp Int))) r31).bind fun l43 =>
if (!decide ((r33 : (List (Tp Int))) = l43)) = true then (
some (.rt false))
else (
if (decide (v_many = (3 : Int))) = true then (
(rngO ((3 : Int) * (v_net.a.length : Int))).bind fun l45 =>
(forF (S := Unit) (R := Bool) (fun (x49 : Int) (s48 : Unit) => (
(m_run v_made v29 ((Tp.mk []) : (Tp Int)) ((Tp.mk [x49]) : (Tp Int))).bind fun r53 =>
(mapO (fun (x56 : (Tp Int)) => (m_told (Sq.mk true x56.l)).bind fun r61 => some (r61 : (Option Int))) r53).bind fun l63 =>
(mapO (fun (x66 : (Tp Int)) => (atI x66.l (0 : Int)).bind fun t71 => some (t71 : Int)) r31).bind fun l73 =>
if (!decide ((l63 : (List (Option Int))) = (l73.map some))) = true then (
some (.rt false))
else (
some (.nx ())) : Option (Fl (Unit) (Bool)))) l45 ()).bind fun fl50 =>
flK fl50 (fun s75 =>
some (.nx ())) (fun r => some (.rt r)))
else (
some (.nx ()))) : Option (Fl (Unit) (Bool)))) l11 ()).bind fun fl16 =>
flK fl16 (fun s76 =>
some true) some)
def R__law_good : List PyData → PyData → Prop := fun ds d => ∃ (v_net : (T3 (List (Str × Int)) (List (T3 Str (Tp Int) Bool)) (List (Str × (Tp Int))))) (v_made : (T3 (List (Str × Int)) (List (T3 Str (Tp Int) Bool)) (List (Str × (Tp Int))))) (v_many : Int) (r : Bool), ds = [enc (v_net : (T3 (List (Str × Int)) (List (T3 Str (Tp Int) Bool)) (List (Str × (Tp Int))))), enc (v_made : (T3 (List (Str × Int)) (List (T3 Str (Tp Int) Bool)) (List (Str × (Tp Int))))), enc (v_many : Int)] ∧ d = enc (r : Bool) ∧ m__law_good v_net v_made v_many = some r
def m_how_many_bits (v_bits : Int) : Option (Int) :=
(whileS (S := Int × Int) (fun (s2 : Int × Int) => some (decide ((0 : Int) < s2.1))) (fun (s2 : Int × Int) => (
(some (Builtin.bitAnd s2.1 (s2.1 - (1 : Int)))).bind fun v8 =>
some (v8, (s2.2 + (1 : Int))) : Option (Int × Int))) FUEL (v_bits, (0 : Int))).bind fun s10 =>
some s10.2
def R_how_many_bits : List PyData → PyData → Prop := fun ds d => ∃ (v_bits : Int) (r : Int), ds = [enc (v_bits : Int)] ∧ d = enc (r : Int) ∧ m_how_many_bits v_bits = some r
def m_matters (v_net : (T3 (List (Str × Int)) (List (T3 Str (Tp Int) Bool)) (List (Str × (Tp Int))))) : Option ((List (T3 Int Int Int))) :=
(m_all_wires v_net).bind fun r1 =>
(some ([] : (List (T3 Int Int Int)))).bind fun v3 =>
(m_free_places v_net).bind fun r6 =>
(forS (S := List (T3 Int Int Int)) (fun (x10 : Int) (s9 : List (T3 Int Int Int)) => (
(m_spoilt v_net r1.1 r1.2 ((Tp.mk [x10]) : (Tp Int))).bind fun r14 =>
(m_how_many_bits r14.1).bind fun r16 =>
(m_how_many_bits (Builtin.bitAnd r14.2 (Builtin.bitXor r1.2 r14.1))).bind fun r18 =>
(appO s9 (T3.mk x10 r16 r18)).bind fun u20 =>
some u20 : Option (List (T3 Int Int Int)))) r6 v3).bind fun s22 =>
some s22
def R_matters : List PyData → List PyData → Prop := fun ds es => ∃ (v_net : (T3 (List (Str × Int)) (List (T3 Str (Tp Int) Bool)) (List (Str × (Tp Int))))) (r : (List (T3 Int Int Int))), ds = [enc (v_net : (T3 (List (Str × Int)) (List (T3 Str (Tp Int) Bool)) (List (Str × (Tp Int)))))] ∧ es = r.map enc ∧ m_matters v_net = some r
def m__law_case (v_pot : (List Int)) : Option (Bool × List Int) :=
(m__law_next v_pot (6 : Int)).bind fun r1 =>
(m__law_plain r1.2 (3 : Int) r1.1).bind fun r3 =>
(some (T3.mk r3.1.a r3.1.b (cutL r3.1.c none (some (3 : Int))))).bind fun v5 =>
(m_in_threes v5).bind fun r7 =>
(m_in_pairs v5).bind fun r9 =>
(m_with_votes v5).bind fun r11 =>
(m__law_good v5 r7 (3 : Int)).bind fun r13 =>
(if (!r13) = true then some true else ((m__law_good v5 r9 (2 : Int)).bind fun r16 => (if (!r16) = true then some true else ((m__law_good v5 r11 (3 : Int)).bind fun r19 => some (!r19))).bind fun b21 => some b21)).bind fun b22 =>
if b22 = true then (
some (false, r3.2))
else (
(m_bears r7 (1 : Int) ("right" : Str)).bind fun r23 =>
(eqO (r23 : Ans) (Ans.a1 ("bears" : Str))).bind fun b25 =>
(if (!b25) = true then some true else ((m_bears r11 (1 : Int) ("right" : Str)).bind fun r28 => (eqO (r28 : Ans) (Ans.a1 ("bears" : Str))).bind fun b30 => some (!b30))).bind fun b32 =>
if b32 = true then (
some (false, r3.2))
else (
(m_bears r9 (1 : Int) ("safe" : Str)).bind fun r33 =>
(eqO (r33 : Ans) (Ans.a1 ("bears" : Str))).bind fun b35 =>
if (!b35) = true then (
some (false, r3.2))
else (
(m_matters v5).bind fun r37 =>
(some (decide ((((r37.filter (fun (x40 : (T3 Int Int Int)) => (decide ((0 : Int) < x40.b)))).map (fun (x40 : (T3 Int Int Int)) => (x40.a : Int))) : (List Int)) = ([] : (List Int))))).bind fun v43 =>
(m_bears r9 (1 : Int) ("right" : Str)).bind fun r45 =>
(eqO (r45 : Ans) (Ans.a1 ("bears" : Str))).bind fun b47 =>
if (!decide (b47 = v43)) = true then (
some (false, r3.2))
else (
(m_size v5).bind fun r49 =>
(m_size r7).bind fun r51 =>
(if (!decide ((r51 : (T4 Int Int Int Int)) = (T4.mk ((3 : Int) * r49.a) ((3 : Int) * r49.b) ((3 : Int) * r49.c) r49.d))) = true then some true else ((m_size r9).bind fun r54 => some (!decide ((r54 : (T4 Int Int Int Int)) = (T4.mk ((2 : Int) * r49.a) ((2 : Int) * r49.b) ((2 : Int) * r49.c) r49.d))))).bind fun b56 =>
if b56 = true then (
some (false, r3.2))
else (
(m_size r11).bind fun r59 =>
some ((decide ((r59 : (T4 Int Int Int Int)) = (T4.mk ((6 : Int) * r49.a) (((3 : Int) * r49.b) + ((3 : Int) * r49.a)) ((6 : Int) * r49.c) ((2 : Int) * r49.d)))), r3.2))))))
def R__law_case : List PyData → List PyData → PyData → List PyData → Prop := fun c ds d c' => ∃ (v_pot : (List Int)) (r : Bool × List Int), c = v_pot.map enc ∧ ds = [] ∧ d = enc (r.1 : Bool) ∧ c' = r.2.map enc ∧ m__law_case v_pot = some r
def m_law (v_script : (List Int)) : Option (Bool) :=
(forF (S := Unit) (R := Bool) (fun (c2 : Int) (_ : Unit) => (
(m__law_case ([c2, 0] : List Int)).bind fun r8 =>
if (!r8.1) = true then (
some (.rt false))
else (
some (.nx ())) : Option (Fl Unit (Bool)))) (potsL (cutL v_script none (some (2 : Int)))) ()).bind fun fl3 =>
flK fl3 (fun _ =>
some true) some
def R_law : List PyData → PyData → Prop := fun ds d => ∃ (v_script : (List Int)) (r : Bool), ds = [enc (v_script : (List Int))] ∧ d = enc (r : Bool) ∧ m_law v_script = some r
section
variable {P : Program} {w : World} {K : Fg} {mg : Str → Option Value} {base : Heap}
theorem sc__law_pots : FnScope ["script", "cell"] ["script"] (defScope (top 38)) := ⟨rfl, rfl, rfl, by decide +kernel, rfl, by decide +kernel, by decide +kernel⟩
theorem ok__law_pots (B : Bi mg) (D : Dfn K mg "_law_pots" (top 38) ["script"]) : Cal P w K mg base 1 "_law_pots" ["script"] (SpPots K) := by
  refine D.cal sc__law_pots spots_len fun f cdv A outer s H vs Q E hr h => ?_
  refine ⟨_, (pss_cons (ps_if (pt_cmpR op_eq (pe_callB (k_len_seq K) (by rfl) B.len PySem.boot_len (pa_cons (pv 0) pa_nil)) pe_int (nomark _)) (pss_one (ps_ret (pe_lst (pa_cons (pe_lst (pa_cons pe_int (pa_cons pe_int pa_nil))) pa_nil)))) pss_nil) (pss_one (ps_ret (pe_lc (own := [(("cell" : Str), 1)]) (g := (gName 1)) (tt := tYes) rfl sc__law_pots.nd (k_pi_list K (pe_slice (k_sl_list K) (pv 0) po_none (po_some pe_int))) (blkOk_by (by kernel_rfl)) (fun _ _ _ _ _ => (pg_name (i := 1) sc__law_pots.nd rfl (Or.inl rfl))) (fun _ _ _ _ _ => pts_nil) (fun _ _ _ _ _ => (pe_lst (pa_cons (pv 1) (pa_cons pe_int pa_nil)))))))), ?_⟩
  obtain ⟨F, v_script, hw, hF, k⟩ := h
  have E : EnvR K F _ [.val (enc (v_script : (List Int))), .un] := EnvR.start (N := ["script", "cell"]) (AsR.of_all hw)
  have S := Hx.start (K := K) hF
  with_reducible refine sq ?_
  try (with_reducible refine nxD ?_)
  refine st_if (b := (decide ((v_script.length : Int) = (0 : Int)))) (rt_val (rx_eqi (len_nat (f := enc) (RX.s (rx_var (d := enc (v_script : (List Int))) rfl))) rx_int)) E S (fun hc F H f E S => ?_) (fun hc F H f E S => ?_)
  · have hp : potsL v_script = [0] := if_pos (Int.ofNat_eq_zero.mp (of_decide_eq_true hc))
    exact pots_one fun L ps H' a b c d e f g h => k L ps H' (S.same.trans a) (S.noh0 b) c (fun p hp => S.noh0 (d p hp)) e (by rw [hp]; exact f) g (by rw [hp]; exact h)
  · refine nxt ?_
    try (with_reducible refine nxD ?_)
    have hp : potsL v_script = cutL v_script none (some 63) := if_neg (fun z => of_decide_eq_false hc (Int.ofNat_eq_zero.mpr z))
    exact pots_lc (cs := cutL v_script none (some 63)) (by decide) (by exact Nat.lt_succ_self 1) (RXo.frz (rxo_sliceM (f := enc) (RX.s (rx_var (d := enc (v_script : (List Int))) rfl)) ro_none (ro_some rx_int))) E S.fh fun L ps H' a b c d e f g h => k L ps H' (S.same.trans a) (S.noh0 b) c (fun p hp => S.noh0 (d p hp)) e (by rw [hp]; exact f) g (by rw [hp]; exact h)
theorem sc__law_next : FnScope ["pot", "many", "cell", "stir"] ["pot", "many"] (defScope (top 37)) := ⟨rfl, rfl, rfl, by decide +kernel, rfl, by decide +kernel, by decide +kernel⟩
theorem ok__law_next (D : Dfn K mg "_law_next" (top 37) ["pot", "many"]) : Cal P w K mg base 1 "_law_next" ["pot", "many"] (SpPo K R__law_next) := by
  refine D.cal sc__law_next (spo_len fun c ds d c' h => by obtain ⟨_, _, _, _, rfl, _⟩ := h; rfl) fun f cdv A outer s H vs Q E hr h => ?_
  refine ⟨_, (pss_cons (ps_asg (pe_op op_add (pe_ix (k_ix_list K) (pv 0) pe_int (fun _ _ => rfl)) pe_int) (pg_sub (pv 0) pe_int set_list)) (pss_cons (ps_set (i := 2) sc__law_next.nd rfl (Or.inl rfl) (pe_ix (k_ix_list K) (pv 0) pe_int (fun _ _ => rfl))) (pss_cons (ps_if (pt_cmpR op_ge (pv 2) (pe_op op_pow pe_int pe_int) (nomark _)) (pss_cons (ps_asg (pe_op op_fdiv (pv 2) (pv 1)) (pg_sub (pv 0) pe_int set_list)) (pss_one (ps_ret (pe_op op_mod (pv 2) (pv 1))))) pss_nil) (pss_cons (ps_set (i := 3) sc__law_next.nd rfl (Or.inl rfl) (pe_op op_mod (pe_op op_add (pe_op op_add (pe_op op_mul (pv 2) pe_int) (pe_op op_mul (pe_ix (k_ix_list K) (pv 0) pe_int (fun _ _ => rfl)) pe_int)) pe_int) pe_int)) (pss_cons (ps_set (i := 3) sc__law_next.nd rfl (Or.inl rfl) (pe_op op_mod (pe_op op_mul (pv 3) (pv 3)) pe_int)) (pss_one (ps_ret (pe_op op_mod (pe_op op_fdiv (pe_op op_mod (pe_op op_add (pe_op op_mul (pv 3) pe_int) (pe_op op_mul (pe_ix (k_ix_list K) (pv 0) pe_int (fun _ _ => rfl)) pe_int)) pe_int) pe_int) (pv 1))))))))), ?_⟩
  obtain ⟨F, p_pot, ws, xs, c, ds, d, c', rfl, hw, hF, hp, hH, hz, hc, ⟨v_pot, v_many, rr, rfl, rfl, rfl, rfl, hm0⟩, k⟩ := h
  have E : EnvR K F _ [.adr p_pot, .val (enc (v_many : Int)), .un, .un] := EnvR.start (N := ["pot", "many", "cell", "stir"]) (AsR.adr (AsR.of_all hw))
  have S := Hx.start1 hF hp hH hz hc
  have fc : Same F F := Same.refl F
  unfold m__law_next at hm0
  obtain ⟨t1, h2, hm0⟩ := bindE hm0
  obtain ⟨u3, h4, hm0⟩ := bindE hm0
  try (with_reducible refine nxD ?_)
  with_reducible refine sq ?_
  refine st_put (j := 0) (ds := v_pot.map enc) (d := enc ((t1 + (1 : Int)) : Int)) (setO_map enc h4) (rx_add (rx_ix (atI_map enc h2) (rxs_own (j := 0) (ds := v_pot.map enc) rfl rfl) rx_int) rx_int) rfl rx_int rfl E S fun F H f E S => ?_
  replace fc := fc.trans f
  have E : EnvR K _ _ [.adr p_pot, .val (enc (v_many : Int)), .un, .un] := E
  have S : Hx K _ _ _ _ [⟨p_pot, false, u3.map enc⟩] _ := S
  obtain ⟨t5, h6, hm0⟩ := bindE hm0
  try (with_reducible refine nxD ?_)
  with_reducible refine sq ?_
  refine st_set (i := 2) (d := enc (t5 : Int)) (rx_ix (atI_map enc h6) (rxs_own (j := 0) (ds := u3.map enc) rfl rfl) rx_int) E S fun σ F H f E S => ?_
  replace fc := fc.trans f
  have E : EnvR K _ _ [.adr p_pot, .val (enc (v_many : Int)), .val (enc (t5 : Int)), .un] := E
  have S : Hx K _ _ _ _ [⟨p_pot, false, u3.map enc⟩] _ := S
  try (with_reducible refine nxD ?_)
  with_reducible refine sq ?_
  refine st_if (b := (decide (((10 : Int) ^ (18 : Int).toNat) ≤ t5))) (rt_val (rx_ge (rx_var (d := enc (t5 : Int)) rfl) (rx_pow rx_int rx_int ⟨by decide, by decide, by decide⟩))) E S (fun hc F H f E S => ?_) (fun hc F H f E S => ?_)
  · rw [if_pos hc] at hm0
    replace fc := fc.trans f
    obtain ⟨t7, h8, hm0⟩ := bindE hm0
    obtain ⟨u9, h10, hm0⟩ := bindE hm0
    try (with_reducible refine nxD ?_)
    with_reducible refine sq ?_
    refine st_put (j := 0) (ds := u3.map enc) (d := enc (t7 : Int)) (setO_map enc h10) (rx_fdivO h8 (rx_var (d := enc (t5 : Int)) rfl) (rx_var (d := enc (v_many : Int)) rfl)) rfl rx_int rfl E S fun F H f E S => ?_
    replace fc := fc.trans f
    have E : EnvR K _ _ [.adr p_pot, .val (enc (v_many : Int)), .val (enc (t5 : Int)), .un] := E
    have S : Hx K _ _ _ _ [⟨p_pot, false, u9.map enc⟩] _ := S
    obtain ⟨t13, h14, hm0⟩ := bindE hm0
    obtain rfl := Option.some.inj hm0
    -- return
    try (with_reducible refine nxD ?_)
    refine st_ret (d := enc (t13 : Int)) (rx_modO h14 (rx_var (d := enc (t5 : Int)) rfl) (rx_var (d := enc (v_many : Int)) rfl)) E S fun v F H f S r => ?_
    obtain ⟨g1, g2, g3, ys, g4, g5, g6⟩ := S.get (j := 0) rfl
    exact k v F H ys S.stp g1 g4 g5 g6 r
  · rw [if_neg (by rw [hc]; decide)] at hm0
    replace fc := fc.trans f
    refine nxt ?_
    obtain ⟨t15, h16, hm0⟩ := bindE hm0
    obtain ⟨v17, h18, hm0⟩ := letE hm0
    try (with_reducible refine nxD ?_)
    with_reducible refine sq ?_
    refine st_set (i := 3) (d := enc (v17 : Int)) (rx_as (x := (((((t5 * (69621 : Int)) + (t15 * (7919 : Int))) + (13 : Int)) % (2147483647 : Int)) : Int)) h18 (rx_mod (rx_add (rx_add (rx_mul (rx_var (d := enc (t5 : Int)) rfl) rx_int (.inr (by decide))) (rx_mul (rx_ix (atI_map enc h16) (rxs_own (j := 0) (ds := u3.map enc) rfl rfl) rx_int) rx_int (.inr (by decide)))) rx_int) rx_int (by decide))) E S fun σ F H f E S => ?_
    replace fc := fc.trans f
    have E : EnvR K _ _ [.adr p_pot, .val (enc (v_many : Int)), .val (enc (t5 : Int)), .val (enc (v17 : Int))] := E
    have S : Hx K _ _ _ _ [⟨p_pot, false, u3.map enc⟩] _ := S
    obtain ⟨t19, h20, hm0⟩ := bindE hm0
    obtain ⟨v21, h22, hm0⟩ := letE hm0
    try (with_reducible refine nxD ?_)
    with_reducible refine sq ?_
    refine st_set (i := 3) (d := enc (v21 : Int)) (rx_as (x := ((t19 % (2147483629 : Int)) : Int)) h22 (rx_mod (rx_mulO h20 (rx_var (d := enc (v17 : Int)) rfl) (rx_var (d := enc (v17 : Int)) rfl)) rx_int (by decide))) E S fun σ F H f E S => ?_
    replace fc := fc.trans f
    have E : EnvR K _ _ [.adr p_pot, .val (enc (v_many : Int)), .val (enc (t5 : Int)), .val (enc (v21 : Int))] := E
    have S : Hx K _ _ _ _ [⟨p_pot, false, u3.map enc⟩] _ := S
    obtain ⟨t27, h28, hm0⟩ := bindE hm0
    obtain ⟨t29, h30, hm0⟩ := bindE hm0
    obtain rfl := Option.some.inj hm0
    -- return
    try (with_reducible refine nxD ?_)
    refine st_ret (d := enc (t29 : Int)) (rx_modO h30 (rx_fdiv (rx_mod (rx_add (rx_mul (rx_var (d := enc (v21 : Int)) rfl) rx_int (.inr (by decide))) (rx_mul (rx_ix (atI_map enc h28) (rxs_own (j := 0) (ds := u3.map enc) rfl rfl) rx_int) rx_int (.inr (by decide)))) rx_int (by decide)) rx_int ⟨by decide, by decide⟩) (rx_var (d := enc (v_many : Int)) rfl)) E S fun v F H f S r => ?_
    obtain ⟨g1, g2, g3, ys, g4, g5, g6⟩ := S.get (j := 0) rfl
    exact k v F H ys S.stp g1 g4 g5 g6 r
theorem sc__law_plain : FnScope ["pot", "most", "gates", "names", "turn", "ins", "heard", "k", "many", "kind", "count", "wires", "outs", "wire", "j"] ["pot", "most", "gates"] (defScope (top 39)) := ⟨rfl, rfl, rfl, by decide +kernel, rfl, by decide +kernel, by decide +kernel⟩
theorem ok__law_plain (B : Bi mg) (D : Dfn K mg "_law_plain" (top 39) ["pot", "most", "gates"]) (C__law_next : Cal P w K mg base 1 "_law_next" ["pot", "many"] (SpPo K R__law_next)) : Cal P w K mg base 2 "_law_plain" ["pot", "most", "gates"] (SpPo K R__law_plain) := by
  refine D.cal sc__law_plain (spo_len fun c ds d c' h => by obtain ⟨_, _, _, _, _, rfl, _⟩ := h; rfl) fun f cdv A outer s H vs Q E hr h => ?_
  refine ⟨_, (pss_cons (ps_set (i := 3) sc__law_plain.nd rfl (Or.inr rfl) (pe_lst (pa_cons pe_str (pa_cons pe_str (pa_cons pe_str (pa_cons pe_str (pa_cons pe_str (pa_cons pe_str pa_nil)))))))) (pss_cons (ps_set (i := 4) sc__law_plain.nd rfl (Or.inr rfl) (pe_cal C__law_next hr (pa_cons (pv 0) (pa_cons pe_int pa_nil)))) (pss_cons (ps_setLc (i := 5) (own := [(("k" : Str), 7)]) (g := (gName 7)) (tt := tYes) rfl sc__law_plain.nd rfl rfl (sw_true rfl rfl rfl (by decide +kernel)) (pi_range1 rfl B.range (pa_cons (pe_op op_add pe_int (pe_cal C__law_next hr (pa_cons (pv 0) (pa_cons (pv 1) pa_nil)))) pa_nil)) (blkOk_by (by kernel_rfl)) (fun _ _ _ _ _ => (pg_name (i := 7) sc__law_plain.nd rfl (Or.inl rfl))) (fun _ _ _ _ _ => pts_nil) (fun _ _ _ _ _ => (pe_tup (pa_cons (pe_ix (k_ix_list K) (pv 3) (pe_op op_mod (pe_op op_add (pv 4) (pv 7)) pe_int) (fun _ _ => rfl)) (pa_cons pe_int pa_nil))))) (pss_cons (ps_set (i := 6) sc__law_plain.nd rfl (Or.inl rfl) (pe_lst pa_nil)) (pss_cons (ps_for PassesOwn.never rfl (pi_range1 rfl B.range (pa_cons (pv 2) pa_nil)) (pg_name (i := 7) sc__law_plain.nd rfl (Or.inl rfl)) (pss_cons (ps_set (i := 8) sc__law_plain.nd rfl (Or.inr rfl) (pe_op op_add (pe_callB (k_len_seq K) (by rfl) B.len PySem.boot_len (pa_cons (pv 5) pa_nil)) (pv 7))) (pss_cons (ps_set (i := 9) sc__law_plain.nd rfl (Or.inl rfl) (pe_ix (k_ix_list K) (pe_lst (pa_cons pe_str (pa_cons pe_str (pa_cons pe_str (pa_cons pe_str (pa_cons pe_str (pa_cons pe_str (pa_cons pe_str (pa_cons pe_str pa_nil))))))))) (pe_cal C__law_next hr (pa_cons (pv 0) (pa_cons pe_int pa_nil))) (fun _ _ => rfl))) (pss_cons (ps_set (i := 10) sc__law_plain.nd rfl (Or.inl rfl) (pe_dget2 (hu_of hr) (pe_disp (pps_cons pe_str pe_int (pps_cons pe_str pe_int pps_nil)) (by rfl) (by rfl) (fun z => by cases z) (by decide)) (pv 9) pe_int ⟨by rfl, by rfl, by rfl, by rfl⟩)) (pss_cons (ps_setLc (i := 11) (own := [(("j" : Str), 14)]) (g := (gName 14)) (tt := tYes) rfl sc__law_plain.nd rfl rfl (sw_true rfl rfl rfl (by decide +kernel)) (pi_range1 rfl B.range (pa_cons (pv 10) pa_nil)) (blkOk_by (by kernel_rfl)) (fun _ _ _ _ _ => (pg_name (i := 14) sc__law_plain.nd rfl (Or.inl rfl))) (fun _ _ _ _ _ => pts_nil) (fun _ _ _ _ _ => (pe_op op_sub (pe_op op_sub (pv 8) pe_int) (pe_cal C__law_next hr (pa_cons (pv 0) (pa_cons (pe_ix (k_ix_list K) (pe_lst (pa_cons (pv 8) (pa_cons (pe_callB (call_min2 rfl) (by rfl) B.min (by decide +kernel) (pa_cons (pv 8) (pa_cons pe_int pa_nil))) pa_nil))) (pe_op op_mod (pv 14) pe_int) (fun _ _ => rfl)) pa_nil)))))) (pss_one (ps_expr (pe_bm PySem.F.plainAttrs_list PySem.F.slot_list_append PySem.F.type_list_append mt_append (pv 6) (pa_cons (pe_tup (pa_cons (pv 9) (pa_cons (pe_callTy (k_tuple_of K) (by rfl) B.tuple (by decide +kernel) (pa_cons (pv 11) pa_nil)) (pa_cons (pe_cmpR op_eq (pe_cal C__law_next hr (pa_cons (pv 0) (pa_cons pe_int pa_nil))) pe_int (nomark _)) pa_nil)))) pa_nil))))))))) (pss_cons (ps_set (i := 12) sc__law_plain.nd rfl (Or.inl rfl) (pe_lst pa_nil)) (pss_cons (ps_for PassesOwn.never rfl (pi_range1 rfl B.range (pa_cons (pe_op op_add pe_int (pe_cal C__law_next hr (pa_cons (pv 0) (pa_cons pe_int pa_nil)))) pa_nil)) (pg_name (i := 7) sc__law_plain.nd rfl (Or.inl rfl)) (pss_cons (ps_set (i := 8) sc__law_plain.nd rfl (Or.inr rfl) (pe_op op_add (pe_callB (k_len_seq K) (by rfl) B.len PySem.boot_len (pa_cons (pv 5) pa_nil)) (pe_callB (k_len_seq K) (by rfl) B.len PySem.boot_len (pa_cons (pv 6) pa_nil)))) (pss_cons (ps_set (i := 13) sc__law_plain.nd rfl (Or.inl rfl) (pe_op op_sub (pe_op op_sub (pv 8) pe_int) (pe_cal C__law_next hr (pa_cons (pv 0) (pa_cons (pe_ix (k_ix_list K) (pe_lst (pa_cons (pv 8) (pa_cons (pe_callB (call_min2 rfl) (by rfl) B.min (by decide +kernel) (pa_cons (pv 8) (pa_cons pe_int pa_nil))) pa_nil))) (pe_op op_mod (pv 7) pe_int) (fun _ _ => rfl)) pa_nil))))) (pss_one (ps_expr (pe_bm PySem.F.plainAttrs_list PySem.F.slot_list_append PySem.F.type_list_append mt_append (pv 12) (pa_cons (pe_tup (pa_cons (pe_ix (k_ix_list K) (pe_lst (pa_cons pe_str (pa_cons pe_str (pa_cons pe_str (pa_cons pe_str (pa_cons pe_str (pa_cons pe_str pa_nil))))))) (pv 7) (fun _ _ => rfl)) (pa_cons (pe_tup (pa_cons (pv 13) pa_nil)) pa_nil))) pa_nil))))))) (pss_one (ps_ret (pe_tup (pa_cons (pv 5) (pa_cons (pv 6) (pa_cons (pv 12) pa_nil))))))))))))), ?_⟩
  obtain ⟨F, p_pot, ws, xs, c, ds, d, c', rfl, hw, hF, hp, hH, hz, hc, ⟨v_pot, v_most, v_gates, rr, rfl, rfl, rfl, rfl, hm0⟩, k⟩ := h
  have E : EnvR K F _ [.adr p_pot, .val (enc (v_most : Int)), .val (enc (v_gates : Int)), .un, .un, .un, .un, .un, .un, .un, .un, .un, .un, .un, .un] := EnvR.start (N := ["pot", "most", "gates", "names", "turn", "ins", "heard", "k", "many", "kind", "count", "wires", "outs", "wire", "j"]) (AsR.adr (AsR.of_all hw))
  have S := Hx.start1 hF hp hH hz hc
  have fc : Same F F := Same.refl F
  unfold m__law_plain at hm0
  obtain ⟨v1, h2, hm0⟩ := letE hm0
  try (with_reducible refine nxD ?_)
  with_reducible refine sq ?_
  refine st_set (i := 3) (d := enc (v1 : (List Str))) (rx_as (x := (([("a" : Str), ("bb" : Str), ("signal" : Str), ("x" : Str), ("yes" : Str), ("abcdefgh" : Str)] : (List Str)) : (List Str))) h2 (RXo.frz (rxo_lst (ds := [enc (("a" : Str) : Str), enc (("bb" : Str) : Str), enc (("signal" : Str) : Str), enc (("x" : Str) : Str), enc (("yes" : Str) : Str), enc (("abcdefgh" : Str) : Str)]) (ra_cons (rx_str (x := ("a" : Str))) (ra_cons (rx_str (x := ("bb" : Str))) (ra_cons (rx_str (x := ("signal" : Str))) (ra_cons (rx_str (x := ("x" : Str))) (ra_cons (rx_str (x := ("yes" : Str))) (ra_cons (rx_str (x := ("abcdefgh" : Str))) ra_nil))))))))) E S fun σ F H f E S => ?_
  replace fc := fc.trans f
  have E : EnvR K _ _ [.adr p_pot, .val (enc (v_most : Int)), .val (enc (v_gates : Int)), .val (enc (v1 : (List Str))), .un, .un, .un, .un, .un, .un, .un, .un, .un, .un, .un] := E
  have S : Hx K _ _ _ _ [⟨p_pot, false, v_pot.map enc⟩] _ := S
  obtain ⟨r3, h4, hm0⟩ := bindE hm0
  try (with_reducible refine nxD ?_)
  with_reducible refine sq ?_
  refine st_set (i := 4) (d := enc (r3.1 : Int)) (rx_callo (j := 0) (ds := [enc ((6 : Int) : Int)]) (c := v_pot.map enc) (c' := r3.2.map enc) (d := enc (r3.1 : Int)) (ra_own rfl (ra_cons rx_int ra_nil)) rfl ⟨_, _, r3, rfl, rfl, rfl, rfl, h4⟩) E S fun σ F H f E S => ?_
  replace fc := fc.trans f
  have E : EnvR K _ _ [.adr p_pot, .val (enc (v_most : Int)), .val (enc (v_gates : Int)), .val (enc (v1 : (List Str))), .val (enc (r3.1 : Int)), .un, .un, .un, .un, .un, .un, .un, .un, .un, .un] := E
  have S : Hx K _ _ _ _ [⟨p_pot, false, r3.2.map enc⟩] _ := S
  obtain ⟨r5, h6, hm0⟩ := bindE hm0
  obtain ⟨l7, h8, hm0⟩ := bindE hm0
  obtain ⟨l17, h18, hm0⟩ := bindE hm0
  try (with_reducible refine nxD ?_)
  with_reducible refine sq ?_
  refine st_set (i := 5) (d := enc (l17 : (List (Str × Int)))) (RXo.frz (rxo_mapO (eα := enc) (eβ := enc) (fun x10 => [.adr p_pot, .val (enc (v_most : Int)), .val (enc (v_gates : Int)), .val (enc (v1 : (List Str))), .val (enc (r3.1 : Int)), .un, .un, .val (enc (x10 : Int)), .un, .un, .un, .un, .un, .un, .un]) [7] (ri_range h8 (rx_add rx_int (rx_callo (j := 0) (ds := [enc (v_most : Int)]) (c := r3.2.map enc) (c' := r5.2.map enc) (d := enc (r5.1 : Int)) (ra_own rfl (ra_cons (rx_var (d := enc (v_most : Int)) rfl) ra_nil)) rfl ⟨_, _, r5, rfl, rfl, rfl, rfl, h6⟩))) h18 (by decide) (fun x10 _ => (rg_name (i := 7) (d := enc (x10 : Int)))) (fun x10 _ y h9 D11 acc12 => by obtain ⟨t15, h16, h9⟩ := bindE h9; obtain rfl := Option.some.inj h9; exact (rx_tup (ds := [enc (t15 : Str), enc ((1 : Int) : Int)]) (ra_cons (rx_ix (atI_map enc h16) (RX.s (rx_var (d := enc (v1 : (List Str))) rfl)) (rx_mod (rx_add (rx_var (d := enc (r3.1 : Int)) rfl) (rx_var (d := enc (x10 : Int)) rfl)) rx_int (by decide))) (ra_cons rx_int ra_nil)))))) E S fun σ F H f E S => ?_
  replace fc := fc.trans f
  have E : EnvR K _ _ [.adr p_pot, .val (enc (v_most : Int)), .val (enc (v_gates : Int)), .val (enc (v1 : (List Str))), .val (enc (r3.1 : Int)), .val (enc (l17 : (List (Str × Int)))), .un, .un, .un, .un, .un, .un, .un, .un, .un] := E
  have S : Hx K _ _ _ _ [⟨p_pot, false, r5.2.map enc⟩] _ := S
  obtain ⟨v19, h20, hm0⟩ := letE hm0
  try (with_reducible refine nxD ?_)
  with_reducible refine sq ?_
  refine st_setO (i := 6) (ds := v19.map enc) (rxo_as (f := enc) h20 (rxo_lst (ds := []) ra_nil)) E S fun p_heard21 σ F H f E S => ?_
  replace fc := fc.trans f
  have E : EnvR K _ _ [.adr p_pot, .val (enc (v_most : Int)), .val (enc (v_gates : Int)), .val (enc (v1 : (List Str))), .val (enc (r3.1 : Int)), .val (enc (l17 : (List (Str × Int)))), .adr p_heard21, .un, .un, .un, .un, .un, .un, .un, .un] := E
  have S : Hx K _ _ _ _ [⟨p_heard21, true, v19.map enc⟩, ⟨p_pot, false, r5.2.map enc⟩] _ := S
  obtain ⟨l22, h23, hm0⟩ := bindE hm0
  obtain ⟨s59, h28, hm0⟩ := bindE hm0
  try (with_reducible refine nxD ?_)
  with_reducible refine sq ?_
  refine st_forS (eα := enc) (fun s25 => [.adr p_pot, .val (enc (v_most : Int)), .val (enc (v_gates : Int)), .val (enc (v1 : (List Str))), .val (enc (r3.1 : Int)), .val (enc (l17 : (List (Str × Int)))), .adr p_heard21, .un, .un, .un, .un, .un, .un, .un, .un]) (fun s25 => [⟨p_heard21, true, s25.2.map enc⟩, ⟨p_pot, false, s25.1.map enc⟩]) E S (ri_range h23 (rx_var (d := enc (v_gates : Int)) rfl)) h28 ⟨.inl rfl, .inl rfl, .inl rfl, .inl rfl, .inl rfl, .inl rfl, .inl rfl, .inr rfl, .inr rfl, .inr rfl, .inr rfl, .inr rfl, .inr rfl, .inr rfl, .inr rfl, trivial⟩ (fun σ F H f E S => ?_) (fun x26 _ s25 s' h24 σ F H v _ E S r N B hN => ?_)
  · replace fc := fc.trans f
    have E : EnvR K _ _ [.adr p_pot, .val (enc (v_most : Int)), .val (enc (v_gates : Int)), .val (enc (v1 : (List Str))), .val (enc (r3.1 : Int)), .val (enc (l17 : (List (Str × Int)))), .adr p_heard21, .un, .un, .un, .un, .un, .un, .un, .un] := E
    have S : Hx K _ _ _ _ [⟨p_heard21, true, s59.2.map enc⟩, ⟨p_pot, false, s59.1.map enc⟩] _ := S
    obtain ⟨v60, h61, hm0⟩ := letE hm0
    try (with_reducible refine nxD ?_)
    with_reducible refine sq ?_
    refine st_setO (i := 12) (ds := v60.map enc) (rxo_as (f := enc) h61 (rxo_lst (ds := []) ra_nil)) E S fun p_outs62 σ F H f E S => ?_
    replace fc := fc.trans f
    have E : EnvR K _ _ [.adr p_pot, .val (enc (v_most : Int)), .val (enc (v_gates : Int)), .val (enc (v1 : (List Str))), .val (enc (r3.1 : Int)), .val (enc (l17 : (List (Str × Int)))), .adr p_heard21, .un, .un, .un, .un, .un, .adr p_outs62, .un, .un] := E
    have S : Hx K _ _ _ _ [⟨p_outs62, true, v60.map enc⟩, ⟨p_heard21, true, s59.2.map enc⟩, ⟨p_pot, false, s59.1.map enc⟩] _ := S
    obtain ⟨r63, h64, hm0⟩ := bindE hm0
    obtain ⟨l65, h66, hm0⟩ := bindE hm0
    obtain ⟨s85, h71, hm0⟩ := bindE hm0
    try (with_reducible refine nxD ?_)
    with_reducible refine sq ?_
    refine st_forS (eα := enc) (fun s68 => [.adr p_pot, .val (enc (v_most : Int)), .val (enc (v_gates : Int)), .val (enc (v1 : (List Str))), .val (enc (r3.1 : Int)), .val (enc (l17 : (List (Str × Int)))), .adr p_heard21, .un, .un, .un, .un, .un, .adr p_outs62, .un, .un]) (fun s68 => [⟨p_outs62, true, s68.2.map enc⟩, ⟨p_heard21, true, s59.2.map enc⟩, ⟨p_pot, false, s68.1.map enc⟩]) E S (ri_range h66 (rx_add rx_int (rx_callo (j := 2) (ds := [enc ((6 : Int) : Int)]) (c := s59.1.map enc) (c' := r63.2.map enc) (d := enc (r63.1 : Int)) (ra_own rfl (ra_cons rx_int ra_nil)) rfl ⟨_, _, r63, rfl, rfl, rfl, rfl, h64⟩))) h71 ⟨.inl rfl, .inl rfl, .inl rfl, .inl rfl, .inl rfl, .inl rfl, .inl rfl, .inr rfl, .inr rfl, .inr rfl, .inr rfl, .inr rfl, .inl rfl, .inr rfl, .inr rfl, trivial⟩ (fun σ F H f E S => ?_) (fun x69 _ s68 s' h67 σ F H v _ E S r N B hN => ?_)
    · replace fc := fc.trans f
      have E : EnvR K _ _ [.adr p_pot, .val (enc (v_most : Int)), .val (enc (v_gates : Int)), .val (enc (v1 : (List Str))), .val (enc (r3.1 : Int)), .val (enc (l17 : (List (Str × Int)))), .adr p_heard21, .un, .un, .un, .un, .un, .adr p_outs62, .un, .un] := E
      have S : Hx K _ _ _ _ [⟨p_outs62, true, s85.2.map enc⟩, ⟨p_heard21, true, s59.2.map enc⟩, ⟨p_pot, false, s85.1.map enc⟩] _ := S
      obtain ⟨F, f, E, S⟩ := frz_at (i := 6) (j := 1) rfl rfl E S
      have E : EnvR K F _ [.adr p_pot, .val (enc (v_most : Int)), .val (enc (v_gates : Int)), .val (enc (v1 : (List Str))), .val (enc (r3.1 : Int)), .val (enc (l17 : (List (Str × Int)))), .val (enc (s59.2 : (List (T3 Str (Tp Int) Bool)))), .un, .un, .un, .un, .un, .adr p_outs62, .un, .un] := E
      have S : Hx K _ _ _ F [⟨p_outs62, true, s85.2.map enc⟩, ⟨p_pot, false, s85.1.map enc⟩] _ := S
      replace fc := fc.trans f
      obtain ⟨F, f, E, S⟩ := frz_at (i := 12) (j := 0) rfl rfl E S
      have E : EnvR K F _ [.adr p_pot, .val (enc (v_most : Int)), .val (enc (v_gates : Int)), .val (enc (v1 : (List Str))), .val (enc (r3.1 : Int)), .val (enc (l17 : (List (Str × Int)))), .val (enc (s59.2 : (List (T3 Str (Tp Int) Bool)))), .un, .un, .un, .un, .un, .val (enc (s85.2 : (List (Str × (Tp Int))))), .un, .un] := E
      have S : Hx K _ _ _ F [⟨p_pot, false, s85.1.map enc⟩] _ := S
      replace fc := fc.trans f
      obtain rfl := Option.some.inj hm0
      -- return
      try (with_reducible refine nxD ?_)
      refine st_ret (d := enc ((T3.mk l17 s59.2 s85.2) : (T3 (List (Str × Int)) (List (T3 Str (Tp Int) Bool)) (List (Str × (Tp Int)))))) (rx_tup (ds := [enc (l17 : (List (Str × Int))), enc (s59.2 : (List (T3 Str (Tp Int) Bool))), enc (s85.2 : (List (Str × (Tp Int))))]) (ra_cons (rx_var (d := enc (l17 : (List (Str × Int)))) rfl) (ra_cons (rx_var (d := enc (s59.2 : (List (T3 Str (Tp Int) Bool)))) rfl) (ra_cons (rx_var (d := enc (s85.2 : (List (Str × (Tp Int))))) rfl) ra_nil)))) E S fun v F H f S r => ?_
      obtain ⟨g1, g2, g3, ys, g4, g5, g6⟩ := S.get (j := 0) rfl
      exact k v F H ys S.stp g1 g4 g5 g6 r
    · refine ((rg_name (i := 7) (d := enc (x69 : Int)))).run _ _ _ _ _ E r S.fh fun σ E _ => ?_
      have E : EnvR K _ _ [.adr p_pot, .val (enc (v_most : Int)), .val (enc (v_gates : Int)), .val (enc (v1 : (List Str))), .val (enc (r3.1 : Int)), .val (enc (l17 : (List (Str × Int)))), .adr p_heard21, .val (enc (x69 : Int)), .un, .un, .un, .un, .adr p_outs62, .un, .un] := E
      have S : Hx K _ _ _ _ [⟨p_outs62, true, s68.2.map enc⟩, ⟨p_heard21, true, s59.2.map enc⟩, ⟨p_pot, false, s68.1.map enc⟩] _ := S
      have fc : Same F F := Same.refl F
      obtain ⟨v73, h74, h67⟩ := letE h67
      try (with_reducible refine nxD ?_)
      with_reducible refine sq ?_
      refine st_set (i := 8) (d := enc (v73 : Int)) (rx_as (x := (((l17.length : Int) + (s59.2.length : Int)) : Int)) h74 (rx_add (len_nat (f := enc) (RX.s (rx_var (d := enc (l17 : (List (Str × Int)))) rfl))) (len_nat (f := enc) (rxs_own (j := 1) (ds := s59.2.map enc) rfl rfl)))) E S fun σ F H f E S => ?_
      replace fc := fc.trans f
      have E : EnvR K _ _ [.adr p_pot, .val (enc (v_most : Int)), .val (enc (v_gates : Int)), .val (enc (v1 : (List Str))), .val (enc (r3.1 : Int)), .val (enc (l17 : (List (Str × Int)))), .adr p_heard21, .val (enc (x69 : Int)), .val (enc (v73 : Int)), .un, .un, .un, .adr p_outs62, .un, .un] := E
      have S : Hx K _ _ _ _ [⟨p_outs62, true, s68.2.map enc⟩, ⟨p_heard21, true, s59.2.map enc⟩, ⟨p_pot, false, s68.1.map enc⟩] _ := S
      obtain ⟨t75, h76, h67⟩ := bindE h67
      obtain ⟨r77, h78, h67⟩ := bindE h67
      obtain ⟨v79, h80, h67⟩ := letE h67
      try (with_reducible refine nxD ?_)
      with_reducible refine sq ?_
      refine st_set (i := 13) (d := enc (v79 : Int)) (rx_as (x := (((v73 - (1 : Int)) - r77.1) : Int)) h80 (rx_sub (rx_sub (rx_var (d := enc (v73 : Int)) rfl) rx_int) (rx_callo (j := 2) (ds := [enc (t75 : Int)]) (c := s68.1.map enc) (c' := r77.2.map enc) (d := enc (r77.1 : Int)) (ra_own rfl (ra_cons (rx_ix (ds := List.map enc ([v73, (min2 v73 (4 : Int))] : (List Int))) (d := enc (t75 : Int)) (atI_map enc h76) (RXo.s (rxo_lst (ds := [enc (v73 : Int), enc ((min2 v73 (4 : Int)) : Int)]) (ra_cons (rx_var (d := enc (v73 : Int)) rfl) (ra_cons (rx_min2 (rx_var (d := enc (v73 : Int)) rfl) rx_int) ra_nil)))) (rx_mod (rx_var (d := enc (x69 : Int)) rfl) rx_int (by decide))) ra_nil)) rfl ⟨_, _, r77, rfl, rfl, rfl, rfl, h78⟩))) E S fun σ F H f E S => ?_
      replace fc := fc.trans f
      have E : EnvR K _ _ [.adr p_pot, .val (enc (v_most : Int)), .val (enc (v_gates : Int)), .val (enc (v1 : (List Str))), .val (enc (r3.1 : Int)), .val (enc (l17 : (List (Str × Int)))), .adr p_heard21, .val (enc (x69 : Int)), .val (enc (v73 : Int)), .un, .un, .un, .adr p_outs62, .val (enc (v79 : Int)), .un] := E
      have S : Hx K _ _ _ _ [⟨p_outs62, true, s68.2.map enc⟩, ⟨p_heard21, true, s59.2.map enc⟩, ⟨p_pot, false, r77.2.map enc⟩] _ := S
      obtain ⟨t81, h82, h67⟩ := bindE h67
      obtain ⟨u83, h84, h67⟩ := bindE h67
      try (with_reducible refine nxD ?_)
      refine (st_app (j := 0) (ds := s68.2.map enc) (d := enc ((t81, ((Tp.mk [v79]) : (Tp Int))) : (Str × (Tp Int)))) (appO_map enc h84) rfl (rx_tup (ds := [enc (t81 : Str), enc (((Tp.mk [v79]) : (Tp Int)) : (Tp Int))]) (ra_cons (rx_ix (ds := List.map enc ([("p" : Str), ("ou" : Str), ("result" : Str), ("q" : Str), ("abcdefgh" : Str), ("z" : Str)] : (List Str))) (d := enc (t81 : Str)) (atI_map enc h82) (RXo.s (rxo_lst (ds := [enc (("p" : Str) : Str), enc (("ou" : Str) : Str), enc (("result" : Str) : Str), enc (("q" : Str) : Str), enc (("abcdefgh" : Str) : Str), enc (("z" : Str) : Str)]) (ra_cons (rx_str (x := ("p" : Str))) (ra_cons (rx_str (x := ("ou" : Str))) (ra_cons (rx_str (x := ("result" : Str))) (ra_cons (rx_str (x := ("q" : Str))) (ra_cons (rx_str (x := ("abcdefgh" : Str))) (ra_cons (rx_str (x := ("z" : Str))) ra_nil)))))))) (rx_var (d := enc (x69 : Int)) rfl)) (ra_cons (rx_tup (ds := [enc (v79 : Int)]) (ra_cons (rx_var (d := enc (v79 : Int)) rfl) ra_nil)) ra_nil))) ⟨_, rfl⟩ rfl E S fun F H f E S => ?_)
      replace fc := fc.trans f
      have E : EnvR K _ _ [.adr p_pot, .val (enc (v_most : Int)), .val (enc (v_gates : Int)), .val (enc (v1 : (List Str))), .val (enc (r3.1 : Int)), .val (enc (l17 : (List (Str × Int)))), .adr p_heard21, .val (enc (x69 : Int)), .val (enc (v73 : Int)), .un, .un, .un, .adr p_outs62, .val (enc (v79 : Int)), .un] := E
      have S : Hx K _ _ _ _ [⟨p_outs62, true, u83.map enc⟩, ⟨p_heard21, true, s59.2.map enc⟩, ⟨p_pot, false, r77.2.map enc⟩] _ := S
      obtain rfl := Option.some.inj h67
      exact hN _ _ _ fc (E.weak ⟨.inl rfl, .inl rfl, .inl rfl, .inl rfl, .inl rfl, .inl rfl, .inl rfl, .inr rfl, .inr rfl, .inr rfl, .inr rfl, .inr rfl, .inl rfl, .inr rfl, .inr rfl, trivial⟩) S
  · refine ((rg_name (i := 7) (d := enc (x26 : Int)))).run _ _ _ _ _ E r S.fh fun σ E _ => ?_
    have E : EnvR K _ _ [.adr p_pot, .val (enc (v_most : Int)), .val (enc (v_gates : Int)), .val (enc (v1 : (List Str))), .val (enc (r3.1 : Int)), .val (enc (l17 : (List (Str × Int)))), .adr p_heard21, .val (enc (x26 : Int)), .un, .un, .un, .un, .un, .un, .un] := E
    have S : Hx K _ _ _ _ [⟨p_heard21, true, s25.2.map enc⟩, ⟨p_pot, false, s25.1.map enc⟩] _ := S
    have fc : Same F F := Same.refl F
    obtain ⟨v30, h31, h24⟩ := letE h24
    try (with_reducible refine nxD ?_)
    with_reducible refine sq ?_
    refine st_set (i := 8) (d := enc (v30 : Int)) (rx_as (x := (((l17.length : Int) + x26) : Int)) h31 (rx_add (len_nat (f := enc) (RX.s (rx_var (d := enc (l17 : (List (Str × Int)))) rfl))) (rx_var (d := enc (x26 : Int)) rfl))) E S fun σ F H f E S => ?_
    replace fc := fc.trans f
    have E : EnvR K _ _ [.adr p_pot, .val (enc (v_most : Int)), .val (enc (v_gates : Int)), .val (enc (v1 : (List Str))), .val (enc (r3.1 : Int)), .val (enc (l17 : (List (Str × Int)))), .adr p_heard21, .val (enc (x26 : Int)), .val (enc (v30 : Int)), .un, .un, .un, .un, .un, .un] := E
    have S : Hx K _ _ _ _ [⟨p_heard21, true, s25.2.map enc⟩, ⟨p_pot, false, s25.1.map enc⟩] _ := S
    obtain ⟨r32, h33, h24⟩ := bindE h24
    obtain ⟨t34, h35, h24⟩ := bindE h24
    try (with_reducible refine nxD ?_)
    with_reducible refine sq ?_
    refine st_set (i := 9) (d := enc (t34 : Str)) (rx_ixF (atI_map enc h35) (RXo.frz (rxo_lst (ds := [enc (("not" : Str) : Str), enc (("and" : Str) : Str), enc (("or" : Str) : Str), enc (("xor" : Str) : Str), enc (("vote" : Str) : Str), enc (("and" : Str) : Str), enc (("or" : Str) : Str), enc (("xor" : Str) : Str)]) (ra_cons (rx_str (x := ("not" : Str))) (ra_cons (rx_str (x := ("and" : Str))) (ra_cons (rx_str (x := ("or" : Str))) (ra_cons (rx_str (x := ("xor" : Str))) (ra_cons (rx_str (x := ("vote" : Str))) (ra_cons (rx_str (x := ("and" : Str))) (ra_cons (rx_str (x := ("or" : Str))) (ra_cons (rx_str (x := ("xor" : Str))) ra_nil)))))))))) (rx_callo (j := 1) (ds := [enc ((8 : Int) : Int)]) (c := s25.1.map enc) (c' := r32.2.map enc) (d := enc (r32.1 : Int)) (ra_own rfl (ra_cons rx_int ra_nil)) rfl ⟨_, _, r32, rfl, rfl, rfl, rfl, h33⟩)) E S fun σ F H f E S => ?_
    replace fc := fc.trans f
    have E : EnvR K _ _ [.adr p_pot, .val (enc (v_most : Int)), .val (enc (v_gates : Int)), .val (enc (v1 : (List Str))), .val (enc (r3.1 : Int)), .val (enc (l17 : (List (Str × Int)))), .adr p_heard21, .val (enc (x26 : Int)), .val (enc (v30 : Int)), .val (enc (t34 : Str)), .un, .un, .un, .un, .un] := E
    have S : Hx K _ _ _ _ [⟨p_heard21, true, s25.2.map enc⟩, ⟨p_pot, false, r32.2.map enc⟩] _ := S
    obtain ⟨v36, h37, h24⟩ := letE h24
    try (with_reducible refine nxD ?_)
    with_reducible refine sq ?_
    refine st_set (i := 10) (d := enc (v36 : Int)) (rx_as (x := (((dlit [(("not" : Str), (1 : Int)), (("vote" : Str), (3 : Int))] t34).getD (2 : Int)) : Int)) h37 (rx_lget (kvs := [(("not" : Str), (1 : Int)), (("vote" : Str), (3 : Int))]) (by decide) (by decide +kernel) (rx_var (d := enc (t34 : Str)) rfl) rx_int)) E S fun σ F H f E S => ?_
    replace fc := fc.trans f
    have E : EnvR K _ _ [.adr p_pot, .val (enc (v_most : Int)), .val (enc (v_gates : Int)), .val (enc (v1 : (List Str))), .val (enc (r3.1 : Int)), .val (enc (l17 : (List (Str × Int)))), .adr p_heard21, .val (enc (x26 : Int)), .val (enc (v30 : Int)), .val (enc (t34 : Str)), .val (enc (v36 : Int)), .un, .un, .un, .un] := E
    have S : Hx K _ _ _ _ [⟨p_heard21, true, s25.2.map enc⟩, ⟨p_pot, false, r32.2.map enc⟩] _ := S
    obtain ⟨l38, h39, h24⟩ := bindE h24
    obtain ⟨l53, h54, h24⟩ := bindE h24
    try (with_reducible refine nxD ?_)
    with_reducible refine sq ?_
    refine st_set (i := 11) (d := enc (l53.1 : (List Int))) (RXo.frz (rxo_mapS (eα := enc) (eβ := enc) (s1 := l53.2) (zs := l53.1) (f := (fun (x41 : Int) (s48 : List Int) => (atI ([v30, (min2 v30 (4 : Int))] : (List Int)) (x41 % (2 : Int))).bind fun t49 => (m__law_next s48 t49).bind fun r51 => some ((((v30 - (1 : Int)) - r51.1) : Int), r51.2))) (Of := fun (s48 : List Int) => [⟨p_heard21, true, s25.2.map enc⟩, ⟨p_pot, false, s48.map enc⟩]) (s0 := r32.2) (fun x41 => [.adr p_pot, .val (enc (v_most : Int)), .val (enc (v_gates : Int)), .val (enc (v1 : (List Str))), .val (enc (r3.1 : Int)), .val (enc (l17 : (List (Str × Int)))), .adr p_heard21, .val (enc (x26 : Int)), .val (enc (v30 : Int)), .val (enc (t34 : Str)), .val (enc (v36 : Int)), .un, .un, .un, .val (enc (x41 : Int))]) [14] (ri_range h39 (rx_var (d := enc (v36 : Int)) rfl)) h54 (by decide) (fun x41 _ => (rg_name (i := 14) (d := enc (x41 : Int)))) (fun x41 _ s48 y s' h40 D42 acc43 => by obtain ⟨t49, h50, h40⟩ := bindE h40; obtain ⟨r51, h52, h40⟩ := bindE h40; obtain ⟨rfl, rfl⟩ := Prod.mk.inj (Option.some.inj h40); exact (rx_sub (rx_sub (rx_var (d := enc (v30 : Int)) rfl) rx_int) (rx_callo (j := 2) (ds := [enc (t49 : Int)]) (c := s48.map enc) (c' := r51.2.map enc) (d := enc (r51.1 : Int)) (ra_own rfl (ra_cons (rx_ix (ds := List.map enc ([v30, (min2 v30 (4 : Int))] : (List Int))) (d := enc (t49 : Int)) (atI_map enc h50) (RXo.s (rxo_lst (ds := [enc (v30 : Int), enc ((min2 v30 (4 : Int)) : Int)]) (ra_cons (rx_var (d := enc (v30 : Int)) rfl) (ra_cons (rx_min2 (rx_var (d := enc (v30 : Int)) rfl) rx_int) ra_nil)))) (rx_mod (rx_var (d := enc (x41 : Int)) rfl) rx_int (by decide))) ra_nil)) rfl ⟨_, _, r51, rfl, rfl, rfl, rfl, h52⟩))))) E S fun σ F H f E S => ?_
    replace fc := fc.trans f
    have E : EnvR K _ _ [.adr p_pot, .val (enc (v_most : Int)), .val (enc (v_gates : Int)), .val (enc (v1 : (List Str))), .val (enc (r3.1 : Int)), .val (enc (l17 : (List (Str × Int)))), .adr p_heard21, .val (enc (x26 : Int)), .val (enc (v30 : Int)), .val (enc (t34 : Str)), .val (enc (v36 : Int)), .val (enc (l53.1 : (List Int))), .un, .un, .un] := E
    have S : Hx K _ _ _ _ [⟨p_heard21, true, s25.2.map enc⟩, ⟨p_pot, false, l53.2.map enc⟩] _ := S
    obtain ⟨r55, h56, h24⟩ := bindE h24
    obtain ⟨u57, h58, h24⟩ := bindE h24
    try (with_reducible refine nxD ?_)
    refine (st_app (j := 0) (ds := s25.2.map enc) (d := enc ((T3.mk t34 (Tp.mk l53.1) (decide (r55.1 = (0 : Int)))) : (T3 Str (Tp Int) Bool))) (appO_map enc h58) rfl (rx_tup (ds := [enc (t34 : Str), enc ((Tp.mk l53.1) : (Tp Int)), enc ((decide (r55.1 = (0 : Int))) : Bool)]) (ra_cons (rx_var (d := enc (t34 : Str)) rfl) (ra_cons (rx_tuple (RX.s (rx_var (d := enc (l53.1 : (List Int))) rfl))) (ra_cons (rx_eqi (rx_callo (j := 1) (ds := [enc ((6 : Int) : Int)]) (c := l53.2.map enc) (c' := r55.2.map enc) (d := enc (r55.1 : Int)) (ra_own rfl (ra_cons rx_int ra_nil)) rfl ⟨_, _, r55, rfl, rfl, rfl, rfl, h56⟩) rx_int) ra_nil)))) ⟨_, rfl⟩ rfl E S fun F H f E S => ?_)
    replace fc := fc.trans f
    have E : EnvR K _ _ [.adr p_pot, .val (enc (v_most : Int)), .val (enc (v_gates : Int)), .val (enc (v1 : (List Str))), .val (enc (r3.1 : Int)), .val (enc (l17 : (List (Str × Int)))), .adr p_heard21, .val (enc (x26 : Int)), .val (enc (v30 : Int)), .val (enc (t34 : Str)), .val (enc (v36 : Int)), .val (enc (l53.1 : (List Int))), .un, .un, .un] := E
    have S : Hx K _ _ _ _ [⟨p_heard21, true, u57.map enc⟩, ⟨p_pot, false, r55.2.map enc⟩] _ := S
    obtain rfl := Option.some.inj h24
    exact hN _ _ _ fc (E.weak ⟨.inl rfl, .inl rfl, .inl rfl, .inl rfl, .inl rfl, .inl rfl, .inl rfl, .inr rfl, .inr rfl, .inr rfl, .inr rfl, .inr rfl, .inr rfl, .inr rfl, .inr rfl, trivial⟩) S
theorem sc_need_plain : FnScope ["net", "ins", "gates", "outs", "name", "width", "wires"] ["net"] (defScope (top 6)) := ⟨rfl, rfl, rfl, by decide +kernel, rfl, by decide +kernel, by decide +kernel⟩
theorem ok_need_plain (B : Bi mg) (D : Dfn K mg "need_plain" (top 6) ["net"]) : Cal P w K mg base 1 "need_plain" ["net"] (SpP K R_need_plain) := by
  refine D.cal sc_need_plain (sp_len fun ds d h => by obtain ⟨_, _, rfl, _⟩ := h; rfl) fun f cdv A outer s H vs Q E hr h => ?_
  refine ⟨_, (pss_cons (ps_asg (pv 0) (pg_tup rfl (pgs_cons (pg_name (i := 1) sc_need_plain.nd rfl (Or.inl rfl)) (pgs_cons (pg_name (i := 2) sc_need_plain.nd rfl (Or.inl rfl)) (pgs_cons (pg_name (i := 3) sc_need_plain.nd rfl (Or.inl rfl)) pgs_nil))))) (pss_one (ps_if (pt_cmpR (k_neD K hr.units) (pe_op (k_catR K) (pe_lc (own := [(("name" : Str), 4), (("width" : Str), 5)]) (g := (gTup K 2 (gCons (gName 4) (gCons (gName 5) gNil)))) rfl sc_need_plain.nd (k_pi_list K (pv 1)) (blkOk_by (by kernel_rfl)) (fun _ _ _ _ _ => (pg_tup rfl (pgs_cons (pg_name (i := 4) sc_need_plain.nd rfl (Or.inl rfl)) (pgs_cons (pg_name (i := 5) sc_need_plain.nd rfl (Or.inl rfl)) pgs_nil)))) (fun _ _ _ _ _ => (pts_one (pt_cmpR op_ne (pv 5) pe_int (nomark _)))) (fun _ _ _ _ _ => (pv 4))) (pe_lc (own := [(("name" : Str), 4), (("wires" : Str), 6)]) (g := (gTup K 2 (gCons (gName 4) (gCons (gName 6) gNil)))) rfl sc_need_plain.nd (k_pi_list K (pv 3)) (blkOk_by (by kernel_rfl)) (fun _ _ _ _ _ => (pg_tup rfl (pgs_cons (pg_name (i := 4) sc_need_plain.nd rfl (Or.inl rfl)) (pgs_cons (pg_name (i := 6) sc_need_plain.nd rfl (Or.inl rfl)) pgs_nil)))) (fun _ _ _ _ _ => (pts_one (pt_cmpR op_ne (pe_callB (k_len_seq K) (by rfl) B.len PySem.boot_len (pa_cons (pv 6) pa_nil)) pe_int (nomark _)))) (fun _ _ _ _ _ => (pv 4)))) (pe_lst pa_nil) (nomark _)) (pss_one L2.ps_never) pss_nil))), ?_⟩
  obtain ⟨F, ds, d, hw, hF, ⟨v_net, rr, rfl, rfl, hm0⟩, k⟩ := h
  have E : EnvR K F _ [.val (enc (v_net : (T3 (List (Str × Int)) (List (T3 Str (Tp Int) Bool)) (List (Str × (Tp Int)))))), .un, .un, .un, .un, .un, .un] := EnvR.start (N := ["net", "ins", "gates", "outs", "name", "width", "wires"]) (AsR.of_all hw)
  have S := Hx.start (K := K) hF
  have fc : Same F F := Same.refl F
  unfold m_need_plain at hm0
  try (with_reducible refine nxD ?_)
  with_reducible refine sq ?_
  refine st_unp (d := enc (v_net : (T3 (List (Str × Int)) (List (T3 Str (Tp Int) Bool)) (List (Str × (Tp Int)))))) (rx_var (d := enc (v_net : (T3 (List (Str × Int)) (List (T3 Str (Tp Int) Bool)) (List (Str × (Tp Int)))))) rfl) (rg_tup (ds := [enc (v_net.a : (List (Str × Int))), enc (v_net.b : (List (T3 Str (Tp Int) Bool))), enc (v_net.c : (List (Str × (Tp Int))))]) (RGs.cons (rg_name (i := 1) (d := enc (v_net.a : (List (Str × Int))))) (RGs.cons (rg_name (i := 2) (d := enc (v_net.b : (List (T3 Str (Tp Int) Bool))))) (RGs.cons (rg_name (i := 3) (d := enc (v_net.c : (List (Str × (Tp Int)))))) RGs.nil)))) E S fun σ F H f E S => ?_
  replace fc := fc.trans f
  have E : EnvR K _ _ [.val (enc (v_net : (T3 (List (Str × Int)) (List (T3 Str (Tp Int) Bool)) (List (Str × (Tp Int)))))), .val (enc (v_net.a : (List (Str × Int)))), .val (enc (v_net.b : (List (T3 Str (Tp Int) Bool)))), .val (enc (v_net.c : (List (Str × (Tp Int))))), .un, .un, .un] := E
  have S : Hx K _ _ _ _ [] _ := S
  obtain ⟨t9, h10, hm0⟩ := bindE hm0
  obtain ⟨b11, h12, hm0⟩ := bindE hm0
  try (with_reducible refine nxD ?_)
  refine (st_if (b := (!b11)) (rt_val (rx_neO h12 (RX.h (RXo.frz (rxo_catO (f := enc) h10 (RXo.s (rxo_filt (eα := enc) (eβ := enc) (p := (fun (x2 : (Str × Int)) => (!decide (x2.2 = (1 : Int))))) (f := (fun (x2 : (Str × Int)) => (x2.1 : Str))) (fun x2 => [.val (enc (v_net : (T3 (List (Str × Int)) (List (T3 Str (Tp Int) Bool)) (List (Str × (Tp Int)))))), .val (enc (v_net.a : (List (Str × Int)))), .val (enc (v_net.b : (List (T3 Str (Tp Int) Bool)))), .val (enc (v_net.c : (List (Str × (Tp Int))))), .val (enc (x2.1 : Str)), .val (enc (x2.2 : Int)), .un]) [4, 5] (ri_list (ys := v_net.a.map enc) (rx_var (d := enc (v_net.a : (List (Str × Int)))) rfl)) (by decide) (fun x2 _ => (rg_tup (ds := [enc (x2.1 : Str), enc (x2.2 : Int)]) (RGs.cons (rg_name (i := 4) (d := enc (x2.1 : Str))) (RGs.cons (rg_name (i := 5) (d := enc (x2.2 : Int))) RGs.nil)))) (fun x2 _ D3 acc4 => (rt_val (rx_nei (rx_var (d := enc (x2.2 : Int)) rfl) rx_int))) (fun x2 _ D3 acc4 => (rx_var (d := enc (x2.1 : Str)) rfl)))) (RXo.s (rxo_filt (eα := enc) (eβ := enc) (p := (fun (x6 : (Str × (Tp Int))) => (!decide ((x6.2.l.length : Int) = (1 : Int))))) (f := (fun (x6 : (Str × (Tp Int))) => (x6.1 : Str))) (fun x6 => [.val (enc (v_net : (T3 (List (Str × Int)) (List (T3 Str (Tp Int) Bool)) (List (Str × (Tp Int)))))), .val (enc (v_net.a : (List (Str × Int)))), .val (enc (v_net.b : (List (T3 Str (Tp Int) Bool)))), .val (enc (v_net.c : (List (Str × (Tp Int))))), .val (enc (x6.1 : Str)), .un, .val (enc (x6.2 : (Tp Int)))]) [4, 6] (ri_list (ys := v_net.c.map enc) (rx_var (d := enc (v_net.c : (List (Str × (Tp Int))))) rfl)) (by decide) (fun x6 _ => (rg_tup (ds := [enc (x6.1 : Str), enc (x6.2 : (Tp Int))]) (RGs.cons (rg_name (i := 4) (d := enc (x6.1 : Str))) (RGs.cons (rg_name (i := 6) (d := enc (x6.2 : (Tp Int)))) RGs.nil)))) (fun x6 _ D7 acc8 => (rt_val (rx_nei (len_natT (f := enc) (rx_var (d := enc (x6.2 : (Tp Int))) rfl)) rx_int))) (fun x6 _ D7 acc8 => (rx_var (d := enc (x6.1 : Str)) rfl))))))) (RX.h (RXo.frz (rxo_lst (ds := []) ra_nil))))) E S (fun hc F H f E S => ?_) (fun hc F H f E S => ?_))
  · rw [if_pos hc] at hm0
    replace fc := fc.trans f
    cases hm0
  · rw [if_neg (by rw [hc]; decide)] at hm0
    replace fc := fc.trans f
    refine nxt ?_
    obtain rfl := Option.some.inj hm0
    try (with_reducible refine nxD ?_)
    exact k .non _ _ S.stp .non
theorem sc_copied : FnScope ["net", "copies", "votes", "ins", "gates", "outs", "stride", "first", "read", "told", "place", "kind", "wires", "sure", "own", "some", "wire", "name", "width", "k"] ["net", "copies", "votes"] (defScope (top 7)) := ⟨rfl, rfl, rfl, by decide +kernel, rfl, by decide +kernel, by decide +kernel⟩
theorem ok_copied (B : Bi mg) (D : Dfn K mg "copied" (top 7) ["net", "copies", "votes"]) (C_need_plain : Cal P w K mg base 1 "need_plain" ["net"] (SpP K R_need_plain)) : Cal P w K mg base 2 "copied" ["net", "copies", "votes"] (SpP K R_copied) := by
  refine D.cal sc_copied (sp_len fun ds d h => by obtain ⟨_, _, _, _, rfl, _⟩ := h; rfl) fun f cdv A outer s H vs Q E hr h => ?_
  refine ⟨_, (pss_cons (ps_expr (pe_cal C_need_plain hr (pa_cons (pv 0) pa_nil))) (pss_cons (ps_asg (pv 0) (pg_tup rfl (pgs_cons (pg_name (i := 3) sc_copied.nd rfl (Or.inl rfl)) (pgs_cons (pg_name (i := 4) sc_copied.nd rfl (Or.inl rfl)) (pgs_cons (pg_name (i := 5) sc_copied.nd rfl (Or.inl rfl)) pgs_nil))))) (pss_cons (ps_set (i := 6) sc_copied.nd rfl (Or.inr rfl) (pe_op op_mul (pv 1) (pe_op op_add pe_int (pe_callTy call_int1 (by rfl) B.int (by decide +kernel) (pa_cons (pv 2) pa_nil))))) (pss_cons (ps_if (pt_cmpR op_gt (pe_op op_mul (pe_callB (k_len_seq K) (by rfl) B.len PySem.boot_len (pa_cons (pv 4) pa_nil)) (pv 6)) (pe_gint B.c_MOST_GATES) (nomark _)) (pss_one L2.ps_never) pss_nil) (pss_cons (ps_set (i := 7) sc_copied.nd rfl (Or.inr rfl) (pe_op op_mul (pe_callB (k_len_seq K) (by rfl) B.len PySem.boot_len (pa_cons (pv 3) pa_nil)) (pv 1))) (pss_cons (ps_set (i := 8) sc_copied.nd rfl (Or.inr rfl) (pe_lc (own := [(("wire" : Str), 16)]) (g := (gName 16)) (tt := tYes) rfl sc_copied.nd (pi_range1 rfl B.range (pa_cons (pe_callB (k_len_seq K) (by rfl) B.len PySem.boot_len (pa_cons (pv 3) pa_nil)) pa_nil)) (blkOk_by (by kernel_rfl)) (fun _ _ _ _ _ => (pg_name (i := 16) sc_copied.nd rfl (Or.inl rfl))) (fun _ _ _ _ _ => pts_nil) (fun _ _ _ _ _ => (pe_op op_mul (pv 16) (pv 1))))) (pss_cons (ps_set (i := 8) sc_copied.nd rfl (Or.inr rfl) (pe_op (k_catR K) (pv 8) (pe_lc (own := [(("place" : Str), 10)]) (g := (gName 10)) (tt := tYes) rfl sc_copied.nd (pi_range1 rfl B.range (pa_cons (pe_callB (k_len_seq K) (by rfl) B.len PySem.boot_len (pa_cons (pv 4) pa_nil)) pa_nil)) (blkOk_by (by kernel_rfl)) (fun _ _ _ _ _ => (pg_name (i := 10) sc_copied.nd rfl (Or.inl rfl))) (fun _ _ _ _ _ => pts_nil) (fun _ _ _ _ _ => (pe_op op_add (pe_op op_add (pv 7) (pe_op op_mul (pv 10) (pv 6))) (pe_op op_mul (pe_callTy call_int1 (by rfl) B.int (by decide +kernel) (pa_cons (pv 2) pa_nil)) (pv 1))))))) (pss_cons (ps_set (i := 9) sc_copied.nd rfl (Or.inl rfl) (pe_lst pa_nil)) (pss_cons (ps_for PassesOwn.never rfl (k_pi_enum K (by rfl) B.enumerate (pa_cons (pv 4) pa_nil)) (pg_tup rfl (pgs_cons (pg_name (i := 10) sc_copied.nd rfl (Or.inr rfl)) (pgs_cons (pg_tup rfl (pgs_cons (pg_name (i := 11) sc_copied.nd rfl (Or.inr rfl)) (pgs_cons (pg_name (i := 12) sc_copied.nd rfl (Or.inr rfl)) (pgs_cons (pg_name (i := 13) sc_copied.nd rfl (Or.inr rfl)) pgs_nil)))) pgs_nil))) (pss_cons (ps_expr (pe_bm PySem.F.plainAttrs_list PySem.F.slot_list_extend PySem.F.type_list_extend mt_extR (pv 9) (pa_cons (pe_lc (own := [(("k" : Str), 19)]) (g := (gName 19)) (tt := tYes) rfl sc_copied.nd (pi_range1 rfl B.range (pa_cons (pv 1) pa_nil)) (blkOk_by (by kernel_rfl)) (fun _ _ _ _ _ => (pg_name (i := 19) sc_copied.nd rfl (Or.inr rfl))) (fun _ _ _ _ _ => pts_nil) (fun _ _ _ _ _ => (pe_tup (pa_cons (pv 11) (pa_cons (pe_callTy (k_tuple_of K) (by rfl) B.tuple (by decide +kernel) (pa_cons (pe_lc (own := [(("wire" : Str), 16)]) (g := (gName 16)) (tt := tYes) rfl sc_copied.nd (k_pi_tup K (pv 12)) (blkOk_by (by kernel_rfl)) (fun _ _ _ _ _ => (pg_name (i := 16) sc_copied.nd rfl (Or.inl rfl))) (fun _ _ _ _ _ => pts_nil) (fun _ _ _ _ _ => (pe_op op_add (pe_ix (k_ix_list K) (pv 8) (pv 16) (fun _ _ => rfl)) (pv 19)))) pa_nil)) (pa_cons (pv 13) pa_nil)))))) pa_nil))) (pss_cons (ps_set (i := 14) sc_copied.nd rfl (Or.inl rfl) (pe_callTy (k_tuple_of K) (by rfl) B.tuple (by decide +kernel) (pa_cons (pe_lc (own := [(("k" : Str), 19)]) (g := (gName 19)) (tt := tYes) rfl sc_copied.nd (pi_range1 rfl B.range (pa_cons (pv 1) pa_nil)) (blkOk_by (by kernel_rfl)) (fun _ _ _ _ _ => (pg_name (i := 19) sc_copied.nd rfl (Or.inl rfl))) (fun _ _ _ _ _ => pts_nil) (fun _ _ _ _ _ => (pe_op op_add (pe_op op_add (pv 7) (pe_op op_mul (pv 10) (pv 6))) (pv 19)))) pa_nil))) (pss_one (ps_expr (pe_bm PySem.F.plainAttrs_list PySem.F.slot_list_extend PySem.F.type_list_extend mt_extR (pv 9) (pa_cons (pe_op op_rep (pe_lst (pa_cons (pe_tup (pa_cons pe_str (pa_cons (pv 14) (pa_cons (pv 13) pa_nil)))) pa_nil)) (pe_op op_mul (pv 1) (pe_callTy call_int1 (by rfl) B.int (by decide +kernel) (pa_cons (pv 2) pa_nil)))) pa_nil))))))) (pss_cons (ps_setLc (i := 15) (own := [(("name" : Str), 17), (("wires" : Str), 12)]) (g := (gTup K 2 (gCons (gName 17) (gCons (gName 12) gNil)))) (tt := tYes) rfl sc_copied.nd rfl rfl (sw_true rfl rfl rfl (by decide +kernel)) (k_pi_list K (pv 5)) (blkOk_by (by kernel_rfl)) (fun _ _ _ _ _ => (pg_tup rfl (pgs_cons (pg_name (i := 17) sc_copied.nd rfl (Or.inl rfl)) (pgs_cons (pg_name (i := 12) sc_copied.nd rfl (Or.inr rfl)) pgs_nil)))) (fun _ _ _ _ _ => pts_nil) (fun _ _ _ _ _ => (pe_tup (pa_cons (pv 17) (pa_cons (pe_callTy (k_tuple_of K) (by rfl) B.tuple (by decide +kernel) (pa_cons (pe_lc (own := [(("k" : Str), 19)]) (g := (gName 19)) (tt := tYes) rfl sc_copied.nd (pi_range1 rfl B.range (pa_cons (pv 1) pa_nil)) (blkOk_by (by kernel_rfl)) (fun _ _ _ _ _ => (pg_name (i := 19) sc_copied.nd rfl (Or.inl rfl))) (fun _ _ _ _ _ => pts_nil) (fun _ _ _ _ _ => (pe_op op_add (pe_ix (k_ix_list K) (pv 8) (pe_ix (k_ix_tup K) (pv 12) pe_int (fun _ _ => rfl)) (fun _ _ => rfl)) (pv 19)))) pa_nil)) pa_nil))))) (pss_one (ps_ret (pe_tup (pa_cons (pe_lc (own := [(("name" : Str), 17), (("width" : Str), 18)]) (g := (gTup K 2 (gCons (gName 17) (gCons (gName 18) gNil)))) (tt := tYes) rfl sc_copied.nd (k_pi_list K (pv 3)) (blkOk_by (by kernel_rfl)) (fun _ _ _ _ _ => (pg_tup rfl (pgs_cons (pg_name (i := 17) sc_copied.nd rfl (Or.inl rfl)) (pgs_cons (pg_name (i := 18) sc_copied.nd rfl (Or.inl rfl)) pgs_nil)))) (fun _ _ _ _ _ => pts_nil) (fun _ _ _ _ _ => (pe_tup (pa_cons (pv 17) (pa_cons (pv 1) pa_nil))))) (pa_cons (pv 9) (pa_cons (pv 15) pa_nil)))))))))))))))), ?_⟩
  obtain ⟨F, ds, d, hw, hF, ⟨v_net, v_copies, v_votes, rr, rfl, rfl, hm0⟩, k⟩ := h
  have E : EnvR K F _ [.val (enc (v_net : (T3 (List (Str × Int)) (List (T3 Str (Tp Int) Bool)) (List (Str × (Tp Int)))))), .val (enc (v_copies : Int)), .val (enc (v_votes : Bool)), .un, .un, .un, .un, .un, .un, .un, .un, .un, .un, .un, .un, .un, .un, .un, .un, .un] := EnvR.start (N := ["net", "copies", "votes", "ins", "gates", "outs", "stride", "first", "read", "told", "place", "kind", "wires", "sure", "own", "some", "wire", "name", "width", "k"]) (AsR.of_all hw)
  have S := Hx.start (K := K) hF
  have fc : Same F F := Same.refl F
  unfold m_copied at hm0
  obtain ⟨r1, h2, hm0⟩ := bindE hm0
  try (with_reducible refine nxD ?_)
  with_reducible refine sq ?_
  refine st_expr (rx_call (ds := [enc (v_net : (T3 (List (Str × Int)) (List (T3 Str (Tp Int) Bool)) (List (Str × (Tp Int)))))]) (d := enc (r1 : Unit)) ⟨_, r1, rfl, rfl, h2⟩ (ra_cons (rx_var (d := enc (v_net : (T3 (List (Str × Int)) (List (T3 Str (Tp Int) Bool)) (List (Str × (Tp Int)))))) rfl) ra_nil)) E S fun F H f E S => ?_
  replace fc := fc.trans f
  have E : EnvR K _ _ [.val (enc (v_net : (T3 (List (Str × Int)) (List (T3 Str (Tp Int) Bool)) (List (Str × (Tp Int)))))), .val (enc (v_copies : Int)), .val (enc (v_votes : Bool)), .un, .un, .un, .un, .un, .un, .un, .un, .un, .un, .un, .un, .un, .un, .un, .un, .un] := E
  have S : Hx K _ _ _ _ [] _ := S
  try (with_reducible refine nxD ?_)
  with_reducible refine sq ?_
  refine st_unp (d := enc (v_net : (T3 (List (Str × Int)) (List (T3 Str (Tp Int) Bool)) (List (Str × (Tp Int)))))) (rx_var (d := enc (v_net : (T3 (List (Str × Int)) (List (T3 Str (Tp Int) Bool)) (List (Str × (Tp Int)))))) rfl) (rg_tup (ds := [enc (v_net.a : (List (Str × Int))), enc (v_net.b : (List (T3 Str (Tp Int) Bool))), enc (v_net.c : (List (Str × (Tp Int))))]) (RGs.cons (rg_name (i := 3) (d := enc (v_net.a : (List (Str × Int))))) (RGs.cons (rg_name (i := 4) (d := enc (v_net.b : (List (T3 Str (Tp Int) Bool))))) (RGs.cons (rg_name (i := 5) (d := enc (v_net.c : (List (Str × (Tp Int)))))) RGs.nil)))) E S fun σ F H f E S => ?_
  replace fc := fc.trans f
  have E : EnvR K _ _ [.val (enc (v_net : (T3 (List (Str × Int)) (List (T3 Str (Tp Int) Bool)) (List (Str × (Tp Int)))))), .val (enc (v_copies : Int)), .val (enc (v_votes : Bool)), .val (enc (v_net.a : (List (Str × Int)))), .val (enc (v_net.b : (List (T3 Str (Tp Int) Bool)))), .val (enc (v_net.c : (List (Str × (Tp Int))))), .un, .un, .un, .un, .un, .un, .un, .un, .un, .un, .un, .un, .un, .un] := E
  have S : Hx K _ _ _ _ [] _ := S
  obtain ⟨t3, h4, hm0⟩ := bindE hm0
  try (with_reducible refine nxD ?_)
  with_reducible refine sq ?_
  refine st_set (i := 6) (d := enc (t3 : Int)) (rx_mulO h4 (rx_var (d := enc (v_copies : Int)) rfl) (rx_add rx_int (rx_intB (rx_var (d := enc (v_votes : Bool)) rfl)))) E S fun σ F H f E S => ?_
  replace fc := fc.trans f
  have E : EnvR K _ _ [.val (enc (v_net : (T3 (List (Str × Int)) (List (T3 Str (Tp Int) Bool)) (List (Str × (Tp Int)))))), .val (enc (v_copies : Int)), .val (enc (v_votes : Bool)), .val (enc (v_net.a : (List (Str × Int)))), .val (enc (v_net.b : (List (T3 Str (Tp Int) Bool)))), .val (enc (v_net.c : (List (Str × (Tp Int))))), .val (enc (t3 : Int)), .un, .un, .un, .un, .un, .un, .un, .un, .un, .un, .un, .un, .un] := E
  have S : Hx K _ _ _ _ [] _ := S
  obtain ⟨t5, h6, hm0⟩ := bindE hm0
  try (with_reducible refine nxD ?_)
  with_reducible refine sq ?_
  refine st_if (b := (decide ((60 : Int) < t5))) (rt_val (rx_gt (rx_mulO h6 (len_nat (f := enc) (RX.s (rx_var (d := enc (v_net.b : (List (T3 Str (Tp Int) Bool)))) rfl))) (rx_var (d := enc (t3 : Int)) rfl)) rx_int)) E S (fun hc F H f E S => ?_) (fun hc F H f E S => ?_)
  · rw [if_pos hc] at hm0
    replace fc := fc.trans f
    cases hm0
  · rw [if_neg (by rw [hc]; decide)] at hm0
    replace fc := fc.trans f
    refine nxt ?_
    obtain ⟨t7, h8, hm0⟩ := bindE hm0
    try (with_reducible refine nxD ?_)
    with_reducible refine sq ?_
    refine st_set (i := 7) (d := enc (t7 : Int)) (rx_mulO h8 (len_nat (f := enc) (RX.s (rx_var (d := enc (v_net.a : (List (Str × Int)))) rfl))) (rx_var (d := enc (v_copies : Int)) rfl)) E S fun σ F H f E S => ?_
    replace fc := fc.trans f
    have E : EnvR K _ _ [.val (enc (v_net : (T3 (List (Str × Int)) (List (T3 Str (Tp Int) Bool)) (List (Str × (Tp Int)))))), .val (enc (v_copies : Int)), .val (enc (v_votes : Bool)), .val (enc (v_net.a : (List (Str × Int)))), .val (enc (v_net.b : (List (T3 Str (Tp Int) Bool)))), .val (enc (v_net.c : (List (Str × (Tp Int))))), .val (enc (t3 : Int)), .val (enc (t7 : Int)), .un, .un, .un, .un, .un, .un, .un, .un, .un, .un, .un, .un] := E
    have S : Hx K _ _ _ _ [] _ := S
    obtain ⟨l17, h18, hm0⟩ := bindE hm0
    try (with_reducible refine nxD ?_)
    with_reducible refine sq ?_
    refine st_set (i := 8) (d := enc (l17 : (List Int))) (RXo.frz (rxo_mapO (eα := enc) (eβ := enc) (fun x10 => [.val (enc (v_net : (T3 (List (Str × Int)) (List (T3 Str (Tp Int) Bool)) (List (Str × (Tp Int)))))), .val (enc (v_copies : Int)), .val (enc (v_votes : Bool)), .val (enc (v_net.a : (List (Str × Int)))), .val (enc (v_net.b : (List (T3 Str (Tp Int) Bool)))), .val (enc (v_net.c : (List (Str × (Tp Int))))), .val (enc (t3 : Int)), .val (enc (t7 : Int)), .un, .un, .un, .un, .un, .un, .un, .un, .val (enc (x10 : Int)), .un, .un, .un]) [16] (ri_rangeLenM (f := enc) (RX.s (rx_var (d := enc (v_net.a : (List (Str × Int)))) rfl))) h18 (by decide) (fun x10 _ => (rg_name (i := 16) (d := enc (x10 : Int)))) (fun x10 _ y h9 D11 acc12 => by obtain ⟨t15, h16, h9⟩ := bindE h9; obtain rfl := Option.some.inj h9; exact (rx_mulO h16 (rx_var (d := enc (x10 : Int)) rfl) (rx_var (d := enc (v_copies : Int)) rfl))))) E S fun σ F H f E S => ?_
    replace fc := fc.trans f
    have E : EnvR K _ _ [.val (enc (v_net : (T3 (List (Str × Int)) (List (T3 Str (Tp Int) Bool)) (List (Str × (Tp Int)))))), .val (enc (v_copies : Int)), .val (enc (v_votes : Bool)), .val (enc (v_net.a : (List (Str × Int)))), .val (enc (v_net.b : (List (T3 Str (Tp Int) Bool)))), .val (enc (v_net.c : (List (Str × (Tp Int))))), .val (enc (t3 : Int)), .val (enc (t7 : Int)), .val (enc (l17 : (List Int))), .un, .un, .un, .un, .un, .un, .un, .un, .un, .un, .un] := E
    have S : Hx K _ _ _ _ [] _ := S
    obtain ⟨l31, h32, hm0⟩ := bindE hm0
    obtain ⟨t33, h34, hm0⟩ := bindE hm0
    try (with_reducible refine nxD ?_)
    with_reducible refine sq ?_
    refine st_set (i := 8) (d := enc (t33 : (List Int))) (RXo.frz (rxo_catO (f := enc) h34 (RX.s (rx_var (d := enc (l17 : (List Int))) rfl)) (RXo.s (rxo_mapO (eα := enc) (eβ := enc) (fun x20 => [.val (enc (v_net : (T3 (List (Str × Int)) (List (T3 Str (Tp Int) Bool)) (List (Str × (Tp Int)))))), .val (enc (v_copies : Int)), .val (enc (v_votes : Bool)), .val (enc (v_net.a : (List (Str × Int)))), .val (enc (v_net.b : (List (T3 Str (Tp Int) Bool)))), .val (enc (v_net.c : (List (Str × (Tp Int))))), .val (enc (t3 : Int)), .val (enc (t7 : Int)), .val (enc (l17 : (List Int))), .un, .val (enc (x20 : Int)), .un, .un, .un, .un, .un, .un, .un, .un, .un]) [10] (ri_rangeLenM (f := enc) (RX.s (rx_var (d := enc (v_net.b : (List (T3 Str (Tp Int) Bool)))) rfl))) h32 (by decide) (fun x20 _ => (rg_name (i := 10) (d := enc (x20 : Int)))) (fun x20 _ y h19 D21 acc22 => by obtain ⟨t27, h28, h19⟩ := bindE h19; obtain ⟨t29, h30, h19⟩ := bindE h19; obtain rfl := Option.some.inj h19; exact (rx_add (rx_add (rx_var (d := enc (t7 : Int)) rfl) (rx_mulO h28 (rx_var (d := enc (x20 : Int)) rfl) (rx_var (d := enc (t3 : Int)) rfl))) (rx_mulO h30 (rx_intB (rx_var (d := enc (v_votes : Bool)) rfl)) (rx_var (d := enc (v_copies : Int)) rfl)))))))) E S fun σ F H f E S => ?_
    replace fc := fc.trans f
    have E : EnvR K _ _ [.val (enc (v_net : (T3 (List (Str × Int)) (List (T3 Str (Tp Int) Bool)) (List (Str × (Tp Int)))))), .val (enc (v_copies : Int)), .val (enc (v_votes : Bool)), .val (enc (v_net.a : (List (Str × Int)))), .val (enc (v_net.b : (List (T3 Str (Tp Int) Bool)))), .val (enc (v_net.c : (List (Str × (Tp Int))))), .val (enc (t3 : Int)), .val (enc (t7 : Int)), .val (enc (t33 : (List Int))), .un, .un, .un, .un, .un, .un, .un, .un, .un, .un, .un] := E
    have S : Hx K _ _ _ _ [] _ := S
    obtain ⟨v35, h36, hm0⟩ := letE hm0
    try (with_reducible refine nxD ?_)
    with_reducible refine sq ?_
    refine st_setO (i := 9) (ds := v35.map enc) (rxo_as (f := enc) h36 (rxo_lst (ds := []) ra_nil)) E S fun p_told37 σ F H f E S => ?_
    replace fc := fc.trans f
    have E : EnvR K _ _ [.val (enc (v_net : (T3 (List (Str × Int)) (List (T3 Str (Tp Int) Bool)) (List (Str × (Tp Int)))))), .val (enc (v_copies : Int)), .val (enc (v_votes : Bool)), .val (enc (v_net.a : (List (Str × Int)))), .val (enc (v_net.b : (List (T3 Str (Tp Int) Bool)))), .val (enc (v_net.c : (List (Str × (Tp Int))))), .val (enc (t3 : Int)), .val (enc (t7 : Int)), .val (enc (t33 : (List Int))), .adr p_told37, .un, .un, .un, .un, .un, .un, .un, .un, .un, .un] := E
    have S : Hx K _ _ _ _ [⟨p_told37, true, v35.map enc⟩] _ := S
    obtain ⟨s94, h42, hm0⟩ := bindE hm0
    try (with_reducible refine nxD ?_)
    with_reducible refine sq ?_
    refine st_forS (eα := enc) (fun s39 => [.val (enc (v_net : (T3 (List (Str × Int)) (List (T3 Str (Tp Int) Bool)) (List (Str × (Tp Int)))))), .val (enc (v_copies : Int)), .val (enc (v_votes : Bool)), .val (enc (v_net.a : (List (Str × Int)))), .val (enc (v_net.b : (List (T3 Str (Tp Int) Bool)))), .val (enc (v_net.c : (List (Str × (Tp Int))))), .val (enc (t3 : Int)), .val (enc (t7 : Int)), .val (enc (t33 : (List Int))), .adr p_told37, .un, .un, .un, .un, .un, .un, .un, .un, .un, .un]) (fun s39 => [⟨p_told37, true, s39.map enc⟩]) E S (ri_enumT (rx_var (d := enc (v_net.b : (List (T3 Str (Tp Int) Bool)))) rfl)) h42 ⟨.inl rfl, .inl rfl, .inl rfl, .inl rfl, .inl rfl, .inl rfl, .inl rfl, .inl rfl, .inl rfl, .inl rfl, .inr rfl, .inr rfl, .inr rfl, .inr rfl, .inr rfl, .inr rfl, .inr rfl, .inr rfl, .inr rfl, .inr rfl, trivial⟩ (fun σ F H f E S => ?_) (fun x40 _ s39 s' h38 σ F H v _ E S r N B hN => ?_)
    · replace fc := fc.trans f
      have E : EnvR K _ _ [.val (enc (v_net : (T3 (List (Str × Int)) (List (T3 Str (Tp Int) Bool)) (List (Str × (Tp Int)))))), .val (enc (v_copies : Int)), .val (enc (v_votes : Bool)), .val (enc (v_net.a : (List (Str × Int)))), .val (enc (v_net.b : (List (T3 Str (Tp Int) Bool)))), .val (enc (v_net.c : (List (Str × (Tp Int))))), .val (enc (t3 : Int)), .val (enc (t7 : Int)), .val (enc (t33 : (List Int))), .adr p_told37, .un, .un, .un, .un, .un, .un, .un, .un, .un, .un] := E
      have S : Hx K _ _ _ _ [⟨p_told37, true, s94.map enc⟩] _ := S
      obtain ⟨l131, h132, hm0⟩ := bindE hm0
      try (with_reducible refine nxD ?_)
      with_reducible refine sq ?_
      refine st_set (i := 15) (d := enc (l131 : (List (Str × (Tp Int))))) (RXo.frz (rxo_mapO (eα := enc) (eβ := enc) (fun x96 => [.val (enc (v_net : (T3 (List (Str × Int)) (List (T3 Str (Tp Int) Bool)) (List (Str × (Tp Int)))))), .val (enc (v_copies : Int)), .val (enc (v_votes : Bool)), .val (enc (v_net.a : (List (Str × Int)))), .val (enc (v_net.b : (List (T3 Str (Tp Int) Bool)))), .val (enc (v_net.c : (List (Str × (Tp Int))))), .val (enc (t3 : Int)), .val (enc (t7 : Int)), .val (enc (t33 : (List Int))), .adr p_told37, .un, .un, .val (enc (x96.2 : (Tp Int))), .un, .un, .un, .un, .val (enc (x96.1 : Str)), .un, .un]) [17, 12] (ri_list (ys := v_net.c.map enc) (rx_var (d := enc (v_net.c : (List (Str × (Tp Int))))) rfl)) h132 (by decide) (fun x96 _ => (rg_tup (ds := [enc (x96.1 : Str), enc (x96.2 : (Tp Int))]) (RGs.cons (rg_name (i := 17) (d := enc (x96.1 : Str))) (RGs.cons (rg_name (i := 12) (d := enc (x96.2 : (Tp Int)))) RGs.nil)))) (fun x96 _ y h95 D97 acc98 => by obtain ⟨l115, h116, h95⟩ := bindE h95; obtain ⟨l129, h130, h95⟩ := bindE h95; obtain rfl := Option.some.inj h95; exact (rx_tup (ds := [enc (x96.1 : Str), enc ((Tp.mk l129) : (Tp Int))]) (ra_cons (rx_var (d := enc (x96.1 : Str)) rfl) (ra_cons (rx_tuple (RXo.s (rxo_mapO (eα := enc) (eβ := enc) (fun x118 => [.val (enc (v_net : (T3 (List (Str × Int)) (List (T3 Str (Tp Int) Bool)) (List (Str × (Tp Int)))))), .val (enc (v_copies : Int)), .val (enc (v_votes : Bool)), .val (enc (v_net.a : (List (Str × Int)))), .val (enc (v_net.b : (List (T3 Str (Tp Int) Bool)))), .val (enc (v_net.c : (List (Str × (Tp Int))))), .val (enc (t3 : Int)), .val (enc (t7 : Int)), .val (enc (t33 : (List Int))), .adr p_told37, .un, .un, .val (enc (x96.2 : (Tp Int))), .un, .un, .un, .un, .val (enc (x96.1 : Str)), .un, .val (enc (x118 : Int))]) [19] (ri_range h116 (rx_var (d := enc (v_copies : Int)) rfl)) h130 (by decide) (fun x118 _ => (rg_name (i := 19) (d := enc (x118 : Int)))) (fun x118 _ y h117 D119 acc120 => by obtain ⟨t125, h126, h117⟩ := bindE h117; obtain ⟨t127, h128, h117⟩ := bindE h117; obtain rfl := Option.some.inj h117; exact (rx_add (rx_ix (atI_map enc h128) (RX.s (rx_var (d := enc (t33 : (List Int))) rfl)) (rx_ixT (atI_map enc h126) (rx_var (d := enc (x96.2 : (Tp Int))) rfl) rx_int)) (rx_var (d := enc (x118 : Int)) rfl)))))) ra_nil)))))) E S fun σ F H f E S => ?_
      replace fc := fc.trans f
      have E : EnvR K _ _ [.val (enc (v_net : (T3 (List (Str × Int)) (List (T3 Str (Tp Int) Bool)) (List (Str × (Tp Int)))))), .val (enc (v_copies : Int)), .val (enc (v_votes : Bool)), .val (enc (v_net.a : (List (Str × Int)))), .val (enc (v_net.b : (List (T3 Str (Tp Int) Bool)))), .val (enc (v_net.c : (List (Str × (Tp Int))))), .val (enc (t3 : Int)), .val (enc (t7 : Int)), .val (enc (t33 : (List Int))), .adr p_told37, .un, .un, .un, .un, .un, .val (enc (l131 : (List (Str × (Tp Int))))), .un, .un, .un, .un] := E
      have S : Hx K _ _ _ _ [⟨p_told37, true, s94.map enc⟩] _ := S
      obtain ⟨F, f, E, S⟩ := frz_at (i := 9) (j := 0) rfl rfl E S
      have E : EnvR K F _ [.val (enc (v_net : (T3 (List (Str × Int)) (List (T3 Str (Tp Int) Bool)) (List (Str × (Tp Int)))))), .val (enc (v_copies : Int)), .val (enc (v_votes : Bool)), .val (enc (v_net.a : (List (Str × Int)))), .val (enc (v_net.b : (List (T3 Str (Tp Int) Bool)))), .val (enc (v_net.c : (List (Str × (Tp Int))))), .val (enc (t3 : Int)), .val (enc (t7 : Int)), .val (enc (t33 : (List Int))), .val (enc (s94 : (List (T3 Str (Tp Int) Bool)))), .un, .un, .un, .un, .un, .val (enc (l131 : (List (Str × (Tp Int))))), .un, .un, .un, .un] := E
      have S : Hx K _ _ _ F [] _ := S
      replace fc := fc.trans f
      obtain rfl := Option.some.inj hm0
      -- return
      try (with_reducible refine nxD ?_)
      refine st_ret (d := enc ((T3.mk (v_net.a.map (fun (x138 : (Str × Int)) => ((x138.1, v_copies) : (Str × Int)))) s94 l131) : (T3 (List (Str × Int)) (List (T3 Str (Tp Int) Bool)) (List (Str × (Tp Int)))))) (rx_tup (ds := [enc ((v_net.a.map (fun (x138 : (Str × Int)) => ((x138.1, v_copies) : (Str × Int)))) : (List (Str × Int))), enc (s94 : (List (T3 Str (Tp Int) Bool))), enc (l131 : (List (Str × (Tp Int))))]) (ra_cons (RXo.frz (rxo_map (eα := enc) (eβ := enc) (f := (fun (x138 : (Str × Int)) => ((x138.1, v_copies) : (Str × Int)))) (fun x138 => [.val (enc (v_net : (T3 (List (Str × Int)) (List (T3 Str (Tp Int) Bool)) (List (Str × (Tp Int)))))), .val (enc (v_copies : Int)), .val (enc (v_votes : Bool)), .val (enc (v_net.a : (List (Str × Int)))), .val (enc (v_net.b : (List (T3 Str (Tp Int) Bool)))), .val (enc (v_net.c : (List (Str × (Tp Int))))), .val (enc (t3 : Int)), .val (enc (t7 : Int)), .val (enc (t33 : (List Int))), .val (enc (s94 : (List (T3 Str (Tp Int) Bool)))), .un, .un, .un, .un, .un, .val (enc (l131 : (List (Str × (Tp Int))))), .un, .val (enc (x138.1 : Str)), .val (enc (x138.2 : Int)), .un]) [17, 18] (ri_list (ys := v_net.a.map enc) (rx_var (d := enc (v_net.a : (List (Str × Int)))) rfl)) (by decide) (fun x138 _ => (rg_tup (ds := [enc (x138.1 : Str), enc (x138.2 : Int)]) (RGs.cons (rg_name (i := 17) (d := enc (x138.1 : Str))) (RGs.cons (rg_name (i := 18) (d := enc (x138.2 : Int))) RGs.nil)))) (fun x138 _ D139 acc140 => (rx_tup (ds := [enc (x138.1 : Str), enc (v_copies : Int)]) (ra_cons (rx_var (d := enc (x138.1 : Str)) rfl) (ra_cons (rx_var (d := enc (v_copies : Int)) rfl) ra_nil)))))) (ra_cons (rx_var (d := enc (s94 : (List (T3 Str (Tp Int) Bool)))) rfl) (ra_cons (rx_var (d := enc (l131 : (List (Str × (Tp Int))))) rfl) ra_nil)))) E S fun v F H f S r => ?_
      exact k v F H S.stp r
    · refine ((rg_tup (ds := [enc (x40.1 : Int), enc (x40.2 : (T3 Str (Tp Int) Bool))]) (RGs.cons (rg_name (i := 10) (d := enc (x40.1 : Int))) (RGs.cons (rg_tup (ds := [enc (x40.2.a : Str), enc (x40.2.b : (Tp Int)), enc (x40.2.c : Bool)]) (RGs.cons (rg_name (i := 11) (d := enc (x40.2.a : Str))) (RGs.cons (rg_name (i := 12) (d := enc (x40.2.b : (Tp Int)))) (RGs.cons (rg_name (i := 13) (d := enc (x40.2.c : Bool))) RGs.nil)))) RGs.nil)))).run _ _ _ _ _ E r S.fh fun σ E _ => ?_
      have E : EnvR K _ _ [.val (enc (v_net : (T3 (List (Str × Int)) (List (T3 Str (Tp Int) Bool)) (List (Str × (Tp Int)))))), .val (enc (v_copies : Int)), .val (enc (v_votes : Bool)), .val (enc (v_net.a : (List (Str × Int)))), .val (enc (v_net.b : (List (T3 Str (Tp Int) Bool)))), .val (enc (v_net.c : (List (Str × (Tp Int))))), .val (enc (t3 : Int)), .val (enc (t7 : Int)), .val (enc (t33 : (List Int))), .adr p_told37, .val (enc (x40.1 : Int)), .val (enc (x40.2.a : Str)), .val (enc (x40.2.b : (Tp Int))), .val (enc (x40.2.c : Bool)), .un, .un, .un, .un, .un, .un] := E
      have S : Hx K _ _ _ _ [⟨p_told37, true, s39.map enc⟩] _ := S
      have fc : Same F F := Same.refl F
      obtain ⟨l44, h45, h38⟩ := bindE h38
      obtain ⟨l70, h71, h38⟩ := bindE h38
      obtain ⟨u72, h73, h38⟩ := bindE h38
      try (with_reducible refine nxD ?_)
      with_reducible refine sq ?_
      refine st_ext (j := 0) (ds := s39.map enc) (es := l70.map enc) (extO_map enc h73) rfl (RXo.frz (rxo_mapO (eα := enc) (eβ := enc) (fun x47 => [.val (enc (v_net : (T3 (List (Str × Int)) (List (T3 Str (Tp Int) Bool)) (List (Str × (Tp Int)))))), .val (enc (v_copies : Int)), .val (enc (v_votes : Bool)), .val (enc (v_net.a : (List (Str × Int)))), .val (enc (v_net.b : (List (T3 Str (Tp Int) Bool)))), .val (enc (v_net.c : (List (Str × (Tp Int))))), .val (enc (t3 : Int)), .val (enc (t7 : Int)), .val (enc (t33 : (List Int))), .adr p_told37, .val (enc (x40.1 : Int)), .val (enc (x40.2.a : Str)), .val (enc (x40.2.b : (Tp Int))), .val (enc (x40.2.c : Bool)), .un, .un, .un, .un, .un, .val (enc (x47 : Int))]) [19] (ri_range h45 (rx_var (d := enc (v_copies : Int)) rfl)) h71 (by decide) (fun x47 _ => (rg_name (i := 19) (d := enc (x47 : Int)))) (fun x47 _ y h46 D48 acc49 => by obtain ⟨l68, h69, h46⟩ := bindE h46; obtain rfl := Option.some.inj h46; exact (rx_tup (ds := [enc (x40.2.a : Str), enc ((Tp.mk l68) : (Tp Int)), enc (x40.2.c : Bool)]) (ra_cons (rx_var (d := enc (x40.2.a : Str)) rfl) (ra_cons (rx_tuple (RXo.s (rxo_mapO (eα := enc) (eβ := enc) (fun x61 => [.val (enc (v_net : (T3 (List (Str × Int)) (List (T3 Str (Tp Int) Bool)) (List (Str × (Tp Int)))))), .val (enc (v_copies : Int)), .val (enc (v_votes : Bool)), .val (enc (v_net.a : (List (Str × Int)))), .val (enc (v_net.b : (List (T3 Str (Tp Int) Bool)))), .val (enc (v_net.c : (List (Str × (Tp Int))))), .val (enc (t3 : Int)), .val (enc (t7 : Int)), .val (enc (t33 : (List Int))), .adr p_told37, .val (enc (x40.1 : Int)), .val (enc (x40.2.a : Str)), .val (enc (x40.2.b : (Tp Int))), .val (enc (x40.2.c : Bool)), .un, .un, .val (enc (x61 : Int)), .un, .un, .val (enc (x47 : Int))]) [16] (ri_tup (ys := x40.2.b.l.map enc) (rx_var (d := enc (x40.2.b : (Tp Int))) rfl)) h69 (by decide) (fun x61 _ => (rg_name (i := 16) (d := enc (x61 : Int)))) (fun x61 _ y h60 D62 acc63 => by obtain ⟨t66, h67, h60⟩ := bindE h60; obtain rfl := Option.some.inj h60; exact (rx_add (rx_ix (atI_map enc h67) (RX.s (rx_var (d := enc (t33 : (List Int))) rfl)) (rx_var (d := enc (x61 : Int)) rfl)) (rx_var (d := enc (x47 : Int)) rfl)))))) (ra_cons (rx_var (d := enc (x40.2.c : Bool)) rfl) ra_nil))))))) ⟨_, rfl⟩ rfl E S fun F H f E S => ?_
      replace fc := fc.trans f
      have E : EnvR K _ _ [.val (enc (v_net : (T3 (List (Str × Int)) (List (T3 Str (Tp Int) Bool)) (List (Str × (Tp Int)))))), .val (enc (v_copies : Int)), .val (enc (v_votes : Bool)), .val (enc (v_net.a : (List (Str × Int)))), .val (enc (v_net.b : (List (T3 Str (Tp Int) Bool)))), .val (enc (v_net.c : (List (Str × (Tp Int))))), .val (enc (t3 : Int)), .val (enc (t7 : Int)), .val (enc (t33 : (List Int))), .adr p_told37, .val (enc (x40.1 : Int)), .val (enc (x40.2.a : Str)), .val (enc (x40.2.b : (Tp Int))), .val (enc (x40.2.c : Bool)), .un, .un, .un, .un, .un, .un] := E
      have S : Hx K _ _ _ _ [⟨p_told37, true, u72.map enc⟩] _ := S
      obtain ⟨l74, h75, h38⟩ := bindE h38
      obtain ⟨l84, h85, h38⟩ := bindE h38
      obtain ⟨v86, h87, h38⟩ := letE h38
      try (with_reducible refine nxD ?_)
      with_reducible refine sq ?_
      refine st_set (i := 14) (d := enc (v86 : (Tp Int))) (rx_as (x := ((Tp.mk l84) : (Tp Int))) h87 (rx_tuple (RXo.s (rxo_mapO (eα := enc) (eβ := enc) (fun x77 => [.val (enc (v_net : (T3 (List (Str × Int)) (List (T3 Str (Tp Int) Bool)) (List (Str × (Tp Int)))))), .val (enc (v_copies : Int)), .val (enc (v_votes : Bool)), .val (enc (v_net.a : (List (Str × Int)))), .val (enc (v_net.b : (List (T3 Str (Tp Int) Bool)))), .val (enc (v_net.c : (List (Str × (Tp Int))))), .val (enc (t3 : Int)), .val (enc (t7 : Int)), .val (enc (t33 : (List Int))), .adr p_told37, .val (enc (x40.1 : Int)), .val (enc (x40.2.a : Str)), .val (enc (x40.2.b : (Tp Int))), .val (enc (x40.2.c : Bool)), .un, .un, .un, .un, .un, .val (enc (x77 : Int))]) [19] (ri_range h75 (rx_var (d := enc (v_copies : Int)) rfl)) h85 (by decide) (fun x77 _ => (rg_name (i := 19) (d := enc (x77 : Int)))) (fun x77 _ y h76 D78 acc79 => by obtain ⟨t82, h83, h76⟩ := bindE h76; obtain rfl := Option.some.inj h76; exact (rx_add (rx_add (rx_var (d := enc (t7 : Int)) rfl) (rx_mulO h83 (rx_var (d := enc (x40.1 : Int)) rfl) (rx_var (d := enc (t3 : Int)) rfl))) (rx_var (d := enc (x77 : Int)) rfl))))))) E S fun σ F H f E S => ?_
      replace fc := fc.trans f
      have E : EnvR K _ _ [.val (enc (v_net : (T3 (List (Str × Int)) (List (T3 Str (Tp Int) Bool)) (List (Str × (Tp Int)))))), .val (enc (v_copies : Int)), .val (enc (v_votes : Bool)), .val (enc (v_net.a : (List (Str × Int)))), .val (enc (v_net.b : (List (T3 Str (Tp Int) Bool)))), .val (enc (v_net.c : (List (Str × (Tp Int))))), .val (enc (t3 : Int)), .val (enc (t7 : Int)), .val (enc (t33 : (List Int))), .adr p_told37, .val (enc (x40.1 : Int)), .val (enc (x40.2.a : Str)), .val (enc (x40.2.b : (Tp Int))), .val (enc (x40.2.c : Bool)), .val (enc (v86 : (Tp Int))), .un, .un, .un, .un, .un] := E
      have S : Hx K _ _ _ _ [⟨p_told37, true, u72.map enc⟩] _ := S
      obtain ⟨t88, h89, h38⟩ := bindE h38
      obtain ⟨t90, h91, h38⟩ := bindE h38
      obtain ⟨u92, h93, h38⟩ := bindE h38
      try (with_reducible refine nxD ?_)
      refine (st_ext (j := 0) (ds := u72.map enc) (es := t90.map enc) (extO_map enc h93) rfl (RXo.frz (rxo_repO (f := enc) h91 (rxo_lst (ds := [enc ((T3.mk ("vote" : Str) v86 x40.2.c) : (T3 Str (Tp Int) Bool))]) (ra_cons (rx_tup (ds := [enc (("vote" : Str) : Str), enc (v86 : (Tp Int)), enc (x40.2.c : Bool)]) (ra_cons (rx_str (x := ("vote" : Str))) (ra_cons (rx_var (d := enc (v86 : (Tp Int))) rfl) (ra_cons (rx_var (d := enc (x40.2.c : Bool)) rfl) ra_nil)))) ra_nil)) (fun _ => (rx_mulO h89 (rx_var (d := enc (v_copies : Int)) rfl) (rx_intB (rx_var (d := enc (v_votes : Bool)) rfl)))))) ⟨_, rfl⟩ rfl E S fun F H f E S => ?_)
      replace fc := fc.trans f
      have E : EnvR K _ _ [.val (enc (v_net : (T3 (List (Str × Int)) (List (T3 Str (Tp Int) Bool)) (List (Str × (Tp Int)))))), .val (enc (v_copies : Int)), .val (enc (v_votes : Bool)), .val (enc (v_net.a : (List (Str × Int)))), .val (enc (v_net.b : (List (T3 Str (Tp Int) Bool)))), .val (enc (v_net.c : (List (Str × (Tp Int))))), .val (enc (t3 : Int)), .val (enc (t7 : Int)), .val (enc (t33 : (List Int))), .adr p_told37, .val (enc (x40.1 : Int)), .val (enc (x40.2.a : Str)), .val (enc (x40.2.b : (Tp Int))), .val (enc (x40.2.c : Bool)), .val (enc (v86 : (Tp Int))), .un, .un, .un, .un, .un] := E
      have S : Hx K _ _ _ _ [⟨p_told37, true, u92.map enc⟩] _ := S
      obtain rfl := Option.some.inj h38
      exact hN _ _ _ fc (E.weak ⟨.inl rfl, .inl rfl, .inl rfl, .inl rfl, .inl rfl, .inl rfl, .inl rfl, .inl rfl, .inl rfl, .inl rfl, .inr rfl, .inr rfl, .inr rfl, .inr rfl, .inr rfl, .inr rfl, .inr rfl, .inr rfl, .inr rfl, .inr rfl, trivial⟩) S
theorem sc_in_threes : FnScope ["net"] ["net"] (defScope (top 8)) := ⟨rfl, rfl, rfl, by decide +kernel, rfl, by decide +kernel, by decide +kernel⟩
theorem ok_in_threes (D : Dfn K mg "in_threes" (top 8) ["net"]) (C_copied : Cal P w K mg base 2 "copied" ["net", "copies", "votes"] (SpP K R_copied)) : Cal P w K mg base 3 "in_threes" ["net"] (SpP K R_in_threes) := by
  refine D.cal sc_in_threes (sp_len fun ds d h => by obtain ⟨_, _, rfl, _⟩ := h; rfl) fun f cdv A outer s H vs Q E hr h => ?_
  refine ⟨_, (pss_one (ps_ret (pe_cal C_copied hr (pa_cons (pv 0) (pa_cons pe_int (pa_cons pe_bl pa_nil)))))), ?_⟩
  obtain ⟨F, ds, d, hw, hF, ⟨v_net, rr, rfl, rfl, hm0⟩, k⟩ := h
  have E : EnvR K F _ [.val (enc (v_net : (T3 (List (Str × Int)) (List (T3 Str (Tp Int) Bool)) (List (Str × (Tp Int))))))] := EnvR.start (N := ["net"]) (AsR.of_all hw)
  have S := Hx.start (K := K) hF
  have fc : Same F F := Same.refl F
  unfold m_in_threes at hm0
  obtain ⟨r3, h4, hm0⟩ := bindE hm0
  obtain rfl := Option.some.inj hm0
  -- return
  try (with_reducible refine nxD ?_)
  refine st_ret (d := enc (r3 : (T3 (List (Str × Int)) (List (T3 Str (Tp Int) Bool)) (List (Str × (Tp Int)))))) (rx_call (ds := [enc (v_net : (T3 (List (Str × Int)) (List (T3 Str (Tp Int) Bool)) (List (Str × (Tp Int))))), enc ((3 : Int) : Int), enc (false : Bool)]) (d := enc (r3 : (T3 (List (Str × Int)) (List (T3 Str (Tp Int) Bool)) (List (Str × (Tp Int)))))) ⟨_, _, _, r3, rfl, rfl, h4⟩ (ra_cons (rx_var (d := enc (v_net : (T3 (List (Str × Int)) (List (T3 Str (Tp Int) Bool)) (List (Str × (Tp Int)))))) rfl) (ra_cons rx_int (ra_cons rx_bl ra_nil)))) E S fun v F H f S r => ?_
  exact k v F H S.stp r
theorem sc_in_pairs : FnScope ["net"] ["net"] (defScope (top 9)) := ⟨rfl, rfl, rfl, by decide +kernel, rfl, by decide +kernel, by decide +kernel⟩
theorem ok_in_pairs (D : Dfn K mg "in_pairs" (top 9) ["net"]) (C_copied : Cal P w K mg base 2 "copied" ["net", "copies", "votes"] (SpP K R_copied)) : Cal P w K mg base 3 "in_pairs" ["net"] (SpP K R_in_pairs) := by
  refine D.cal sc_in_pairs (sp_len fun ds d h => by obtain ⟨_, _, rfl, _⟩ := h; rfl) fun f cdv A outer s H vs Q E hr h => ?_
  refine ⟨_, (pss_one (ps_ret (pe_cal C_copied hr (pa_cons (pv 0) (pa_cons pe_int (pa_cons pe_bl pa_nil)))))), ?_⟩
  obtain ⟨F, ds, d, hw, hF, ⟨v_net, rr, rfl, rfl, hm0⟩, k⟩ := h
  have E : EnvR K F _ [.val (enc (v_net : (T3 (List (Str × Int)) (List (T3 Str (Tp Int) Bool)) (List (Str × (Tp Int))))))] := EnvR.start (N := ["net"]) (AsR.of_all hw)
  have S := Hx.start (K := K) hF
  have fc : Same F F := Same.refl F
  unfold m_in_pairs at hm0
  obtain ⟨r3, h4, hm0⟩ := bindE hm0
  obtain rfl := Option.some.inj hm0
  -- return
  try (with_reducible refine nxD ?_)
  refine st_ret (d := enc (r3 : (T3 (List (Str × Int)) (List (T3 Str (Tp Int) Bool)) (List (Str × (Tp Int)))))) (rx_call (ds := [enc (v_net : (T3 (List (Str × Int)) (List (T3 Str (Tp Int) Bool)) (List (Str × (Tp Int))))), enc ((2 : Int) : Int), enc (false : Bool)]) (d := enc (r3 : (T3 (List (Str × Int)) (List (T3 Str (Tp Int) Bool)) (List (Str × (Tp Int)))))) ⟨_, _, _, r3, rfl, rfl, h4⟩ (ra_cons (rx_var (d := enc (v_net : (T3 (List (Str × Int)) (List (T3 Str (Tp Int) Bool)) (List (Str × (Tp Int)))))) rfl) (ra_cons rx_int (ra_cons rx_bl ra_nil)))) E S fun v F H f S r => ?_
  exact k v F H S.stp r
theorem sc_with_votes : FnScope ["net"] ["net"] (defScope (top 10)) := ⟨rfl, rfl, rfl, by decide +kernel, rfl, by decide +kernel, by decide +kernel⟩
theorem ok_with_votes (D : Dfn K mg "with_votes" (top 10) ["net"]) (C_copied : Cal P w K mg base 2 "copied" ["net", "copies", "votes"] (SpP K R_copied)) : Cal P w K mg base 3 "with_votes" ["net"] (SpP K R_with_votes) := by
  refine D.cal sc_with_votes (sp_len fun ds d h => by obtain ⟨_, _, rfl, _⟩ := h; rfl) fun f cdv A outer s H vs Q E hr h => ?_
  refine ⟨_, (pss_one (ps_ret (pe_cal C_copied hr (pa_cons (pv 0) (pa_cons pe_int (pa_cons pe_bl pa_nil)))))), ?_⟩
  obtain ⟨F, ds, d, hw, hF, ⟨v_net, rr, rfl, rfl, hm0⟩, k⟩ := h
  have E : EnvR K F _ [.val (enc (v_net : (T3 (List (Str × Int)) (List (T3 Str (Tp Int) Bool)) (List (Str × (Tp Int))))))] := EnvR.start (N := ["net"]) (AsR.of_all hw)
  have S := Hx.start (K := K) hF
  have fc : Same F F := Same.refl F
  unfold m_with_votes at hm0
  obtain ⟨r3, h4, hm0⟩ := bindE hm0
  obtain rfl := Option.some.inj hm0
  -- return
  try (with_reducible refine nxD ?_)
  refine st_ret (d := enc (r3 : (T3 (List (Str × Int)) (List (T3 Str (Tp Int) Bool)) (List (Str × (Tp Int)))))) (rx_call (ds := [enc (v_net : (T3 (List (Str × Int)) (List (T3 Str (Tp Int) Bool)) (List (Str × (Tp Int))))), enc ((3 : Int) : Int), enc (true : Bool)]) (d := enc (r3 : (T3 (List (Str × Int)) (List (T3 Str (Tp Int) Bool)) (List (Str × (Tp Int)))))) ⟨_, _, _, r3, rfl, rfl, h4⟩ (ra_cons (rx_var (d := enc (v_net : (T3 (List (Str × Int)) (List (T3 Str (Tp Int) Bool)) (List (Str × (Tp Int)))))) rfl) (ra_cons rx_int (ra_cons rx_bl ra_nil)))) E S fun v F H f S r => ?_
  exact k v F H S.stp r
theorem sc_size : FnScope ["net", "ins", "gates", "outs", "deep", "kind", "wires", "sure", "votes", "many", "name", "width", "wire"] ["net"] (defScope (top 11)) := ⟨rfl, rfl, rfl, by decide +kernel, rfl, by decide +kernel, by decide +kernel⟩
theorem ok_size (B : Bi mg) (D : Dfn K mg "size" (top 11) ["net"]) : Cal P w K mg base 1 "size" ["net"] (SpP K R_size) := by
  refine D.cal sc_size (sp_len fun ds d h => by obtain ⟨_, _, rfl, _⟩ := h; rfl) fun f cdv A outer s H vs Q E hr h => ?_
  refine ⟨_, (pss_cons (ps_asg (pv 0) (pg_tup rfl (pgs_cons (pg_name (i := 1) sc_size.nd rfl (Or.inl rfl)) (pgs_cons (pg_name (i := 2) sc_size.nd rfl (Or.inl rfl)) (pgs_cons (pg_name (i := 3) sc_size.nd rfl (Or.inl rfl)) pgs_nil))))) (pss_cons (ps_set (i := 4) sc_size.nd rfl (Or.inr rfl) (pe_op op_rep (pe_lst (pa_cons pe_int pa_nil)) (pe_callB (k_sum K rfl) (by rfl) B.sum (by decide +kernel) (pa_cons (pe_lc (own := [(("name" : Str), 10), (("width" : Str), 11)]) (g := (gTup K 2 (gCons (gName 10) (gCons (gName 11) gNil)))) (tt := tYes) rfl sc_size.nd (k_pi_list K (pv 1)) (blkOk_by (by kernel_rfl)) (fun _ _ _ _ _ => (pg_tup rfl (pgs_cons (pg_name (i := 10) sc_size.nd rfl (Or.inl rfl)) (pgs_cons (pg_name (i := 11) sc_size.nd rfl (Or.inl rfl)) pgs_nil)))) (fun _ _ _ _ _ => pts_nil) (fun _ _ _ _ _ => (pv 11))) pa_nil)))) (pss_cons (ps_for PassesOwn.never rfl (k_pi_list K (pv 2)) (pg_tup rfl (pgs_cons (pg_name (i := 5) sc_size.nd rfl (Or.inl rfl)) (pgs_cons (pg_name (i := 6) sc_size.nd rfl (Or.inl rfl)) (pgs_cons (pg_name (i := 7) sc_size.nd rfl (Or.inl rfl)) pgs_nil)))) (pss_one (ps_expr (pe_bm PySem.F.plainAttrs_list PySem.F.slot_list_append PySem.F.type_list_append mt_append (pv 4) (pa_cons (pe_op op_add pe_int (pe_callB (k_max K rfl) (by rfl) B.max (by decide +kernel) (pa_cons (pe_lc (own := [(("wire" : Str), 12)]) (g := (gName 12)) (tt := tYes) rfl sc_size.nd (k_pi_tup K (pv 6)) (blkOk_by (by kernel_rfl)) (fun _ _ _ _ _ => (pg_name (i := 12) sc_size.nd rfl (Or.inl rfl))) (fun _ _ _ _ _ => pts_nil) (fun _ _ _ _ _ => (pe_ix (k_ix_list K) (pv 4) (pv 12) (fun _ _ => rfl)))) pa_nil))) pa_nil))))) (pss_cons (ps_set (i := 8) sc_size.nd rfl (Or.inl rfl) (pe_callB (k_len_seq K) (by rfl) B.len PySem.boot_len (pa_cons (pe_lc (own := [(("kind" : Str), 5), (("wires" : Str), 6), (("sure" : Str), 7)]) (g := (gTup K 3 (gCons (gName 5) (gCons (gName 6) (gCons (gName 7) gNil))))) rfl sc_size.nd (k_pi_list K (pv 2)) (blkOk_by (by kernel_rfl)) (fun _ _ _ _ _ => (pg_tup rfl (pgs_cons (pg_name (i := 5) sc_size.nd rfl (Or.inl rfl)) (pgs_cons (pg_name (i := 6) sc_size.nd rfl (Or.inl rfl)) (pgs_cons (pg_name (i := 7) sc_size.nd rfl (Or.inl rfl)) pgs_nil))))) (fun _ _ _ _ _ => (pts_one (pt_cmpR op_eq (pv 5) pe_str (nomark _)))) (fun _ _ _ _ _ => (pv 5))) pa_nil))) (pss_cons (ps_set (i := 9) sc_size.nd rfl (Or.inl rfl) (pe_callB (k_len_seq K) (by rfl) B.len PySem.boot_len (pa_cons (pe_lc (own := [(("kind" : Str), 5), (("wires" : Str), 6), (("sure" : Str), 7)]) (g := (gTup K 3 (gCons (gName 5) (gCons (gName 6) (gCons (gName 7) gNil))))) rfl sc_size.nd (k_pi_list K (pv 2)) (blkOk_by (by kernel_rfl)) (fun _ _ _ _ _ => (pg_tup rfl (pgs_cons (pg_name (i := 5) sc_size.nd rfl (Or.inl rfl)) (pgs_cons (pg_name (i := 6) sc_size.nd rfl (Or.inl rfl)) (pgs_cons (pg_name (i := 7) sc_size.nd rfl (Or.inl rfl)) pgs_nil))))) (fun _ _ _ _ _ => (pts_one (pt_val (pv 7)))) (fun _ _ _ _ _ => (pv 5))) pa_nil))) (pss_one (ps_ret (pe_tup (pa_cons (pe_callB (k_len_seq K) (by rfl) B.len PySem.boot_len (pa_cons (pv 2) pa_nil)) (pa_cons (pv 8) (pa_cons (pv 9) (pa_cons (pe_callB (k_max K rfl) (by rfl) B.max (by decide +kernel) (pa_cons (pe_lc (own := [(("name" : Str), 10), (("wires" : Str), 6)]) (g := (gTup K 2 (gCons (gName 10) (gCons (gName 6) gNil)))) (tt := tYes) rfl sc_size.nd (k_pi_list K (pv 3)) (blkOk_by (by kernel_rfl)) (fun _ _ _ _ _ => (pg_tup rfl (pgs_cons (pg_name (i := 10) sc_size.nd rfl (Or.inl rfl)) (pgs_cons (pg_name (i := 6) sc_size.nd rfl (Or.inl rfl)) pgs_nil)))) (fun _ _ _ _ _ => pts_nil) (fun _ _ _ _ _ => (pe_callB (k_max K rfl) (by rfl) B.max (by decide +kernel) (pa_cons (pe_lc (own := [(("wire" : Str), 12)]) (g := (gName 12)) (tt := tYes) rfl sc_size.nd (k_pi_tup K (pv 6)) (blkOk_by (by kernel_rfl)) (fun _ _ _ _ _ => (pg_name (i := 12) sc_size.nd rfl (Or.inl rfl))) (fun _ _ _ _ _ => pts_nil) (fun _ _ _ _ _ => (pe_ix (k_ix_list K) (pv 4) (pv 12) (fun _ _ => rfl)))) pa_nil)))) pa_nil)) pa_nil)))))))))))), ?_⟩
  obtain ⟨F, ds, d, hw, hF, ⟨v_net, rr, rfl, rfl, hm0⟩, k⟩ := h
  have E : EnvR K F _ [.val (enc (v_net : (T3 (List (Str × Int)) (List (T3 Str (Tp Int) Bool)) (List (Str × (Tp Int)))))), .un, .un, .un, .un, .un, .un, .un, .un, .un, .un, .un, .un] := EnvR.start (N := ["net", "ins", "gates", "outs", "deep", "kind", "wires", "sure", "votes", "many", "name", "width", "wire"]) (AsR.of_all hw)
  have S := Hx.start (K := K) hF
  have fc : Same F F := Same.refl F
  unfold m_size at hm0
  try (with_reducible refine nxD ?_)
  with_reducible refine sq ?_
  refine st_unp (d := enc (v_net : (T3 (List (Str × Int)) (List (T3 Str (Tp Int) Bool)) (List (Str × (Tp Int)))))) (rx_var (d := enc (v_net : (T3 (List (Str × Int)) (List (T3 Str (Tp Int) Bool)) (List (Str × (Tp Int)))))) rfl) (rg_tup (ds := [enc (v_net.a : (List (Str × Int))), enc (v_net.b : (List (T3 Str (Tp Int) Bool))), enc (v_net.c : (List (Str × (Tp Int))))]) (RGs.cons (rg_name (i := 1) (d := enc (v_net.a : (List (Str × Int))))) (RGs.cons (rg_name (i := 2) (d := enc (v_net.b : (List (T3 Str (Tp Int) Bool))))) (RGs.cons (rg_name (i := 3) (d := enc (v_net.c : (List (Str × (Tp Int)))))) RGs.nil)))) E S fun σ F H f E S => ?_
  replace fc := fc.trans f
  have E : EnvR K _ _ [.val (enc (v_net : (T3 (List (Str × Int)) (List (T3 Str (Tp Int) Bool)) (List (Str × (Tp Int)))))), .val (enc (v_net.a : (List (Str × Int)))), .val (enc (v_net.b : (List (T3 Str (Tp Int) Bool)))), .val (enc (v_net.c : (List (Str × (Tp Int))))), .un, .un, .un, .un, .un, .un, .un, .un, .un] := E
  have S : Hx K _ _ _ _ [] _ := S
  obtain ⟨t5, h6, hm0⟩ := bindE hm0
  try (with_reducible refine nxD ?_)
  with_reducible refine sq ?_
  refine st_setO (i := 4) (ds := t5.map enc) (rxo_repO (f := enc) h6 (rxo_lst (ds := [enc ((0 : Int) : Int)]) (ra_cons rx_int ra_nil)) (fun _ => (rx_sum (RXo.s (rxo_map (eα := enc) (eβ := enc) (f := (fun (x2 : (Str × Int)) => (x2.2 : Int))) (fun x2 => [.val (enc (v_net : (T3 (List (Str × Int)) (List (T3 Str (Tp Int) Bool)) (List (Str × (Tp Int)))))), .val (enc (v_net.a : (List (Str × Int)))), .val (enc (v_net.b : (List (T3 Str (Tp Int) Bool)))), .val (enc (v_net.c : (List (Str × (Tp Int))))), .un, .un, .un, .un, .un, .un, .val (enc (x2.1 : Str)), .val (enc (x2.2 : Int)), .un]) [10, 11] (ri_list (ys := v_net.a.map enc) (rx_var (d := enc (v_net.a : (List (Str × Int)))) rfl)) (by decide) (fun x2 _ => (rg_tup (ds := [enc (x2.1 : Str), enc (x2.2 : Int)]) (RGs.cons (rg_name (i := 10) (d := enc (x2.1 : Str))) (RGs.cons (rg_name (i := 11) (d := enc (x2.2 : Int))) RGs.nil)))) (fun x2 _ D3 acc4 => (rx_var (d := enc (x2.2 : Int)) rfl))))))) E S fun p_deep7 σ F H f E S => ?_
  replace fc := fc.trans f
  have E : EnvR K _ _ [.val (enc (v_net : (T3 (List (Str × Int)) (List (T3 Str (Tp Int) Bool)) (List (Str × (Tp Int)))))), .val (enc (v_net.a : (List (Str × Int)))), .val (enc (v_net.b : (List (T3 Str (Tp Int) Bool)))), .val (enc (v_net.c : (List (Str × (Tp Int))))), .adr p_deep7, .un, .un, .un, .un, .un, .un, .un, .un] := E
  have S : Hx K _ _ _ _ [⟨p_deep7, true, t5.map enc⟩] _ := S
  obtain ⟨s28, h12, hm0⟩ := bindE hm0
  try (with_reducible refine nxD ?_)
  with_reducible refine sq ?_
  refine st_forS (eα := enc) (fun s9 => [.val (enc (v_net : (T3 (List (Str × Int)) (List (T3 Str (Tp Int) Bool)) (List (Str × (Tp Int)))))), .val (enc (v_net.a : (List (Str × Int)))), .val (enc (v_net.b : (List (T3 Str (Tp Int) Bool)))), .val (enc (v_net.c : (List (Str × (Tp Int))))), .adr p_deep7, .un, .un, .un, .un, .un, .un, .un, .un]) (fun s9 => [⟨p_deep7, true, s9.map enc⟩]) E S (ri_list (ys := v_net.b.map enc) (rx_var (d := enc (v_net.b : (List (T3 Str (Tp Int) Bool)))) rfl)) h12 ⟨.inl rfl, .inl rfl, .inl rfl, .inl rfl, .inl rfl, .inr rfl, .inr rfl, .inr rfl, .inr rfl, .inr rfl, .inr rfl, .inr rfl, .inr rfl, trivial⟩ (fun σ F H f E S => ?_) (fun x10 _ s9 s' h8 σ F H v _ E S r N B hN => ?_)
  · replace fc := fc.trans f
    have E : EnvR K _ _ [.val (enc (v_net : (T3 (List (Str × Int)) (List (T3 Str (Tp Int) Bool)) (List (Str × (Tp Int)))))), .val (enc (v_net.a : (List (Str × Int)))), .val (enc (v_net.b : (List (T3 Str (Tp Int) Bool)))), .val (enc (v_net.c : (List (Str × (Tp Int))))), .adr p_deep7, .un, .un, .un, .un, .un, .un, .un, .un] := E
    have S : Hx K _ _ _ _ [⟨p_deep7, true, s28.map enc⟩] _ := S
    obtain ⟨v33, h34, hm0⟩ := letE hm0
    try (with_reducible refine nxD ?_)
    with_reducible refine sq ?_
    refine st_set (i := 8) (d := enc (v33 : Int)) (rx_as (x := ((((v_net.b.filter (fun (x30 : (T3 Str (Tp Int) Bool)) => (decide (x30.a = ("vote" : Str))))).map (fun (x30 : (T3 Str (Tp Int) Bool)) => (x30.a : Str))).length : Int) : Int)) h34 (len_nat (f := enc) (RXo.s (rxo_filt (eα := enc) (eβ := enc) (p := (fun (x30 : (T3 Str (Tp Int) Bool)) => (decide (x30.a = ("vote" : Str))))) (f := (fun (x30 : (T3 Str (Tp Int) Bool)) => (x30.a : Str))) (fun x30 => [.val (enc (v_net : (T3 (List (Str × Int)) (List (T3 Str (Tp Int) Bool)) (List (Str × (Tp Int)))))), .val (enc (v_net.a : (List (Str × Int)))), .val (enc (v_net.b : (List (T3 Str (Tp Int) Bool)))), .val (enc (v_net.c : (List (Str × (Tp Int))))), .adr p_deep7, .val (enc (x30.a : Str)), .val (enc (x30.b : (Tp Int))), .val (enc (x30.c : Bool)), .un, .un, .un, .un, .un]) [5, 6, 7] (ri_list (ys := v_net.b.map enc) (rx_var (d := enc (v_net.b : (List (T3 Str (Tp Int) Bool)))) rfl)) (by decide) (fun x30 _ => (rg_tup (ds := [enc (x30.a : Str), enc (x30.b : (Tp Int)), enc (x30.c : Bool)]) (RGs.cons (rg_name (i := 5) (d := enc (x30.a : Str))) (RGs.cons (rg_name (i := 6) (d := enc (x30.b : (Tp Int)))) (RGs.cons (rg_name (i := 7) (d := enc (x30.c : Bool))) RGs.nil))))) (fun x30 _ D31 acc32 => (rt_val (rx_eqs (rx_var (d := enc (x30.a : Str)) rfl) (rx_str (x := ("vote" : Str)))))) (fun x30 _ D31 acc32 => (rx_var (d := enc (x30.a : Str)) rfl)))))) E S fun σ F H f E S => ?_
    replace fc := fc.trans f
    have E : EnvR K _ _ [.val (enc (v_net : (T3 (List (Str × Int)) (List (T3 Str (Tp Int) Bool)) (List (Str × (Tp Int)))))), .val (enc (v_net.a : (List (Str × Int)))), .val (enc (v_net.b : (List (T3 Str (Tp Int) Bool)))), .val (enc (v_net.c : (List (Str × (Tp Int))))), .adr p_deep7, .un, .un, .un, .val (enc (v33 : Int)), .un, .un, .un, .un] := E
    have S : Hx K _ _ _ _ [⟨p_deep7, true, s28.map enc⟩] _ := S
    obtain ⟨v39, h40, hm0⟩ := letE hm0
    try (with_reducible refine nxD ?_)
    with_reducible refine sq ?_
    refine st_set (i := 9) (d := enc (v39 : Int)) (rx_as (x := ((((v_net.b.filter (fun (x36 : (T3 Str (Tp Int) Bool)) => x36.c)).map (fun (x36 : (T3 Str (Tp Int) Bool)) => (x36.a : Str))).length : Int) : Int)) h40 (len_nat (f := enc) (RXo.s (rxo_filt (eα := enc) (eβ := enc) (p := (fun (x36 : (T3 Str (Tp Int) Bool)) => x36.c)) (f := (fun (x36 : (T3 Str (Tp Int) Bool)) => (x36.a : Str))) (fun x36 => [.val (enc (v_net : (T3 (List (Str × Int)) (List (T3 Str (Tp Int) Bool)) (List (Str × (Tp Int)))))), .val (enc (v_net.a : (List (Str × Int)))), .val (enc (v_net.b : (List (T3 Str (Tp Int) Bool)))), .val (enc (v_net.c : (List (Str × (Tp Int))))), .adr p_deep7, .val (enc (x36.a : Str)), .val (enc (x36.b : (Tp Int))), .val (enc (x36.c : Bool)), .val (enc (v33 : Int)), .un, .un, .un, .un]) [5, 6, 7] (ri_list (ys := v_net.b.map enc) (rx_var (d := enc (v_net.b : (List (T3 Str (Tp Int) Bool)))) rfl)) (by decide) (fun x36 _ => (rg_tup (ds := [enc (x36.a : Str), enc (x36.b : (Tp Int)), enc (x36.c : Bool)]) (RGs.cons (rg_name (i := 5) (d := enc (x36.a : Str))) (RGs.cons (rg_name (i := 6) (d := enc (x36.b : (Tp Int)))) (RGs.cons (rg_name (i := 7) (d := enc (x36.c : Bool))) RGs.nil))))) (fun x36 _ D37 acc38 => (rt_b (rx_var (d := enc (x36.c : Bool)) rfl))) (fun x36 _ D37 acc38 => (rx_var (d := enc (x36.a : Str)) rfl)))))) E S fun σ F H f E S => ?_
    replace fc := fc.trans f
    have E : EnvR K _ _ [.val (enc (v_net : (T3 (List (Str × Int)) (List (T3 Str (Tp Int) Bool)) (List (Str × (Tp Int)))))), .val (enc (v_net.a : (List (Str × Int)))), .val (enc (v_net.b : (List (T3 Str (Tp Int) Bool)))), .val (enc (v_net.c : (List (Str × (Tp Int))))), .adr p_deep7, .un, .un, .un, .val (enc (v33 : Int)), .val (enc (v39 : Int)), .un, .un, .un] := E
    have S : Hx K _ _ _ _ [⟨p_deep7, true, s28.map enc⟩] _ := S
    obtain ⟨l101, h102, hm0⟩ := bindE hm0
    obtain ⟨t103, h104, hm0⟩ := bindE hm0
    obtain rfl := Option.some.inj hm0
    -- return
    try (with_reducible refine nxD ?_)
    refine st_ret (d := enc ((T4.mk (v_net.b.length : Int) v33 v39 t103) : (T4 Int Int Int Int))) (rx_tup (ds := [enc ((v_net.b.length : Int) : Int), enc (v33 : Int), enc (v39 : Int), enc (t103 : Int)]) (ra_cons (len_nat (f := enc) (RX.s (rx_var (d := enc (v_net.b : (List (T3 Str (Tp Int) Bool)))) rfl))) (ra_cons (rx_var (d := enc (v33 : Int)) rfl) (ra_cons (rx_var (d := enc (v39 : Int)) rfl) (ra_cons (rx_max h104 (RXo.s (rxo_mapO (eα := enc) (eβ := enc) (fun x74 => [.val (enc (v_net : (T3 (List (Str × Int)) (List (T3 Str (Tp Int) Bool)) (List (Str × (Tp Int)))))), .val (enc (v_net.a : (List (Str × Int)))), .val (enc (v_net.b : (List (T3 Str (Tp Int) Bool)))), .val (enc (v_net.c : (List (Str × (Tp Int))))), .adr p_deep7, .un, .val (enc (x74.2 : (Tp Int))), .un, .val (enc (v33 : Int)), .val (enc (v39 : Int)), .val (enc (x74.1 : Str)), .un, .un]) [10, 6] (ri_list (ys := v_net.c.map enc) (rx_var (d := enc (v_net.c : (List (Str × (Tp Int))))) rfl)) h102 (by decide) (fun x74 _ => (rg_tup (ds := [enc (x74.1 : Str), enc (x74.2 : (Tp Int))]) (RGs.cons (rg_name (i := 10) (d := enc (x74.1 : Str))) (RGs.cons (rg_name (i := 6) (d := enc (x74.2 : (Tp Int)))) RGs.nil)))) (fun x74 _ y h73 D75 acc76 => by obtain ⟨l97, h98, h73⟩ := bindE h73; obtain ⟨t99, h100, h73⟩ := bindE h73; obtain rfl := Option.some.inj h73; exact (rx_max h100 (RXo.s (rxo_mapO (eα := enc) (eβ := enc) (fun x90 => [.val (enc (v_net : (T3 (List (Str × Int)) (List (T3 Str (Tp Int) Bool)) (List (Str × (Tp Int)))))), .val (enc (v_net.a : (List (Str × Int)))), .val (enc (v_net.b : (List (T3 Str (Tp Int) Bool)))), .val (enc (v_net.c : (List (Str × (Tp Int))))), .adr p_deep7, .un, .val (enc (x74.2 : (Tp Int))), .un, .val (enc (v33 : Int)), .val (enc (v39 : Int)), .val (enc (x74.1 : Str)), .un, .val (enc (x90 : Int))]) [12] (ri_tup (ys := x74.2.l.map enc) (rx_var (d := enc (x74.2 : (Tp Int))) rfl)) h98 (by decide) (fun x90 _ => (rg_name (i := 12) (d := enc (x90 : Int)))) (fun x90 _ y h89 D91 acc92 => by obtain ⟨t95, h96, h89⟩ := bindE h89; obtain rfl := Option.some.inj h89; exact (rx_ix (atI_map enc h96) (rxs_own (j := 2) (ds := s28.map enc) rfl rfl) (rx_var (d := enc (x90 : Int)) rfl)))))))))) ra_nil))))) E S fun v F H f S r => ?_
    exact k v F H S.stp r
  · refine ((rg_tup (ds := [enc (x10.a : Str), enc (x10.b : (Tp Int)), enc (x10.c : Bool)]) (RGs.cons (rg_name (i := 5) (d := enc (x10.a : Str))) (RGs.cons (rg_name (i := 6) (d := enc (x10.b : (Tp Int)))) (RGs.cons (rg_name (i := 7) (d := enc (x10.c : Bool))) RGs.nil))))).run _ _ _ _ _ E r S.fh fun σ E _ => ?_
    have E : EnvR K _ _ [.val (enc (v_net : (T3 (List (Str × Int)) (List (T3 Str (Tp Int) Bool)) (List (Str × (Tp Int)))))), .val (enc (v_net.a : (List (Str × Int)))), .val (enc (v_net.b : (List (T3 Str (Tp Int) Bool)))), .val (enc (v_net.c : (List (Str × (Tp Int))))), .adr p_deep7, .val (enc (x10.a : Str)), .val (enc (x10.b : (Tp Int))), .val (enc (x10.c : Bool)), .un, .un, .un, .un, .un] := E
    have S : Hx K _ _ _ _ [⟨p_deep7, true, s9.map enc⟩] _ := S
    have fc : Same F F := Same.refl F
    obtain ⟨l22, h23, h8⟩ := bindE h8
    obtain ⟨t24, h25, h8⟩ := bindE h8
    obtain ⟨u26, h27, h8⟩ := bindE h8
    try (with_reducible refine nxD ?_)
    refine (st_app (j := 0) (ds := s9.map enc) (d := enc (((1 : Int) + t24) : Int)) (appO_map enc h27) rfl (rx_add rx_int (rx_max h25 (RXo.s (rxo_mapO (eα := enc) (eβ := enc) (fun x15 => [.val (enc (v_net : (T3 (List (Str × Int)) (List (T3 Str (Tp Int) Bool)) (List (Str × (Tp Int)))))), .val (enc (v_net.a : (List (Str × Int)))), .val (enc (v_net.b : (List (T3 Str (Tp Int) Bool)))), .val (enc (v_net.c : (List (Str × (Tp Int))))), .adr p_deep7, .val (enc (x10.a : Str)), .val (enc (x10.b : (Tp Int))), .val (enc (x10.c : Bool)), .un, .un, .un, .un, .val (enc (x15 : Int))]) [12] (ri_tup (ys := x10.b.l.map enc) (rx_var (d := enc (x10.b : (Tp Int))) rfl)) h23 (by decide) (fun x15 _ => (rg_name (i := 12) (d := enc (x15 : Int)))) (fun x15 _ y h14 D16 acc17 => by obtain ⟨t20, h21, h14⟩ := bindE h14; obtain rfl := Option.some.inj h14; exact (rx_ix (atI_map enc h21) (rxs_own (j := 1) (ds := s9.map enc) rfl rfl) (rx_var (d := enc (x15 : Int)) rfl))))))) ⟨_, rfl⟩ rfl E S fun F H f E S => ?_)
    replace fc := fc.trans f
    have E : EnvR K _ _ [.val (enc (v_net : (T3 (List (Str × Int)) (List (T3 Str (Tp Int) Bool)) (List (Str × (Tp Int)))))), .val (enc (v_net.a : (List (Str × Int)))), .val (enc (v_net.b : (List (T3 Str (Tp Int) Bool)))), .val (enc (v_net.c : (List (Str × (Tp Int))))), .adr p_deep7, .val (enc (x10.a : Str)), .val (enc (x10.b : (Tp Int))), .val (enc (x10.c : Bool)), .un, .un, .un, .un, .un] := E
    have S : Hx K _ _ _ _ [⟨p_deep7, true, u26.map enc⟩] _ := S
    obtain rfl := Option.some.inj h8
    exact hN _ _ _ fc (E.weak ⟨.inl rfl, .inl rfl, .inl rfl, .inl rfl, .inl rfl, .inr rfl, .inr rfl, .inr rfl, .inr rfl, .inr rfl, .inr rfl, .inr rfl, .inr rfl, trivial⟩) S
theorem sc_all_inputs : FnScope ["net", "many", "own", "k", "place", "number"] ["net"] (defScope (top 17)) := ⟨rfl, rfl, rfl, by decide +kernel, rfl, by decide +kernel, by decide +kernel⟩
theorem ok_all_inputs (B : Bi mg) (D : Dfn K mg "all_inputs" (top 17) ["net"]) : Cal P w K mg base 1 "all_inputs" ["net"] (SpP K R_all_inputs) := by
  refine D.cal sc_all_inputs (sp_len fun ds d h => by obtain ⟨_, _, rfl, _⟩ := h; rfl) fun f cdv A outer s H vs Q E hr h => ?_
  refine ⟨_, (pss_cons (ps_set (i := 1) sc_all_inputs.nd rfl (Or.inl rfl) (pe_op op_shl pe_int (pe_callB (k_len_seq K) (by rfl) B.len PySem.boot_len (pa_cons (pe_ix (k_ix_tup K) (pv 0) pe_int (fun _ _ => rfl)) pa_nil)))) (pss_cons (ps_set (i := 2) sc_all_inputs.nd rfl (Or.inl rfl) (pe_lst pa_nil)) (pss_cons (ps_for PassesOwn.never rfl (pi_range1 rfl B.range (pa_cons (pe_callB (k_len_seq K) (by rfl) B.len PySem.boot_len (pa_cons (pe_ix (k_ix_tup K) (pv 0) pe_int (fun _ _ => rfl)) pa_nil)) pa_nil)) (pg_name (i := 3) sc_all_inputs.nd rfl (Or.inl rfl)) (pss_cons (ps_set (i := 4) sc_all_inputs.nd rfl (Or.inr rfl) (pe_op op_sub (pe_op op_sub (pe_callB (k_len_seq K) (by rfl) B.len PySem.boot_len (pa_cons (pe_ix (k_ix_tup K) (pv 0) pe_int (fun _ _ => rfl)) pa_nil)) pe_int) (pv 3))) (pss_one (ps_expr (pe_bm PySem.F.plainAttrs_list PySem.F.slot_list_append PySem.F.type_list_append mt_append (pv 2) (pa_cons (pe_callB (k_sum K rfl) (by rfl) B.sum (by decide +kernel) (pa_cons (pe_lc (own := [(("number" : Str), 5)]) (g := (gName 5)) (tt := tYes) rfl sc_all_inputs.nd (pi_range1 rfl B.range (pa_cons (pv 1) pa_nil)) (blkOk_by (by kernel_rfl)) (fun _ _ _ _ _ => (pg_name (i := 5) sc_all_inputs.nd rfl (Or.inl rfl))) (fun _ _ _ _ _ => pts_nil) (fun _ _ _ _ _ => (pe_op op_shl (pe_op op_and (pe_op op_shr (pv 5) (pv 4)) pe_int) (pv 5)))) pa_nil)) pa_nil)))))) (pss_one (ps_ret (pe_tup (pa_cons (pv 2) (pa_cons (pe_op op_sub (pe_op op_shl pe_int (pv 1)) pe_int) pa_nil)))))))), ?_⟩
  obtain ⟨F, ds, d, hw, hF, ⟨v_net, rr, rfl, rfl, hm0⟩, k⟩ := h
  have E : EnvR K F _ [.val (enc (v_net : (T3 (List (Str × Int)) (List (T3 Str (Tp Int) Bool)) (List (Str × (Tp Int)))))), .un, .un, .un, .un, .un] := EnvR.start (N := ["net", "many", "own", "k", "place", "number"]) (AsR.of_all hw)
  have S := Hx.start (K := K) hF
  have fc : Same F F := Same.refl F
  unfold m_all_inputs at hm0
  obtain ⟨t1, h2, hm0⟩ := bindE hm0
  try (with_reducible refine nxD ?_)
  with_reducible refine sq ?_
  refine st_set (i := 1) (d := enc (t1 : Int)) (rx_shlO h2 rx_int (len_nat (f := enc) (RX.s (rx_ixT (ds := [enc (v_net.a : (List (Str × Int))), enc (v_net.b : (List (T3 Str (Tp Int) Bool))), enc (v_net.c : (List (Str × (Tp Int))))]) (d := enc (v_net.a : (List (Str × Int)))) rfl (rx_var (d := enc (v_net : (T3 (List (Str × Int)) (List (T3 Str (Tp Int) Bool)) (List (Str × (Tp Int)))))) rfl) rx_int)))) E S fun σ F H f E S => ?_
  replace fc := fc.trans f
  have E : EnvR K _ _ [.val (enc (v_net : (T3 (List (Str × Int)) (List (T3 Str (Tp Int) Bool)) (List (Str × (Tp Int)))))), .val (enc (t1 : Int)), .un, .un, .un, .un] := E
  have S : Hx K _ _ _ _ [] _ := S
  obtain ⟨v3, h4, hm0⟩ := letE hm0
  try (with_reducible refine nxD ?_)
  with_reducible refine sq ?_
  refine st_setO (i := 2) (ds := v3.map enc) (rxo_as (f := enc) h4 (rxo_lst (ds := []) ra_nil)) E S fun p_own5 σ F H f E S => ?_
  replace fc := fc.trans f
  have E : EnvR K _ _ [.val (enc (v_net : (T3 (List (Str × Int)) (List (T3 Str (Tp Int) Bool)) (List (Str × (Tp Int)))))), .val (enc (t1 : Int)), .adr p_own5, .un, .un, .un] := E
  have S : Hx K _ _ _ _ [⟨p_own5, true, v3.map enc⟩] _ := S
  obtain ⟨s32, h10, hm0⟩ := bindE hm0
  try (with_reducible refine nxD ?_)
  with_reducible refine sq ?_
  refine st_forS (eα := enc) (fun s7 => [.val (enc (v_net : (T3 (List (Str × Int)) (List (T3 Str (Tp Int) Bool)) (List (Str × (Tp Int)))))), .val (enc (t1 : Int)), .adr p_own5, .un, .un, .un]) (fun s7 => [⟨p_own5, true, s7.map enc⟩]) E S (ri_rangeLenM (f := enc) (RX.s (rx_ixT (ds := [enc (v_net.a : (List (Str × Int))), enc (v_net.b : (List (T3 Str (Tp Int) Bool))), enc (v_net.c : (List (Str × (Tp Int))))]) (d := enc (v_net.a : (List (Str × Int)))) rfl (rx_var (d := enc (v_net : (T3 (List (Str × Int)) (List (T3 Str (Tp Int) Bool)) (List (Str × (Tp Int)))))) rfl) rx_int))) h10 ⟨.inl rfl, .inl rfl, .inl rfl, .inr rfl, .inr rfl, .inr rfl, trivial⟩ (fun σ F H f E S => ?_) (fun x8 _ s7 s' h6 σ F H v _ E S r N B hN => ?_)
  · replace fc := fc.trans f
    have E : EnvR K _ _ [.val (enc (v_net : (T3 (List (Str × Int)) (List (T3 Str (Tp Int) Bool)) (List (Str × (Tp Int)))))), .val (enc (t1 : Int)), .adr p_own5, .un, .un, .un] := E
    have S : Hx K _ _ _ _ [⟨p_own5, true, s32.map enc⟩] _ := S
    obtain ⟨F, f, E, S⟩ := frz_at (i := 2) (j := 0) rfl rfl E S
    have E : EnvR K F _ [.val (enc (v_net : (T3 (List (Str × Int)) (List (T3 Str (Tp Int) Bool)) (List (Str × (Tp Int)))))), .val (enc (t1 : Int)), .val (enc (s32 : (List Int))), .un, .un, .un] := E
    have S : Hx K _ _ _ F [] _ := S
    replace fc := fc.trans f
    obtain ⟨t35, h36, hm0⟩ := bindE hm0
    obtain rfl := Option.some.inj hm0
    -- return
    try (with_reducible refine nxD ?_)
    refine st_ret (d := enc ((s32, (t35 - (1 : Int))) : ((List Int) × Int))) (rx_tup (ds := [enc (s32 : (List Int)), enc ((t35 - (1 : Int)) : Int)]) (ra_cons (rx_var (d := enc (s32 : (List Int))) rfl) (ra_cons (rx_sub (rx_shlO h36 rx_int (rx_var (d := enc (t1 : Int)) rfl)) rx_int) ra_nil))) E S fun v F H f S r => ?_
    exact k v F H S.stp r
  · refine ((rg_name (i := 3) (d := enc (x8 : Int)))).run _ _ _ _ _ E r S.fh fun σ E _ => ?_
    have E : EnvR K _ _ [.val (enc (v_net : (T3 (List (Str × Int)) (List (T3 Str (Tp Int) Bool)) (List (Str × (Tp Int)))))), .val (enc (t1 : Int)), .adr p_own5, .val (enc (x8 : Int)), .un, .un] := E
    have S : Hx K _ _ _ _ [⟨p_own5, true, s7.map enc⟩] _ := S
    have fc : Same F F := Same.refl F
    obtain ⟨v12, h13, h6⟩ := letE h6
    try (with_reducible refine nxD ?_)
    with_reducible refine sq ?_
    refine st_set (i := 4) (d := enc (v12 : Int)) (rx_as (x := ((((v_net.a.length : Int) - (1 : Int)) - x8) : Int)) h13 (rx_sub (rx_sub (len_nat (f := enc) (RX.s (rx_ixT (ds := [enc (v_net.a : (List (Str × Int))), enc (v_net.b : (List (T3 Str (Tp Int) Bool))), enc (v_net.c : (List (Str × (Tp Int))))]) (d := enc (v_net.a : (List (Str × Int)))) rfl (rx_var (d := enc (v_net : (T3 (List (Str × Int)) (List (T3 Str (Tp Int) Bool)) (List (Str × (Tp Int)))))) rfl) rx_int))) rx_int) (rx_var (d := enc (x8 : Int)) rfl))) E S fun σ F H f E S => ?_
    replace fc := fc.trans f
    have E : EnvR K _ _ [.val (enc (v_net : (T3 (List (Str × Int)) (List (T3 Str (Tp Int) Bool)) (List (Str × (Tp Int)))))), .val (enc (t1 : Int)), .adr p_own5, .val (enc (x8 : Int)), .val (enc (v12 : Int)), .un] := E
    have S : Hx K _ _ _ _ [⟨p_own5, true, s7.map enc⟩] _ := S
    obtain ⟨l14, h15, h6⟩ := bindE h6
    obtain ⟨l28, h29, h6⟩ := bindE h6
    obtain ⟨u30, h31, h6⟩ := bindE h6
    try (with_reducible refine nxD ?_)
    refine (st_app (j := 0) (ds := s7.map enc) (d := enc (l28.sum : Int)) (appO_map enc h31) rfl (rx_sum (RXo.s (rxo_mapO (eα := enc) (eβ := enc) (fun x17 => [.val (enc (v_net : (T3 (List (Str × Int)) (List (T3 Str (Tp Int) Bool)) (List (Str × (Tp Int)))))), .val (enc (t1 : Int)), .adr p_own5, .val (enc (x8 : Int)), .val (enc (v12 : Int)), .val (enc (x17 : Int))]) [5] (ri_range h15 (rx_var (d := enc (t1 : Int)) rfl)) h29 (by decide) (fun x17 _ => (rg_name (i := 5) (d := enc (x17 : Int)))) (fun x17 _ y h16 D18 acc19 => by obtain ⟨t24, h25, h16⟩ := bindE h16; obtain ⟨t26, h27, h16⟩ := bindE h16; obtain rfl := Option.some.inj h16; exact (rx_shlO h27 (rx_band (rx_shrO h25 (rx_var (d := enc (x17 : Int)) rfl) (rx_var (d := enc (v12 : Int)) rfl)) rx_int) (rx_var (d := enc (x17 : Int)) rfl)))))) ⟨_, rfl⟩ rfl E S fun F H f E S => ?_)
    replace fc := fc.trans f
    have E : EnvR K _ _ [.val (enc (v_net : (T3 (List (Str × Int)) (List (T3 Str (Tp Int) Bool)) (List (Str × (Tp Int)))))), .val (enc (t1 : Int)), .adr p_own5, .val (enc (x8 : Int)), .val (enc (v12 : Int)), .un] := E
    have S : Hx K _ _ _ _ [⟨p_own5, true, u30.map enc⟩] _ := S
    obtain rfl := Option.some.inj h6
    exact hN _ _ _ fc (E.weak ⟨.inl rfl, .inl rfl, .inl rfl, .inr rfl, .inr rfl, .inr rfl, trivial⟩) S
theorem sc_gate_bits : FnScope ["kind", "some", "ones"] ["kind", "some", "ones"] (defScope (top 13)) := ⟨rfl, rfl, rfl, by decide +kernel, rfl, by decide +kernel, by decide +kernel⟩
theorem ok_gate_bits (D : Dfn K mg "gate_bits" (top 13) ["kind", "some", "ones"]) : Cal P w K mg base 1 "gate_bits" ["kind", "some", "ones"] (SpP K R_gate_bits) := by
  refine D.cal sc_gate_bits (sp_len fun ds d h => by obtain ⟨_, _, _, _, rfl, _⟩ := h; rfl) fun f cdv A outer s H vs Q E hr h => ?_
  refine ⟨_, (pss_cons (ps_if (pt_cmpR op_eq (pv 0) pe_str (nomark _)) (pss_one (ps_ret (pe_op op_xor (pv 2) (pe_ix (k_ix_seq K) (pv 1) pe_int (fun _ _ => rfl))))) pss_nil) (pss_cons (ps_if (pt_cmpR op_eq (pv 0) pe_str (nomark _)) (pss_one (ps_ret (pe_op op_and (pe_ix (k_ix_seq K) (pv 1) pe_int (fun _ _ => rfl)) (pe_ix (k_ix_seq K) (pv 1) pe_int (fun _ _ => rfl))))) pss_nil) (pss_cons (ps_if (pt_cmpR op_eq (pv 0) pe_str (nomark _)) (pss_one (ps_ret (pe_op op_or (pe_ix (k_ix_seq K) (pv 1) pe_int (fun _ _ => rfl)) (pe_ix (k_ix_seq K) (pv 1) pe_int (fun _ _ => rfl))))) pss_nil) (pss_cons (ps_if (pt_cmpR op_eq (pv 0) pe_str (nomark _)) (pss_one (ps_ret (pe_op op_xor (pe_ix (k_ix_seq K) (pv 1) pe_int (fun _ _ => rfl)) (pe_ix (k_ix_seq K) (pv 1) pe_int (fun _ _ => rfl))))) pss_nil) (pss_one (ps_ret (pe_op op_or (pe_op op_or (pe_op op_and (pe_ix (k_ix_seq K) (pv 1) pe_int (fun _ _ => rfl)) (pe_ix (k_ix_seq K) (pv 1) pe_int (fun _ _ => rfl))) (pe_op op_and (pe_ix (k_ix_seq K) (pv 1) pe_int (fun _ _ => rfl)) (pe_ix (k_ix_seq K) (pv 1) pe_int (fun _ _ => rfl)))) (pe_op op_and (pe_ix (k_ix_seq K) (pv 1) pe_int (fun _ _ => rfl)) (pe_ix (k_ix_seq K) (pv 1) pe_int (fun _ _ => rfl)))))))))), ?_⟩
  obtain ⟨F, ds, d, hw, hF, ⟨v_kind, v_some, v_ones, rr, rfl, rfl, hm0⟩, k⟩ := h
  have E : EnvR K F _ [.val (enc (v_kind : Str)), .val (enc (v_some : (Sq Int))), .val (enc (v_ones : Int))] := EnvR.start (N := ["kind", "some", "ones"]) (AsR.of_all hw)
  have S := Hx.start (K := K) hF
  have fc : Same F F := Same.refl F
  unfold m_gate_bits at hm0
  try (with_reducible refine nxD ?_)
  with_reducible refine sq ?_
  refine st_if (b := (decide (v_kind = ("not" : Str)))) (rt_val (rx_eqs (rx_var (d := enc (v_kind : Str)) rfl) (rx_str (x := ("not" : Str))))) E S (fun hc F H f E S => ?_) (fun hc F H f E S => ?_)
  · rw [if_pos hc] at hm0
    replace fc := fc.trans f
    obtain ⟨t3, h4, hm0⟩ := bindE hm0
    obtain rfl := Option.some.inj hm0
    -- return
    try (with_reducible refine nxD ?_)
    refine st_ret (d := enc ((Builtin.bitXor v_ones t3) : Int)) (rx_bxor (rx_var (d := enc (v_ones : Int)) rfl) (rx_ixQ h4 (rx_var (d := enc (v_some : (Sq Int))) rfl) rx_int)) E S fun v F H f S r => ?_
    exact k v F H S.stp r
  · rw [if_neg (by rw [hc]; decide)] at hm0
    replace fc := fc.trans f
    refine nxt ?_
    try (with_reducible refine nxD ?_)
    with_reducible refine sq ?_
    refine st_if (b := (decide (v_kind = ("and" : Str)))) (rt_val (rx_eqs (rx_var (d := enc (v_kind : Str)) rfl) (rx_str (x := ("and" : Str))))) E S (fun hc F H f E S => ?_) (fun hc F H f E S => ?_)
    · rw [if_pos hc] at hm0
      replace fc := fc.trans f
      obtain ⟨t9, h10, hm0⟩ := bindE hm0
      obtain ⟨t11, h12, hm0⟩ := bindE hm0
      obtain rfl := Option.some.inj hm0
      -- return
      try (with_reducible refine nxD ?_)
      refine st_ret (d := enc ((Builtin.bitAnd t9 t11) : Int)) (rx_band (rx_ixQ h10 (rx_var (d := enc (v_some : (Sq Int))) rfl) rx_int) (rx_ixQ h12 (rx_var (d := enc (v_some : (Sq Int))) rfl) rx_int)) E S fun v F H f S r => ?_
      exact k v F H S.stp r
    · rw [if_neg (by rw [hc]; decide)] at hm0
      replace fc := fc.trans f
      refine nxt ?_
      try (with_reducible refine nxD ?_)
      with_reducible refine sq ?_
      refine st_if (b := (decide (v_kind = ("or" : Str)))) (rt_val (rx_eqs (rx_var (d := enc (v_kind : Str)) rfl) (rx_str (x := ("or" : Str))))) E S (fun hc F H f E S => ?_) (fun hc F H f E S => ?_)
      · rw [if_pos hc] at hm0
        replace fc := fc.trans f
        obtain ⟨t17, h18, hm0⟩ := bindE hm0
        obtain ⟨t19, h20, hm0⟩ := bindE hm0
        obtain rfl := Option.some.inj hm0
        -- return
        try (with_reducible refine nxD ?_)
        refine st_ret (d := enc ((Builtin.bitOr t17 t19) : Int)) (rx_bor (rx_ixQ h18 (rx_var (d := enc (v_some : (Sq Int))) rfl) rx_int) (rx_ixQ h20 (rx_var (d := enc (v_some : (Sq Int))) rfl) rx_int)) E S fun v F H f S r => ?_
        exact k v F H S.stp r
      · rw [if_neg (by rw [hc]; decide)] at hm0
        replace fc := fc.trans f
        refine nxt ?_
        try (with_reducible refine nxD ?_)
        with_reducible refine sq ?_
        refine st_if (b := (decide (v_kind = ("xor" : Str)))) (rt_val (rx_eqs (rx_var (d := enc (v_kind : Str)) rfl) (rx_str (x := ("xor" : Str))))) E S (fun hc F H f E S => ?_) (fun hc F H f E S => ?_)
        · rw [if_pos hc] at hm0
          replace fc := fc.trans f
          obtain ⟨t25, h26, hm0⟩ := bindE hm0
          obtain ⟨t27, h28, hm0⟩ := bindE hm0
          obtain rfl := Option.some.inj hm0
          -- return
          try (with_reducible refine nxD ?_)
          refine st_ret (d := enc ((Builtin.bitXor t25 t27) : Int)) (rx_bxor (rx_ixQ h26 (rx_var (d := enc (v_some : (Sq Int))) rfl) rx_int) (rx_ixQ h28 (rx_var (d := enc (v_some : (Sq Int))) rfl) rx_int)) E S fun v F H f S r => ?_
          exact k v F H S.stp r
        · rw [if_neg (by rw [hc]; decide)] at hm0
          replace fc := fc.trans f
          refine nxt ?_
          obtain ⟨t41, h42, hm0⟩ := bindE hm0
          obtain ⟨t43, h44, hm0⟩ := bindE hm0
          obtain ⟨t45, h46, hm0⟩ := bindE hm0
          obtain ⟨t47, h48, hm0⟩ := bindE hm0
          obtain ⟨t49, h50, hm0⟩ := bindE hm0
          obtain ⟨t51, h52, hm0⟩ := bindE hm0
          obtain rfl := Option.some.inj hm0
          -- return
          try (with_reducible refine nxD ?_)
          refine st_ret (d := enc ((Builtin.bitOr (Builtin.bitOr (Builtin.bitAnd t41 t43) (Builtin.bitAnd t45 t47)) (Builtin.bitAnd t49 t51)) : Int)) (rx_bor (rx_bor (rx_band (rx_ixQ h42 (rx_var (d := enc (v_some : (Sq Int))) rfl) rx_int) (rx_ixQ h44 (rx_var (d := enc (v_some : (Sq Int))) rfl) rx_int)) (rx_band (rx_ixQ h46 (rx_var (d := enc (v_some : (Sq Int))) rfl) rx_int) (rx_ixQ h48 (rx_var (d := enc (v_some : (Sq Int))) rfl) rx_int))) (rx_band (rx_ixQ h50 (rx_var (d := enc (v_some : (Sq Int))) rfl) rx_int) (rx_ixQ h52 (rx_var (d := enc (v_some : (Sq Int))) rfl) rx_int))) E S fun v F H f S r => ?_
          exact k v F H S.stp r
theorem sc_how_many_ahead : FnScope ["net", "name", "width"] ["net"] (defScope (top 15)) := ⟨rfl, rfl, rfl, by decide +kernel, rfl, by decide +kernel, by decide +kernel⟩
theorem ok_how_many_ahead (B : Bi mg) (D : Dfn K mg "how_many_ahead" (top 15) ["net"]) : Cal P w K mg base 1 "how_many_ahead" ["net"] (SpP K R_how_many_ahead) := by
  refine D.cal sc_how_many_ahead (sp_len fun ds d h => by obtain ⟨_, _, rfl, _⟩ := h; rfl) fun f cdv A outer s H vs Q E hr h => ?_
  refine ⟨_, (pss_one (ps_ret (pe_callB (k_sum K rfl) (by rfl) B.sum (by decide +kernel) (pa_cons (pe_lc (own := [(("name" : Str), 1), (("width" : Str), 2)]) (g := (gTup K 2 (gCons (gName 1) (gCons (gName 2) gNil)))) (tt := tYes) rfl sc_how_many_ahead.nd (k_pi_list K (pe_ix (k_ix_tup K) (pv 0) pe_int (fun _ _ => rfl))) (blkOk_by (by kernel_rfl)) (fun _ _ _ _ _ => (pg_tup rfl (pgs_cons (pg_name (i := 1) sc_how_many_ahead.nd rfl (Or.inl rfl)) (pgs_cons (pg_name (i := 2) sc_how_many_ahead.nd rfl (Or.inl rfl)) pgs_nil)))) (fun _ _ _ _ _ => pts_nil) (fun _ _ _ _ _ => (pv 2))) pa_nil)))), ?_⟩
  obtain ⟨F, ds, d, hw, hF, ⟨v_net, rr, rfl, rfl, hm0⟩, k⟩ := h
  have E : EnvR K F _ [.val (enc (v_net : (T3 (List (Str × Int)) (List (T3 Str (Tp Int) Bool)) (List (Str × (Tp Int)))))), .un, .un] := EnvR.start (N := ["net", "name", "width"]) (AsR.of_all hw)
  have S := Hx.start (K := K) hF
  have fc : Same F F := Same.refl F
  unfold m_how_many_ahead at hm0
  obtain rfl := Option.some.inj hm0
  -- return
  try (with_reducible refine nxD ?_)
  refine st_ret (d := enc ((v_net.a.map (fun (x6 : (Str × Int)) => (x6.2 : Int))).sum : Int)) (rx_sum (RXo.s (rxo_map (eα := enc) (eβ := enc) (f := (fun (x6 : (Str × Int)) => (x6.2 : Int))) (fun x6 => [.val (enc (v_net : (T3 (List (Str × Int)) (List (T3 Str (Tp Int) Bool)) (List (Str × (Tp Int)))))), .val (enc (x6.1 : Str)), .val (enc (x6.2 : Int))]) [1, 2] (ri_list (ys := v_net.a.map enc) (rx_ixT (ds := [enc (v_net.a : (List (Str × Int))), enc (v_net.b : (List (T3 Str (Tp Int) Bool))), enc (v_net.c : (List (Str × (Tp Int))))]) (d := enc (v_net.a : (List (Str × Int)))) rfl (rx_var (d := enc (v_net : (T3 (List (Str × Int)) (List (T3 Str (Tp Int) Bool)) (List (Str × (Tp Int)))))) rfl) rx_int)) (by decide) (fun x6 _ => (rg_tup (ds := [enc (x6.1 : Str), enc (x6.2 : Int)]) (RGs.cons (rg_name (i := 1) (d := enc (x6.1 : Str))) (RGs.cons (rg_name (i := 2) (d := enc (x6.2 : Int))) RGs.nil)))) (fun x6 _ D7 acc8 => (rx_var (d := enc (x6.2 : Int)) rfl))))) E S fun v F H f S r => ?_
  exact k v F H S.stp r
theorem sc_gone_on : FnScope ["net", "first", "ones", "turned", "wires", "place", "kind", "own", "sure", "bits", "one"] ["net", "first", "ones", "turned"] (defScope (top 16)) := ⟨rfl, rfl, rfl, by decide +kernel, rfl, by decide +kernel, by decide +kernel⟩
theorem ok_gone_on (B : Bi mg) (D : Dfn K mg "gone_on" (top 16) ["net", "first", "ones", "turned"]) (C_gate_bits : Cal P w K mg base 1 "gate_bits" ["kind", "some", "ones"] (SpP K R_gate_bits)) (C_how_many_ahead : Cal P w K mg base 1 "how_many_ahead" ["net"] (SpP K R_how_many_ahead)) : Cal P w K mg base 2 "gone_on" ["net", "first", "ones", "turned"] (SpN K R_gone_on) := by
  refine D.cal sc_gone_on (sn_len fun ds d h => by obtain ⟨_, _, _, _, _, rfl, _⟩ := h; rfl) fun f cdv A outer s H vs Q E hr h => ?_
  refine ⟨_, (pss_cons (ps_set (i := 4) sc_gone_on.nd rfl (Or.inr rfl) (pe_callTy (k_list_of K) (by rfl) B.list (by decide +kernel) (pa_cons (pv 1) pa_nil))) (pss_cons (ps_for PassesOwn.never rfl (pi_range2 rfl B.range (pa_cons (pe_op op_sub (pe_callB (k_len_seq K) (by rfl) B.len PySem.boot_len (pa_cons (pv 4) pa_nil)) (pe_cal C_how_many_ahead hr (pa_cons (pv 0) pa_nil))) (pa_cons (pe_callB (k_len_seq K) (by rfl) B.len PySem.boot_len (pa_cons (pe_ix (k_ix_tup K) (pv 0) pe_int (fun _ _ => rfl)) pa_nil)) pa_nil))) (pg_name (i := 5) sc_gone_on.nd rfl (Or.inl rfl)) (pss_cons (ps_asg (pe_ix (k_ix_list K) (pe_ix (k_ix_tup K) (pv 0) pe_int (fun _ _ => rfl)) (pv 5) (fun _ _ => rfl)) (pg_tup rfl (pgs_cons (pg_name (i := 6) sc_gone_on.nd rfl (Or.inl rfl)) (pgs_cons (pg_name (i := 7) sc_gone_on.nd rfl (Or.inl rfl)) (pgs_cons (pg_name (i := 8) sc_gone_on.nd rfl (Or.inl rfl)) pgs_nil))))) (pss_cons (ps_set (i := 9) sc_gone_on.nd rfl (Or.inl rfl) (pe_cal C_gate_bits hr (pa_cons (pv 6) (pa_cons (pe_lc (own := [(("one" : Str), 10)]) (g := (gName 10)) (tt := tYes) rfl sc_gone_on.nd (k_pi_tup K (pv 7)) (blkOk_by (by kernel_rfl)) (fun _ _ _ _ _ => (pg_name (i := 10) sc_gone_on.nd rfl (Or.inl rfl))) (fun _ _ _ _ _ => pts_nil) (fun _ _ _ _ _ => (pe_ix (k_ix_list K) (pv 4) (pv 10) (fun _ _ => rfl)))) (pa_cons (pv 2) pa_nil))))) (pss_cons (ps_if (pt_cmpR (k_in_seq K) (pv 5) (pv 3) (by rfl)) (pss_one (ps_set (i := 9) sc_gone_on.nd rfl (Or.inl rfl) (pe_op op_xor (pv 2) (pv 9)))) pss_nil) (pss_one (ps_expr (pe_bm PySem.F.plainAttrs_list PySem.F.slot_list_append PySem.F.type_list_append mt_append (pv 4) (pa_cons (pv 9) pa_nil)))))))) (pss_one (ps_ret (pv 4))))), ?_⟩
  obtain ⟨F, ds, es, hw, hF, ⟨v_net, v_first, v_ones, v_turned, rr, rfl, rfl, hm0⟩, k⟩ := h
  have E : EnvR K F _ [.val (enc (v_net : (T3 (List (Str × Int)) (List (T3 Str (Tp Int) Bool)) (List (Str × (Tp Int)))))), .val (enc (v_first : (List Int))), .val (enc (v_ones : Int)), .val (enc (v_turned : (Tp Int))), .un, .un, .un, .un, .un, .un, .un] := EnvR.start (N := ["net", "first", "ones", "turned", "wires", "place", "kind", "own", "sure", "bits", "one"]) (AsR.of_all hw)
  have S := Hx.start (K := K) hF
  have fc : Same F F := Same.refl F
  unfold m_gone_on at hm0
  try (with_reducible refine nxD ?_)
  with_reducible refine sq ?_
  refine st_setO (i := 4) (ds := v_first.map enc) (rxo_list (RX.s (rx_var (d := enc (v_first : (List Int))) rfl))) E S fun p_wires1 σ F H f E S => ?_
  replace fc := fc.trans f
  have E : EnvR K _ _ [.val (enc (v_net : (T3 (List (Str × Int)) (List (T3 Str (Tp Int) Bool)) (List (Str × (Tp Int)))))), .val (enc (v_first : (List Int))), .val (enc (v_ones : Int)), .val (enc (v_turned : (Tp Int))), .adr p_wires1, .un, .un, .un, .un, .un, .un] := E
  have S : Hx K _ _ _ _ [⟨p_wires1, true, v_first.map enc⟩] _ := S
  obtain ⟨r2, h3, hm0⟩ := bindE hm0
  obtain ⟨l4, h5, hm0⟩ := bindE hm0
  obtain ⟨s32, h10, hm0⟩ := bindE hm0
  try (with_reducible refine nxD ?_)
  with_reducible refine sq ?_
  refine st_forS (eα := enc) (fun s7 => [.val (enc (v_net : (T3 (List (Str × Int)) (List (T3 Str (Tp Int) Bool)) (List (Str × (Tp Int)))))), .val (enc (v_first : (List Int))), .val (enc (v_ones : Int)), .val (enc (v_turned : (Tp Int))), .adr p_wires1, .un, .un, .un, .un, .un, .un]) (fun s7 => [⟨p_wires1, true, s7.map enc⟩]) E S (ri_range2 h5 (rx_sub (len_nat (f := enc) (rxs_own (j := 0) (ds := v_first.map enc) rfl rfl)) (rx_call (ds := [enc (v_net : (T3 (List (Str × Int)) (List (T3 Str (Tp Int) Bool)) (List (Str × (Tp Int)))))]) (d := enc (r2 : Int)) ⟨_, r2, rfl, rfl, h3⟩ (ra_cons (rx_var (d := enc (v_net : (T3 (List (Str × Int)) (List (T3 Str (Tp Int) Bool)) (List (Str × (Tp Int)))))) rfl) ra_nil))) (len_nat (f := enc) (RX.s (rx_ixT (ds := [enc (v_net.a : (List (Str × Int))), enc (v_net.b : (List (T3 Str (Tp Int) Bool))), enc (v_net.c : (List (Str × (Tp Int))))]) (d := enc (v_net.b : (List (T3 Str (Tp Int) Bool)))) rfl (rx_var (d := enc (v_net : (T3 (List (Str × Int)) (List (T3 Str (Tp Int) Bool)) (List (Str × (Tp Int)))))) rfl) rx_int)))) h10 ⟨.inl rfl, .inl rfl, .inl rfl, .inl rfl, .inl rfl, .inr rfl, .inr rfl, .inr rfl, .inr rfl, .inr rfl, .inr rfl, trivial⟩ (fun σ F H f E S => ?_) (fun x8 _ s7 s' h6 σ F H v _ E S r N B hN => ?_)
  · replace fc := fc.trans f
    have E : EnvR K _ _ [.val (enc (v_net : (T3 (List (Str × Int)) (List (T3 Str (Tp Int) Bool)) (List (Str × (Tp Int)))))), .val (enc (v_first : (List Int))), .val (enc (v_ones : Int)), .val (enc (v_turned : (Tp Int))), .adr p_wires1, .un, .un, .un, .un, .un, .un] := E
    have S : Hx K _ _ _ _ [⟨p_wires1, true, s32.map enc⟩] _ := S
    obtain rfl := Option.some.inj hm0
    -- return
    try (with_reducible refine nxD ?_)
    refine st_retA rfl E ?_
    obtain ⟨n1, n2, n3, zs, n4, n5, n6⟩ := S.get (j := 0) rfl
    exact k _ _ _ zs S.stp (n2 rfl) n1 n4 n5 n6
  · refine ((rg_name (i := 5) (d := enc (x8 : Int)))).run _ _ _ _ _ E r S.fh fun σ E _ => ?_
    have E : EnvR K _ _ [.val (enc (v_net : (T3 (List (Str × Int)) (List (T3 Str (Tp Int) Bool)) (List (Str × (Tp Int)))))), .val (enc (v_first : (List Int))), .val (enc (v_ones : Int)), .val (enc (v_turned : (Tp Int))), .adr p_wires1, .val (enc (x8 : Int)), .un, .un, .un, .un, .un] := E
    have S : Hx K _ _ _ _ [⟨p_wires1, true, s7.map enc⟩] _ := S
    have fc : Same F F := Same.refl F
    obtain ⟨t12, h13, h6⟩ := bindE h6
    try (with_reducible refine nxD ?_)
    with_reducible refine sq ?_
    refine st_unp (d := enc (t12 : (T3 Str (Tp Int) Bool))) (rx_ix (atI_map enc h13) (RX.s (rx_ixT (ds := [enc (v_net.a : (List (Str × Int))), enc (v_net.b : (List (T3 Str (Tp Int) Bool))), enc (v_net.c : (List (Str × (Tp Int))))]) (d := enc (v_net.b : (List (T3 Str (Tp Int) Bool)))) rfl (rx_var (d := enc (v_net : (T3 (List (Str × Int)) (List (T3 Str (Tp Int) Bool)) (List (Str × (Tp Int)))))) rfl) rx_int)) (rx_var (d := enc (x8 : Int)) rfl)) (rg_tup (ds := [enc (t12.a : Str), enc (t12.b : (Tp Int)), enc (t12.c : Bool)]) (RGs.cons (rg_name (i := 6) (d := enc (t12.a : Str))) (RGs.cons (rg_name (i := 7) (d := enc (t12.b : (Tp Int)))) (RGs.cons (rg_name (i := 8) (d := enc (t12.c : Bool))) RGs.nil)))) E S fun σ F H f E S => ?_
    replace fc := fc.trans f
    have E : EnvR K _ _ [.val (enc (v_net : (T3 (List (Str × Int)) (List (T3 Str (Tp Int) Bool)) (List (Str × (Tp Int)))))), .val (enc (v_first : (List Int))), .val (enc (v_ones : Int)), .val (enc (v_turned : (Tp Int))), .adr p_wires1, .val (enc (x8 : Int)), .val (enc (t12.a : Str)), .val (enc (t12.b : (Tp Int))), .val (enc (t12.c : Bool)), .un, .un] := E
    have S : Hx K _ _ _ _ [⟨p_wires1, true, s7.map enc⟩] _ := S
    obtain ⟨l22, h23, h6⟩ := bindE h6
    obtain ⟨r24, h25, h6⟩ := bindE h6
    try (with_reducible refine nxD ?_)
    with_reducible refine sq ?_
    refine st_set (i := 9) (d := enc (r24 : Int)) (rx_call (ds := [enc (t12.a : Str), enc ((Sq.mk false l22) : (Sq Int)), enc (v_ones : Int)]) (d := enc (r24 : Int)) ⟨_, _, _, r24, rfl, rfl, h25⟩ (ra_cons (rx_var (d := enc (t12.a : Str)) rfl) (ra_cons (RXo.frz (rxo_mapO (eα := enc) (eβ := enc) (fun x15 => [.val (enc (v_net : (T3 (List (Str × Int)) (List (T3 Str (Tp Int) Bool)) (List (Str × (Tp Int)))))), .val (enc (v_first : (List Int))), .val (enc (v_ones : Int)), .val (enc (v_turned : (Tp Int))), .adr p_wires1, .val (enc (x8 : Int)), .val (enc (t12.a : Str)), .val (enc (t12.b : (Tp Int))), .val (enc (t12.c : Bool)), .un, .val (enc (x15 : Int))]) [10] (ri_tup (ys := t12.b.l.map enc) (rx_var (d := enc (t12.b : (Tp Int))) rfl)) h23 (by decide) (fun x15 _ => (rg_name (i := 10) (d := enc (x15 : Int)))) (fun x15 _ y h14 D16 acc17 => by obtain ⟨t20, h21, h14⟩ := bindE h14; obtain rfl := Option.some.inj h14; exact (rx_ix (atI_map enc h21) (rxs_own (j := 1) (ds := s7.map enc) rfl rfl) (rx_var (d := enc (x15 : Int)) rfl))))) (ra_cons (rx_var (d := enc (v_ones : Int)) rfl) ra_nil)))) E S fun σ F H f E S => ?_
    replace fc := fc.trans f
    have E : EnvR K _ _ [.val (enc (v_net : (T3 (List (Str × Int)) (List (T3 Str (Tp Int) Bool)) (List (Str × (Tp Int)))))), .val (enc (v_first : (List Int))), .val (enc (v_ones : Int)), .val (enc (v_turned : (Tp Int))), .adr p_wires1, .val (enc (x8 : Int)), .val (enc (t12.a : Str)), .val (enc (t12.b : (Tp Int))), .val (enc (t12.c : Bool)), .val (enc (r24 : Int)), .un] := E
    have S : Hx K _ _ _ _ [⟨p_wires1, true, s7.map enc⟩] _ := S
    obtain ⟨j26, h27, h6⟩ := bindE h6
    try (with_reducible refine nxD ?_)
    with_reducible refine sq ?_
    refine st_ifJ (b := (decide (x8 ∈ v_turned.l))) [.val (enc (v_net : (T3 (List (Str × Int)) (List (T3 Str (Tp Int) Bool)) (List (Str × (Tp Int)))))), .val (enc (v_first : (List Int))), .val (enc (v_ones : Int)), .val (enc (v_turned : (Tp Int))), .adr p_wires1, .val (enc (x8 : Int)), .val (enc (t12.a : Str)), .val (enc (t12.b : (Tp Int))), .val (enc (t12.c : Bool)), .val (enc (j26 : Int)), .un] [⟨p_wires1, true, s7.map enc⟩] (rt_val (rx_inIT (neg := false) (rx_var (d := enc (x8 : Int)) rfl) (rx_var (d := enc (v_turned : (Tp Int))) rfl))) E S (fun σ F H f E S => ?_) (fun hc F H rest f E S => ?_) (fun hc F H rest f E S => ?_)
    · replace fc := fc.trans f
      obtain ⟨u30, h31, h6⟩ := bindE h6
      try (with_reducible refine nxD ?_)
      refine (st_app (j := 0) (ds := s7.map enc) (d := enc (j26 : Int)) (appO_map enc h31) rfl (rx_var (d := enc (j26 : Int)) rfl) ⟨_, rfl⟩ rfl E S fun F H f E S => ?_)
      replace fc := fc.trans f
      have E : EnvR K _ _ [.val (enc (v_net : (T3 (List (Str × Int)) (List (T3 Str (Tp Int) Bool)) (List (Str × (Tp Int)))))), .val (enc (v_first : (List Int))), .val (enc (v_ones : Int)), .val (enc (v_turned : (Tp Int))), .adr p_wires1, .val (enc (x8 : Int)), .val (enc (t12.a : Str)), .val (enc (t12.b : (Tp Int))), .val (enc (t12.c : Bool)), .val (enc (j26 : Int)), .un] := E
      have S : Hx K _ _ _ _ [⟨p_wires1, true, u30.map enc⟩] _ := S
      obtain rfl := Option.some.inj h6
      exact hN _ _ _ fc (E.weak ⟨.inl rfl, .inl rfl, .inl rfl, .inl rfl, .inl rfl, .inr rfl, .inr rfl, .inr rfl, .inr rfl, .inr rfl, .inr rfl, trivial⟩) S
    · rw [if_pos hc] at h27
      have fc := f
      obtain ⟨v28, h29, h27⟩ := letE h27
      try (with_reducible refine nxD ?_)
      refine (st_set (i := 9) (d := enc (v28 : Int)) (rx_as (x := ((Builtin.bitXor v_ones r24) : Int)) h29 (rx_bxor (rx_var (d := enc (v_ones : Int)) rfl) (rx_var (d := enc (r24 : Int)) rfl))) E S fun σ F H f E S => ?_)
      replace fc := fc.trans f
      have E : EnvR K _ _ [.val (enc (v_net : (T3 (List (Str × Int)) (List (T3 Str (Tp Int) Bool)) (List (Str × (Tp Int)))))), .val (enc (v_first : (List Int))), .val (enc (v_ones : Int)), .val (enc (v_turned : (Tp Int))), .adr p_wires1, .val (enc (x8 : Int)), .val (enc (t12.a : Str)), .val (enc (t12.b : (Tp Int))), .val (enc (t12.c : Bool)), .val (enc (v28 : Int)), .un] := E
      have S : Hx K _ _ _ _ [⟨p_wires1, true, s7.map enc⟩] _ := S
      obtain rfl := Option.some.inj h27
      exact rest _ _ _ fc (E.weak ⟨.inl rfl, .inl rfl, .inl rfl, .inl rfl, .inl rfl, .inl rfl, .inl rfl, .inl rfl, .inl rfl, .inl rfl, .inr rfl, trivial⟩) S
    · rw [if_neg (by rw [hc]; decide)] at h27
      have fc := f
      refine nxt ?_
      obtain rfl := Option.some.inj h27
      exact rest _ _ _ fc (E.weak ⟨.inl rfl, .inl rfl, .inl rfl, .inl rfl, .inl rfl, .inl rfl, .inl rfl, .inl rfl, .inl rfl, .inl rfl, .inr rfl, trivial⟩) S
theorem sc_ins_wires : FnScope ["net", "own", "ones", "bad", "wires", "name", "width", "bits", "k"] ["net", "own", "ones", "bad"] (defScope (top 14)) := ⟨rfl, rfl, rfl, by decide +kernel, rfl, by decide +kernel, by decide +kernel⟩
theorem ok_ins_wires (B : Bi mg) (D : Dfn K mg "ins_wires" (top 14) ["net", "own", "ones", "bad"]) : Cal P w K mg base 1 "ins_wires" ["net", "own", "ones", "bad"] (SpN K R_ins_wires) := by
  refine D.cal sc_ins_wires (sn_len fun ds d h => by obtain ⟨_, _, _, _, _, rfl, _⟩ := h; rfl) fun f cdv A outer s H vs Q E hr h => ?_
  refine ⟨_, (pss_cons (ps_set (i := 4) sc_ins_wires.nd rfl (Or.inl rfl) (pe_lst pa_nil)) (pss_cons (ps_for PassesOwn.never rfl (k_pi_any K (by rfl) B.zip (pa_cons (pe_ix (k_ix_tup K) (pv 0) pe_int (fun _ _ => rfl)) (pa_cons (pv 1) pa_nil))) (pg_tup rfl (pgs_cons (pg_tup rfl (pgs_cons (pg_name (i := 5) sc_ins_wires.nd rfl (Or.inl rfl)) (pgs_cons (pg_name (i := 6) sc_ins_wires.nd rfl (Or.inl rfl)) pgs_nil))) (pgs_cons (pg_name (i := 7) sc_ins_wires.nd rfl (Or.inl rfl)) pgs_nil))) (pss_one (ps_for PassesOwn.never rfl (pi_range1 rfl B.range (pa_cons (pv 6) pa_nil)) (pg_name (i := 8) sc_ins_wires.nd rfl (Or.inl rfl)) (pss_one (ps_if (pt_cmpR (k_in_seq K) (pe_callB (k_len_seq K) (by rfl) B.len PySem.boot_len (pa_cons (pv 4) pa_nil)) (pv 3) (by rfl)) (pss_one (ps_expr (pe_bm PySem.F.plainAttrs_list PySem.F.slot_list_append PySem.F.type_list_append mt_append (pv 4) (pa_cons (pe_op op_xor (pv 2) (pv 7)) pa_nil)))) (pss_one (ps_expr (pe_bm PySem.F.plainAttrs_list PySem.F.slot_list_append PySem.F.type_list_append mt_append (pv 4) (pa_cons (pv 7) pa_nil))))))))) (pss_one (ps_ret (pv 4))))), ?_⟩
  obtain ⟨F, ds, es, hw, hF, ⟨v_net, v_own, v_ones, v_bad, rr, rfl, rfl, hm0⟩, k⟩ := h
  have E : EnvR K F _ [.val (enc (v_net : (T3 (List (Str × Int)) (List (T3 Str (Tp Int) Bool)) (List (Str × (Tp Int)))))), .val (enc (v_own : (Sq Int))), .val (enc (v_ones : Int)), .val (enc (v_bad : (Tp Int))), .un, .un, .un, .un, .un] := EnvR.start (N := ["net", "own", "ones", "bad", "wires", "name", "width", "bits", "k"]) (AsR.of_all hw)
  have S := Hx.start (K := K) hF
  have fc : Same F F := Same.refl F
  unfold m_ins_wires at hm0
  obtain ⟨v1, h2, hm0⟩ := letE hm0
  try (with_reducible refine nxD ?_)
  with_reducible refine sq ?_
  refine st_setO (i := 4) (ds := v1.map enc) (rxo_as (f := enc) h2 (rxo_lst (ds := []) ra_nil)) E S fun p_wires3 σ F H f E S => ?_
  replace fc := fc.trans f
  have E : EnvR K _ _ [.val (enc (v_net : (T3 (List (Str × Int)) (List (T3 Str (Tp Int) Bool)) (List (Str × (Tp Int)))))), .val (enc (v_own : (Sq Int))), .val (enc (v_ones : Int)), .val (enc (v_bad : (Tp Int))), .adr p_wires3, .un, .un, .un, .un] := E
  have S : Hx K _ _ _ _ [⟨p_wires3, true, v1.map enc⟩] _ := S
  obtain ⟨s25, h8, hm0⟩ := bindE hm0
  try (with_reducible refine nxD ?_)
  with_reducible refine sq ?_
  refine st_forS (eα := enc) (fun s5 => [.val (enc (v_net : (T3 (List (Str × Int)) (List (T3 Str (Tp Int) Bool)) (List (Str × (Tp Int)))))), .val (enc (v_own : (Sq Int))), .val (enc (v_ones : Int)), .val (enc (v_bad : (Tp Int))), .adr p_wires3, .un, .un, .un, .un]) (fun s5 => [⟨p_wires3, true, s5.map enc⟩]) E S (ri_any (rx_ixT (ds := [enc (v_net.a : (List (Str × Int))), enc (v_net.b : (List (T3 Str (Tp Int) Bool))), enc (v_net.c : (List (Str × (Tp Int))))]) (d := enc (v_net.a : (List (Str × Int)))) rfl (rx_var (d := enc (v_net : (T3 (List (Str × Int)) (List (T3 Str (Tp Int) Bool)) (List (Str × (Tp Int)))))) rfl) rx_int) (rx_var (d := enc (v_own : (Sq Int))) rfl)) h8 ⟨.inl rfl, .inl rfl, .inl rfl, .inl rfl, .inl rfl, .inr rfl, .inr rfl, .inr rfl, .inr rfl, trivial⟩ (fun σ F H f E S => ?_) (fun x6 _ s5 s' h4 σ F H v _ E S r N B hN => ?_)
  · replace fc := fc.trans f
    have E : EnvR K _ _ [.val (enc (v_net : (T3 (List (Str × Int)) (List (T3 Str (Tp Int) Bool)) (List (Str × (Tp Int)))))), .val (enc (v_own : (Sq Int))), .val (enc (v_ones : Int)), .val (enc (v_bad : (Tp Int))), .adr p_wires3, .un, .un, .un, .un] := E
    have S : Hx K _ _ _ _ [⟨p_wires3, true, s25.map enc⟩] _ := S
    obtain rfl := Option.some.inj hm0
    -- return
    try (with_reducible refine nxD ?_)
    refine st_retA rfl E ?_
    obtain ⟨n1, n2, n3, zs, n4, n5, n6⟩ := S.get (j := 0) rfl
    exact k _ _ _ zs S.stp (n2 rfl) n1 n4 n5 n6
  · refine ((rg_tup (ds := [enc (x6.1 : (Str × Int)), enc (x6.2 : Int)]) (RGs.cons (rg_tup (ds := [enc (x6.1.1 : Str), enc (x6.1.2 : Int)]) (RGs.cons (rg_name (i := 5) (d := enc (x6.1.1 : Str))) (RGs.cons (rg_name (i := 6) (d := enc (x6.1.2 : Int))) RGs.nil))) (RGs.cons (rg_name (i := 7) (d := enc (x6.2 : Int))) RGs.nil)))).run _ _ _ _ _ E r S.fh fun σ E _ => ?_
    have E : EnvR K _ _ [.val (enc (v_net : (T3 (List (Str × Int)) (List (T3 Str (Tp Int) Bool)) (List (Str × (Tp Int)))))), .val (enc (v_own : (Sq Int))), .val (enc (v_ones : Int)), .val (enc (v_bad : (Tp Int))), .adr p_wires3, .val (enc (x6.1.1 : Str)), .val (enc (x6.1.2 : Int)), .val (enc (x6.2 : Int)), .un] := E
    have S : Hx K _ _ _ _ [⟨p_wires3, true, s5.map enc⟩] _ := S
    have fc : Same F F := Same.refl F
    obtain ⟨l10, h11, h4⟩ := bindE h4
    obtain ⟨s24, h16, h4⟩ := bindE h4
    try (with_reducible refine nxD ?_)
    refine (st_forS (eα := enc) (fun s13 => [.val (enc (v_net : (T3 (List (Str × Int)) (List (T3 Str (Tp Int) Bool)) (List (Str × (Tp Int)))))), .val (enc (v_own : (Sq Int))), .val (enc (v_ones : Int)), .val (enc (v_bad : (Tp Int))), .adr p_wires3, .val (enc (x6.1.1 : Str)), .val (enc (x6.1.2 : Int)), .val (enc (x6.2 : Int)), .un]) (fun s13 => [⟨p_wires3, true, s13.map enc⟩]) E S (ri_range h11 (rx_var (d := enc (x6.1.2 : Int)) rfl)) h16 ⟨.inl rfl, .inl rfl, .inl rfl, .inl rfl, .inl rfl, .inl rfl, .inl rfl, .inl rfl, .inr rfl, trivial⟩ (fun σ F H f E S => ?_) (fun x14 _ s13 s' h12 σ F H v _ E S r N B hN => ?_))
    · replace fc := fc.trans f
      have E : EnvR K _ _ [.val (enc (v_net : (T3 (List (Str × Int)) (List (T3 Str (Tp Int) Bool)) (List (Str × (Tp Int)))))), .val (enc (v_own : (Sq Int))), .val (enc (v_ones : Int)), .val (enc (v_bad : (Tp Int))), .adr p_wires3, .val (enc (x6.1.1 : Str)), .val (enc (x6.1.2 : Int)), .val (enc (x6.2 : Int)), .un] := E
      have S : Hx K _ _ _ _ [⟨p_wires3, true, s24.map enc⟩] _ := S
      obtain rfl := Option.some.inj h4
      exact hN _ _ _ fc (E.weak ⟨.inl rfl, .inl rfl, .inl rfl, .inl rfl, .inl rfl, .inr rfl, .inr rfl, .inr rfl, .inr rfl, trivial⟩) S
    · refine ((rg_name (i := 8) (d := enc (x14 : Int)))).run _ _ _ _ _ E r S.fh fun σ E _ => ?_
      have E : EnvR K _ _ [.val (enc (v_net : (T3 (List (Str × Int)) (List (T3 Str (Tp Int) Bool)) (List (Str × (Tp Int)))))), .val (enc (v_own : (Sq Int))), .val (enc (v_ones : Int)), .val (enc (v_bad : (Tp Int))), .adr p_wires3, .val (enc (x6.1.1 : Str)), .val (enc (x6.1.2 : Int)), .val (enc (x6.2 : Int)), .val (enc (x14 : Int))] := E
      have S : Hx K _ _ _ _ [⟨p_wires3, true, s13.map enc⟩] _ := S
      have fc : Same F F := Same.refl F
      obtain ⟨j18, h19, h12⟩ := bindE h12
      try (with_reducible refine nxD ?_)
      refine (st_ifJ (b := (decide ((s13.length : Int) ∈ v_bad.l))) [.val (enc (v_net : (T3 (List (Str × Int)) (List (T3 Str (Tp Int) Bool)) (List (Str × (Tp Int)))))), .val (enc (v_own : (Sq Int))), .val (enc (v_ones : Int)), .val (enc (v_bad : (Tp Int))), .adr p_wires3, .val (enc (x6.1.1 : Str)), .val (enc (x6.1.2 : Int)), .val (enc (x6.2 : Int)), .val (enc (x14 : Int))] [⟨p_wires3, true, j18.map enc⟩] (rt_val (rx_inIT (neg := false) (len_nat (f := enc) (rxs_own (j := 0) (ds := s13.map enc) rfl rfl)) (rx_var (d := enc (v_bad : (Tp Int))) rfl))) E S (fun σ F H f E S => ?_) (fun hc F H rest f E S => ?_) (fun hc F H rest f E S => ?_))
      · replace fc := fc.trans f
        obtain rfl := Option.some.inj h12
        exact hN _ _ _ fc (E.weak ⟨.inl rfl, .inl rfl, .inl rfl, .inl rfl, .inl rfl, .inl rfl, .inl rfl, .inl rfl, .inr rfl, trivial⟩) S
      · rw [if_pos hc] at h19
        have fc := f
        obtain ⟨u20, h21, h19⟩ := bindE h19
        try (with_reducible refine nxD ?_)
        refine (st_app (j := 0) (ds := s13.map enc) (d := enc ((Builtin.bitXor v_ones x6.2) : Int)) (appO_map enc h21) rfl (rx_bxor (rx_var (d := enc (v_ones : Int)) rfl) (rx_var (d := enc (x6.2 : Int)) rfl)) ⟨_, rfl⟩ rfl E S fun F H f E S => ?_)
        replace fc := fc.trans f
        have E : EnvR K _ _ [.val (enc (v_net : (T3 (List (Str × Int)) (List (T3 Str (Tp Int) Bool)) (List (Str × (Tp Int)))))), .val (enc (v_own : (Sq Int))), .val (enc (v_ones : Int)), .val (enc (v_bad : (Tp Int))), .adr p_wires3, .val (enc (x6.1.1 : Str)), .val (enc (x6.1.2 : Int)), .val (enc (x6.2 : Int)), .val (enc (x14 : Int))] := E
        have S : Hx K _ _ _ _ [⟨p_wires3, true, u20.map enc⟩] _ := S
        obtain rfl := Option.some.inj h19
        exact rest _ _ _ fc (E.weak ⟨.inl rfl, .inl rfl, .inl rfl, .inl rfl, .inl rfl, .inl rfl, .inl rfl, .inl rfl, .inl rfl, trivial⟩) S
      · rw [if_neg (by rw [hc]; decide)] at h19
        have fc := f
        obtain ⟨u22, h23, h19⟩ := bindE h19
        try (with_reducible refine nxD ?_)
        refine (st_app (j := 0) (ds := s13.map enc) (d := enc (x6.2 : Int)) (appO_map enc h23) rfl (rx_var (d := enc (x6.2 : Int)) rfl) ⟨_, rfl⟩ rfl E S fun F H f E S => ?_)
        replace fc := fc.trans f
        have E : EnvR K _ _ [.val (enc (v_net : (T3 (List (Str × Int)) (List (T3 Str (Tp Int) Bool)) (List (Str × (Tp Int)))))), .val (enc (v_own : (Sq Int))), .val (enc (v_ones : Int)), .val (enc (v_bad : (Tp Int))), .adr p_wires3, .val (enc (x6.1.1 : Str)), .val (enc (x6.1.2 : Int)), .val (enc (x6.2 : Int)), .val (enc (x14 : Int))] := E
        have S : Hx K _ _ _ _ [⟨p_wires3, true, u22.map enc⟩] _ := S
        obtain rfl := Option.some.inj h19
        exact rest _ _ _ fc (E.weak ⟨.inl rfl, .inl rfl, .inl rfl, .inl rfl, .inl rfl, .inl rfl, .inl rfl, .inl rfl, .inl rfl, trivial⟩) S
theorem sc_all_wires : FnScope ["net", "own", "ones"] ["net"] (defScope (top 18)) := ⟨rfl, rfl, rfl, by decide +kernel, rfl, by decide +kernel, by decide +kernel⟩
theorem ok_all_wires (D : Dfn K mg "all_wires" (top 18) ["net"]) (C_all_inputs : Cal P w K mg base 1 "all_inputs" ["net"] (SpP K R_all_inputs)) (C_gone_on : Cal P w K mg base 2 "gone_on" ["net", "first", "ones", "turned"] (SpN K R_gone_on)) (C_ins_wires : Cal P w K mg base 1 "ins_wires" ["net", "own", "ones", "bad"] (SpN K R_ins_wires)) : Cal P w K mg base 3 "all_wires" ["net"] (SpP K R_all_wires) := by
  refine D.cal sc_all_wires (sp_len fun ds d h => by obtain ⟨_, _, rfl, _⟩ := h; rfl) fun f cdv A outer s H vs Q E hr h => ?_
  refine ⟨_, (pss_cons (ps_asg (pe_cal C_all_inputs hr (pa_cons (pv 0) pa_nil)) (pg_tup rfl (pgs_cons (pg_name (i := 1) sc_all_wires.nd rfl (Or.inl rfl)) (pgs_cons (pg_name (i := 2) sc_all_wires.nd rfl (Or.inl rfl)) pgs_nil)))) (pss_one (ps_ret (pe_tup (pa_cons (pe_cal C_gone_on hr (pa_cons (pv 0) (pa_cons (pe_cal C_ins_wires hr (pa_cons (pv 0) (pa_cons (pv 1) (pa_cons (pv 2) (pa_cons (pe_tup pa_nil) pa_nil))))) (pa_cons (pv 2) (pa_cons (pe_tup pa_nil) pa_nil))))) (pa_cons (pv 2) pa_nil)))))), ?_⟩
  obtain ⟨F, ds, d, hw, hF, ⟨v_net, rr, rfl, rfl, hm0⟩, k⟩ := h
  have E : EnvR K F _ [.val (enc (v_net : (T3 (List (Str × Int)) (List (T3 Str (Tp Int) Bool)) (List (Str × (Tp Int)))))), .un, .un] := EnvR.start (N := ["net", "own", "ones"]) (AsR.of_all hw)
  have S := Hx.start (K := K) hF
  have fc : Same F F := Same.refl F
  unfold m_all_wires at hm0
  obtain ⟨r1, h2, hm0⟩ := bindE hm0
  try (with_reducible refine nxD ?_)
  with_reducible refine sq ?_
  refine st_unp (d := enc (r1 : ((List Int) × Int))) (rx_call (ds := [enc (v_net : (T3 (List (Str × Int)) (List (T3 Str (Tp Int) Bool)) (List (Str × (Tp Int)))))]) (d := enc (r1 : ((List Int) × Int))) ⟨_, r1, rfl, rfl, h2⟩ (ra_cons (rx_var (d := enc (v_net : (T3 (List (Str × Int)) (List (T3 Str (Tp Int) Bool)) (List (Str × (Tp Int)))))) rfl) ra_nil)) (rg_tup (ds := [enc (r1.1 : (List Int)), enc (r1.2 : Int)]) (RGs.cons (rg_name (i := 1) (d := enc (r1.1 : (List Int)))) (RGs.cons (rg_name (i := 2) (d := enc (r1.2 : Int))) RGs.nil))) E S fun σ F H f E S => ?_
  replace fc := fc.trans f
  have E : EnvR K _ _ [.val (enc (v_net : (T3 (List (Str × Int)) (List (T3 Str (Tp Int) Bool)) (List (Str × (Tp Int)))))), .val (enc (r1.1 : (List Int))), .val (enc (r1.2 : Int))] := E
  have S : Hx K _ _ _ _ [] _ := S
  obtain ⟨r7, h8, hm0⟩ := bindE hm0
  obtain ⟨r9, h10, hm0⟩ := bindE hm0
  obtain rfl := Option.some.inj hm0
  -- return
  try (with_reducible refine nxD ?_)
  refine st_ret (d := enc ((r9, r1.2) : ((List Int) × Int))) (rx_tup (ds := [enc (r9 : (List Int)), enc (r1.2 : Int)]) (ra_cons (RXo.frz (rxo_call (ds := [enc (v_net : (T3 (List (Str × Int)) (List (T3 Str (Tp Int) Bool)) (List (Str × (Tp Int))))), enc (r7 : (List Int)), enc (r1.2 : Int), enc (((Tp.mk []) : (Tp Int)) : (Tp Int))]) (es := r9.map enc) ⟨_, _, _, _, r9, rfl, rfl, h10⟩ (ra_cons (rx_var (d := enc (v_net : (T3 (List (Str × Int)) (List (T3 Str (Tp Int) Bool)) (List (Str × (Tp Int)))))) rfl) (ra_cons (RXo.frz (rxo_call (ds := [enc (v_net : (T3 (List (Str × Int)) (List (T3 Str (Tp Int) Bool)) (List (Str × (Tp Int))))), enc ((Sq.mk false r1.1) : (Sq Int)), enc (r1.2 : Int), enc (((Tp.mk []) : (Tp Int)) : (Tp Int))]) (es := r7.map enc) ⟨_, _, _, _, r7, rfl, rfl, h8⟩ (ra_cons (rx_var (d := enc (v_net : (T3 (List (Str × Int)) (List (T3 Str (Tp Int) Bool)) (List (Str × (Tp Int)))))) rfl) (ra_cons (rx_var (d := enc (r1.1 : (List Int))) rfl) (ra_cons (rx_var (d := enc (r1.2 : Int)) rfl) (ra_cons (rx_tup (ds := []) ra_nil) ra_nil)))))) (ra_cons (rx_var (d := enc (r1.2 : Int)) rfl) (ra_cons (rx_tup (ds := []) ra_nil) ra_nil)))))) (ra_cons (rx_var (d := enc (r1.2 : Int)) rfl) ra_nil))) E S fun v F H f S r => ?_
  exact k v F H S.stp r
theorem sc_sets_of : FnScope ["places", "size", "found", "k", "wider", "some", "place"] ["places", "size"] (defScope (top 28)) := ⟨rfl, rfl, rfl, by decide +kernel, rfl, by decide +kernel, by decide +kernel⟩
theorem ok_sets_of (B : Bi mg) (D : Dfn K mg "sets_of" (top 28) ["places", "size"]) : Cal P w K mg base 1 "sets_of" ["places", "size"] (SpP K R_sets_of) := by
  refine D.cal sc_sets_of (sp_len fun ds d h => by obtain ⟨_, _, _, rfl, _⟩ := h; rfl) fun f cdv A outer s H vs Q E hr h => ?_
  refine ⟨_, (pss_cons (ps_set (i := 2) sc_sets_of.nd rfl (Or.inl rfl) (pe_lst (pa_cons (pe_tup pa_nil) pa_nil))) (pss_cons (ps_for PassesOwn.never rfl (pi_range1 rfl B.range (pa_cons (pv 1) pa_nil)) (pg_name (i := 3) sc_sets_of.nd rfl (Or.inl rfl)) (pss_cons (ps_set (i := 4) sc_sets_of.nd rfl (Or.inl rfl) (pe_lst pa_nil)) (pss_cons (ps_for PassesOwn.never rfl (k_pi_list K (pv 2)) (pg_name (i := 5) sc_sets_of.nd rfl (Or.inr rfl)) (pss_one (ps_expr (pe_bm PySem.F.plainAttrs_list PySem.F.slot_list_extend PySem.F.type_list_extend mt_extR (pv 4) (pa_cons (pe_lc (own := [(("place" : Str), 6)]) (g := (gName 6)) rfl sc_sets_of.nd (k_pi_list K (pv 0)) (blkOk_by (by kernel_rfl)) (fun _ _ _ _ _ => (pg_name (i := 6) sc_sets_of.nd rfl (Or.inl rfl))) (fun _ _ _ _ _ => (pts_one (PW.pt (pw_or (pt_cmpR (k_eqD K hr.units) (pv 5) (pe_tup pa_nil) (nomark _)) (pw_or1 (pt_cmpR op_gt (pv 6) (pe_ix (k_ix_tup K) (pv 5) (pe_un un_neg pe_int) (fun _ _ => rfl)) (nomark _))))))) (fun _ _ _ _ _ => (pe_op (k_catA K) (pv 5) (pe_tup (pa_cons (pv 6) pa_nil))))) pa_nil))))) (pss_one (ps_set (i := 2) sc_sets_of.nd rfl (Or.inl rfl) (pv 4)))))) (pss_one (ps_ret (pv 2))))), ?_⟩
  obtain ⟨F, ds, d, hw, hF, ⟨v_places, v_size, rr, rfl, rfl, hm0⟩, k⟩ := h
  have E : EnvR K F _ [.val (enc (v_places : (List Int))), .val (enc (v_size : Int)), .un, .un, .un, .un, .un] := EnvR.start (N := ["places", "size", "found", "k", "wider", "some", "place"]) (AsR.of_all hw)
  have S := Hx.start (K := K) hF
  have fc : Same F F := Same.refl F
  unfold m_sets_of at hm0
  obtain ⟨v1, h2, hm0⟩ := letE hm0
  try (with_reducible refine nxD ?_)
  with_reducible refine sq ?_
  refine st_set (i := 2) (d := enc (v1 : (List (Tp Int)))) (rx_as (x := (([((Tp.mk []) : (Tp Int))] : (List (Tp Int))) : (List (Tp Int)))) h2 (RXo.frz (rxo_lst (ds := [enc (((Tp.mk []) : (Tp Int)) : (Tp Int))]) (ra_cons (rx_tup (ds := []) ra_nil) ra_nil)))) E S fun σ F H f E S => ?_
  replace fc := fc.trans f
  have E : EnvR K _ _ [.val (enc (v_places : (List Int))), .val (enc (v_size : Int)), .val (enc (v1 : (List (Tp Int)))), .un, .un, .un, .un] := E
  have S : Hx K _ _ _ _ [] _ := S
  obtain ⟨l3, h4, hm0⟩ := bindE hm0
  obtain ⟨s41, h9, hm0⟩ := bindE hm0
  try (with_reducible refine nxD ?_)
  with_reducible refine sq ?_
  refine st_forS (eα := enc) (fun s6 => [.val (enc (v_places : (List Int))), .val (enc (v_size : Int)), .val (enc (s6 : (List (Tp Int)))), .un, .un, .un, .un]) (fun s6 => []) E S (ri_range h4 (rx_var (d := enc (v_size : Int)) rfl)) h9 ⟨.inl rfl, .inl rfl, .inl rfl, .inr rfl, .inr rfl, .inr rfl, .inr rfl, trivial⟩ (fun σ F H f E S => ?_) (fun x7 _ s6 s' h5 σ F H v _ E S r N B hN => ?_)
  · replace fc := fc.trans f
    have E : EnvR K _ _ [.val (enc (v_places : (List Int))), .val (enc (v_size : Int)), .val (enc (s41 : (List (Tp Int)))), .un, .un, .un, .un] := E
    have S : Hx K _ _ _ _ [] _ := S
    obtain rfl := Option.some.inj hm0
    -- return
    try (with_reducible refine nxD ?_)
    refine st_ret (d := enc (s41 : (List (Tp Int)))) (rx_var (d := enc (s41 : (List (Tp Int)))) rfl) E S fun v F H f S r => ?_
    exact k v F H S.stp r
  · refine ((rg_name (i := 3) (d := enc (x7 : Int)))).run _ _ _ _ _ E r S.fh fun σ E _ => ?_
    have E : EnvR K _ _ [.val (enc (v_places : (List Int))), .val (enc (v_size : Int)), .val (enc (s6 : (List (Tp Int)))), .val (enc (x7 : Int)), .un, .un, .un] := E
    have S : Hx K _ _ _ _ [] _ := S
    have fc : Same F F := Same.refl F
    obtain ⟨v11, h12, h5⟩ := letE h5
    try (with_reducible refine nxD ?_)
    with_reducible refine sq ?_
    refine st_setO (i := 4) (ds := v11.map enc) (rxo_as (f := enc) h12 (rxo_lst (ds := []) ra_nil)) E S fun p_wider13 σ F H f E S => ?_
    replace fc := fc.trans f
    have E : EnvR K _ _ [.val (enc (v_places : (List Int))), .val (enc (v_size : Int)), .val (enc (s6 : (List (Tp Int)))), .val (enc (x7 : Int)), .adr p_wider13, .un, .un] := E
    have S : Hx K _ _ _ _ [⟨p_wider13, true, v11.map enc⟩] _ := S
    obtain ⟨s40, h18, h5⟩ := bindE h5
    try (with_reducible refine nxD ?_)
    with_reducible refine sq ?_
    refine st_forS (eα := enc) (fun s15 => [.val (enc (v_places : (List Int))), .val (enc (v_size : Int)), .val (enc (s6 : (List (Tp Int)))), .val (enc (x7 : Int)), .adr p_wider13, .un, .un]) (fun s15 => [⟨p_wider13, true, s15.map enc⟩]) E S (ri_list (ys := s6.map enc) (rx_var (d := enc (s6 : (List (Tp Int)))) rfl)) h18 ⟨.inl rfl, .inl rfl, .inl rfl, .inl rfl, .inl rfl, .inr rfl, .inr rfl, trivial⟩ (fun σ F H f E S => ?_) (fun x16 _ s15 s' h14 σ F H v _ E S r N B hN => ?_)
    · replace fc := fc.trans f
      have E : EnvR K _ _ [.val (enc (v_places : (List Int))), .val (enc (v_size : Int)), .val (enc (s6 : (List (Tp Int)))), .val (enc (x7 : Int)), .adr p_wider13, .un, .un] := E
      have S : Hx K _ _ _ _ [⟨p_wider13, true, s40.map enc⟩] _ := S
      obtain ⟨F, f, E, S⟩ := frz_at (i := 4) (j := 0) rfl rfl E S
      have E : EnvR K F _ [.val (enc (v_places : (List Int))), .val (enc (v_size : Int)), .val (enc (s6 : (List (Tp Int)))), .val (enc (x7 : Int)), .val (enc (s40 : (List (Tp Int)))), .un, .un] := E
      have S : Hx K _ _ _ F [] _ := S
      replace fc := fc.trans f
      try (with_reducible refine nxD ?_)
      refine (st_set (i := 2) (d := enc (s40 : (List (Tp Int)))) (rx_var (d := enc (s40 : (List (Tp Int)))) rfl) E S fun σ F H f E S => ?_)
      replace fc := fc.trans f
      have E : EnvR K _ _ [.val (enc (v_places : (List Int))), .val (enc (v_size : Int)), .val (enc (s40 : (List (Tp Int)))), .val (enc (x7 : Int)), .val (enc (s40 : (List (Tp Int)))), .un, .un] := E
      have S : Hx K _ _ _ _ [] _ := S
      obtain rfl := Option.some.inj h5
      exact hN _ _ _ fc (E.weak ⟨.inl rfl, .inl rfl, .inl rfl, .inr rfl, .inr rfl, .inr rfl, .inr rfl, trivial⟩) S
    · refine ((rg_name (i := 5) (d := enc (x16 : (Tp Int))))).run _ _ _ _ _ E r S.fh fun σ E _ => ?_
      have E : EnvR K _ _ [.val (enc (v_places : (List Int))), .val (enc (v_size : Int)), .val (enc (s6 : (List (Tp Int)))), .val (enc (x7 : Int)), .adr p_wider13, .val (enc (x16 : (Tp Int))), .un] := E
      have S : Hx K _ _ _ _ [⟨p_wider13, true, s15.map enc⟩] _ := S
      have fc : Same F F := Same.refl F
      obtain ⟨l36, h37, h14⟩ := bindE h14
      obtain ⟨u38, h39, h14⟩ := bindE h14
      try (with_reducible refine nxD ?_)
      refine (st_ext (j := 0) (ds := s15.map enc) (es := l36.map enc) (extO_map enc h39) rfl (RXo.frz (rxo_filtO (eα := enc) (eβ := enc) (fun x21 => [.val (enc (v_places : (List Int))), .val (enc (v_size : Int)), .val (enc (s6 : (List (Tp Int)))), .val (enc (x7 : Int)), .adr p_wider13, .val (enc (x16 : (Tp Int))), .val (enc (x21 : Int))]) [6] (ri_list (ys := v_places.map enc) (rx_var (d := enc (v_places : (List Int))) rfl)) h37 (by decide) (fun x21 _ => (rg_name (i := 6) (d := enc (x21 : Int)))) (fun x21 _ y h20 D22 acc23 => by obtain ⟨b33, h30, h20⟩ := bindE h20; obtain rfl := Option.some.inj h20; exact (rt_or (a := (decide ((x16 : (Tp Int)) = ((Tp.mk []) : (Tp Int))))) (c := b33) (rt_val (rx_eqT (x := (x16 : (Tp Int))) (y := (((Tp.mk []) : (Tp Int)) : (Tp Int))) (RX.h (rx_var (d := enc (x16 : (Tp Int))) rfl)) (RX.h (rx_tup (ds := []) ra_nil)))) (fun ha => by rw [if_neg (by rw [ha]; decide)] at h30; obtain ⟨t31, h32, h30⟩ := bindE h30; obtain rfl := Option.some.inj h30; exact (rt_val (rx_gt (rx_var (d := enc (x21 : Int)) rfl) (rx_ixT (atI_map enc h32) (rx_var (d := enc (x16 : (Tp Int))) rfl) (rx_usub rx_int))))) (fun ha => by rw [if_pos ha] at h30; obtain rfl := Option.some.inj h30; exact ⟨rfl, rfl⟩))) (fun x21 _ y h20 D22 acc23 => by obtain ⟨t34, h35, h20⟩ := bindE h20; obtain rfl := Option.some.inj h20; exact (rx_catTO (f := enc) h35 (rx_var (d := enc (x16 : (Tp Int))) rfl) (rx_tup (ds := [enc (x21 : Int)]) (ra_cons (rx_var (d := enc (x21 : Int)) rfl) ra_nil)))))) ⟨_, rfl⟩ rfl E S fun F H f E S => ?_)
      replace fc := fc.trans f
      have E : EnvR K _ _ [.val (enc (v_places : (List Int))), .val (enc (v_size : Int)), .val (enc (s6 : (List (Tp Int)))), .val (enc (x7 : Int)), .adr p_wider13, .val (enc (x16 : (Tp Int))), .un] := E
      have S : Hx K _ _ _ _ [⟨p_wider13, true, u38.map enc⟩] _ := S
      obtain rfl := Option.some.inj h14
      exact hN _ _ _ fc (E.weak ⟨.inl rfl, .inl rfl, .inl rfl, .inl rfl, .inl rfl, .inr rfl, .inr rfl, trivial⟩) S
theorem sc_free_places : FnScope ["net", "place", "gate"] ["net"] (defScope (top 27)) := ⟨rfl, rfl, rfl, by decide +kernel, rfl, by decide +kernel, by decide +kernel⟩
theorem ok_free_places (B : Bi mg) (D : Dfn K mg "free_places" (top 27) ["net"]) : Cal P w K mg base 1 "free_places" ["net"] (SpN K R_free_places) := by
  refine D.cal sc_free_places (sn_len fun ds d h => by obtain ⟨_, _, rfl, _⟩ := h; rfl) fun f cdv A outer s H vs Q E hr h => ?_
  refine ⟨_, (pss_one (ps_ret (pe_lc (own := [(("place" : Str), 1), (("gate" : Str), 2)]) (g := (gTup K 2 (gCons (gName 1) (gCons (gName 2) gNil)))) rfl sc_free_places.nd (k_pi_enum K (by rfl) B.enumerate (pa_cons (pe_ix (k_ix_tup K) (pv 0) pe_int (fun _ _ => rfl)) pa_nil)) (blkOk_by (by kernel_rfl)) (fun _ _ _ _ _ => (pg_tup rfl (pgs_cons (pg_name (i := 1) sc_free_places.nd rfl (Or.inl rfl)) (pgs_cons (pg_name (i := 2) sc_free_places.nd rfl (Or.inl rfl)) pgs_nil)))) (fun _ _ _ _ _ => (pts_one (pt_not (pt_val (pe_ix (k_ix_tup K) (pv 2) pe_int (fun _ _ => rfl)))))) (fun _ _ _ _ _ => (pv 1))))), ?_⟩
  obtain ⟨F, ds, es, hw, hF, ⟨v_net, rr, rfl, rfl, hm0⟩, k⟩ := h
  have E : EnvR K F _ [.val (enc (v_net : (T3 (List (Str × Int)) (List (T3 Str (Tp Int) Bool)) (List (Str × (Tp Int)))))), .un, .un] := EnvR.start (N := ["net", "place", "gate"]) (AsR.of_all hw)
  have S := Hx.start (K := K) hF
  have fc : Same F F := Same.refl F
  unfold m_free_places at hm0
  obtain rfl := Option.some.inj hm0
  -- return
  try (with_reducible refine nxD ?_)
  refine st_retO (ds := (((enumL v_net.b).filter (fun (x6 : (Int × (T3 Str (Tp Int) Bool))) => (!x6.2.c))).map (fun (x6 : (Int × (T3 Str (Tp Int) Bool))) => (x6.1 : Int))).map enc) (rxo_filt (eα := enc) (eβ := enc) (p := (fun (x6 : (Int × (T3 Str (Tp Int) Bool))) => (!x6.2.c))) (f := (fun (x6 : (Int × (T3 Str (Tp Int) Bool))) => (x6.1 : Int))) (fun x6 => [.val (enc (v_net : (T3 (List (Str × Int)) (List (T3 Str (Tp Int) Bool)) (List (Str × (Tp Int)))))), .val (enc (x6.1 : Int)), .val (enc (x6.2 : (T3 Str (Tp Int) Bool)))]) [1, 2] (ri_enumT (rx_ixT (ds := [enc (v_net.a : (List (Str × Int))), enc (v_net.b : (List (T3 Str (Tp Int) Bool))), enc (v_net.c : (List (Str × (Tp Int))))]) (d := enc (v_net.b : (List (T3 Str (Tp Int) Bool)))) rfl (rx_var (d := enc (v_net : (T3 (List (Str × Int)) (List (T3 Str (Tp Int) Bool)) (List (Str × (Tp Int)))))) rfl) rx_int)) (by decide) (fun x6 _ => (rg_tup (ds := [enc (x6.1 : Int), enc (x6.2 : (T3 Str (Tp Int) Bool))]) (RGs.cons (rg_name (i := 1) (d := enc (x6.1 : Int))) (RGs.cons (rg_name (i := 2) (d := enc (x6.2 : (T3 Str (Tp Int) Bool)))) RGs.nil)))) (fun x6 _ D7 acc8 => (rt_not (rt_b (rx_ixT (ds := [enc (x6.2.a : Str), enc (x6.2.b : (Tp Int)), enc (x6.2.c : Bool)]) (d := enc (x6.2.c : Bool)) rfl (rx_var (d := enc (x6.2 : (T3 Str (Tp Int) Bool))) rfl) rx_int)))) (fun x6 _ D7 acc8 => (rx_var (d := enc (x6.1 : Int)) rfl))) E S fun p F H f S => ?_
  obtain ⟨n1, n2, n3, zs, n4, n5, n6⟩ := S.get (j := 0) rfl
  exact k _ _ _ zs S.stp (n2 rfl) n1 n4 n5 n6
theorem sc_read_bits : FnScope ["some"] ["some"] (defScope (top 19)) := ⟨rfl, rfl, rfl, by decide +kernel, rfl, by decide +kernel, by decide +kernel⟩
theorem ok_read_bits (B : Bi mg) (D : Dfn K mg "read_bits" (top 19) ["some"]) (C_gate_bits : Cal P w K mg base 1 "gate_bits" ["kind", "some", "ones"] (SpP K R_gate_bits)) : Cal P w K mg base 2 "read_bits" ["some"] (SpP K R_read_bits) := by
  refine D.cal sc_read_bits (sp_len fun ds d h => by obtain ⟨_, _, rfl, _⟩ := h; rfl) fun f cdv A outer s H vs Q E hr h => ?_
  refine ⟨_, (pss_cons (ps_if (pt_cmpR op_eq (pe_callB (k_len_seq K) (by rfl) B.len PySem.boot_len (pa_cons (pv 0) pa_nil)) pe_int (nomark _)) (pss_one (ps_ret (pe_tup (pa_cons (pe_ix (k_ix_seq K) (pv 0) pe_int (fun _ _ => rfl)) (pa_cons pe_int pa_nil))))) pss_nil) (pss_cons (ps_if (pt_cmpR op_eq (pe_callB (k_len_seq K) (by rfl) B.len PySem.boot_len (pa_cons (pv 0) pa_nil)) pe_int (nomark _)) (pss_one (ps_ret (pe_tup (pa_cons (pe_op op_and (pe_ix (k_ix_seq K) (pv 0) pe_int (fun _ _ => rfl)) (pe_ix (k_ix_seq K) (pv 0) pe_int (fun _ _ => rfl))) (pa_cons (pe_op op_xor (pe_ix (k_ix_seq K) (pv 0) pe_int (fun _ _ => rfl)) (pe_ix (k_ix_seq K) (pv 0) pe_int (fun _ _ => rfl))) pa_nil))))) pss_nil) (pss_one (ps_ret (pe_tup (pa_cons (pe_cal C_gate_bits hr (pa_cons pe_str (pa_cons (pv 0) (pa_cons pe_int pa_nil)))) (pa_cons pe_int pa_nil))))))), ?_⟩
  obtain ⟨F, ds, d, hw, hF, ⟨v_some, rr, rfl, rfl, hm0⟩, k⟩ := h
  have E : EnvR K F _ [.val (enc (v_some : (Sq Int)))] := EnvR.start (N := ["some"]) (AsR.of_all hw)
  have S := Hx.start (K := K) hF
  have fc : Same F F := Same.refl F
  unfold m_read_bits at hm0
  try (with_reducible refine nxD ?_)
  with_reducible refine sq ?_
  refine st_if (b := (decide ((v_some.l.length : Int) = (1 : Int)))) (rt_val (rx_eqi (rx_lenQ (rx_var (d := enc (v_some : (Sq Int))) rfl)) rx_int)) E S (fun hc F H f E S => ?_) (fun hc F H f E S => ?_)
  · rw [if_pos hc] at hm0
    replace fc := fc.trans f
    obtain ⟨t3, h4, hm0⟩ := bindE hm0
    obtain rfl := Option.some.inj hm0
    -- return
    try (with_reducible refine nxD ?_)
    refine st_ret (d := enc ((t3, (0 : Int)) : (Int × Int))) (rx_tup (ds := [enc (t3 : Int), enc ((0 : Int) : Int)]) (ra_cons (rx_ixQ h4 (rx_var (d := enc (v_some : (Sq Int))) rfl) rx_int) (ra_cons rx_int ra_nil))) E S fun v F H f S r => ?_
    exact k v F H S.stp r
  · rw [if_neg (by rw [hc]; decide)] at hm0
    replace fc := fc.trans f
    refine nxt ?_
    try (with_reducible refine nxD ?_)
    with_reducible refine sq ?_
    refine st_if (b := (decide ((v_some.l.length : Int) = (2 : Int)))) (rt_val (rx_eqi (rx_lenQ (rx_var (d := enc (v_some : (Sq Int))) rfl)) rx_int)) E S (fun hc F H f E S => ?_) (fun hc F H f E S => ?_)
    · rw [if_pos hc] at hm0
      replace fc := fc.trans f
      obtain ⟨t13, h14, hm0⟩ := bindE hm0
      obtain ⟨t15, h16, hm0⟩ := bindE hm0
      obtain ⟨t17, h18, hm0⟩ := bindE hm0
      obtain ⟨t19, h20, hm0⟩ := bindE hm0
      obtain rfl := Option.some.inj hm0
      -- return
      try (with_reducible refine nxD ?_)
      refine st_ret (d := enc (((Builtin.bitAnd t13 t15), (Builtin.bitXor t17 t19)) : (Int × Int))) (rx_tup (ds := [enc ((Builtin.bitAnd t13 t15) : Int), enc ((Builtin.bitXor t17 t19) : Int)]) (ra_cons (rx_band (rx_ixQ h14 (rx_var (d := enc (v_some : (Sq Int))) rfl) rx_int) (rx_ixQ h16 (rx_var (d := enc (v_some : (Sq Int))) rfl) rx_int)) (ra_cons (rx_bxor (rx_ixQ h18 (rx_var (d := enc (v_some : (Sq Int))) rfl) rx_int) (rx_ixQ h20 (rx_var (d := enc (v_some : (Sq Int))) rfl) rx_int)) ra_nil))) E S fun v F H f S r => ?_
      exact k v F H S.stp r
    · rw [if_neg (by rw [hc]; decide)] at hm0
      replace fc := fc.trans f
      refine nxt ?_
      obtain ⟨r23, h24, hm0⟩ := bindE hm0
      obtain rfl := Option.some.inj hm0
      -- return
      try (with_reducible refine nxD ?_)
      refine st_ret (d := enc ((r23, (0 : Int)) : (Int × Int))) (rx_tup (ds := [enc (r23 : Int), enc ((0 : Int) : Int)]) (ra_cons (rx_call (ds := [enc (("vote" : Str) : Str), enc (v_some : (Sq Int)), enc ((0 : Int) : Int)]) (d := enc (r23 : Int)) ⟨_, _, _, r23, rfl, rfl, h24⟩ (ra_cons (rx_str (x := ("vote" : Str))) (ra_cons (rx_var (d := enc (v_some : (Sq Int))) rfl) (ra_cons rx_int ra_nil)))) (ra_cons rx_int ra_nil))) E S fun v F H f S r => ?_
      exact k v F H S.stp r
theorem sc_outs_read : FnScope ["net", "wires", "name", "own", "one"] ["net", "wires"] (defScope (top 20)) := ⟨rfl, rfl, rfl, by decide +kernel, rfl, by decide +kernel, by decide +kernel⟩
theorem ok_outs_read (D : Dfn K mg "outs_read" (top 20) ["net", "wires"]) (C_read_bits : Cal P w K mg base 2 "read_bits" ["some"] (SpP K R_read_bits)) : Cal P w K mg base 3 "outs_read" ["net", "wires"] (SpN K R_outs_read) := by
  refine D.cal sc_outs_read (sn_len fun ds d h => by obtain ⟨_, _, _, rfl, _⟩ := h; rfl) fun f cdv A outer s H vs Q E hr h => ?_
  refine ⟨_, (pss_one (ps_ret (pe_lc (own := [(("name" : Str), 2), (("own" : Str), 3)]) (g := (gTup K 2 (gCons (gName 2) (gCons (gName 3) gNil)))) (tt := tYes) rfl sc_outs_read.nd (k_pi_list K (pe_ix (k_ix_tup K) (pv 0) pe_int (fun _ _ => rfl))) (blkOk_by (by kernel_rfl)) (fun _ _ _ _ _ => (pg_tup rfl (pgs_cons (pg_name (i := 2) sc_outs_read.nd rfl (Or.inl rfl)) (pgs_cons (pg_name (i := 3) sc_outs_read.nd rfl (Or.inl rfl)) pgs_nil)))) (fun _ _ _ _ _ => pts_nil) (fun _ _ _ _ _ => (pe_cal C_read_bits hr (pa_cons (pe_lc (own := [(("one" : Str), 4)]) (g := (gName 4)) (tt := tYes) rfl sc_outs_read.nd (k_pi_tup K (pv 3)) (blkOk_by (by kernel_rfl)) (fun _ _ _ _ _ => (pg_name (i := 4) sc_outs_read.nd rfl (Or.inl rfl))) (fun _ _ _ _ _ => pts_nil) (fun _ _ _ _ _ => (pe_ix (k_ix_list K) (pv 1) (pv 4) (fun _ _ => rfl)))) pa_nil)))))), ?_⟩
  obtain ⟨F, ds, es, hw, hF, ⟨v_net, v_wires, rr, rfl, rfl, hm0⟩, k⟩ := h
  have E : EnvR K F _ [.val (enc (v_net : (T3 (List (Str × Int)) (List (T3 Str (Tp Int) Bool)) (List (Str × (Tp Int)))))), .val (enc (v_wires : (List Int))), .un, .un, .un] := EnvR.start (N := ["net", "wires", "name", "own", "one"]) (AsR.of_all hw)
  have S := Hx.start (K := K) hF
  have fc : Same F F := Same.refl F
  unfold m_outs_read at hm0
  obtain ⟨l59, h60, hm0⟩ := bindE hm0
  obtain rfl := Option.some.inj hm0
  -- return
  try (with_reducible refine nxD ?_)
  refine st_retO (ds := l59.map enc) (rxo_mapO (eα := enc) (eβ := enc) (fun x32 => [.val (enc (v_net : (T3 (List (Str × Int)) (List (T3 Str (Tp Int) Bool)) (List (Str × (Tp Int)))))), .val (enc (v_wires : (List Int))), .val (enc (x32.1 : Str)), .val (enc (x32.2 : (Tp Int))), .un]) [2, 3] (ri_list (ys := v_net.c.map enc) (rx_ixT (ds := [enc (v_net.a : (List (Str × Int))), enc (v_net.b : (List (T3 Str (Tp Int) Bool))), enc (v_net.c : (List (Str × (Tp Int))))]) (d := enc (v_net.c : (List (Str × (Tp Int))))) rfl (rx_var (d := enc (v_net : (T3 (List (Str × Int)) (List (T3 Str (Tp Int) Bool)) (List (Str × (Tp Int)))))) rfl) rx_int)) h60 (by decide) (fun x32 _ => (rg_tup (ds := [enc (x32.1 : Str), enc (x32.2 : (Tp Int))]) (RGs.cons (rg_name (i := 2) (d := enc (x32.1 : Str))) (RGs.cons (rg_name (i := 3) (d := enc (x32.2 : (Tp Int)))) RGs.nil)))) (fun x32 _ y h31 D33 acc34 => by obtain ⟨l55, h56, h31⟩ := bindE h31; obtain ⟨r57, h58, h31⟩ := bindE h31; obtain rfl := Option.some.inj h31; exact (rx_call (ds := [enc ((Sq.mk false l55) : (Sq Int))]) (d := enc (r57 : (Int × Int))) ⟨_, r57, rfl, rfl, h58⟩ (ra_cons (RXo.frz (rxo_mapO (eα := enc) (eβ := enc) (fun x48 => [.val (enc (v_net : (T3 (List (Str × Int)) (List (T3 Str (Tp Int) Bool)) (List (Str × (Tp Int)))))), .val (enc (v_wires : (List Int))), .val (enc (x32.1 : Str)), .val (enc (x32.2 : (Tp Int))), .val (enc (x48 : Int))]) [4] (ri_tup (ys := x32.2.l.map enc) (rx_var (d := enc (x32.2 : (Tp Int))) rfl)) h56 (by decide) (fun x48 _ => (rg_name (i := 4) (d := enc (x48 : Int)))) (fun x48 _ y h47 D49 acc50 => by obtain ⟨t53, h54, h47⟩ := bindE h47; obtain rfl := Option.some.inj h47; exact (rx_ix (atI_map enc h54) (RX.s (rx_var (d := enc (v_wires : (List Int))) rfl)) (rx_var (d := enc (x48 : Int)) rfl))))) ra_nil)))) E S fun p F H f S => ?_
  obtain ⟨n1, n2, n3, zs, n4, n5, n6⟩ := S.get (j := 0) rfl
  exact k _ _ _ zs S.stp (n2 rfl) n1 n4 n5 n6
theorem sc_reads_with : FnScope ["net", "plain", "ones", "turned", "first"] ["net", "plain", "ones", "turned"] (defScope (top 29)) := ⟨rfl, rfl, rfl, by decide +kernel, rfl, by decide +kernel, by decide +kernel⟩
theorem ok_reads_with (D : Dfn K mg "reads_with" (top 29) ["net", "plain", "ones", "turned"]) (C_gone_on : Cal P w K mg base 2 "gone_on" ["net", "first", "ones", "turned"] (SpN K R_gone_on)) (C_how_many_ahead : Cal P w K mg base 1 "how_many_ahead" ["net"] (SpP K R_how_many_ahead)) (C_outs_read : Cal P w K mg base 3 "outs_read" ["net", "wires"] (SpN K R_outs_read)) : Cal P w K mg base 4 "reads_with" ["net", "plain", "ones", "turned"] (SpN K R_reads_with) := by
  refine D.cal sc_reads_with (sn_len fun ds d h => by obtain ⟨_, _, _, _, _, rfl, _⟩ := h; rfl) fun f cdv A outer s H vs Q E hr h => ?_
  refine ⟨_, (pss_cons (ps_set (i := 4) sc_reads_with.nd rfl (Or.inl rfl) (pv 1)) (pss_cons (ps_if (pt_cmpR (k_neD K hr.units) (pv 3) (pe_tup pa_nil) (nomark _)) (pss_one (ps_set (i := 4) sc_reads_with.nd rfl (Or.inl rfl) (pe_slice (k_sl_list K) (pv 1) po_none (po_some (pe_op op_add (pe_cal C_how_many_ahead hr (pa_cons (pv 0) pa_nil)) (pe_ix (k_ix_tup K) (pv 3) pe_int (fun _ _ => rfl))))))) pss_nil) (pss_one (ps_ret (pe_cal C_outs_read hr (pa_cons (pv 0) (pa_cons (pe_cal C_gone_on hr (pa_cons (pv 0) (pa_cons (pv 4) (pa_cons (pv 2) (pa_cons (pv 3) pa_nil))))) pa_nil))))))), ?_⟩
  obtain ⟨F, ds, es, hw, hF, ⟨v_net, v_plain, v_ones, v_turned, rr, rfl, rfl, hm0⟩, k⟩ := h
  have E : EnvR K F _ [.val (enc (v_net : (T3 (List (Str × Int)) (List (T3 Str (Tp Int) Bool)) (List (Str × (Tp Int)))))), .val (enc (v_plain : (List Int))), .val (enc (v_ones : Int)), .val (enc (v_turned : (Tp Int))), .un] := EnvR.start (N := ["net", "plain", "ones", "turned", "first"]) (AsR.of_all hw)
  have S := Hx.start (K := K) hF
  have fc : Same F F := Same.refl F
  unfold m_reads_with at hm0
  try (with_reducible refine nxD ?_)
  with_reducible refine sq ?_
  refine st_set (i := 4) (d := enc (v_plain : (List Int))) (rx_var (d := enc (v_plain : (List Int))) rfl) E S fun σ F H f E S => ?_
  replace fc := fc.trans f
  have E : EnvR K _ _ [.val (enc (v_net : (T3 (List (Str × Int)) (List (T3 Str (Tp Int) Bool)) (List (Str × (Tp Int)))))), .val (enc (v_plain : (List Int))), .val (enc (v_ones : Int)), .val (enc (v_turned : (Tp Int))), .val (enc (v_plain : (List Int)))] := E
  have S : Hx K _ _ _ _ [] _ := S
  obtain ⟨j1, h2, hm0⟩ := bindE hm0
  try (with_reducible refine nxD ?_)
  with_reducible refine sq ?_
  refine st_ifJ (b := (!decide ((v_turned : (Tp Int)) = ((Tp.mk []) : (Tp Int))))) [.val (enc (v_net : (T3 (List (Str × Int)) (List (T3 Str (Tp Int) Bool)) (List (Str × (Tp Int)))))), .val (enc (v_plain : (List Int))), .val (enc (v_ones : Int)), .val (enc (v_turned : (Tp Int))), .val (enc (j1 : (List Int)))] [] (rt_val (rx_neT (x := (v_turned : (Tp Int))) (y := (((Tp.mk []) : (Tp Int)) : (Tp Int))) (RX.h (rx_var (d := enc (v_turned : (Tp Int))) rfl)) (RX.h (rx_tup (ds := []) ra_nil)))) E S (fun σ F H f E S => ?_) (fun hc F H rest f E S => ?_) (fun hc F H rest f E S => ?_)
  · replace fc := fc.trans f
    obtain ⟨r13, h14, hm0⟩ := bindE hm0
    obtain ⟨r15, h16, hm0⟩ := bindE hm0
    obtain rfl := Option.some.inj hm0
    -- return
    try (with_reducible refine nxD ?_)
    refine st_retO (ds := r15.map enc) (rxo_call (ds := [enc (v_net : (T3 (List (Str × Int)) (List (T3 Str (Tp Int) Bool)) (List (Str × (Tp Int))))), enc (r13 : (List Int))]) (es := r15.map enc) ⟨_, _, r15, rfl, rfl, h16⟩ (ra_cons (rx_var (d := enc (v_net : (T3 (List (Str × Int)) (List (T3 Str (Tp Int) Bool)) (List (Str × (Tp Int)))))) rfl) (ra_cons (RXo.frz (rxo_call (ds := [enc (v_net : (T3 (List (Str × Int)) (List (T3 Str (Tp Int) Bool)) (List (Str × (Tp Int))))), enc (j1 : (List Int)), enc (v_ones : Int), enc (v_turned : (Tp Int))]) (es := r13.map enc) ⟨_, _, _, _, r13, rfl, rfl, h14⟩ (ra_cons (rx_var (d := enc (v_net : (T3 (List (Str × Int)) (List (T3 Str (Tp Int) Bool)) (List (Str × (Tp Int)))))) rfl) (ra_cons (rx_var (d := enc (j1 : (List Int))) rfl) (ra_cons (rx_var (d := enc (v_ones : Int)) rfl) (ra_cons (rx_var (d := enc (v_turned : (Tp Int))) rfl) ra_nil)))))) ra_nil))) E S fun p F H f S => ?_
    obtain ⟨n1, n2, n3, zs, n4, n5, n6⟩ := S.get (j := 0) rfl
    exact k _ _ _ zs S.stp (n2 rfl) n1 n4 n5 n6
  · rw [if_pos hc] at h2
    have fc := f
    obtain ⟨r3, h4, h2⟩ := bindE h2
    obtain ⟨t5, h6, h2⟩ := bindE h2
    obtain ⟨v7, h8, h2⟩ := letE h2
    try (with_reducible refine nxD ?_)
    refine (st_set (i := 4) (d := enc (v7 : (List Int))) (rx_as (x := ((cutL v_plain none (some (r3 + t5))) : (List Int))) h8 (RXo.frz (rxo_sliceM (f := enc) (RX.s (rx_var (d := enc (v_plain : (List Int))) rfl)) ro_none (ro_some (rx_add (rx_call (ds := [enc (v_net : (T3 (List (Str × Int)) (List (T3 Str (Tp Int) Bool)) (List (Str × (Tp Int)))))]) (d := enc (r3 : Int)) ⟨_, r3, rfl, rfl, h4⟩ (ra_cons (rx_var (d := enc (v_net : (T3 (List (Str × Int)) (List (T3 Str (Tp Int) Bool)) (List (Str × (Tp Int)))))) rfl) ra_nil)) (rx_ixT (atI_map enc h6) (rx_var (d := enc (v_turned : (Tp Int))) rfl) rx_int)))))) E S fun σ F H f E S => ?_)
    replace fc := fc.trans f
    have E : EnvR K _ _ [.val (enc (v_net : (T3 (List (Str × Int)) (List (T3 Str (Tp Int) Bool)) (List (Str × (Tp Int)))))), .val (enc (v_plain : (List Int))), .val (enc (v_ones : Int)), .val (enc (v_turned : (Tp Int))), .val (enc (v7 : (List Int)))] := E
    have S : Hx K _ _ _ _ [] _ := S
    obtain rfl := Option.some.inj h2
    exact rest _ _ _ fc (E.weak ⟨.inl rfl, .inl rfl, .inl rfl, .inl rfl, .inl rfl, trivial⟩) S
  · rw [if_neg (by rw [hc]; decide)] at h2
    have fc := f
    refine nxt ?_
    obtain rfl := Option.some.inj h2
    exact rest _ _ _ fc (E.weak ⟨.inl rfl, .inl rfl, .inl rfl, .inl rfl, .inl rfl, trivial⟩) S
theorem sc_spoilt : FnScope ["net", "plain", "ones", "turned", "wrong", "none", "value", "unlike", "due", "nothing"] ["net", "plain", "ones", "turned"] (defScope (top 30)) := ⟨rfl, rfl, rfl, by decide +kernel, rfl, by decide +kernel, by decide +kernel⟩
theorem ok_spoilt (B : Bi mg) (D : Dfn K mg "spoilt" (top 30) ["net", "plain", "ones", "turned"]) (C_outs_read : Cal P w K mg base 3 "outs_read" ["net", "wires"] (SpN K R_outs_read)) (C_reads_with : Cal P w K mg base 4 "reads_with" ["net", "plain", "ones", "turned"] (SpN K R_reads_with)) : Cal P w K mg base 5 "spoilt" ["net", "plain", "ones", "turned"] (SpP K R_spoilt) := by
  refine D.cal sc_spoilt (sp_len fun ds d h => by obtain ⟨_, _, _, _, _, rfl, _⟩ := h; rfl) fun f cdv A outer s H vs Q E hr h => ?_
  refine ⟨_, (pss_cons (ps_set (i := 4) sc_spoilt.nd rfl (Or.inl rfl) pe_int) (pss_cons (ps_set (i := 5) sc_spoilt.nd rfl (Or.inl rfl) pe_int) (pss_cons (ps_for PassesOwn.never rfl (k_pi_zip K (by rfl) B.zip (pa_cons (pe_cal C_reads_with hr (pa_cons (pv 0) (pa_cons (pv 1) (pa_cons (pv 2) (pa_cons (pv 3) pa_nil))))) (pa_cons (pe_cal C_outs_read hr (pa_cons (pv 0) (pa_cons (pv 1) pa_nil))) pa_nil))) (pg_tup rfl (pgs_cons (pg_tup rfl (pgs_cons (pg_name (i := 6) sc_spoilt.nd rfl (Or.inl rfl)) (pgs_cons (pg_name (i := 7) sc_spoilt.nd rfl (Or.inl rfl)) pgs_nil))) (pgs_cons (pg_tup rfl (pgs_cons (pg_name (i := 8) sc_spoilt.nd rfl (Or.inl rfl)) (pgs_cons (pg_name (i := 9) sc_spoilt.nd rfl (Or.inl rfl)) pgs_nil))) pgs_nil))) (pss_cons (ps_set (i := 4) sc_spoilt.nd rfl (Or.inl rfl) (pe_op op_or (pv 4) (pe_op op_and (pe_op op_xor (pv 6) (pv 8)) (pe_op op_xor (pv 2) (pv 7))))) (pss_one (ps_set (i := 5) sc_spoilt.nd rfl (Or.inl rfl) (pe_op op_or (pv 5) (pv 7)))))) (pss_one (ps_ret (pe_tup (pa_cons (pv 4) (pa_cons (pv 5) pa_nil)))))))), ?_⟩
  obtain ⟨F, ds, d, hw, hF, ⟨v_net, v_plain, v_ones, v_turned, rr, rfl, rfl, hm0⟩, k⟩ := h
  have E : EnvR K F _ [.val (enc (v_net : (T3 (List (Str × Int)) (List (T3 Str (Tp Int) Bool)) (List (Str × (Tp Int)))))), .val (enc (v_plain : (List Int))), .val (enc (v_ones : Int)), .val (enc (v_turned : (Tp Int))), .un, .un, .un, .un, .un, .un] := EnvR.start (N := ["net", "plain", "ones", "turned", "wrong", "none", "value", "unlike", "due", "nothing"]) (AsR.of_all hw)
  have S := Hx.start (K := K) hF
  have fc : Same F F := Same.refl F
  unfold m_spoilt at hm0
  try (with_reducible refine nxD ?_)
  with_reducible refine sq ?_
  refine st_set (i := 4) (d := enc ((0 : Int) : Int)) rx_int E S fun σ F H f E S => ?_
  replace fc := fc.trans f
  have E : EnvR K _ _ [.val (enc (v_net : (T3 (List (Str × Int)) (List (T3 Str (Tp Int) Bool)) (List (Str × (Tp Int)))))), .val (enc (v_plain : (List Int))), .val (enc (v_ones : Int)), .val (enc (v_turned : (Tp Int))), .val (enc ((0 : Int) : Int)), .un, .un, .un, .un, .un] := E
  have S : Hx K _ _ _ _ [] _ := S
  try (with_reducible refine nxD ?_)
  with_reducible refine sq ?_
  refine st_set (i := 5) (d := enc ((0 : Int) : Int)) rx_int E S fun σ F H f E S => ?_
  replace fc := fc.trans f
  have E : EnvR K _ _ [.val (enc (v_net : (T3 (List (Str × Int)) (List (T3 Str (Tp Int) Bool)) (List (Str × (Tp Int)))))), .val (enc (v_plain : (List Int))), .val (enc (v_ones : Int)), .val (enc (v_turned : (Tp Int))), .val (enc ((0 : Int) : Int)), .val (enc ((0 : Int) : Int)), .un, .un, .un, .un] := E
  have S : Hx K _ _ _ _ [] _ := S
  obtain ⟨r1, h2, hm0⟩ := bindE hm0
  obtain ⟨r3, h4, hm0⟩ := bindE hm0
  obtain ⟨s15, h9, hm0⟩ := bindE hm0
  try (with_reducible refine nxD ?_)
  with_reducible refine sq ?_
  refine st_forS (eα := enc) (fun s6 => [.val (enc (v_net : (T3 (List (Str × Int)) (List (T3 Str (Tp Int) Bool)) (List (Str × (Tp Int)))))), .val (enc (v_plain : (List Int))), .val (enc (v_ones : Int)), .val (enc (v_turned : (Tp Int))), .val (enc (s6.1 : Int)), .val (enc (s6.2 : Int)), .un, .un, .un, .un]) (fun s6 => []) E S (ri_zipT (RXo.frz (rxo_call (ds := [enc (v_net : (T3 (List (Str × Int)) (List (T3 Str (Tp Int) Bool)) (List (Str × (Tp Int))))), enc (v_plain : (List Int)), enc (v_ones : Int), enc (v_turned : (Tp Int))]) (es := r1.map enc) ⟨_, _, _, _, r1, rfl, rfl, h2⟩ (ra_cons (rx_var (d := enc (v_net : (T3 (List (Str × Int)) (List (T3 Str (Tp Int) Bool)) (List (Str × (Tp Int)))))) rfl) (ra_cons (rx_var (d := enc (v_plain : (List Int))) rfl) (ra_cons (rx_var (d := enc (v_ones : Int)) rfl) (ra_cons (rx_var (d := enc (v_turned : (Tp Int))) rfl) ra_nil)))))) (RXo.frz (rxo_call (ds := [enc (v_net : (T3 (List (Str × Int)) (List (T3 Str (Tp Int) Bool)) (List (Str × (Tp Int))))), enc (v_plain : (List Int))]) (es := r3.map enc) ⟨_, _, r3, rfl, rfl, h4⟩ (ra_cons (rx_var (d := enc (v_net : (T3 (List (Str × Int)) (List (T3 Str (Tp Int) Bool)) (List (Str × (Tp Int)))))) rfl) (ra_cons (rx_var (d := enc (v_plain : (List Int))) rfl) ra_nil))))) h9 ⟨.inl rfl, .inl rfl, .inl rfl, .inl rfl, .inl rfl, .inl rfl, .inr rfl, .inr rfl, .inr rfl, .inr rfl, trivial⟩ (fun σ F H f E S => ?_) (fun x7 _ s6 s' h5 σ F H v _ E S r N B hN => ?_)
  · replace fc := fc.trans f
    have E : EnvR K _ _ [.val (enc (v_net : (T3 (List (Str × Int)) (List (T3 Str (Tp Int) Bool)) (List (Str × (Tp Int)))))), .val (enc (v_plain : (List Int))), .val (enc (v_ones : Int)), .val (enc (v_turned : (Tp Int))), .val (enc (s15.1 : Int)), .val (enc (s15.2 : Int)), .un, .un, .un, .un] := E
    have S : Hx K _ _ _ _ [] _ := S
    obtain rfl := Option.some.inj hm0
    -- return
    try (with_reducible refine nxD ?_)
    refine st_ret (d := enc ((s15.1, s15.2) : (Int × Int))) (rx_tup (ds := [enc (s15.1 : Int), enc (s15.2 : Int)]) (ra_cons (rx_var (d := enc (s15.1 : Int)) rfl) (ra_cons (rx_var (d := enc (s15.2 : Int)) rfl) ra_nil))) E S fun v F H f S r => ?_
    exact k v F H S.stp r
  · refine ((rg_tup (ds := [enc (x7.1 : (Int × Int)), enc (x7.2 : (Int × Int))]) (RGs.cons (rg_tup (ds := [enc (x7.1.1 : Int), enc (x7.1.2 : Int)]) (RGs.cons (rg_name (i := 6) (d := enc (x7.1.1 : Int))) (RGs.cons (rg_name (i := 7) (d := enc (x7.1.2 : Int))) RGs.nil))) (RGs.cons (rg_tup (ds := [enc (x7.2.1 : Int), enc (x7.2.2 : Int)]) (RGs.cons (rg_name (i := 8) (d := enc (x7.2.1 : Int))) (RGs.cons (rg_name (i := 9) (d := enc (x7.2.2 : Int))) RGs.nil))) RGs.nil)))).run _ _ _ _ _ E r S.fh fun σ E _ => ?_
    have E : EnvR K _ _ [.val (enc (v_net : (T3 (List (Str × Int)) (List (T3 Str (Tp Int) Bool)) (List (Str × (Tp Int)))))), .val (enc (v_plain : (List Int))), .val (enc (v_ones : Int)), .val (enc (v_turned : (Tp Int))), .val (enc (s6.1 : Int)), .val (enc (s6.2 : Int)), .val (enc (x7.1.1 : Int)), .val (enc (x7.1.2 : Int)), .val (enc (x7.2.1 : Int)), .val (enc (x7.2.2 : Int))] := E
    have S : Hx K _ _ _ _ [] _ := S
    have fc : Same F F := Same.refl F
    obtain ⟨v11, h12, h5⟩ := letE h5
    try (with_reducible refine nxD ?_)
    with_reducible refine sq ?_
    refine st_set (i := 4) (d := enc (v11 : Int)) (rx_as (x := ((Builtin.bitOr s6.1 (Builtin.bitAnd (Builtin.bitXor x7.1.1 x7.2.1) (Builtin.bitXor v_ones x7.1.2))) : Int)) h12 (rx_bor (rx_var (d := enc (s6.1 : Int)) rfl) (rx_band (rx_bxor (rx_var (d := enc (x7.1.1 : Int)) rfl) (rx_var (d := enc (x7.2.1 : Int)) rfl)) (rx_bxor (rx_var (d := enc (v_ones : Int)) rfl) (rx_var (d := enc (x7.1.2 : Int)) rfl))))) E S fun σ F H f E S => ?_
    replace fc := fc.trans f
    have E : EnvR K _ _ [.val (enc (v_net : (T3 (List (Str × Int)) (List (T3 Str (Tp Int) Bool)) (List (Str × (Tp Int)))))), .val (enc (v_plain : (List Int))), .val (enc (v_ones : Int)), .val (enc (v_turned : (Tp Int))), .val (enc (v11 : Int)), .val (enc (s6.2 : Int)), .val (enc (x7.1.1 : Int)), .val (enc (x7.1.2 : Int)), .val (enc (x7.2.1 : Int)), .val (enc (x7.2.2 : Int))] := E
    have S : Hx K _ _ _ _ [] _ := S
    obtain ⟨v13, h14, h5⟩ := letE h5
    try (with_reducible refine nxD ?_)
    refine (st_set (i := 5) (d := enc (v13 : Int)) (rx_as (x := ((Builtin.bitOr s6.2 x7.1.2) : Int)) h14 (rx_bor (rx_var (d := enc (s6.2 : Int)) rfl) (rx_var (d := enc (x7.1.2 : Int)) rfl))) E S fun σ F H f E S => ?_)
    replace fc := fc.trans f
    have E : EnvR K _ _ [.val (enc (v_net : (T3 (List (Str × Int)) (List (T3 Str (Tp Int) Bool)) (List (Str × (Tp Int)))))), .val (enc (v_plain : (List Int))), .val (enc (v_ones : Int)), .val (enc (v_turned : (Tp Int))), .val (enc (v11 : Int)), .val (enc (v13 : Int)), .val (enc (x7.1.1 : Int)), .val (enc (x7.1.2 : Int)), .val (enc (x7.2.1 : Int)), .val (enc (x7.2.2 : Int))] := E
    have S : Hx K _ _ _ _ [] _ := S
    obtain rfl := Option.some.inj h5
    exact hN _ _ _ fc (E.weak ⟨.inl rfl, .inl rfl, .inl rfl, .inl rfl, .inl rfl, .inl rfl, .inr rfl, .inr rfl, .inr rfl, .inr rfl, trivial⟩) S
theorem sc_broken_at : FnScope ["net", "plain", "ones", "turned", "level", "wrong", "none"] ["net", "plain", "ones", "turned", "level"] (defScope (top 31)) := ⟨rfl, rfl, rfl, by decide +kernel, rfl, by decide +kernel, by decide +kernel⟩
theorem ok_broken_at (D : Dfn K mg "broken_at" (top 31) ["net", "plain", "ones", "turned", "level"]) (C_spoilt : Cal P w K mg base 5 "spoilt" ["net", "plain", "ones", "turned"] (SpP K R_spoilt)) : Cal P w K mg base 6 "broken_at" ["net", "plain", "ones", "turned", "level"] (SpP K R_broken_at) := by
  refine D.cal sc_broken_at (sp_len fun ds d h => by obtain ⟨_, _, _, _, _, _, rfl, _⟩ := h; rfl) fun f cdv A outer s H vs Q E hr h => ?_
  refine ⟨_, (pss_cons (ps_asg (pe_cal C_spoilt hr (pa_cons (pv 0) (pa_cons (pv 1) (pa_cons (pv 2) (pa_cons (pv 3) pa_nil))))) (pg_tup rfl (pgs_cons (pg_name (i := 5) sc_broken_at.nd rfl (Or.inl rfl)) (pgs_cons (pg_name (i := 6) sc_broken_at.nd rfl (Or.inl rfl)) pgs_nil)))) (pss_cons (ps_if (pt_cmpR op_eq (pv 4) pe_str (nomark _)) (pss_one (ps_ret (pe_op op_or (pv 5) (pv 6)))) pss_nil) (pss_one (ps_ret (pv 5))))), ?_⟩
  obtain ⟨F, ds, d, hw, hF, ⟨v_net, v_plain, v_ones, v_turned, v_level, rr, rfl, rfl, hm0⟩, k⟩ := h
  have E : EnvR K F _ [.val (enc (v_net : (T3 (List (Str × Int)) (List (T3 Str (Tp Int) Bool)) (List (Str × (Tp Int)))))), .val (enc (v_plain : (List Int))), .val (enc (v_ones : Int)), .val (enc (v_turned : (Tp Int))), .val (enc (v_level : Str)), .un, .un] := EnvR.start (N := ["net", "plain", "ones", "turned", "level", "wrong", "none"]) (AsR.of_all hw)
  have S := Hx.start (K := K) hF
  have fc : Same F F := Same.refl F
  unfold m_broken_at at hm0
  obtain ⟨r1, h2, hm0⟩ := bindE hm0
  try (with_reducible refine nxD ?_)
  with_reducible refine sq ?_
  refine st_unp (d := enc (r1 : (Int × Int))) (rx_call (ds := [enc (v_net : (T3 (List (Str × Int)) (List (T3 Str (Tp Int) Bool)) (List (Str × (Tp Int))))), enc (v_plain : (List Int)), enc (v_ones : Int), enc (v_turned : (Tp Int))]) (d := enc (r1 : (Int × Int))) ⟨_, _, _, _, r1, rfl, rfl, h2⟩ (ra_cons (rx_var (d := enc (v_net : (T3 (List (Str × Int)) (List (T3 Str (Tp Int) Bool)) (List (Str × (Tp Int)))))) rfl) (ra_cons (rx_var (d := enc (v_plain : (List Int))) rfl) (ra_cons (rx_var (d := enc (v_ones : Int)) rfl) (ra_cons (rx_var (d := enc (v_turned : (Tp Int))) rfl) ra_nil))))) (rg_tup (ds := [enc (r1.1 : Int), enc (r1.2 : Int)]) (RGs.cons (rg_name (i := 5) (d := enc (r1.1 : Int))) (RGs.cons (rg_name (i := 6) (d := enc (r1.2 : Int))) RGs.nil))) E S fun σ F H f E S => ?_
  replace fc := fc.trans f
  have E : EnvR K _ _ [.val (enc (v_net : (T3 (List (Str × Int)) (List (T3 Str (Tp Int) Bool)) (List (Str × (Tp Int)))))), .val (enc (v_plain : (List Int))), .val (enc (v_ones : Int)), .val (enc (v_turned : (Tp Int))), .val (enc (v_level : Str)), .val (enc (r1.1 : Int)), .val (enc (r1.2 : Int))] := E
  have S : Hx K _ _ _ _ [] _ := S
  try (with_reducible refine nxD ?_)
  with_reducible refine sq ?_
  refine st_if (b := (decide (v_level = ("right" : Str)))) (rt_val (rx_eqs (rx_var (d := enc (v_level : Str)) rfl) (rx_str (x := ("right" : Str))))) E S (fun hc F H f E S => ?_) (fun hc F H f E S => ?_)
  · rw [if_pos hc] at hm0
    replace fc := fc.trans f
    obtain rfl := Option.some.inj hm0
    -- return
    try (with_reducible refine nxD ?_)
    refine st_ret (d := enc ((Builtin.bitOr r1.1 r1.2) : Int)) (rx_bor (rx_var (d := enc (r1.1 : Int)) rfl) (rx_var (d := enc (r1.2 : Int)) rfl)) E S fun v F H f S r => ?_
    exact k v F H S.stp r
  · rw [if_neg (by rw [hc]; decide)] at hm0
    replace fc := fc.trans f
    refine nxt ?_
    obtain rfl := Option.some.inj hm0
    -- return
    try (with_reducible refine nxD ?_)
    refine st_ret (d := enc (r1.1 : Int)) (rx_var (d := enc (r1.1 : Int)) rfl) E S fun v F H f S r => ?_
    exact k v F H S.stp r
theorem sc_first_bit : FnScope ["bits", "place"] ["bits"] (defScope (top 32)) := ⟨rfl, rfl, rfl, by decide +kernel, rfl, by decide +kernel, by decide +kernel⟩
theorem ok_first_bit (D : Dfn K mg "first_bit" (top 32) ["bits"]) : Cal P w K mg base 1 "first_bit" ["bits"] (SpP K R_first_bit) := by
  refine D.cal sc_first_bit (sp_len fun ds d h => by obtain ⟨_, _, rfl, _⟩ := h; rfl) fun f cdv A outer s H vs Q E hr h => ?_
  refine ⟨_, (pss_cons (ps_set (i := 1) sc_first_bit.nd rfl (Or.inl rfl) pe_int) (pss_cons (ps_while PassesOwn.never (pt_cmpR op_eq (pe_op op_and (pe_op op_shr (pv 0) (pv 1)) pe_int) pe_int (nomark _)) (pss_one (ps_aug (i := 1) sc_first_bit.nd rfl (Or.inl rfl) pe_int ip_add))) (pss_one (ps_ret (pv 1))))), ?_⟩
  obtain ⟨F, ds, d, hw, hF, ⟨v_bits, rr, rfl, rfl, hm0⟩, k⟩ := h
  have E : EnvR K F _ [.val (enc (v_bits : Int)), .un] := EnvR.start (N := ["bits", "place"]) (AsR.of_all hw)
  have S := Hx.start (K := K) hF
  have fc : Same F F := Same.refl F
  unfold m_first_bit at hm0
  try (with_reducible refine nxD ?_)
  with_reducible refine sq ?_
  refine st_set (i := 1) (d := enc ((0 : Int) : Int)) rx_int E S fun σ F H f E S => ?_
  replace fc := fc.trans f
  have E : EnvR K _ _ [.val (enc (v_bits : Int)), .val (enc ((0 : Int) : Int))] := E
  have S : Hx K _ _ _ _ [] _ := S
  obtain ⟨s10, h5, hm0⟩ := bindE hm0
  try (with_reducible refine nxD ?_)
  with_reducible refine sq ?_
  refine st_whileS (fun s2 => [.val (enc (v_bits : Int)), .val (enc (s2 : Int))]) (fun s2 => []) E S h5 (fun s2 b h7 => by obtain ⟨t8, h9, h7⟩ := bindE h7; obtain rfl := Option.some.inj h7; exact (rt_val (rx_eqi (rx_band (rx_shrO h9 (rx_var (d := enc (v_bits : Int)) rfl) (rx_var (d := enc (s2 : Int)) rfl)) rx_int) rx_int))) ⟨.inl rfl, .inl rfl, trivial⟩ (fun σ F H f E S => ?_) (fun s2 s' _ h1 σ F H _ E S N B hN => ?_)
  · replace fc := fc.trans f
    have E : EnvR K _ _ [.val (enc (v_bits : Int)), .val (enc (s10 : Int))] := E
    have S : Hx K _ _ _ _ [] _ := S
    obtain rfl := Option.some.inj hm0
    -- return
    try (with_reducible refine nxD ?_)
    refine st_ret (d := enc (s10 : Int)) (rx_var (d := enc (s10 : Int)) rfl) E S fun v F H f S r => ?_
    exact k v F H S.stp r
  · have fc : Same F F := Same.refl F
    try (with_reducible refine nxD ?_)
    refine (st_aug (i := 1) (x := s2) (y := (1 : Int)) rfl rx_int E S fun σ F H f E S => ?_)
    replace fc := fc.trans f
    have E : EnvR K _ _ [.val (enc (v_bits : Int)), .val (enc ((s2 + (1 : Int)) : Int))] := E
    have S : Hx K _ _ _ _ [] _ := S
    obtain rfl := Option.some.inj h1
    exact hN _ _ _ fc (E.weak ⟨.inl rfl, .inl rfl, trivial⟩) S
theorem sc_bears : FnScope ["net", "many", "level", "plain", "ones", "size", "turned", "at"] ["net", "many", "level"] (defScope (top 33)) := ⟨rfl, rfl, rfl, by decide +kernel, rfl, by decide +kernel, by decide +kernel⟩
theorem ok_bears (B : Bi mg) (D : Dfn K mg "bears" (top 33) ["net", "many", "level"]) (C_all_wires : Cal P w K mg base 3 "all_wires" ["net"] (SpP K R_all_wires)) (C_broken_at : Cal P w K mg base 6 "broken_at" ["net", "plain", "ones", "turned", "level"] (SpP K R_broken_at)) (C_first_bit : Cal P w K mg base 1 "first_bit" ["bits"] (SpP K R_first_bit)) (C_free_places : Cal P w K mg base 1 "free_places" ["net"] (SpN K R_free_places)) (C_sets_of : Cal P w K mg base 1 "sets_of" ["places", "size"] (SpP K R_sets_of)) : Cal P w K mg base 7 "bears" ["net", "many", "level"] (SpP K R_bears) := by
  refine D.cal sc_bears (sp_len fun ds d h => by obtain ⟨_, _, _, _, rfl, _⟩ := h; rfl) fun f cdv A outer s H vs Q E hr h => ?_
  refine ⟨_, (pss_cons (ps_asg (pe_cal C_all_wires hr (pa_cons (pv 0) pa_nil)) (pg_tup rfl (pgs_cons (pg_name (i := 3) sc_bears.nd rfl (Or.inl rfl)) (pgs_cons (pg_name (i := 4) sc_bears.nd rfl (Or.inl rfl)) pgs_nil)))) (pss_cons (ps_for PassesOwn.never rfl (pi_range2 rfl B.range (pa_cons pe_int (pa_cons (pe_op op_add (pv 1) pe_int) pa_nil))) (pg_name (i := 5) sc_bears.nd rfl (Or.inl rfl)) (pss_one (ps_for PassesOwn.never rfl (k_pi_list K (pe_cal C_sets_of hr (pa_cons (pe_cal C_free_places hr (pa_cons (pv 0) pa_nil)) (pa_cons (pv 5) pa_nil)))) (pg_name (i := 6) sc_bears.nd rfl (Or.inl rfl)) (pss_cons (ps_set (i := 7) sc_bears.nd rfl (Or.inl rfl) (pe_cal C_broken_at hr (pa_cons (pv 0) (pa_cons (pv 3) (pa_cons (pv 4) (pa_cons (pv 6) (pa_cons (pv 2) pa_nil))))))) (pss_one (ps_if (pt_cmpR op_ne (pv 7) pe_int (nomark _)) (pss_one (ps_ret (pe_tup (pa_cons pe_str (pa_cons (pv 6) (pa_cons (pe_cal C_first_bit hr (pa_cons (pv 7) pa_nil)) pa_nil)))))) pss_nil)))))) (pss_one (ps_ret (pe_tup (pa_cons pe_str pa_nil)))))), ?_⟩
  obtain ⟨F, ds, d, hw, hF, ⟨v_net, v_many, v_level, rr, rfl, rfl, hm0⟩, k⟩ := h
  have E : EnvR K F _ [.val (enc (v_net : (T3 (List (Str × Int)) (List (T3 Str (Tp Int) Bool)) (List (Str × (Tp Int)))))), .val (enc (v_many : Int)), .val (enc (v_level : Str)), .un, .un, .un, .un, .un] := EnvR.start (N := ["net", "many", "level", "plain", "ones", "size", "turned", "at"]) (AsR.of_all hw)
  have S := Hx.start (K := K) hF
  have fc : Same F F := Same.refl F
  unfold m_bears at hm0
  obtain ⟨r1, h2, hm0⟩ := bindE hm0
  try (with_reducible refine nxD ?_)
  with_reducible refine sq ?_
  refine st_unp (d := enc (r1 : ((List Int) × Int))) (rx_call (ds := [enc (v_net : (T3 (List (Str × Int)) (List (T3 Str (Tp Int) Bool)) (List (Str × (Tp Int)))))]) (d := enc (r1 : ((List Int) × Int))) ⟨_, r1, rfl, rfl, h2⟩ (ra_cons (rx_var (d := enc (v_net : (T3 (List (Str × Int)) (List (T3 Str (Tp Int) Bool)) (List (Str × (Tp Int)))))) rfl) ra_nil)) (rg_tup (ds := [enc (r1.1 : (List Int)), enc (r1.2 : Int)]) (RGs.cons (rg_name (i := 3) (d := enc (r1.1 : (List Int)))) (RGs.cons (rg_name (i := 4) (d := enc (r1.2 : Int))) RGs.nil))) E S fun σ F H f E S => ?_
  replace fc := fc.trans f
  have E : EnvR K _ _ [.val (enc (v_net : (T3 (List (Str × Int)) (List (T3 Str (Tp Int) Bool)) (List (Str × (Tp Int)))))), .val (enc (v_many : Int)), .val (enc (v_level : Str)), .val (enc (r1.1 : (List Int))), .val (enc (r1.2 : Int)), .un, .un, .un] := E
  have S : Hx K _ _ _ _ [] _ := S
  obtain ⟨l3, h4, hm0⟩ := bindE hm0
  obtain ⟨fl8, h9, hm0⟩ := bindE hm0
  try (with_reducible refine nxD ?_)
  with_reducible refine sq ?_
  refine st_forF (eα := enc) (fun s6 => [.val (enc (v_net : (T3 (List (Str × Int)) (List (T3 Str (Tp Int) Bool)) (List (Str × (Tp Int)))))), .val (enc (v_many : Int)), .val (enc (v_level : Str)), .val (enc (r1.1 : (List Int))), .val (enc (r1.2 : Int)), .un, .un, .un]) (fun s6 => []) E S (ri_range2 h4 rx_int (rx_add (rx_var (d := enc (v_many : Int)) rfl) rx_int)) h9 ⟨.inl rfl, .inl rfl, .inl rfl, .inl rfl, .inl rfl, .inr rfl, .inr rfl, .inr rfl, trivial⟩ (fun s28 e σ F H f E S => ?_) (fun x7 _ s6 out h5 hrt10 σ F H v _ E S r N B hN hB => ?_)
  · subst e
    replace fc := fc.trans f
    simp only [flK] at hm0
    obtain rfl := Option.some.inj hm0
    -- return
    try (with_reducible refine nxD ?_)
    refine st_ret (d := enc (((Tp.mk [("bears" : Str)]) : (Tp Str)) : (Tp Str))) (rx_tup (ds := [enc (("bears" : Str) : Str)]) (ra_cons (rx_str (x := ("bears" : Str))) ra_nil)) E S fun v F H f S r => ?_
    exact k v F H S.stp r
  · refine ((rg_name (i := 5) (d := enc (x7 : Int)))).run _ _ _ _ _ E r S.fh fun σ E _ => ?_
    have E : EnvR K _ _ [.val (enc (v_net : (T3 (List (Str × Int)) (List (T3 Str (Tp Int) Bool)) (List (Str × (Tp Int)))))), .val (enc (v_many : Int)), .val (enc (v_level : Str)), .val (enc (r1.1 : (List Int))), .val (enc (r1.2 : Int)), .val (enc (x7 : Int)), .un, .un] := E
    have S : Hx K _ _ _ _ [] _ := S
    have fc : Same F F := Same.refl F
    obtain ⟨r11, h12, h5⟩ := bindE h5
    obtain ⟨r13, h14, h5⟩ := bindE h5
    obtain ⟨fl18, h19, h5⟩ := bindE h5
    try (with_reducible refine nxD ?_)
    refine (st_forF (eα := enc) (fun s16 => [.val (enc (v_net : (T3 (List (Str × Int)) (List (T3 Str (Tp Int) Bool)) (List (Str × (Tp Int)))))), .val (enc (v_many : Int)), .val (enc (v_level : Str)), .val (enc (r1.1 : (List Int))), .val (enc (r1.2 : Int)), .val (enc (x7 : Int)), .un, .un]) (fun s16 => []) E S (ri_list (ys := r13.map enc) (rx_call (ds := [enc (r11 : (List Int)), enc (x7 : Int)]) (d := enc (r13 : (List (Tp Int)))) ⟨_, _, r13, rfl, rfl, h14⟩ (ra_cons (RXo.frz (rxo_call (ds := [enc (v_net : (T3 (List (Str × Int)) (List (T3 Str (Tp Int) Bool)) (List (Str × (Tp Int)))))]) (es := r11.map enc) ⟨_, r11, rfl, rfl, h12⟩ (ra_cons (rx_var (d := enc (v_net : (T3 (List (Str × Int)) (List (T3 Str (Tp Int) Bool)) (List (Str × (Tp Int)))))) rfl) ra_nil))) (ra_cons (rx_var (d := enc (x7 : Int)) rfl) ra_nil)))) h19 ⟨.inl rfl, .inl rfl, .inl rfl, .inl rfl, .inl rfl, .inl rfl, .inr rfl, .inr rfl, trivial⟩ (fun s27 e σ F H f E S => ?_) (fun x17 _ s16 out h15 hrt20 σ F H v _ E S r N B hN hB => ?_))
    · subst e
      replace fc := fc.trans f
      simp only [flK] at h5
      obtain rfl := Option.some.inj h5
      exact hN _ rfl _ _ _ fc (E.weak ⟨.inl rfl, .inl rfl, .inl rfl, .inl rfl, .inl rfl, .inr rfl, .inr rfl, .inr rfl, trivial⟩) S
    · refine ((rg_name (i := 6) (d := enc (x17 : (Tp Int))))).run _ _ _ _ _ E r S.fh fun σ E _ => ?_
      have E : EnvR K _ _ [.val (enc (v_net : (T3 (List (Str × Int)) (List (T3 Str (Tp Int) Bool)) (List (Str × (Tp Int)))))), .val (enc (v_many : Int)), .val (enc (v_level : Str)), .val (enc (r1.1 : (List Int))), .val (enc (r1.2 : Int)), .val (enc (x7 : Int)), .val (enc (x17 : (Tp Int))), .un] := E
      have S : Hx K _ _ _ _ [] _ := S
      have fc : Same F F := Same.refl F
      obtain ⟨r21, h22, h15⟩ := bindE h15
      try (with_reducible refine nxD ?_)
      with_reducible refine sq ?_
      refine st_set (i := 7) (d := enc (r21 : Int)) (rx_call (ds := [enc (v_net : (T3 (List (Str × Int)) (List (T3 Str (Tp Int) Bool)) (List (Str × (Tp Int))))), enc (r1.1 : (List Int)), enc (r1.2 : Int), enc (x17 : (Tp Int)), enc (v_level : Str)]) (d := enc (r21 : Int)) ⟨_, _, _, _, _, r21, rfl, rfl, h22⟩ (ra_cons (rx_var (d := enc (v_net : (T3 (List (Str × Int)) (List (T3 Str (Tp Int) Bool)) (List (Str × (Tp Int)))))) rfl) (ra_cons (rx_var (d := enc (r1.1 : (List Int))) rfl) (ra_cons (rx_var (d := enc (r1.2 : Int)) rfl) (ra_cons (rx_var (d := enc (x17 : (Tp Int))) rfl) (ra_cons (rx_var (d := enc (v_level : Str)) rfl) ra_nil)))))) E S fun σ F H f E S => ?_
      replace fc := fc.trans f
      have E : EnvR K _ _ [.val (enc (v_net : (T3 (List (Str × Int)) (List (T3 Str (Tp Int) Bool)) (List (Str × (Tp Int)))))), .val (enc (v_many : Int)), .val (enc (v_level : Str)), .val (enc (r1.1 : (List Int))), .val (enc (r1.2 : Int)), .val (enc (x7 : Int)), .val (enc (x17 : (Tp Int))), .val (enc (r21 : Int))] := E
      have S : Hx K _ _ _ _ [] _ := S
      try (with_reducible refine nxD ?_)
      refine (st_if (b := (!decide (r21 = (0 : Int)))) (rt_val (rx_nei (rx_var (d := enc (r21 : Int)) rfl) rx_int)) E S (fun hc F H f E S => ?_) (fun hc F H f E S => ?_))
      · rw [if_pos hc] at h15
        replace fc := fc.trans f
        obtain ⟨r25, h26, h15⟩ := bindE h15
        obtain rfl := Option.some.inj h15
        obtain rfl := hrt20 _ rfl
        obtain rfl := Option.some.inj h5
        obtain rfl := hrt10 _ rfl
        obtain rfl := Option.some.inj hm0
        -- return
        try (with_reducible refine nxD ?_)
        refine st_ret (d := enc ((T3.mk ("breaks" : Str) x17 r25) : (T3 Str (Tp Int) Int))) (rx_tup (ds := [enc (("breaks" : Str) : Str), enc (x17 : (Tp Int)), enc (r25 : Int)]) (ra_cons (rx_str (x := ("breaks" : Str))) (ra_cons (rx_var (d := enc (x17 : (Tp Int))) rfl) (ra_cons (rx_call (ds := [enc (r21 : Int)]) (d := enc (r25 : Int)) ⟨_, r25, rfl, rfl, h26⟩ (ra_cons (rx_var (d := enc (r21 : Int)) rfl) ra_nil)) ra_nil)))) E S fun v F H f S r => ?_
        exact k v F H S.stp r
      · rw [if_neg (by rw [hc]; decide)] at h15
        replace fc := fc.trans f
        refine nxt ?_
        obtain rfl := Option.some.inj h15
        exact hN _ rfl _ _ _ fc (E.weak ⟨.inl rfl, .inl rfl, .inl rfl, .inl rfl, .inl rfl, .inl rfl, .inr rfl, .inr rfl, trivial⟩) S
theorem sc_run : FnScope ["net", "bits", "turned", "bad", "wires", "name", "own", "one"] ["net", "bits", "turned", "bad"] (defScope (top 21)) := ⟨rfl, rfl, rfl, by decide +kernel, rfl, by decide +kernel, by decide +kernel⟩
theorem ok_run (B : Bi mg) (D : Dfn K mg "run" (top 21) ["net", "bits", "turned", "bad"]) (C_gone_on : Cal P w K mg base 2 "gone_on" ["net", "first", "ones", "turned"] (SpN K R_gone_on)) (C_ins_wires : Cal P w K mg base 1 "ins_wires" ["net", "own", "ones", "bad"] (SpN K R_ins_wires)) : Cal P w K mg base 3 "run" ["net", "bits", "turned", "bad"] (SpN K R_run) := by
  refine D.cal sc_run (sn_len fun ds d h => by obtain ⟨_, _, _, _, _, rfl, _⟩ := h; rfl) fun f cdv A outer s H vs Q E hr h => ?_
  refine ⟨_, (pss_cons (ps_set (i := 4) sc_run.nd rfl (Or.inr rfl) (pe_cal C_gone_on hr (pa_cons (pv 0) (pa_cons (pe_cal C_ins_wires hr (pa_cons (pv 0) (pa_cons (pv 1) (pa_cons pe_int (pa_cons (pv 3) pa_nil))))) (pa_cons pe_int (pa_cons (pv 2) pa_nil)))))) (pss_one (ps_ret (pe_lc (own := [(("name" : Str), 5), (("own" : Str), 6)]) (g := (gTup K 2 (gCons (gName 5) (gCons (gName 6) gNil)))) (tt := tYes) rfl sc_run.nd (k_pi_list K (pe_ix (k_ix_tup K) (pv 0) pe_int (fun _ _ => rfl))) (blkOk_by (by kernel_rfl)) (fun _ _ _ _ _ => (pg_tup rfl (pgs_cons (pg_name (i := 5) sc_run.nd rfl (Or.inl rfl)) (pgs_cons (pg_name (i := 6) sc_run.nd rfl (Or.inl rfl)) pgs_nil)))) (fun _ _ _ _ _ => pts_nil) (fun _ _ _ _ _ => (pe_callTy (k_tuple_of K) (by rfl) B.tuple (by decide +kernel) (pa_cons (pe_lc (own := [(("one" : Str), 7)]) (g := (gName 7)) (tt := tYes) rfl sc_run.nd (k_pi_tup K (pv 6)) (blkOk_by (by kernel_rfl)) (fun _ _ _ _ _ => (pg_name (i := 7) sc_run.nd rfl (Or.inl rfl))) (fun _ _ _ _ _ => pts_nil) (fun _ _ _ _ _ => (pe_ix (k_ix_list K) (pv 4) (pv 7) (fun _ _ => rfl)))) pa_nil))))))), ?_⟩
  obtain ⟨F, ds, es, hw, hF, ⟨v_net, v_bits, v_turned, v_bad, rr, rfl, rfl, hm0⟩, k⟩ := h
  have E : EnvR K F _ [.val (enc (v_net : (T3 (List (Str × Int)) (List (T3 Str (Tp Int) Bool)) (List (Str × (Tp Int)))))), .val (enc (v_bits : (Tp Int))), .val (enc (v_turned : (Tp Int))), .val (enc (v_bad : (Tp Int))), .un, .un, .un, .un] := EnvR.start (N := ["net", "bits", "turned", "bad", "wires", "name", "own", "one"]) (AsR.of_all hw)
  have S := Hx.start (K := K) hF
  have fc : Same F F := Same.refl F
  unfold m_run at hm0
  obtain ⟨r1, h2, hm0⟩ := bindE hm0
  obtain ⟨r3, h4, hm0⟩ := bindE hm0
  try (with_reducible refine nxD ?_)
  with_reducible refine sq ?_
  refine st_set (i := 4) (d := enc (r3 : (List Int))) (RXo.frz (rxo_call (ds := [enc (v_net : (T3 (List (Str × Int)) (List (T3 Str (Tp Int) Bool)) (List (Str × (Tp Int))))), enc (r1 : (List Int)), enc ((1 : Int) : Int), enc (v_turned : (Tp Int))]) (es := r3.map enc) ⟨_, _, _, _, r3, rfl, rfl, h4⟩ (ra_cons (rx_var (d := enc (v_net : (T3 (List (Str × Int)) (List (T3 Str (Tp Int) Bool)) (List (Str × (Tp Int)))))) rfl) (ra_cons (RXo.frz (rxo_call (ds := [enc (v_net : (T3 (List (Str × Int)) (List (T3 Str (Tp Int) Bool)) (List (Str × (Tp Int))))), enc ((Sq.mk true v_bits.l) : (Sq Int)), enc ((1 : Int) : Int), enc (v_bad : (Tp Int))]) (es := r1.map enc) ⟨_, _, _, _, r1, rfl, rfl, h2⟩ (ra_cons (rx_var (d := enc (v_net : (T3 (List (Str × Int)) (List (T3 Str (Tp Int) Bool)) (List (Str × (Tp Int)))))) rfl) (ra_cons (rx_var (d := enc (v_bits : (Tp Int))) rfl) (ra_cons rx_int (ra_cons (rx_var (d := enc (v_bad : (Tp Int))) rfl) ra_nil)))))) (ra_cons rx_int (ra_cons (rx_var (d := enc (v_turned : (Tp Int))) rfl) ra_nil)))))) E S fun σ F H f E S => ?_
  replace fc := fc.trans f
  have E : EnvR K _ _ [.val (enc (v_net : (T3 (List (Str × Int)) (List (T3 Str (Tp Int) Bool)) (List (Str × (Tp Int)))))), .val (enc (v_bits : (Tp Int))), .val (enc (v_turned : (Tp Int))), .val (enc (v_bad : (Tp Int))), .val (enc (r3 : (List Int))), .un, .un, .un] := E
  have S : Hx K _ _ _ _ [] _ := S
  obtain ⟨l55, h56, hm0⟩ := bindE hm0
  obtain rfl := Option.some.inj hm0
  -- return
  try (with_reducible refine nxD ?_)
  refine st_retO (ds := l55.map enc) (rxo_mapO (eα := enc) (eβ := enc) (fun x32 => [.val (enc (v_net : (T3 (List (Str × Int)) (List (T3 Str (Tp Int) Bool)) (List (Str × (Tp Int)))))), .val (enc (v_bits : (Tp Int))), .val (enc (v_turned : (Tp Int))), .val (enc (v_bad : (Tp Int))), .val (enc (r3 : (List Int))), .val (enc (x32.1 : Str)), .val (enc (x32.2 : (Tp Int))), .un]) [5, 6] (ri_list (ys := v_net.c.map enc) (rx_ixT (ds := [enc (v_net.a : (List (Str × Int))), enc (v_net.b : (List (T3 Str (Tp Int) Bool))), enc (v_net.c : (List (Str × (Tp Int))))]) (d := enc (v_net.c : (List (Str × (Tp Int))))) rfl (rx_var (d := enc (v_net : (T3 (List (Str × Int)) (List (T3 Str (Tp Int) Bool)) (List (Str × (Tp Int)))))) rfl) rx_int)) h56 (by decide) (fun x32 _ => (rg_tup (ds := [enc (x32.1 : Str), enc (x32.2 : (Tp Int))]) (RGs.cons (rg_name (i := 5) (d := enc (x32.1 : Str))) (RGs.cons (rg_name (i := 6) (d := enc (x32.2 : (Tp Int)))) RGs.nil)))) (fun x32 _ y h31 D33 acc34 => by obtain ⟨l53, h54, h31⟩ := bindE h31; obtain rfl := Option.some.inj h31; exact (rx_tuple (RXo.s (rxo_mapO (eα := enc) (eβ := enc) (fun x46 => [.val (enc (v_net : (T3 (List (Str × Int)) (List (T3 Str (Tp Int) Bool)) (List (Str × (Tp Int)))))), .val (enc (v_bits : (Tp Int))), .val (enc (v_turned : (Tp Int))), .val (enc (v_bad : (Tp Int))), .val (enc (r3 : (List Int))), .val (enc (x32.1 : Str)), .val (enc (x32.2 : (Tp Int))), .val (enc (x46 : Int))]) [7] (ri_tup (ys := x32.2.l.map enc) (rx_var (d := enc (x32.2 : (Tp Int))) rfl)) h54 (by decide) (fun x46 _ => (rg_name (i := 7) (d := enc (x46 : Int)))) (fun x46 _ y h45 D47 acc48 => by obtain ⟨t51, h52, h45⟩ := bindE h45; obtain rfl := Option.some.inj h45; exact (rx_ix (atI_map enc h52) (RX.s (rx_var (d := enc (r3 : (List Int))) rfl)) (rx_var (d := enc (x46 : Int)) rfl)))))))) E S fun p F H f S => ?_
  obtain ⟨n1, n2, n3, zs, n4, n5, n6⟩ := S.get (j := 0) rfl
  exact k _ _ _ zs S.stp (n2 rfl) n1 n4 n5 n6
theorem sc_is_sound : FnScope ["net", "value", "unlike"] ["net"] (defScope (top 23)) := ⟨rfl, rfl, rfl, by decide +kernel, rfl, by decide +kernel, by decide +kernel⟩
theorem ok_is_sound (D : Dfn K mg "is_sound" (top 23) ["net"]) (C_all_wires : Cal P w K mg base 3 "all_wires" ["net"] (SpP K R_all_wires)) (C_outs_read : Cal P w K mg base 3 "outs_read" ["net", "wires"] (SpN K R_outs_read)) : Cal P w K mg base 4 "is_sound" ["net"] (SpP K R_is_sound) := by
  refine D.cal sc_is_sound (sp_len fun ds d h => by obtain ⟨_, _, rfl, _⟩ := h; rfl) fun f cdv A outer s H vs Q E hr h => ?_
  refine ⟨_, (pss_one (ps_ret (pe_cmpR (k_eqD K hr.units) (pe_lc (own := [(("value" : Str), 1), (("unlike" : Str), 2)]) (g := (gTup K 2 (gCons (gName 1) (gCons (gName 2) gNil)))) rfl sc_is_sound.nd (k_pi_list K (pe_cal C_outs_read hr (pa_cons (pv 0) (pa_cons (pe_ix (k_ix_tup K) (pe_cal C_all_wires hr (pa_cons (pv 0) pa_nil)) pe_int (fun _ _ => rfl)) pa_nil)))) (blkOk_by (by kernel_rfl)) (fun _ _ _ _ _ => (pg_tup rfl (pgs_cons (pg_name (i := 1) sc_is_sound.nd rfl (Or.inl rfl)) (pgs_cons (pg_name (i := 2) sc_is_sound.nd rfl (Or.inl rfl)) pgs_nil)))) (fun _ _ _ _ _ => (pts_one (pt_cmpR op_ne (pv 2) pe_int (nomark _)))) (fun _ _ _ _ _ => (pv 2))) (pe_lst pa_nil) (nomark _)))), ?_⟩
  obtain ⟨F, ds, d, hw, hF, ⟨v_net, rr, rfl, rfl, hm0⟩, k⟩ := h
  have E : EnvR K F _ [.val (enc (v_net : (T3 (List (Str × Int)) (List (T3 Str (Tp Int) Bool)) (List (Str × (Tp Int)))))), .un, .un] := EnvR.start (N := ["net", "value", "unlike"]) (AsR.of_all hw)
  have S := Hx.start (K := K) hF
  have fc : Same F F := Same.refl F
  unfold m_is_sound at hm0
  obtain ⟨r9, h10, hm0⟩ := bindE hm0
  obtain ⟨r11, h12, hm0⟩ := bindE hm0
  obtain rfl := Option.some.inj hm0
  -- return
  try (with_reducible refine nxD ?_)
  refine st_ret (d := enc ((decide ((((r11.filter (fun (x14 : (Int × Int)) => (!decide (x14.2 = (0 : Int))))).map (fun (x14 : (Int × Int)) => (x14.2 : Int))) : (List Int)) = ([] : (List Int)))) : Bool)) (rx_eqT (x := (((r11.filter (fun (x14 : (Int × Int)) => (!decide (x14.2 = (0 : Int))))).map (fun (x14 : (Int × Int)) => (x14.2 : Int))) : (List Int))) (y := (([] : (List Int)) : (List Int))) (RX.h (RXo.frz (rxo_filt (eα := enc) (eβ := enc) (p := (fun (x14 : (Int × Int)) => (!decide (x14.2 = (0 : Int))))) (f := (fun (x14 : (Int × Int)) => (x14.2 : Int))) (fun x14 => [.val (enc (v_net : (T3 (List (Str × Int)) (List (T3 Str (Tp Int) Bool)) (List (Str × (Tp Int)))))), .val (enc (x14.1 : Int)), .val (enc (x14.2 : Int))]) [1, 2] (ri_list (ys := r11.map enc) (RXo.frz (rxo_call (ds := [enc (v_net : (T3 (List (Str × Int)) (List (T3 Str (Tp Int) Bool)) (List (Str × (Tp Int))))), enc (r9.1 : (List Int))]) (es := r11.map enc) ⟨_, _, r11, rfl, rfl, h12⟩ (ra_cons (rx_var (d := enc (v_net : (T3 (List (Str × Int)) (List (T3 Str (Tp Int) Bool)) (List (Str × (Tp Int)))))) rfl) (ra_cons (rx_ixT (ds := [enc (r9.1 : (List Int)), enc (r9.2 : Int)]) (d := enc (r9.1 : (List Int))) rfl (rx_call (ds := [enc (v_net : (T3 (List (Str × Int)) (List (T3 Str (Tp Int) Bool)) (List (Str × (Tp Int)))))]) (d := enc (r9 : ((List Int) × Int))) ⟨_, r9, rfl, rfl, h10⟩ (ra_cons (rx_var (d := enc (v_net : (T3 (List (Str × Int)) (List (T3 Str (Tp Int) Bool)) (List (Str × (Tp Int)))))) rfl) ra_nil)) rx_int) ra_nil))))) (by decide) (fun x14 _ => (rg_tup (ds := [enc (x14.1 : Int), enc (x14.2 : Int)]) (RGs.cons (rg_name (i := 1) (d := enc (x14.1 : Int))) (RGs.cons (rg_name (i := 2) (d := enc (x14.2 : Int))) RGs.nil)))) (fun x14 _ D15 acc16 => (rt_val (rx_nei (rx_var (d := enc (x14.2 : Int)) rfl) rx_int))) (fun x14 _ D15 acc16 => (rx_var (d := enc (x14.2 : Int)) rfl))))) (RX.h (RXo.frz (rxo_lst (ds := []) ra_nil)))) E S fun v F H f S r => ?_
  exact k v F H S.stp r
theorem sc_column_of : FnScope ["value", "unlike", "many", "found", "number"] ["value", "unlike", "many"] (defScope (top 24)) := ⟨rfl, rfl, rfl, by decide +kernel, rfl, by decide +kernel, by decide +kernel⟩
theorem ok_column_of (B : Bi mg) (D : Dfn K mg "column_of" (top 24) ["value", "unlike", "many"]) : Cal P w K mg base 1 "column_of" ["value", "unlike", "many"] (SpN K R_column_of) := by
  refine D.cal sc_column_of (sn_len fun ds d h => by obtain ⟨_, _, _, _, rfl, _⟩ := h; rfl) fun f cdv A outer s H vs Q E hr h => ?_
  refine ⟨_, (pss_cons (ps_set (i := 3) sc_column_of.nd rfl (Or.inl rfl) (pe_lst pa_nil)) (pss_cons (ps_for PassesOwn.never rfl (pi_range1 rfl B.range (pa_cons (pv 2) pa_nil)) (pg_name (i := 4) sc_column_of.nd rfl (Or.inl rfl)) (pss_one (ps_if (pt_cmpR op_eq (pe_op op_and (pe_op op_shr (pv 1) (pv 4)) pe_int) pe_int (nomark _)) (pss_one (ps_expr (pe_bm PySem.F.plainAttrs_list PySem.F.slot_list_append PySem.F.type_list_append mt_append (pv 3) (pa_cons pe_non pa_nil)))) (pss_one (ps_expr (pe_bm PySem.F.plainAttrs_list PySem.F.slot_list_append PySem.F.type_list_append mt_append (pv 3) (pa_cons (pe_op op_and (pe_op op_shr (pv 0) (pv 4)) pe_int) pa_nil))))))) (pss_one (ps_ret (pv 3))))), ?_⟩
  obtain ⟨F, ds, es, hw, hF, ⟨v_value, v_unlike, v_many, rr, rfl, rfl, hm0⟩, k⟩ := h
  have E : EnvR K F _ [.val (enc (v_value : Int)), .val (enc (v_unlike : Int)), .val (enc (v_many : Int)), .un, .un] := EnvR.start (N := ["value", "unlike", "many", "found", "number"]) (AsR.of_all hw)
  have S := Hx.start (K := K) hF
  have fc : Same F F := Same.refl F
  unfold m_column_of at hm0
  obtain ⟨v1, h2, hm0⟩ := letE hm0
  try (with_reducible refine nxD ?_)
  with_reducible refine sq ?_
  refine st_setO (i := 3) (ds := v1.map enc) (rxo_as (f := enc) h2 (rxo_lst (ds := []) ra_nil)) E S fun p_found3 σ F H f E S => ?_
  replace fc := fc.trans f
  have E : EnvR K _ _ [.val (enc (v_value : Int)), .val (enc (v_unlike : Int)), .val (enc (v_many : Int)), .adr p_found3, .un] := E
  have S : Hx K _ _ _ _ [⟨p_found3, true, v1.map enc⟩] _ := S
  obtain ⟨l4, h5, hm0⟩ := bindE hm0
  obtain ⟨s22, h10, hm0⟩ := bindE hm0
  try (with_reducible refine nxD ?_)
  with_reducible refine sq ?_
  refine st_forS (eα := enc) (fun s7 => [.val (enc (v_value : Int)), .val (enc (v_unlike : Int)), .val (enc (v_many : Int)), .adr p_found3, .un]) (fun s7 => [⟨p_found3, true, s7.map enc⟩]) E S (ri_range h5 (rx_var (d := enc (v_many : Int)) rfl)) h10 ⟨.inl rfl, .inl rfl, .inl rfl, .inl rfl, .inr rfl, trivial⟩ (fun σ F H f E S => ?_) (fun x8 _ s7 s' h6 σ F H v _ E S r N B hN => ?_)
  · replace fc := fc.trans f
    have E : EnvR K _ _ [.val (enc (v_value : Int)), .val (enc (v_unlike : Int)), .val (enc (v_many : Int)), .adr p_found3, .un] := E
    have S : Hx K _ _ _ _ [⟨p_found3, true, s22.map enc⟩] _ := S
    obtain rfl := Option.some.inj hm0
    -- return
    try (with_reducible refine nxD ?_)
    refine st_retA rfl E ?_
    obtain ⟨n1, n2, n3, zs, n4, n5, n6⟩ := S.get (j := 0) rfl
    exact k _ _ _ zs S.stp (n2 rfl) n1 n4 n5 n6
  · refine ((rg_name (i := 4) (d := enc (x8 : Int)))).run _ _ _ _ _ E r S.fh fun σ E _ => ?_
    have E : EnvR K _ _ [.val (enc (v_value : Int)), .val (enc (v_unlike : Int)), .val (enc (v_many : Int)), .adr p_found3, .val (enc (x8 : Int))] := E
    have S : Hx K _ _ _ _ [⟨p_found3, true, s7.map enc⟩] _ := S
    have fc : Same F F := Same.refl F
    obtain ⟨t12, h13, h6⟩ := bindE h6
    obtain ⟨j14, h15, h6⟩ := bindE h6
    try (with_reducible refine nxD ?_)
    refine (st_ifJ (b := (decide ((Builtin.bitAnd t12 (1 : Int)) = (1 : Int)))) [.val (enc (v_value : Int)), .val (enc (v_unlike : Int)), .val (enc (v_many : Int)), .adr p_found3, .val (enc (x8 : Int))] [⟨p_found3, true, j14.map enc⟩] (rt_val (rx_eqi (rx_band (rx_shrO h13 (rx_var (d := enc (v_unlike : Int)) rfl) (rx_var (d := enc (x8 : Int)) rfl)) rx_int) rx_int)) E S (fun σ F H f E S => ?_) (fun hc F H rest f E S => ?_) (fun hc F H rest f E S => ?_))
    · replace fc := fc.trans f
      obtain rfl := Option.some.inj h6
      exact hN _ _ _ fc (E.weak ⟨.inl rfl, .inl rfl, .inl rfl, .inl rfl, .inr rfl, trivial⟩) S
    · rw [if_pos hc] at h15
      have fc := f
      obtain ⟨u16, h17, h15⟩ := bindE h15
      try (with_reducible refine nxD ?_)
      refine (st_app (j := 0) (ds := s7.map enc) (d := enc (none : (Option Int))) (appO_map enc h17) rfl rx_non ⟨_, rfl⟩ rfl E S fun F H f E S => ?_)
      replace fc := fc.trans f
      have E : EnvR K _ _ [.val (enc (v_value : Int)), .val (enc (v_unlike : Int)), .val (enc (v_many : Int)), .adr p_found3, .val (enc (x8 : Int))] := E
      have S : Hx K _ _ _ _ [⟨p_found3, true, u16.map enc⟩] _ := S
      obtain rfl := Option.some.inj h15
      exact rest _ _ _ fc (E.weak ⟨.inl rfl, .inl rfl, .inl rfl, .inl rfl, .inl rfl, trivial⟩) S
    · rw [if_neg (by rw [hc]; decide)] at h15
      have fc := f
      obtain ⟨t18, h19, h15⟩ := bindE h15
      obtain ⟨u20, h21, h15⟩ := bindE h15
      try (with_reducible refine nxD ?_)
      refine (st_app (j := 0) (ds := s7.map enc) (d := enc ((some (Builtin.bitAnd t18 (1 : Int))) : (Option Int))) (appO_map enc h21) rfl (rx_band (rx_shrO h19 (rx_var (d := enc (v_value : Int)) rfl) (rx_var (d := enc (x8 : Int)) rfl)) rx_int) ⟨_, rfl⟩ rfl E S fun F H f E S => ?_)
      replace fc := fc.trans f
      have E : EnvR K _ _ [.val (enc (v_value : Int)), .val (enc (v_unlike : Int)), .val (enc (v_many : Int)), .adr p_found3, .val (enc (x8 : Int))] := E
      have S : Hx K _ _ _ _ [⟨p_found3, true, u20.map enc⟩] _ := S
      obtain rfl := Option.some.inj h15
      exact rest _ _ _ fc (E.weak ⟨.inl rfl, .inl rfl, .inl rfl, .inl rfl, .inl rfl, trivial⟩) S
theorem sc_columns : FnScope ["net", "reads", "value", "unlike"] ["net"] (defScope (top 25)) := ⟨rfl, rfl, rfl, by decide +kernel, rfl, by decide +kernel, by decide +kernel⟩
theorem ok_columns (B : Bi mg) (D : Dfn K mg "columns" (top 25) ["net"]) (C_all_wires : Cal P w K mg base 3 "all_wires" ["net"] (SpP K R_all_wires)) (C_column_of : Cal P w K mg base 1 "column_of" ["value", "unlike", "many"] (SpN K R_column_of)) (C_outs_read : Cal P w K mg base 3 "outs_read" ["net", "wires"] (SpN K R_outs_read)) : Cal P w K mg base 4 "columns" ["net"] (SpN K R_columns) := by
  refine D.cal sc_columns (sn_len fun ds d h => by obtain ⟨_, _, rfl, _⟩ := h; rfl) fun f cdv A outer s H vs Q E hr h => ?_
  refine ⟨_, (pss_cons (ps_set (i := 1) sc_columns.nd rfl (Or.inl rfl) (pe_cal C_outs_read hr (pa_cons (pv 0) (pa_cons (pe_ix (k_ix_tup K) (pe_cal C_all_wires hr (pa_cons (pv 0) pa_nil)) pe_int (fun _ _ => rfl)) pa_nil)))) (pss_one (ps_ret (pe_lc (own := [(("value" : Str), 2), (("unlike" : Str), 3)]) (g := (gTup K 2 (gCons (gName 2) (gCons (gName 3) gNil)))) (tt := tYes) rfl sc_columns.nd (k_pi_list K (pv 1)) (blkOk_by (by kernel_rfl)) (fun _ _ _ _ _ => (pg_tup rfl (pgs_cons (pg_name (i := 2) sc_columns.nd rfl (Or.inl rfl)) (pgs_cons (pg_name (i := 3) sc_columns.nd rfl (Or.inl rfl)) pgs_nil)))) (fun _ _ _ _ _ => pts_nil) (fun _ _ _ _ _ => (pe_cal C_column_of hr (pa_cons (pv 2) (pa_cons (pv 3) (pa_cons (pe_op op_shl pe_int (pe_callB (k_len_seq K) (by rfl) B.len PySem.boot_len (pa_cons (pe_ix (k_ix_tup K) (pv 0) pe_int (fun _ _ => rfl)) pa_nil))) pa_nil))))))))), ?_⟩
  obtain ⟨F, ds, es, hw, hF, ⟨v_net, rr, rfl, rfl, hm0⟩, k⟩ := h
  have E : EnvR K F _ [.val (enc (v_net : (T3 (List (Str × Int)) (List (T3 Str (Tp Int) Bool)) (List (Str × (Tp Int)))))), .un, .un, .un] := EnvR.start (N := ["net", "reads", "value", "unlike"]) (AsR.of_all hw)
  have S := Hx.start (K := K) hF
  have fc : Same F F := Same.refl F
  unfold m_columns at hm0
  obtain ⟨r1, h2, hm0⟩ := bindE hm0
  obtain ⟨r3, h4, hm0⟩ := bindE hm0
  try (with_reducible refine nxD ?_)
  with_reducible refine sq ?_
  refine st_set (i := 1) (d := enc (r3 : (List (Int × Int)))) (RXo.frz (rxo_call (ds := [enc (v_net : (T3 (List (Str × Int)) (List (T3 Str (Tp Int) Bool)) (List (Str × (Tp Int))))), enc (r1.1 : (List Int))]) (es := r3.map enc) ⟨_, _, r3, rfl, rfl, h4⟩ (ra_cons (rx_var (d := enc (v_net : (T3 (List (Str × Int)) (List (T3 Str (Tp Int) Bool)) (List (Str × (Tp Int)))))) rfl) (ra_cons (rx_ixT (ds := [enc (r1.1 : (List Int)), enc (r1.2 : Int)]) (d := enc (r1.1 : (List Int))) rfl (rx_call (ds := [enc (v_net : (T3 (List (Str × Int)) (List (T3 Str (Tp Int) Bool)) (List (Str × (Tp Int)))))]) (d := enc (r1 : ((List Int) × Int))) ⟨_, r1, rfl, rfl, h2⟩ (ra_cons (rx_var (d := enc (v_net : (T3 (List (Str × Int)) (List (T3 Str (Tp Int) Bool)) (List (Str × (Tp Int)))))) rfl) ra_nil)) rx_int) ra_nil)))) E S fun σ F H f E S => ?_
  replace fc := fc.trans f
  have E : EnvR K _ _ [.val (enc (v_net : (T3 (List (Str × Int)) (List (T3 Str (Tp Int) Bool)) (List (Str × (Tp Int)))))), .val (enc (r3 : (List (Int × Int)))), .un, .un] := E
  have S : Hx K _ _ _ _ [] _ := S
  obtain ⟨l31, h32, hm0⟩ := bindE hm0
  obtain rfl := Option.some.inj hm0
  -- return
  try (with_reducible refine nxD ?_)
  refine st_retO (ds := l31.map enc) (rxo_mapO (eα := enc) (eβ := enc) (fun x20 => [.val (enc (v_net : (T3 (List (Str × Int)) (List (T3 Str (Tp Int) Bool)) (List (Str × (Tp Int)))))), .val (enc (r3 : (List (Int × Int)))), .val (enc (x20.1 : Int)), .val (enc (x20.2 : Int))]) [2, 3] (ri_list (ys := r3.map enc) (rx_var (d := enc (r3 : (List (Int × Int)))) rfl)) h32 (by decide) (fun x20 _ => (rg_tup (ds := [enc (x20.1 : Int), enc (x20.2 : Int)]) (RGs.cons (rg_name (i := 2) (d := enc (x20.1 : Int))) (RGs.cons (rg_name (i := 3) (d := enc (x20.2 : Int))) RGs.nil)))) (fun x20 _ y h19 D21 acc22 => by obtain ⟨t27, h28, h19⟩ := bindE h19; obtain ⟨r29, h30, h19⟩ := bindE h19; obtain rfl := Option.some.inj h19; exact (RXo.frz (rxo_call (ds := [enc (x20.1 : Int), enc (x20.2 : Int), enc (t27 : Int)]) (es := r29.map enc) ⟨_, _, _, r29, rfl, rfl, h30⟩ (ra_cons (rx_var (d := enc (x20.1 : Int)) rfl) (ra_cons (rx_var (d := enc (x20.2 : Int)) rfl) (ra_cons (rx_shlO h28 rx_int (len_nat (f := enc) (RX.s (rx_ixT (ds := [enc (v_net.a : (List (Str × Int))), enc (v_net.b : (List (T3 Str (Tp Int) Bool))), enc (v_net.c : (List (Str × (Tp Int))))]) (d := enc (v_net.a : (List (Str × Int)))) rfl (rx_var (d := enc (v_net : (T3 (List (Str × Int)) (List (T3 Str (Tp Int) Bool)) (List (Str × (Tp Int)))))) rfl) rx_int)))) ra_nil))))))) E S fun p F H f S => ?_
  obtain ⟨n1, n2, n3, zs, n4, n5, n6⟩ := S.get (j := 0) rfl
  exact k _ _ _ zs S.stp (n2 rfl) n1 n4 n5 n6
theorem sc_told : FnScope ["bits", "value", "unlike"] ["bits"] (defScope (top 22)) := ⟨rfl, rfl, rfl, by decide +kernel, rfl, by decide +kernel, by decide +kernel⟩
theorem ok_told (D : Dfn K mg "told" (top 22) ["bits"]) (C_read_bits : Cal P w K mg base 2 "read_bits" ["some"] (SpP K R_read_bits)) : Cal P w K mg base 3 "told" ["bits"] (SpP K R_told) := by
  refine D.cal sc_told (sp_len fun ds d h => by obtain ⟨_, _, rfl, _⟩ := h; rfl) fun f cdv A outer s H vs Q E hr h => ?_
  refine ⟨_, (pss_cons (ps_asg (pe_cal C_read_bits hr (pa_cons (pv 0) pa_nil)) (pg_tup rfl (pgs_cons (pg_name (i := 1) sc_told.nd rfl (Or.inl rfl)) (pgs_cons (pg_name (i := 2) sc_told.nd rfl (Or.inl rfl)) pgs_nil)))) (pss_cons (ps_if (pt_cmpR op_eq (pv 2) pe_int (nomark _)) (pss_one (ps_ret pe_non)) pss_nil) (pss_one (ps_ret (pv 1))))), ?_⟩
  obtain ⟨F, ds, d, hw, hF, ⟨v_bits, rr, rfl, rfl, hm0⟩, k⟩ := h
  have E : EnvR K F _ [.val (enc (v_bits : (Sq Int))), .un, .un] := EnvR.start (N := ["bits", "value", "unlike"]) (AsR.of_all hw)
  have S := Hx.start (K := K) hF
  have fc : Same F F := Same.refl F
  unfold m_told at hm0
  obtain ⟨r1, h2, hm0⟩ := bindE hm0
  try (with_reducible refine nxD ?_)
  with_reducible refine sq ?_
  refine st_unp (d := enc (r1 : (Int × Int))) (rx_call (ds := [enc (v_bits : (Sq Int))]) (d := enc (r1 : (Int × Int))) ⟨_, r1, rfl, rfl, h2⟩ (ra_cons (rx_var (d := enc (v_bits : (Sq Int))) rfl) ra_nil)) (rg_tup (ds := [enc (r1.1 : Int), enc (r1.2 : Int)]) (RGs.cons (rg_name (i := 1) (d := enc (r1.1 : Int))) (RGs.cons (rg_name (i := 2) (d := enc (r1.2 : Int))) RGs.nil))) E S fun σ F H f E S => ?_
  replace fc := fc.trans f
  have E : EnvR K _ _ [.val (enc (v_bits : (Sq Int))), .val (enc (r1.1 : Int)), .val (enc (r1.2 : Int))] := E
  have S : Hx K _ _ _ _ [] _ := S
  try (with_reducible refine nxD ?_)
  with_reducible refine sq ?_
  refine st_if (b := (decide (r1.2 = (1 : Int)))) (rt_val (rx_eqi (rx_var (d := enc (r1.2 : Int)) rfl) rx_int)) E S (fun hc F H f E S => ?_) (fun hc F H f E S => ?_)
  · rw [if_pos hc] at hm0
    replace fc := fc.trans f
    obtain rfl := Option.some.inj hm0
    -- return
    try (with_reducible refine nxD ?_)
    refine st_ret (d := .none) rx_non E S fun v F H f S r => ?_
    exact k v F H S.stp r
  · rw [if_neg (by rw [hc]; decide)] at hm0
    replace fc := fc.trans f
    refine nxt ?_
    obtain rfl := Option.some.inj hm0
    -- return
    try (with_reducible refine nxD ?_)
    refine st_ret (d := enc (r1.1 : Int)) (rx_var (d := enc (r1.1 : Int)) rfl) E S fun v F H f S r => ?_
    exact k v F H S.stp r
theorem sc__law_good : FnScope ["net", "made", "many", "number", "bits", "plain", "wire", "k", "one"] ["net", "made", "many"] (defScope (top 40)) := ⟨rfl, rfl, rfl, by decide +kernel, rfl, by decide +kernel, by decide +kernel⟩
theorem ok__law_good (B : Bi mg) (D : Dfn K mg "_law_good" (top 40) ["net", "made", "many"]) (C_columns : Cal P w K mg base 4 "columns" ["net"] (SpN K R_columns)) (C_is_sound : Cal P w K mg base 4 "is_sound" ["net"] (SpP K R_is_sound)) (C_run : Cal P w K mg base 3 "run" ["net", "bits", "turned", "bad"] (SpN K R_run)) (C_told : Cal P w K mg base 3 "told" ["bits"] (SpP K R_told)) : Cal P w K mg base 5 "_law_good" ["net", "made", "many"] (SpP K R__law_good) := by
  refine D.cal sc__law_good (sp_len fun ds d h => by obtain ⟨_, _, _, _, rfl, _⟩ := h; rfl) fun f cdv A outer s H vs Q E hr h => ?_
  refine ⟨_, (pss_cons (ps_if (PW.pt (pw_or (pt_cmp (pc_notB (pe_cal C_is_sound hr (pa_cons (pv 1) pa_nil))) rfl) (pw_or1 (pt_cmpR (k_neD K hr.units) (pe_cal C_columns hr (pa_cons (pv 1) pa_nil)) (pe_cal C_columns hr (pa_cons (pv 0) pa_nil)) (nomark _))))) (pss_one (ps_ret pe_bl)) pss_nil) (pss_cons (ps_for PassesOwn.never rfl (pi_range1 rfl B.range (pa_cons (pe_op op_shl pe_int (pe_callB (k_len_seq K) (by rfl) B.len PySem.boot_len (pa_cons (pe_ix (k_ix_tup K) (pv 0) pe_int (fun _ _ => rfl)) pa_nil))) pa_nil)) (pg_name (i := 3) sc__law_good.nd rfl (Or.inr rfl)) (pss_cons (ps_set (i := 4) sc__law_good.nd rfl (Or.inl rfl) (pe_callTy (k_tuple_of K) (by rfl) B.tuple (by decide +kernel) (pa_cons (pe_lc (own := [(("k" : Str), 7)]) (g := (gName 7)) (tt := tYes) rfl sc__law_good.nd (pi_range1 rfl B.range (pa_cons (pe_callB (k_len_seq K) (by rfl) B.len PySem.boot_len (pa_cons (pe_ix (k_ix_tup K) (pv 0) pe_int (fun _ _ => rfl)) pa_nil)) pa_nil)) (blkOk_by (by kernel_rfl)) (fun _ _ _ _ _ => (pg_name (i := 7) sc__law_good.nd rfl (Or.inl rfl))) (fun _ _ _ _ _ => pts_nil) (fun _ _ _ _ _ => (pe_op op_and (pe_op op_shr (pv 3) (pe_op op_sub (pe_op op_sub (pe_callB (k_len_seq K) (by rfl) B.len PySem.boot_len (pa_cons (pe_ix (k_ix_tup K) (pv 0) pe_int (fun _ _ => rfl)) pa_nil)) pe_int) (pv 7))) pe_int))) pa_nil))) (pss_cons (ps_set (i := 5) sc__law_good.nd rfl (Or.inl rfl) (pe_cal C_run hr (pa_cons (pv 0) (pa_cons (pv 4) (pa_cons (pe_tup pa_nil) (pa_cons (pe_tup pa_nil) pa_nil)))))) (pss_cons (ps_if (pt_cmpR (k_neD K hr.units) (pe_cal C_run hr (pa_cons (pv 1) (pa_cons (pv 4) (pa_cons (pe_tup pa_nil) (pa_cons (pe_tup pa_nil) pa_nil))))) (pe_lc (own := [(("one" : Str), 8)]) (g := (gName 8)) (tt := tYes) rfl sc__law_good.nd (k_pi_list K (pv 5)) (blkOk_by (by kernel_rfl)) (fun _ _ _ _ _ => (pg_name (i := 8) sc__law_good.nd rfl (Or.inl rfl))) (fun _ _ _ _ _ => pts_nil) (fun _ _ _ _ _ => (pe_op (k_repT K) (pv 8) (pv 2)))) (nomark _)) (pss_one (ps_ret pe_bl)) pss_nil) (pss_one (ps_if (pt_cmpR op_eq (pv 2) pe_int (nomark _)) (pss_one (ps_for PassesOwn.never rfl (pi_range1 rfl B.range (pa_cons (pe_op op_mul pe_int (pe_callB (k_len_seq K) (by rfl) B.len PySem.boot_len (pa_cons (pe_ix (k_ix_tup K) (pv 0) pe_int (fun _ _ => rfl)) pa_nil))) pa_nil)) (pg_name (i := 6) sc__law_good.nd rfl (Or.inl rfl)) (pss_one (ps_if (pt_cmpR (k_neD K hr.units) (pe_lc (own := [(("one" : Str), 8)]) (g := (gName 8)) (tt := tYes) rfl sc__law_good.nd (k_pi_list K (pe_cal C_run hr (pa_cons (pv 1) (pa_cons (pv 4) (pa_cons (pe_tup pa_nil) (pa_cons (pe_tup (pa_cons (pv 6) pa_nil)) pa_nil)))))) (blkOk_by (by kernel_rfl)) (fun _ _ _ _ _ => (pg_name (i := 8) sc__law_good.nd rfl (Or.inl rfl))) (fun _ _ _ _ _ => pts_nil) (fun _ _ _ _ _ => (pe_cal C_told hr (pa_cons (pv 8) pa_nil)))) (pe_lc (own := [(("one" : Str), 8)]) (g := (gName 8)) (tt := tYes) rfl sc__law_good.nd (k_pi_list K (pv 5)) (blkOk_by (by kernel_rfl)) (fun _ _ _ _ _ => (pg_name (i := 8) sc__law_good.nd rfl (Or.inl rfl))) (fun _ _ _ _ _ => pts_nil) (fun _ _ _ _ _ => (pe_ix (k_ix_tup K) (pv 8) pe_int (fun _ _ => rfl)))) (nomark _)) (pss_one (ps_ret pe_bl)) pss_nil)))) pss_nil)))))) (pss_one (ps_ret pe_bl)))), ?_⟩
  obtain ⟨F, ds, d, hw, hF, ⟨v_net, v_made, v_many, rr, rfl, rfl, hm0⟩, k⟩ := h
  have E : EnvR K F _ [.val (enc (v_net : (T3 (List (Str × Int)) (List (T3 Str (Tp Int) Bool)) (List (Str × (Tp Int)))))), .val (enc (v_made : (T3 (List (Str × Int)) (List (T3 Str (Tp Int) Bool)) (List (Str × (Tp Int)))))), .val (enc (v_many : Int)), .un, .un, .un, .un, .un, .un] := EnvR.start (N := ["net", "made", "many", "number", "bits", "plain", "wire", "k", "one"]) (AsR.of_all hw)
  have S := Hx.start (K := K) hF
  have fc : Same F F := Same.refl F
  unfold m__law_good at hm0
  obtain ⟨r1, h2, hm0⟩ := bindE hm0
  obtain ⟨b8, h3, hm0⟩ := bindE hm0
  try (with_reducible refine nxD ?_)
  with_reducible refine sq ?_
  refine st_if (b := b8) (rt_or (a := (r1 != true)) (c := b8) (rt_b (rx_notB (rx_call (ds := [enc (v_made : (T3 (List (Str × Int)) (List (T3 Str (Tp Int) Bool)) (List (Str × (Tp Int)))))]) (d := enc (r1 : Bool)) ⟨_, r1, rfl, rfl, h2⟩ (ra_cons (rx_var (d := enc (v_made : (T3 (List (Str × Int)) (List (T3 Str (Tp Int) Bool)) (List (Str × (Tp Int)))))) rfl) ra_nil)))) (fun ha => by rw [if_neg (by rw [ha]; decide)] at h3; obtain ⟨r4, h5, h3⟩ := bindE h3; obtain ⟨r6, h7, h3⟩ := bindE h3; obtain rfl := Option.some.inj h3; exact (rt_val (rx_neT (x := (r4 : (List (List (Option Int))))) (y := (r6 : (List (List (Option Int))))) (RX.h (RXo.frz (rxo_call (ds := [enc (v_made : (T3 (List (Str × Int)) (List (T3 Str (Tp Int) Bool)) (List (Str × (Tp Int)))))]) (es := r4.map enc) ⟨_, r4, rfl, rfl, h5⟩ (ra_cons (rx_var (d := enc (v_made : (T3 (List (Str × Int)) (List (T3 Str (Tp Int) Bool)) (List (Str × (Tp Int)))))) rfl) ra_nil)))) (RX.h (RXo.frz (rxo_call (ds := [enc (v_net : (T3 (List (Str × Int)) (List (T3 Str (Tp Int) Bool)) (List (Str × (Tp Int)))))]) (es := r6.map enc) ⟨_, r6, rfl, rfl, h7⟩ (ra_cons (rx_var (d := enc (v_net : (T3 (List (Str × Int)) (List (T3 Str (Tp Int) Bool)) (List (Str × (Tp Int)))))) rfl) ra_nil))))))) (fun ha => by rw [if_pos ha] at h3; obtain rfl := Option.some.inj h3; exact ⟨rfl, rfl⟩)) E S (fun hc F H f E S => ?_) (fun hc F H f E S => ?_)
  · rw [if_pos hc] at hm0
    replace fc := fc.trans f
    obtain rfl := Option.some.inj hm0
    -- return
    try (with_reducible refine nxD ?_)
    refine st_ret (d := enc (false : Bool)) rx_bl E S fun v F H f S r => ?_
    exact k v F H S.stp r
  · rw [if_neg (by rw [hc]; decide)] at hm0
    replace fc := fc.trans f
    refine nxt ?_
    obtain ⟨t9, h10, hm0⟩ := bindE hm0
    obtain ⟨l11, h12, hm0⟩ := bindE hm0
    obtain ⟨fl16, h17, hm0⟩ := bindE hm0
    try (with_reducible refine nxD ?_)
    with_reducible refine sq ?_
    refine st_forF (eα := enc) (fun s14 => [.val (enc (v_net : (T3 (List (Str × Int)) (List (T3 Str (Tp Int) Bool)) (List (Str × (Tp Int)))))), .val (enc (v_made : (T3 (List (Str × Int)) (List (T3 Str (Tp Int) Bool)) (List (Str × (Tp Int)))))), .val (enc (v_many : Int)), .un, .un, .un, .un, .un, .un]) (fun s14 => []) E S (ri_range h12 (rx_shlO h10 rx_int (len_nat (f := enc) (RX.s (rx_ixT (ds := [enc (v_net.a : (List (Str × Int))), enc (v_net.b : (List (T3 Str (Tp Int) Bool))), enc (v_net.c : (List (Str × (Tp Int))))]) (d := enc (v_net.a : (List (Str × Int)))) rfl (rx_var (d := enc (v_net : (T3 (List (Str × Int)) (List (T3 Str (Tp Int) Bool)) (List (Str × (Tp Int)))))) rfl) rx_int))))) h17 ⟨.inl rfl, .inl rfl, .inl rfl, .inr rfl, .inr rfl, .inr rfl, .inr rfl, .inr rfl, .inr rfl, trivial⟩ (fun s76 e σ F H f E S => ?_) (fun x15 _ s14 out h13 hrt18 σ F H v _ E S r N B hN hB => ?_)
    · subst e
      replace fc := fc.trans f
      simp only [flK] at hm0
      obtain rfl := Option.some.inj hm0
      -- return
      try (with_reducible refine nxD ?_)
      refine st_ret (d := enc (true : Bool)) rx_bl E S fun v F H f S r => ?_
      exact k v F H S.stp r
    · refine ((rg_name (i := 3) (d := enc (x15 : Int)))).run _ _ _ _ _ E r S.fh fun σ E _ => ?_
      have E : EnvR K _ _ [.val (enc (v_net : (T3 (List (Str × Int)) (List (T3 Str (Tp Int) Bool)) (List (Str × (Tp Int)))))), .val (enc (v_made : (T3 (List (Str × Int)) (List (T3 Str (Tp Int) Bool)) (List (Str × (Tp Int)))))), .val (enc (v_many : Int)), .val (enc (x15 : Int)), .un, .un, .un, .un, .un] := E
      have S : Hx K _ _ _ _ [] _ := S
      have fc : Same F F := Same.refl F
      obtain ⟨l27, h28, h13⟩ := bindE h13
      obtain ⟨v29, h30, h13⟩ := letE h13
      try (with_reducible refine nxD ?_)
      with_reducible refine sq ?_
      refine st_set (i := 4) (d := enc (v29 : (Tp Int))) (rx_as (x := ((Tp.mk l27) : (Tp Int))) h30 (rx_tuple (RXo.s (rxo_mapO (eα := enc) (eβ := enc) (fun x20 => [.val (enc (v_net : (T3 (List (Str × Int)) (List (T3 Str (Tp Int) Bool)) (List (Str × (Tp Int)))))), .val (enc (v_made : (T3 (List (Str × Int)) (List (T3 Str (Tp Int) Bool)) (List (Str × (Tp Int)))))), .val (enc (v_many : Int)), .val (enc (x15 : Int)), .un, .un, .un, .val (enc (x20 : Int)), .un]) [7] (ri_rangeLenM (f := enc) (RX.s (rx_ixT (ds := [enc (v_net.a : (List (Str × Int))), enc (v_net.b : (List (T3 Str (Tp Int) Bool))), enc (v_net.c : (List (Str × (Tp Int))))]) (d := enc (v_net.a : (List (Str × Int)))) rfl (rx_var (d := enc (v_net : (T3 (List (Str × Int)) (List (T3 Str (Tp Int) Bool)) (List (Str × (Tp Int)))))) rfl) rx_int))) h28 (by decide) (fun x20 _ => (rg_name (i := 7) (d := enc (x20 : Int)))) (fun x20 _ y h19 D21 acc22 => by obtain ⟨t25, h26, h19⟩ := bindE h19; obtain rfl := Option.some.inj h19; exact (rx_band (rx_shrO h26 (rx_var (d := enc (x15 : Int)) rfl) (rx_sub (rx_sub (len_nat (f := enc) (RX.s (rx_ixT (ds := [enc (v_net.a : (List (Str × Int))), enc (v_net.b : (List (T3 Str (Tp Int) Bool))), enc (v_net.c : (List (Str × (Tp Int))))]) (d := enc (v_net.a : (List (Str × Int)))) rfl (rx_var (d := enc (v_net : (T3 (List (Str × Int)) (List (T3 Str (Tp Int) Bool)) (List (Str × (Tp Int)))))) rfl) rx_int))) rx_int) (rx_var (d := enc (x20 : Int)) rfl))) rx_int)))))) E S fun σ F H f E S => ?_
      replace fc := fc.trans f
      have E : EnvR K _ _ [.val (enc (v_net : (T3 (List (Str × Int)) (List (T3 Str (Tp Int) Bool)) (List (Str × (Tp Int)))))), .val (enc (v_made : (T3 (List (Str × Int)) (List (T3 Str (Tp Int) Bool)) (List (Str × (Tp Int)))))), .val (enc (v_many : Int)), .val (enc (x15 : Int)), .val (enc (v29 : (Tp Int))), .un, .un, .un, .un] := E
      have S : Hx K _ _ _ _ [] _ := S
      obtain ⟨r31, h32, h13⟩ := bindE h13
      try (with_reducible refine nxD ?_)
      with_reducible refine sq ?_
      refine st_set (i := 5) (d := enc (r31 : (List (Tp Int)))) (RXo.frz (rxo_call (ds := [enc (v_net : (T3 (List (Str × Int)) (List (T3 Str (Tp Int) Bool)) (List (Str × (Tp Int))))), enc (v29 : (Tp Int)), enc (((Tp.mk []) : (Tp Int)) : (Tp Int)), enc (((Tp.mk []) : (Tp Int)) : (Tp Int))]) (es := r31.map enc) ⟨_, _, _, _, r31, rfl, rfl, h32⟩ (ra_cons (rx_var (d := enc (v_net : (T3 (List (Str × Int)) (List (T3 Str (Tp Int) Bool)) (List (Str × (Tp Int)))))) rfl) (ra_cons (rx_var (d := enc (v29 : (Tp Int))) rfl) (ra_cons (rx_tup (ds := []) ra_nil) (ra_cons (rx_tup (ds := []) ra_nil) ra_nil)))))) E S fun σ F H f E S => ?_
      replace fc := fc.trans f
      have E : EnvR K _ _ [.val (enc (v_net : (T3 (List (Str × Int)) (List (T3 Str (Tp Int) Bool)) (List (Str × (Tp Int)))))), .val (enc (v_made : (T3 (List (Str × Int)) (List (T3 Str (Tp Int) Bool)) (List (Str × (Tp Int)))))), .val (enc (v_many : Int)), .val (enc (x15 : Int)), .val (enc (v29 : (Tp Int))), .val (enc (r31 : (List (Tp Int)))), .un, .un, .un] := E
      have S : Hx K _ _ _ _ [] _ := S
      obtain ⟨r33, h34, h13⟩ := bindE h13
      obtain ⟨l43, h44, h13⟩ := bindE h13
      try (with_reducible refine nxD ?_)
      with_reducible refine sq ?_
      refine st_if (b := (!decide ((r33 : (List (Tp Int))) = l43))) (rt_val (rx_neT (x := (r33 : (List (Tp Int)))) (y := (l43 : (List (Tp Int)))) (RX.h (RXo.frz (rxo_call (ds := [enc (v_made : (T3 (List (Str × Int)) (List (T3 Str (Tp Int) Bool)) (List (Str × (Tp Int))))), enc (v29 : (Tp Int)), enc (((Tp.mk []) : (Tp Int)) : (Tp Int)), enc (((Tp.mk []) : (Tp Int)) : (Tp Int))]) (es := r33.map enc) ⟨_, _, _, _, r33, rfl, rfl, h34⟩ (ra_cons (rx_var (d := enc (v_made : (T3 (List (Str × Int)) (List (T3 Str (Tp Int) Bool)) (List (Str × (Tp Int)))))) rfl) (ra_cons (rx_var (d := enc (v29 : (Tp Int))) rfl) (ra_cons (rx_tup (ds := []) ra_nil) (ra_cons (rx_tup (ds := []) ra_nil) ra_nil))))))) (RX.h (RXo.frz (rxo_mapO (eα := enc) (eβ := enc) (fun x36 => [.val (enc (v_net : (T3 (List (Str × Int)) (List (T3 Str (Tp Int) Bool)) (List (Str × (Tp Int)))))), .val (enc (v_made : (T3 (List (Str × Int)) (List (T3 Str (Tp Int) Bool)) (List (Str × (Tp Int)))))), .val (enc (v_many : Int)), .val (enc (x15 : Int)), .val (enc (v29 : (Tp Int))), .val (enc (r31 : (List (Tp Int)))), .un, .un, .val (enc (x36 : (Tp Int)))]) [8] (ri_list (ys := r31.map enc) (rx_var (d := enc (r31 : (List (Tp Int)))) rfl)) h44 (by decide) (fun x36 _ => (rg_name (i := 8) (d := enc (x36 : (Tp Int))))) (fun x36 _ y h35 D37 acc38 => by obtain ⟨t41, h42, h35⟩ := bindE h35; obtain rfl := Option.some.inj h35; exact (rx_repT (f := enc) h42 (rx_var (d := enc (x36 : (Tp Int))) rfl) (rx_var (d := enc (v_many : Int)) rfl)))))))) E S (fun hc F H f E S => ?_) (fun hc F H f E S => ?_)
      · rw [if_pos hc] at h13
        replace fc := fc.trans f
        obtain rfl := Option.some.inj h13
        obtain rfl := hrt18 _ rfl
        obtain rfl := Option.some.inj hm0
        -- return
        try (with_reducible refine nxD ?_)
        refine st_ret (d := enc (false : Bool)) rx_bl E S fun v F H f S r => ?_
        exact k v F H S.stp r
      · rw [if_neg (by rw [hc]; decide)] at h13
        replace fc := fc.trans f
        refine nxt ?_
        try (with_reducible refine nxD ?_)
        refine (st_if (b := (decide (v_many = (3 : Int)))) (rt_val (rx_eqi (rx_var (d := enc (v_many : Int)) rfl) rx_int)) E S (fun hc F H f E S => ?_) (fun hc F H f E S => ?_))
        · rw [if_pos hc] at h13
          replace fc := fc.trans f
          obtain ⟨l45, h46, h13⟩ := bindE h13
          obtain ⟨fl50, h51, h13⟩ := bindE h13
          try (with_reducible refine nxD ?_)
          refine (st_forF (eα := enc) (fun s48 => [.val (enc (v_net : (T3 (List (Str × Int)) (List (T3 Str (Tp Int) Bool)) (List (Str × (Tp Int)))))), .val (enc (v_made : (T3 (List (Str × Int)) (List (T3 Str (Tp Int) Bool)) (List (Str × (Tp Int)))))), .val (enc (v_many : Int)), .val (enc (x15 : Int)), .val (enc (v29 : (Tp Int))), .val (enc (r31 : (List (Tp Int)))), .un, .un, .un]) (fun s48 => []) E S (ri_range h46 (rx_mul rx_int (len_nat (f := enc) (RX.s (rx_ixT (ds := [enc (v_net.a : (List (Str × Int))), enc (v_net.b : (List (T3 Str (Tp Int) Bool))), enc (v_net.c : (List (Str × (Tp Int))))]) (d := enc (v_net.a : (List (Str × Int)))) rfl (rx_var (d := enc (v_net : (T3 (List (Str × Int)) (List (T3 Str (Tp Int) Bool)) (List (Str × (Tp Int)))))) rfl) rx_int))) (.inl (by decide)))) h51 ⟨.inl rfl, .inl rfl, .inl rfl, .inl rfl, .inl rfl, .inl rfl, .inr rfl, .inr rfl, .inr rfl, trivial⟩ (fun s75 e σ F H f E S => ?_) (fun x49 _ s48 out h47 hrt52 σ F H v _ E S r N B hN hB => ?_))
          · subst e
            replace fc := fc.trans f
            simp only [flK] at h13
            obtain rfl := Option.some.inj h13
            exact hN _ rfl _ _ _ fc (E.weak ⟨.inl rfl, .inl rfl, .inl rfl, .inr rfl, .inr rfl, .inr rfl, .inr rfl, .inr rfl, .inr rfl, trivial⟩) S
          · refine ((rg_name (i := 6) (d := enc (x49 : Int)))).run _ _ _ _ _ E r S.fh fun σ E _ => ?_
            have E : EnvR K _ _ [.val (enc (v_net : (T3 (List (Str × Int)) (List (T3 Str (Tp Int) Bool)) (List (Str × (Tp Int)))))), .val (enc (v_made : (T3 (List (Str × Int)) (List (T3 Str (Tp Int) Bool)) (List (Str × (Tp Int)))))), .val (enc (v_many : Int)), .val (enc (x15 : Int)), .val (enc (v29 : (Tp Int))), .val (enc (r31 : (List (Tp Int)))), .val (enc (x49 : Int)), .un, .un] := E
            have S : Hx K _ _ _ _ [] _ := S
            have fc : Same F F := Same.refl F
            obtain ⟨r53, h54, h47⟩ := bindE h47
            obtain ⟨l63, h64, h47⟩ := bindE h47
            obtain ⟨l73, h74, h47⟩ := bindE h47
            try (with_reducible refine nxD ?_)
            refine (st_if (b := (!decide ((l63 : (List (Option Int))) = (l73.map some)))) (rt_val (rx_neT (x := (l63 : (List (Option Int)))) (y := ((l73.map some) : (List (Option Int)))) (RX.h (RXo.frz (rxo_mapO (eα := enc) (eβ := enc) (fun x56 => [.val (enc (v_net : (T3 (List (Str × Int)) (List (T3 Str (Tp Int) Bool)) (List (Str × (Tp Int)))))), .val (enc (v_made : (T3 (List (Str × Int)) (List (T3 Str (Tp Int) Bool)) (List (Str × (Tp Int)))))), .val (enc (v_many : Int)), .val (enc (x15 : Int)), .val (enc (v29 : (Tp Int))), .val (enc (r31 : (List (Tp Int)))), .val (enc (x49 : Int)), .un, .val (enc (x56 : (Tp Int)))]) [8] (ri_list (ys := r53.map enc) (RXo.frz (rxo_call (ds := [enc (v_made : (T3 (List (Str × Int)) (List (T3 Str (Tp Int) Bool)) (List (Str × (Tp Int))))), enc (v29 : (Tp Int)), enc (((Tp.mk []) : (Tp Int)) : (Tp Int)), enc (((Tp.mk [x49]) : (Tp Int)) : (Tp Int))]) (es := r53.map enc) ⟨_, _, _, _, r53, rfl, rfl, h54⟩ (ra_cons (rx_var (d := enc (v_made : (T3 (List (Str × Int)) (List (T3 Str (Tp Int) Bool)) (List (Str × (Tp Int)))))) rfl) (ra_cons (rx_var (d := enc (v29 : (Tp Int))) rfl) (ra_cons (rx_tup (ds := []) ra_nil) (ra_cons (rx_tup (ds := [enc (x49 : Int)]) (ra_cons (rx_var (d := enc (x49 : Int)) rfl) ra_nil)) ra_nil))))))) h64 (by decide) (fun x56 _ => (rg_name (i := 8) (d := enc (x56 : (Tp Int))))) (fun x56 _ y h55 D57 acc58 => by obtain ⟨r61, h62, h55⟩ := bindE h55; obtain rfl := Option.some.inj h55; exact (rx_call (ds := [enc ((Sq.mk true x56.l) : (Sq Int))]) (d := enc (r61 : (Option Int))) ⟨_, r61, rfl, rfl, h62⟩ (ra_cons (rx_var (d := enc (x56 : (Tp Int))) rfl) ra_nil)))))) (RX.h (rx_someL (RXo.frz (rxo_mapO (eα := enc) (eβ := enc) (fun x66 => [.val (enc (v_net : (T3 (List (Str × Int)) (List (T3 Str (Tp Int) Bool)) (List (Str × (Tp Int)))))), .val (enc (v_made : (T3 (List (Str × Int)) (List (T3 Str (Tp Int) Bool)) (List (Str × (Tp Int)))))), .val (enc (v_many : Int)), .val (enc (x15 : Int)), .val (enc (v29 : (Tp Int))), .val (enc (r31 : (List (Tp Int)))), .val (enc (x49 : Int)), .un, .val (enc (x66 : (Tp Int)))]) [8] (ri_list (ys := r31.map enc) (rx_var (d := enc (r31 : (List (Tp Int)))) rfl)) h74 (by decide) (fun x66 _ => (rg_name (i := 8) (d := enc (x66 : (Tp Int))))) (fun x66 _ y h65 D67 acc68 => by obtain ⟨t71, h72, h65⟩ := bindE h65; obtain rfl := Option.some.inj h65; exact (rx_ixT (atI_map enc h72) (rx_var (d := enc (x66 : (Tp Int))) rfl) rx_int)))))))) E S (fun hc F H f E S => ?_) (fun hc F H f E S => ?_))
            · rw [if_pos hc] at h47
              replace fc := fc.trans f
              obtain rfl := Option.some.inj h47
              obtain rfl := hrt52 _ rfl
              obtain rfl := Option.some.inj h13
              obtain rfl := hrt18 _ rfl
              obtain rfl := Option.some.inj hm0
              -- return
              try (with_reducible refine nxD ?_)
              refine st_ret (d := enc (false : Bool)) rx_bl E S fun v F H f S r => ?_
              exact k v F H S.stp r
            · rw [if_neg (by rw [hc]; decide)] at h47
              replace fc := fc.trans f
              refine nxt ?_
              obtain rfl := Option.some.inj h47
              exact hN _ rfl _ _ _ fc (E.weak ⟨.inl rfl, .inl rfl, .inl rfl, .inl rfl, .inl rfl, .inl rfl, .inr rfl, .inr rfl, .inr rfl, trivial⟩) S
        · rw [if_neg (by rw [hc]; decide)] at h13
          replace fc := fc.trans f
          refine nxt ?_
          obtain rfl := Option.some.inj h13
          exact hN _ rfl _ _ _ fc (E.weak ⟨.inl rfl, .inl rfl, .inl rfl, .inr rfl, .inr rfl, .inr rfl, .inr rfl, .inr rfl, .inr rfl, trivial⟩) S
theorem sc_how_many_bits : FnScope ["bits", "many"] ["bits"] (defScope (top 34)) := ⟨rfl, rfl, rfl, by decide +kernel, rfl, by decide +kernel, by decide +kernel⟩
theorem ok_how_many_bits (D : Dfn K mg "how_many_bits" (top 34) ["bits"]) : Cal P w K mg base 1 "how_many_bits" ["bits"] (SpP K R_how_many_bits) := by
  refine D.cal sc_how_many_bits (sp_len fun ds d h => by obtain ⟨_, _, rfl, _⟩ := h; rfl) fun f cdv A outer s H vs Q E hr h => ?_
  refine ⟨_, (pss_cons (ps_set (i := 1) sc_how_many_bits.nd rfl (Or.inl rfl) pe_int) (pss_cons (ps_while PassesOwn.never (pt_cmpR op_gt (pv 0) pe_int (nomark _)) (pss_cons (ps_set (i := 0) sc_how_many_bits.nd rfl (Or.inl rfl) (pe_op op_and (pv 0) (pe_op op_sub (pv 0) pe_int))) (pss_one (ps_aug (i := 1) sc_how_many_bits.nd rfl (Or.inl rfl) pe_int ip_add)))) (pss_one (ps_ret (pv 1))))), ?_⟩
  obtain ⟨F, ds, d, hw, hF, ⟨v_bits, rr, rfl, rfl, hm0⟩, k⟩ := h
  have E : EnvR K F _ [.val (enc (v_bits : Int)), .un] := EnvR.start (N := ["bits", "many"]) (AsR.of_all hw)
  have S := Hx.start (K := K) hF
  have fc : Same F F := Same.refl F
  unfold m_how_many_bits at hm0
  try (with_reducible refine nxD ?_)
  with_reducible refine sq ?_
  refine st_set (i := 1) (d := enc ((0 : Int) : Int)) rx_int E S fun σ F H f E S => ?_
  replace fc := fc.trans f
  have E : EnvR K _ _ [.val (enc (v_bits : Int)), .val (enc ((0 : Int) : Int))] := E
  have S : Hx K _ _ _ _ [] _ := S
  obtain ⟨s10, h5, hm0⟩ := bindE hm0
  try (with_reducible refine nxD ?_)
  with_reducible refine sq ?_
  refine st_whileS (fun s2 => [.val (enc (s2.1 : Int)), .val (enc (s2.2 : Int))]) (fun s2 => []) E S h5 (fun s2 b h7 => by obtain rfl := Option.some.inj h7; exact (rt_val (rx_gt (rx_var (d := enc (s2.1 : Int)) rfl) rx_int))) ⟨.inl rfl, .inl rfl, trivial⟩ (fun σ F H f E S => ?_) (fun s2 s' _ h1 σ F H _ E S N B hN => ?_)
  · replace fc := fc.trans f
    have E : EnvR K _ _ [.val (enc (s10.1 : Int)), .val (enc (s10.2 : Int))] := E
    have S : Hx K _ _ _ _ [] _ := S
    obtain rfl := Option.some.inj hm0
    -- return
    try (with_reducible refine nxD ?_)
    refine st_ret (d := enc (s10.2 : Int)) (rx_var (d := enc (s10.2 : Int)) rfl) E S fun v F H f S r => ?_
    exact k v F H S.stp r
  · have fc : Same F F := Same.refl F
    obtain ⟨v8, h9, h1⟩ := letE h1
    try (with_reducible refine nxD ?_)
    with_reducible refine sq ?_
    refine st_set (i := 0) (d := enc (v8 : Int)) (rx_as (x := ((Builtin.bitAnd s2.1 (s2.1 - (1 : Int))) : Int)) h9 (rx_band (rx_var (d := enc (s2.1 : Int)) rfl) (rx_sub (rx_var (d := enc (s2.1 : Int)) rfl) rx_int))) E S fun σ F H f E S => ?_
    replace fc := fc.trans f
    have E : EnvR K _ _ [.val (enc (v8 : Int)), .val (enc (s2.2 : Int))] := E
    have S : Hx K _ _ _ _ [] _ := S
    try (with_reducible refine nxD ?_)
    refine (st_aug (i := 1) (x := s2.2) (y := (1 : Int)) rfl rx_int E S fun σ F H f E S => ?_)
    replace fc := fc.trans f
    have E : EnvR K _ _ [.val (enc (v8 : Int)), .val (enc ((s2.2 + (1 : Int)) : Int))] := E
    have S : Hx K _ _ _ _ [] _ := S
    obtain rfl := Option.some.inj h1
    exact hN _ _ _ fc (E.weak ⟨.inl rfl, .inl rfl, trivial⟩) S
theorem sc_matters : FnScope ["net", "plain", "ones", "found", "place", "wrong", "none"] ["net"] (defScope (top 35)) := ⟨rfl, rfl, rfl, by decide +kernel, rfl, by decide +kernel, by decide +kernel⟩
theorem ok_matters (D : Dfn K mg "matters" (top 35) ["net"]) (C_all_wires : Cal P w K mg base 3 "all_wires" ["net"] (SpP K R_all_wires)) (C_free_places : Cal P w K mg base 1 "free_places" ["net"] (SpN K R_free_places)) (C_how_many_bits : Cal P w K mg base 1 "how_many_bits" ["bits"] (SpP K R_how_many_bits)) (C_spoilt : Cal P w K mg base 5 "spoilt" ["net", "plain", "ones", "turned"] (SpP K R_spoilt)) : Cal P w K mg base 6 "matters" ["net"] (SpN K R_matters) := by
  refine D.cal sc_matters (sn_len fun ds d h => by obtain ⟨_, _, rfl, _⟩ := h; rfl) fun f cdv A outer s H vs Q E hr h => ?_
  refine ⟨_, (pss_cons (ps_asg (pe_cal C_all_wires hr (pa_cons (pv 0) pa_nil)) (pg_tup rfl (pgs_cons (pg_name (i := 1) sc_matters.nd rfl (Or.inl rfl)) (pgs_cons (pg_name (i := 2) sc_matters.nd rfl (Or.inl rfl)) pgs_nil)))) (pss_cons (ps_set (i := 3) sc_matters.nd rfl (Or.inl rfl) (pe_lst pa_nil)) (pss_cons (ps_for PassesOwn.never rfl (k_pi_list K (pe_cal C_free_places hr (pa_cons (pv 0) pa_nil))) (pg_name (i := 4) sc_matters.nd rfl (Or.inl rfl)) (pss_cons (ps_asg (pe_cal C_spoilt hr (pa_cons (pv 0) (pa_cons (pv 1) (pa_cons (pv 2) (pa_cons (pe_tup (pa_cons (pv 4) pa_nil)) pa_nil))))) (pg_tup rfl (pgs_cons (pg_name (i := 5) sc_matters.nd rfl (Or.inl rfl)) (pgs_cons (pg_name (i := 6) sc_matters.nd rfl (Or.inl rfl)) pgs_nil)))) (pss_one (ps_expr (pe_bm PySem.F.plainAttrs_list PySem.F.slot_list_append PySem.F.type_list_append mt_append (pv 3) (pa_cons (pe_tup (pa_cons (pv 4) (pa_cons (pe_cal C_how_many_bits hr (pa_cons (pv 5) pa_nil)) (pa_cons (pe_cal C_how_many_bits hr (pa_cons (pe_op op_and (pv 6) (pe_op op_xor (pv 2) (pv 5))) pa_nil)) pa_nil)))) pa_nil)))))) (pss_one (ps_ret (pv 3)))))), ?_⟩
  obtain ⟨F, ds, es, hw, hF, ⟨v_net, rr, rfl, rfl, hm0⟩, k⟩ := h
  have E : EnvR K F _ [.val (enc (v_net : (T3 (List (Str × Int)) (List (T3 Str (Tp Int) Bool)) (List (Str × (Tp Int)))))), .un, .un, .un, .un, .un, .un] := EnvR.start (N := ["net", "plain", "ones", "found", "place", "wrong", "none"]) (AsR.of_all hw)
  have S := Hx.start (K := K) hF
  have fc : Same F F := Same.refl F
  unfold m_matters at hm0
  obtain ⟨r1, h2, hm0⟩ := bindE hm0
  try (with_reducible refine nxD ?_)
  with_reducible refine sq ?_
  refine st_unp (d := enc (r1 : ((List Int) × Int))) (rx_call (ds := [enc (v_net : (T3 (List (Str × Int)) (List (T3 Str (Tp Int) Bool)) (List (Str × (Tp Int)))))]) (d := enc (r1 : ((List Int) × Int))) ⟨_, r1, rfl, rfl, h2⟩ (ra_cons (rx_var (d := enc (v_net : (T3 (List (Str × Int)) (List (T3 Str (Tp Int) Bool)) (List (Str × (Tp Int)))))) rfl) ra_nil)) (rg_tup (ds := [enc (r1.1 : (List Int)), enc (r1.2 : Int)]) (RGs.cons (rg_name (i := 1) (d := enc (r1.1 : (List Int)))) (RGs.cons (rg_name (i := 2) (d := enc (r1.2 : Int))) RGs.nil))) E S fun σ F H f E S => ?_
  replace fc := fc.trans f
  have E : EnvR K _ _ [.val (enc (v_net : (T3 (List (Str × Int)) (List (T3 Str (Tp Int) Bool)) (List (Str × (Tp Int)))))), .val (enc (r1.1 : (List Int))), .val (enc (r1.2 : Int)), .un, .un, .un, .un] := E
  have S : Hx K _ _ _ _ [] _ := S
  obtain ⟨v3, h4, hm0⟩ := letE hm0
  try (with_reducible refine nxD ?_)
  with_reducible refine sq ?_
  refine st_setO (i := 3) (ds := v3.map enc) (rxo_as (f := enc) h4 (rxo_lst (ds := []) ra_nil)) E S fun p_found5 σ F H f E S => ?_
  replace fc := fc.trans f
  have E : EnvR K _ _ [.val (enc (v_net : (T3 (List (Str × Int)) (List (T3 Str (Tp Int) Bool)) (List (Str × (Tp Int)))))), .val (enc (r1.1 : (List Int))), .val (enc (r1.2 : Int)), .adr p_found5, .un, .un, .un] := E
  have S : Hx K _ _ _ _ [⟨p_found5, true, v3.map enc⟩] _ := S
  obtain ⟨r6, h7, hm0⟩ := bindE hm0
  obtain ⟨s22, h12, hm0⟩ := bindE hm0
  try (with_reducible refine nxD ?_)
  with_reducible refine sq ?_
  refine st_forS (eα := enc) (fun s9 => [.val (enc (v_net : (T3 (List (Str × Int)) (List (T3 Str (Tp Int) Bool)) (List (Str × (Tp Int)))))), .val (enc (r1.1 : (List Int))), .val (enc (r1.2 : Int)), .adr p_found5, .un, .un, .un]) (fun s9 => [⟨p_found5, true, s9.map enc⟩]) E S (ri_list (ys := r6.map enc) (RXo.frz (rxo_call (ds := [enc (v_net : (T3 (List (Str × Int)) (List (T3 Str (Tp Int) Bool)) (List (Str × (Tp Int)))))]) (es := r6.map enc) ⟨_, r6, rfl, rfl, h7⟩ (ra_cons (rx_var (d := enc (v_net : (T3 (List (Str × Int)) (List (T3 Str (Tp Int) Bool)) (List (Str × (Tp Int)))))) rfl) ra_nil)))) h12 ⟨.inl rfl, .inl rfl, .inl rfl, .inl rfl, .inr rfl, .inr rfl, .inr rfl, trivial⟩ (fun σ F H f E S => ?_) (fun x10 _ s9 s' h8 σ F H v _ E S r N B hN => ?_)
  · replace fc := fc.trans f
    have E : EnvR K _ _ [.val (enc (v_net : (T3 (List (Str × Int)) (List (T3 Str (Tp Int) Bool)) (List (Str × (Tp Int)))))), .val (enc (r1.1 : (List Int))), .val (enc (r1.2 : Int)), .adr p_found5, .un, .un, .un] := E
    have S : Hx K _ _ _ _ [⟨p_found5, true, s22.map enc⟩] _ := S
    obtain rfl := Option.some.inj hm0
    -- return
    try (with_reducible refine nxD ?_)
    refine st_retA rfl E ?_
    obtain ⟨n1, n2, n3, zs, n4, n5, n6⟩ := S.get (j := 0) rfl
    exact k _ _ _ zs S.stp (n2 rfl) n1 n4 n5 n6
  · refine ((rg_name (i := 4) (d := enc (x10 : Int)))).run _ _ _ _ _ E r S.fh fun σ E _ => ?_
    have E : EnvR K _ _ [.val (enc (v_net : (T3 (List (Str × Int)) (List (T3 Str (Tp Int) Bool)) (List (Str × (Tp Int)))))), .val (enc (r1.1 : (List Int))), .val (enc (r1.2 : Int)), .adr p_found5, .val (enc (x10 : Int)), .un, .un] := E
    have S : Hx K _ _ _ _ [⟨p_found5, true, s9.map enc⟩] _ := S
    have fc : Same F F := Same.refl F
    obtain ⟨r14, h15, h8⟩ := bindE h8
    try (with_reducible refine nxD ?_)
    with_reducible refine sq ?_
    refine st_unp (d := enc (r14 : (Int × Int))) (rx_call (ds := [enc (v_net : (T3 (List (Str × Int)) (List (T3 Str (Tp Int) Bool)) (List (Str × (Tp Int))))), enc (r1.1 : (List Int)), enc (r1.2 : Int), enc (((Tp.mk [x10]) : (Tp Int)) : (Tp Int))]) (d := enc (r14 : (Int × Int))) ⟨_, _, _, _, r14, rfl, rfl, h15⟩ (ra_cons (rx_var (d := enc (v_net : (T3 (List (Str × Int)) (List (T3 Str (Tp Int) Bool)) (List (Str × (Tp Int)))))) rfl) (ra_cons (rx_var (d := enc (r1.1 : (List Int))) rfl) (ra_cons (rx_var (d := enc (r1.2 : Int)) rfl) (ra_cons (rx_tup (ds := [enc (x10 : Int)]) (ra_cons (rx_var (d := enc (x10 : Int)) rfl) ra_nil)) ra_nil))))) (rg_tup (ds := [enc (r14.1 : Int), enc (r14.2 : Int)]) (RGs.cons (rg_name (i := 5) (d := enc (r14.1 : Int))) (RGs.cons (rg_name (i := 6) (d := enc (r14.2 : Int))) RGs.nil))) E S fun σ F H f E S => ?_
    replace fc := fc.trans f
    have E : EnvR K _ _ [.val (enc (v_net : (T3 (List (Str × Int)) (List (T3 Str (Tp Int) Bool)) (List (Str × (Tp Int)))))), .val (enc (r1.1 : (List Int))), .val (enc (r1.2 : Int)), .adr p_found5, .val (enc (x10 : Int)), .val (enc (r14.1 : Int)), .val (enc (r14.2 : Int))] := E
    have S : Hx K _ _ _ _ [⟨p_found5, true, s9.map enc⟩] _ := S
    obtain ⟨r16, h17, h8⟩ := bindE h8
    obtain ⟨r18, h19, h8⟩ := bindE h8
    obtain ⟨u20, h21, h8⟩ := bindE h8
    try (with_reducible refine nxD ?_)
    refine (st_app (j := 0) (ds := s9.map enc) (d := enc ((T3.mk x10 r16 r18) : (T3 Int Int Int))) (appO_map enc h21) rfl (rx_tup (ds := [enc (x10 : Int), enc (r16 : Int), enc (r18 : Int)]) (ra_cons (rx_var (d := enc (x10 : Int)) rfl) (ra_cons (rx_call (ds := [enc (r14.1 : Int)]) (d := enc (r16 : Int)) ⟨_, r16, rfl, rfl, h17⟩ (ra_cons (rx_var (d := enc (r14.1 : Int)) rfl) ra_nil)) (ra_cons (rx_call (ds := [enc ((Builtin.bitAnd r14.2 (Builtin.bitXor r1.2 r14.1)) : Int)]) (d := enc (r18 : Int)) ⟨_, r18, rfl, rfl, h19⟩ (ra_cons (rx_band (rx_var (d := enc (r14.2 : Int)) rfl) (rx_bxor (rx_var (d := enc (r1.2 : Int)) rfl) (rx_var (d := enc (r14.1 : Int)) rfl))) ra_nil)) ra_nil)))) ⟨_, rfl⟩ rfl E S fun F H f E S => ?_)
    replace fc := fc.trans f
    have E : EnvR K _ _ [.val (enc (v_net : (T3 (List (Str × Int)) (List (T3 Str (Tp Int) Bool)) (List (Str × (Tp Int)))))), .val (enc (r1.1 : (List Int))), .val (enc (r1.2 : Int)), .adr p_found5, .val (enc (x10 : Int)), .val (enc (r14.1 : Int)), .val (enc (r14.2 : Int))] := E
    have S : Hx K _ _ _ _ [⟨p_found5, true, u20.map enc⟩] _ := S
    obtain rfl := Option.some.inj h8
    exact hN _ _ _ fc (E.weak ⟨.inl rfl, .inl rfl, .inl rfl, .inl rfl, .inr rfl, .inr rfl, .inr rfl, trivial⟩) S
theorem sc__law_case : FnScope ["pot", "net", "threes", "pairs", "votes", "quiet", "many", "vote", "sure", "deep", "place", "wrong", "none"] ["pot"] (defScope (top 41)) := ⟨rfl, rfl, rfl, by decide +kernel, rfl, by decide +kernel, by decide +kernel⟩
theorem ok__law_case (D : Dfn K mg "_law_case" (top 41) ["pot"]) (C__law_good : Cal P w K mg base 5 "_law_good" ["net", "made", "many"] (SpP K R__law_good)) (C__law_next : Cal P w K mg base 1 "_law_next" ["pot", "many"] (SpPo K R__law_next)) (C__law_plain : Cal P w K mg base 2 "_law_plain" ["pot", "most", "gates"] (SpPo K R__law_plain)) (C_bears : Cal P w K mg base 7 "bears" ["net", "many", "level"] (SpP K R_bears)) (C_in_pairs : Cal P w K mg base 3 "in_pairs" ["net"] (SpP K R_in_pairs)) (C_in_threes : Cal P w K mg base 3 "in_threes" ["net"] (SpP K R_in_threes)) (C_matters : Cal P w K mg base 6 "matters" ["net"] (SpN K R_matters)) (C_size : Cal P w K mg base 1 "size" ["net"] (SpP K R_size)) (C_with_votes : Cal P w K mg base 3 "with_votes" ["net"] (SpP K R_with_votes)) : Cal P w K mg base 8 "_law_case" ["pot"] (SpPo K R__law_case) := by
  refine D.cal sc__law_case (spo_len fun c ds d c' h => by obtain ⟨_, _, _, rfl, _⟩ := h; rfl) fun f cdv A outer s H vs Q E hr h => ?_
  refine ⟨_, (pss_cons (ps_set (i := 1) sc__law_case.nd rfl (Or.inl rfl) (pe_cal C__law_plain hr (pa_cons (pv 0) (pa_cons pe_int (pa_cons (pe_cal C__law_next hr (pa_cons (pv 0) (pa_cons pe_int pa_nil))) pa_nil))))) (pss_cons (ps_set (i := 1) sc__law_case.nd rfl (Or.inl rfl) (pe_tup (pa_cons (pe_ix (k_ix_tup K) (pv 1) pe_int (fun _ _ => rfl)) (pa_cons (pe_ix (k_ix_tup K) (pv 1) pe_int (fun _ _ => rfl)) (pa_cons (pe_slice (k_sl_list K) (pe_ix (k_ix_tup K) (pv 1) pe_int (fun _ _ => rfl)) po_none (po_some pe_int)) pa_nil))))) (pss_cons (ps_set (i := 2) sc__law_case.nd rfl (Or.inl rfl) (pe_cal C_in_threes hr (pa_cons (pv 1) pa_nil))) (pss_cons (ps_set (i := 3) sc__law_case.nd rfl (Or.inl rfl) (pe_cal C_in_pairs hr (pa_cons (pv 1) pa_nil))) (pss_cons (ps_set (i := 4) sc__law_case.nd rfl (Or.inl rfl) (pe_cal C_with_votes hr (pa_cons (pv 1) pa_nil))) (pss_cons (ps_if (PW.pt (pw_or (pt_not (pt_val (pe_cal C__law_good hr (pa_cons (pv 1) (pa_cons (pv 2) (pa_cons pe_int pa_nil)))))) (pw_or (pt_not (pt_val (pe_cal C__law_good hr (pa_cons (pv 1) (pa_cons (pv 3) (pa_cons pe_int pa_nil)))))) (pw_or1 (pt_not (pt_val (pe_cal C__law_good hr (pa_cons (pv 1) (pa_cons (pv 4) (pa_cons pe_int pa_nil)))))))))) (pss_one (ps_ret pe_bl)) pss_nil) (pss_cons (ps_if (PW.pt (pw_or (pt_cmpR (k_neD K hr.units) (pe_cal C_bears hr (pa_cons (pv 2) (pa_cons pe_int (pa_cons pe_str pa_nil)))) (pe_tup (pa_cons pe_str pa_nil)) (nomark _)) (pw_or1 (pt_cmpR (k_neD K hr.units) (pe_cal C_bears hr (pa_cons (pv 4) (pa_cons pe_int (pa_cons pe_str pa_nil)))) (pe_tup (pa_cons pe_str pa_nil)) (nomark _))))) (pss_one (ps_ret pe_bl)) pss_nil) (pss_cons (ps_if (pt_cmpR (k_neD K hr.units) (pe_cal C_bears hr (pa_cons (pv 3) (pa_cons pe_int (pa_cons pe_str pa_nil)))) (pe_tup (pa_cons pe_str pa_nil)) (nomark _)) (pss_one (ps_ret pe_bl)) pss_nil) (pss_cons (ps_set (i := 5) sc__law_case.nd rfl (Or.inl rfl) (pe_cmpR (k_eqD K hr.units) (pe_lc (own := [(("place" : Str), 10), (("wrong" : Str), 11), (("none" : Str), 12)]) (g := (gTup K 3 (gCons (gName 10) (gCons (gName 11) (gCons (gName 12) gNil))))) rfl sc__law_case.nd (k_pi_list K (pe_cal C_matters hr (pa_cons (pv 1) pa_nil))) (blkOk_by (by kernel_rfl)) (fun _ _ _ _ _ => (pg_tup rfl (pgs_cons (pg_name (i := 10) sc__law_case.nd rfl (Or.inl rfl)) (pgs_cons (pg_name (i := 11) sc__law_case.nd rfl (Or.inl rfl)) (pgs_cons (pg_name (i := 12) sc__law_case.nd rfl (Or.inl rfl)) pgs_nil))))) (fun _ _ _ _ _ => (pts_one (pt_cmpR op_gt (pv 11) pe_int (nomark _)))) (fun _ _ _ _ _ => (pv 10))) (pe_lst pa_nil) (nomark _))) (pss_cons (ps_if (pt_cmpR op_ne (pe_cmpR (k_eqD K hr.units) (pe_cal C_bears hr (pa_cons (pv 3) (pa_cons pe_int (pa_cons pe_str pa_nil)))) (pe_tup (pa_cons pe_str pa_nil)) (nomark _)) (pv 5) (nomark _)) (pss_one (ps_ret pe_bl)) pss_nil) (pss_cons (ps_asg (pe_cal C_size hr (pa_cons (pv 1) pa_nil)) (pg_tup rfl (pgs_cons (pg_name (i := 6) sc__law_case.nd rfl (Or.inl rfl)) (pgs_cons (pg_name (i := 7) sc__law_case.nd rfl (Or.inl rfl)) (pgs_cons (pg_name (i := 8) sc__law_case.nd rfl (Or.inl rfl)) (pgs_cons (pg_name (i := 9) sc__law_case.nd rfl (Or.inl rfl)) pgs_nil)))))) (pss_cons (ps_if (PW.pt (pw_or (pt_cmpR (k_neD K hr.units) (pe_cal C_size hr (pa_cons (pv 2) pa_nil)) (pe_tup (pa_cons (pe_op op_mul pe_int (pv 6)) (pa_cons (pe_op op_mul pe_int (pv 7)) (pa_cons (pe_op op_mul pe_int (pv 8)) (pa_cons (pv 9) pa_nil))))) (nomark _)) (pw_or1 (pt_cmpR (k_neD K hr.units) (pe_cal C_size hr (pa_cons (pv 3) pa_nil)) (pe_tup (pa_cons (pe_op op_mul pe_int (pv 6)) (pa_cons (pe_op op_mul pe_int (pv 7)) (pa_cons (pe_op op_mul pe_int (pv 8)) (pa_cons (pv 9) pa_nil))))) (nomark _))))) (pss_one (ps_ret pe_bl)) pss_nil) (pss_one (ps_ret (pe_cmpR (k_eqD K hr.units) (pe_cal C_size hr (pa_cons (pv 4) pa_nil)) (pe_tup (pa_cons (pe_op op_mul pe_int (pv 6)) (pa_cons (pe_op op_add (pe_op op_mul pe_int (pv 7)) (pe_op op_mul pe_int (pv 6))) (pa_cons (pe_op op_mul pe_int (pv 8)) (pa_cons (pe_op op_mul pe_int (pv 9)) pa_nil))))) (nomark _)))))))))))))))), ?_⟩
  obtain ⟨F, p_pot, ws, xs, c, ds, d, c', rfl, hw, hF, hp, hH, hz, hc, ⟨v_pot, rr, rfl, rfl, rfl, rfl, hm0⟩, k⟩ := h
  have E : EnvR K F _ [.adr p_pot, .un, .un, .un, .un, .un, .un, .un, .un, .un, .un, .un, .un] := EnvR.start (N := ["pot", "net", "threes", "pairs", "votes", "quiet", "many", "vote", "sure", "deep", "place", "wrong", "none"]) (AsR.adr (AsR.of_all hw))
  have S := Hx.start1 hF hp hH hz hc
  have fc : Same F F := Same.refl F
  unfold m__law_case at hm0
  obtain ⟨r1, h2, hm0⟩ := bindE hm0
  obtain ⟨r3, h4, hm0⟩ := bindE hm0
  try (with_reducible refine nxD ?_)
  with_reducible refine sq ?_
  refine st_set (i := 1) (d := enc (r3.1 : (T3 (List (Str × Int)) (List (T3 Str (Tp Int) Bool)) (List (Str × (Tp Int)))))) (rx_callo (j := 0) (ds := [enc ((3 : Int) : Int), enc (r1.1 : Int)]) (c := r1.2.map enc) (c' := r3.2.map enc) (d := enc (r3.1 : (T3 (List (Str × Int)) (List (T3 Str (Tp Int) Bool)) (List (Str × (Tp Int)))))) (ra_own rfl (ra_cons rx_int (ra_cons (rx_callo (j := 0) (ds := [enc ((6 : Int) : Int)]) (c := v_pot.map enc) (c' := r1.2.map enc) (d := enc (r1.1 : Int)) (ra_own rfl (ra_cons rx_int ra_nil)) rfl ⟨_, _, r1, rfl, rfl, rfl, rfl, h2⟩) ra_nil))) rfl ⟨_, _, _, r3, rfl, rfl, rfl, rfl, h4⟩) E S fun σ F H f E S => ?_
  replace fc := fc.trans f
  have E : EnvR K _ _ [.adr p_pot, .val (enc (r3.1 : (T3 (List (Str × Int)) (List (T3 Str (Tp Int) Bool)) (List (Str × (Tp Int)))))), .un, .un, .un, .un, .un, .un, .un, .un, .un, .un, .un] := E
  have S : Hx K _ _ _ _ [⟨p_pot, false, r3.2.map enc⟩] _ := S
  obtain ⟨v5, h6, hm0⟩ := letE hm0
  try (with_reducible refine nxD ?_)
  with_reducible refine sq ?_
  refine st_set (i := 1) (d := enc (v5 : (T3 (List (Str × Int)) (List (T3 Str (Tp Int) Bool)) (List (Str × (Tp Int)))))) (rx_as (x := ((T3.mk r3.1.a r3.1.b (cutL r3.1.c none (some (3 : Int)))) : (T3 (List (Str × Int)) (List (T3 Str (Tp Int) Bool)) (List (Str × (Tp Int)))))) h6 (rx_tup (ds := [enc (r3.1.a : (List (Str × Int))), enc (r3.1.b : (List (T3 Str (Tp Int) Bool))), enc ((cutL r3.1.c none (some (3 : Int))) : (List (Str × (Tp Int))))]) (ra_cons (rx_ixT (ds := [enc (r3.1.a : (List (Str × Int))), enc (r3.1.b : (List (T3 Str (Tp Int) Bool))), enc (r3.1.c : (List (Str × (Tp Int))))]) (d := enc (r3.1.a : (List (Str × Int)))) rfl (rx_var (d := enc (r3.1 : (T3 (List (Str × Int)) (List (T3 Str (Tp Int) Bool)) (List (Str × (Tp Int)))))) rfl) rx_int) (ra_cons (rx_ixT (ds := [enc (r3.1.a : (List (Str × Int))), enc (r3.1.b : (List (T3 Str (Tp Int) Bool))), enc (r3.1.c : (List (Str × (Tp Int))))]) (d := enc (r3.1.b : (List (T3 Str (Tp Int) Bool)))) rfl (rx_var (d := enc (r3.1 : (T3 (List (Str × Int)) (List (T3 Str (Tp Int) Bool)) (List (Str × (Tp Int)))))) rfl) rx_int) (ra_cons (RXo.frz (rxo_sliceM (f := enc) (RX.s (rx_ixT (ds := [enc (r3.1.a : (List (Str × Int))), enc (r3.1.b : (List (T3 Str (Tp Int) Bool))), enc (r3.1.c : (List (Str × (Tp Int))))]) (d := enc (r3.1.c : (List (Str × (Tp Int))))) rfl (rx_var (d := enc (r3.1 : (T3 (List (Str × Int)) (List (T3 Str (Tp Int) Bool)) (List (Str × (Tp Int)))))) rfl) rx_int)) ro_none (ro_some rx_int))) ra_nil))))) E S fun σ F H f E S => ?_
  replace fc := fc.trans f
  have E : EnvR K _ _ [.adr p_pot, .val (enc (v5 : (T3 (List (Str × Int)) (List (T3 Str (Tp Int) Bool)) (List (Str × (Tp Int)))))), .un, .un, .un, .un, .un, .un, .un, .un, .un, .un, .un] := E
  have S : Hx K _ _ _ _ [⟨p_pot, false, r3.2.map enc⟩] _ := S
  obtain ⟨r7, h8, hm0⟩ := bindE hm0
  try (with_reducible refine nxD ?_)
  with_reducible refine sq ?_
  refine st_set (i := 2) (d := enc (r7 : (T3 (List (Str × Int)) (List (T3 Str (Tp Int) Bool)) (List (Str × (Tp Int)))))) (rx_call (ds := [enc (v5 : (T3 (List (Str × Int)) (List (T3 Str (Tp Int) Bool)) (List (Str × (Tp Int)))))]) (d := enc (r7 : (T3 (List (Str × Int)) (List (T3 Str (Tp Int) Bool)) (List (Str × (Tp Int)))))) ⟨_, r7, rfl, rfl, h8⟩ (ra_cons (rx_var (d := enc (v5 : (T3 (List (Str × Int)) (List (T3 Str (Tp Int) Bool)) (List (Str × (Tp Int)))))) rfl) ra_nil)) E S fun σ F H f E S => ?_
  replace fc := fc.trans f
  have E : EnvR K _ _ [.adr p_pot, .val (enc (v5 : (T3 (List (Str × Int)) (List (T3 Str (Tp Int) Bool)) (List (Str × (Tp Int)))))), .val (enc (r7 : (T3 (List (Str × Int)) (List (T3 Str (Tp Int) Bool)) (List (Str × (Tp Int)))))), .un, .un, .un, .un, .un, .un, .un, .un, .un, .un] := E
  have S : Hx K _ _ _ _ [⟨p_pot, false, r3.2.map enc⟩] _ := S
  obtain ⟨r9, h10, hm0⟩ := bindE hm0
  try (with_reducible refine nxD ?_)
  with_reducible refine sq ?_
  refine st_set (i := 3) (d := enc (r9 : (T3 (List (Str × Int)) (List (T3 Str (Tp Int) Bool)) (List (Str × (Tp Int)))))) (rx_call (ds := [enc (v5 : (T3 (List (Str × Int)) (List (T3 Str (Tp Int) Bool)) (List (Str × (Tp Int)))))]) (d := enc (r9 : (T3 (List (Str × Int)) (List (T3 Str (Tp Int) Bool)) (List (Str × (Tp Int)))))) ⟨_, r9, rfl, rfl, h10⟩ (ra_cons (rx_var (d := enc (v5 : (T3 (List (Str × Int)) (List (T3 Str (Tp Int) Bool)) (List (Str × (Tp Int)))))) rfl) ra_nil)) E S fun σ F H f E S => ?_
  replace fc := fc.trans f
  have E : EnvR K _ _ [.adr p_pot, .val (enc (v5 : (T3 (List (Str × Int)) (List (T3 Str (Tp Int) Bool)) (List (Str × (Tp Int)))))), .val (enc (r7 : (T3 (List (Str × Int)) (List (T3 Str (Tp Int) Bool)) (List (Str × (Tp Int)))))), .val (enc (r9 : (T3 (List (Str × Int)) (List (T3 Str (Tp Int) Bool)) (List (Str × (Tp Int)))))), .un, .un, .un, .un, .un, .un, .un, .un, .un] := E
  have S : Hx K _ _ _ _ [⟨p_pot, false, r3.2.map enc⟩] _ := S
  obtain ⟨r11, h12, hm0⟩ := bindE hm0
  try (with_reducible refine nxD ?_)
  with_reducible refine sq ?_
  refine st_set (i := 4) (d := enc (r11 : (T3 (List (Str × Int)) (List (T3 Str (Tp Int) Bool)) (List (Str × (Tp Int)))))) (rx_call (ds := [enc (v5 : (T3 (List (Str × Int)) (List (T3 Str (Tp Int) Bool)) (List (Str × (Tp Int)))))]) (d := enc (r11 : (T3 (List (Str × Int)) (List (T3 Str (Tp Int) Bool)) (List (Str × (Tp Int)))))) ⟨_, r11, rfl, rfl, h12⟩ (ra_cons (rx_var (d := enc (v5 : (T3 (List (Str × Int)) (List (T3 Str (Tp Int) Bool)) (List (Str × (Tp Int)))))) rfl) ra_nil)) E S fun σ F H f E S => ?_
  replace fc := fc.trans f
  have E : EnvR K _ _ [.adr p_pot, .val (enc (v5 : (T3 (List (Str × Int)) (List (T3 Str (Tp Int) Bool)) (List (Str × (Tp Int)))))), .val (enc (r7 : (T3 (List (Str × Int)) (List (T3 Str (Tp Int) Bool)) (List (Str × (Tp Int)))))), .val (enc (r9 : (T3 (List (Str × Int)) (List (T3 Str (Tp Int) Bool)) (List (Str × (Tp Int)))))), .val (enc (r11 : (T3 (List (Str × Int)) (List (T3 Str (Tp Int) Bool)) (List (Str × (Tp Int)))))), .un, .un, .un, .un, .un, .un, .un, .un] := E
  have S : Hx K _ _ _ _ [⟨p_pot, false, r3.2.map enc⟩] _ := S
  obtain ⟨r13, h14, hm0⟩ := bindE hm0
  obtain ⟨b22, h15, hm0⟩ := bindE hm0
  try (with_reducible refine nxD ?_)
  with_reducible refine sq ?_
  refine st_if (b := b22) (rt_or (a := (!r13)) (c := b22) (rt_not (rt_b (rx_call (ds := [enc (v5 : (T3 (List (Str × Int)) (List (T3 Str (Tp Int) Bool)) (List (Str × (Tp Int))))), enc (r7 : (T3 (List (Str × Int)) (List (T3 Str (Tp Int) Bool)) (List (Str × (Tp Int))))), enc ((3 : Int) : Int)]) (d := enc (r13 : Bool)) ⟨_, _, _, r13, rfl, rfl, h14⟩ (ra_cons (rx_var (d := enc (v5 : (T3 (List (Str × Int)) (List (T3 Str (Tp Int) Bool)) (List (Str × (Tp Int)))))) rfl) (ra_cons (rx_var (d := enc (r7 : (T3 (List (Str × Int)) (List (T3 Str (Tp Int) Bool)) (List (Str × (Tp Int)))))) rfl) (ra_cons rx_int ra_nil)))))) (fun ha => by rw [if_neg (by rw [ha]; decide)] at h15; obtain ⟨r16, h17, h15⟩ := bindE h15; obtain ⟨b21, h18, h15⟩ := bindE h15; obtain rfl := Option.some.inj h15; exact (rt_or (a := (!r16)) (c := b21) (rt_not (rt_b (rx_call (ds := [enc (v5 : (T3 (List (Str × Int)) (List (T3 Str (Tp Int) Bool)) (List (Str × (Tp Int))))), enc (r9 : (T3 (List (Str × Int)) (List (T3 Str (Tp Int) Bool)) (List (Str × (Tp Int))))), enc ((2 : Int) : Int)]) (d := enc (r16 : Bool)) ⟨_, _, _, r16, rfl, rfl, h17⟩ (ra_cons (rx_var (d := enc (v5 : (T3 (List (Str × Int)) (List (T3 Str (Tp Int) Bool)) (List (Str × (Tp Int)))))) rfl) (ra_cons (rx_var (d := enc (r9 : (T3 (List (Str × Int)) (List (T3 Str (Tp Int) Bool)) (List (Str × (Tp Int)))))) rfl) (ra_cons rx_int ra_nil)))))) (fun ha => by rw [if_neg (by rw [ha]; decide)] at h18; obtain ⟨r19, h20, h18⟩ := bindE h18; obtain rfl := Option.some.inj h18; exact (rt_not (rt_b (rx_call (ds := [enc (v5 : (T3 (List (Str × Int)) (List (T3 Str (Tp Int) Bool)) (List (Str × (Tp Int))))), enc (r11 : (T3 (List (Str × Int)) (List (T3 Str (Tp Int) Bool)) (List (Str × (Tp Int))))), enc ((3 : Int) : Int)]) (d := enc (r19 : Bool)) ⟨_, _, _, r19, rfl, rfl, h20⟩ (ra_cons (rx_var (d := enc (v5 : (T3 (List (Str × Int)) (List (T3 Str (Tp Int) Bool)) (List (Str × (Tp Int)))))) rfl) (ra_cons (rx_var (d := enc (r11 : (T3 (List (Str × Int)) (List (T3 Str (Tp Int) Bool)) (List (Str × (Tp Int)))))) rfl) (ra_cons rx_int ra_nil))))))) (fun ha => by rw [if_pos ha] at h18; obtain rfl := Option.some.inj h18; exact ⟨rfl, rfl⟩))) (fun ha => by rw [if_pos ha] at h15; obtain rfl := Option.some.inj h15; exact ⟨rfl, rfl⟩)) E S (fun hc F H f E S => ?_) (fun hc F H f E S => ?_)
  · rw [if_pos hc] at hm0
    replace fc := fc.trans f
    obtain rfl := Option.some.inj hm0
    -- return
    try (with_reducible refine nxD ?_)
    refine st_ret (d := enc (false : Bool)) rx_bl E S fun v F H f S r => ?_
    obtain ⟨g1, g2, g3, ys, g4, g5, g6⟩ := S.get (j := 0) rfl
    exact k v F H ys S.stp g1 g4 g5 g6 r
  · rw [if_neg (by rw [hc]; decide)] at hm0
    replace fc := fc.trans f
    refine nxt ?_
    obtain ⟨r23, h24, hm0⟩ := bindE hm0
    obtain ⟨b25, h26, hm0⟩ := bindE hm0
    obtain ⟨b32, h27, hm0⟩ := bindE hm0
    try (with_reducible refine nxD ?_)
    with_reducible refine sq ?_
    refine st_if (b := b32) (rt_or (a := (!b25)) (c := b32) (rt_val (rx_neO h26 (RX.h (rx_call (ds := [enc (r7 : (T3 (List (Str × Int)) (List (T3 Str (Tp Int) Bool)) (List (Str × (Tp Int))))), enc ((1 : Int) : Int), enc (("right" : Str) : Str)]) (d := enc (r23 : Ans)) ⟨_, _, _, r23, rfl, rfl, h24⟩ (ra_cons (rx_var (d := enc (r7 : (T3 (List (Str × Int)) (List (T3 Str (Tp Int) Bool)) (List (Str × (Tp Int)))))) rfl) (ra_cons rx_int (ra_cons (rx_str (x := ("right" : Str))) ra_nil))))) (RX.h (rx_tup (ds := [enc (("bears" : Str) : Str)]) (ra_cons (rx_str (x := ("bears" : Str))) ra_nil))))) (fun ha => by rw [if_neg (by rw [ha]; decide)] at h27; obtain ⟨r28, h29, h27⟩ := bindE h27; obtain ⟨b30, h31, h27⟩ := bindE h27; obtain rfl := Option.some.inj h27; exact (rt_val (rx_neO h31 (RX.h (rx_call (ds := [enc (r11 : (T3 (List (Str × Int)) (List (T3 Str (Tp Int) Bool)) (List (Str × (Tp Int))))), enc ((1 : Int) : Int), enc (("right" : Str) : Str)]) (d := enc (r28 : Ans)) ⟨_, _, _, r28, rfl, rfl, h29⟩ (ra_cons (rx_var (d := enc (r11 : (T3 (List (Str × Int)) (List (T3 Str (Tp Int) Bool)) (List (Str × (Tp Int)))))) rfl) (ra_cons rx_int (ra_cons (rx_str (x := ("right" : Str))) ra_nil))))) (RX.h (rx_tup (ds := [enc (("bears" : Str) : Str)]) (ra_cons (rx_str (x := ("bears" : Str))) ra_nil)))))) (fun ha => by rw [if_pos ha] at h27; obtain rfl := Option.some.inj h27; exact ⟨rfl, rfl⟩)) E S (fun hc F H f E S => ?_) (fun hc F H f E S => ?_)
    · rw [if_pos hc] at hm0
      replace fc := fc.trans f
      obtain rfl := Option.some.inj hm0
      -- return
      try (with_reducible refine nxD ?_)
      refine st_ret (d := enc (false : Bool)) rx_bl E S fun v F H f S r => ?_
      obtain ⟨g1, g2, g3, ys, g4, g5, g6⟩ := S.get (j := 0) rfl
      exact k v F H ys S.stp g1 g4 g5 g6 r
    · rw [if_neg (by rw [hc]; decide)] at hm0
      replace fc := fc.trans f
      refine nxt ?_
      obtain ⟨r33, h34, hm0⟩ := bindE hm0
      obtain ⟨b35, h36, hm0⟩ := bindE hm0
      try (with_reducible refine nxD ?_)
      with_reducible refine sq ?_
      refine st_if (b := (!b35)) (rt_val (rx_neO h36 (RX.h (rx_call (ds := [enc (r9 : (T3 (List (Str × Int)) (List (T3 Str (Tp Int) Bool)) (List (Str × (Tp Int))))), enc ((1 : Int) : Int), enc (("safe" : Str) : Str)]) (d := enc (r33 : Ans)) ⟨_, _, _, r33, rfl, rfl, h34⟩ (ra_cons (rx_var (d := enc (r9 : (T3 (List (Str × Int)) (List (T3 Str (Tp Int) Bool)) (List (Str × (Tp Int)))))) rfl) (ra_cons rx_int (ra_cons (rx_str (x := ("safe" : Str))) ra_nil))))) (RX.h (rx_tup (ds := [enc (("bears" : Str) : Str)]) (ra_cons (rx_str (x := ("bears" : Str))) ra_nil))))) E S (fun hc F H f E S => ?_) (fun hc F H f E S => ?_)
      · rw [if_pos hc] at hm0
        replace fc := fc.trans f
        obtain rfl := Option.some.inj hm0
        -- return
        try (with_reducible refine nxD ?_)
        refine st_ret (d := enc (false : Bool)) rx_bl E S fun v F H f S r => ?_
        obtain ⟨g1, g2, g3, ys, g4, g5, g6⟩ := S.get (j := 0) rfl
        exact k v F H ys S.stp g1 g4 g5 g6 r
      · rw [if_neg (by rw [hc]; decide)] at hm0
        replace fc := fc.trans f
        refine nxt ?_
        obtain ⟨r37, h38, hm0⟩ := bindE hm0
        obtain ⟨v43, h44, hm0⟩ := letE hm0
        try (with_reducible refine nxD ?_)
        with_reducible refine sq ?_
        refine st_set (i := 5) (d := enc (v43 : Bool)) (rx_as (x := ((decide ((((r37.filter (fun (x40 : (T3 Int Int Int)) => (decide ((0 : Int) < x40.b)))).map (fun (x40 : (T3 Int Int Int)) => (x40.a : Int))) : (List Int)) = ([] : (List Int)))) : Bool)) h44 (rx_eqT (x := (((r37.filter (fun (x40 : (T3 Int Int Int)) => (decide ((0 : Int) < x40.b)))).map (fun (x40 : (T3 Int Int Int)) => (x40.a : Int))) : (List Int))) (y := (([] : (List Int)) : (List Int))) (RX.h (RXo.frz (rxo_filt (eα := enc) (eβ := enc) (p := (fun (x40 : (T3 Int Int Int)) => (decide ((0 : Int) < x40.b)))) (f := (fun (x40 : (T3 Int Int Int)) => (x40.a : Int))) (fun x40 => [.adr p_pot, .val (enc (v5 : (T3 (List (Str × Int)) (List (T3 Str (Tp Int) Bool)) (List (Str × (Tp Int)))))), .val (enc (r7 : (T3 (List (Str × Int)) (List (T3 Str (Tp Int) Bool)) (List (Str × (Tp Int)))))), .val (enc (r9 : (T3 (List (Str × Int)) (List (T3 Str (Tp Int) Bool)) (List (Str × (Tp Int)))))), .val (enc (r11 : (T3 (List (Str × Int)) (List (T3 Str (Tp Int) Bool)) (List (Str × (Tp Int)))))), .un, .un, .un, .un, .un, .val (enc (x40.a : Int)), .val (enc (x40.b : Int)), .val (enc (x40.c : Int))]) [10, 11, 12] (ri_list (ys := r37.map enc) (RXo.frz (rxo_call (ds := [enc (v5 : (T3 (List (Str × Int)) (List (T3 Str (Tp Int) Bool)) (List (Str × (Tp Int)))))]) (es := r37.map enc) ⟨_, r37, rfl, rfl, h38⟩ (ra_cons (rx_var (d := enc (v5 : (T3 (List (Str × Int)) (List (T3 Str (Tp Int) Bool)) (List (Str × (Tp Int)))))) rfl) ra_nil)))) (by decide) (fun x40 _ => (rg_tup (ds := [enc (x40.a : Int), enc (x40.b : Int), enc (x40.c : Int)]) (RGs.cons (rg_name (i := 10) (d := enc (x40.a : Int))) (RGs.cons (rg_name (i := 11) (d := enc (x40.b : Int))) (RGs.cons (rg_name (i := 12) (d := enc (x40.c : Int))) RGs.nil))))) (fun x40 _ D41 acc42 => (rt_val (rx_gt (rx_var (d := enc (x40.b : Int)) rfl) rx_int))) (fun x40 _ D41 acc42 => (rx_var (d := enc (x40.a : Int)) rfl))))) (RX.h (RXo.frz (rxo_lst (ds := []) ra_nil))))) E S fun σ F H f E S => ?_
        replace fc := fc.trans f
        have E : EnvR K _ _ [.adr p_pot, .val (enc (v5 : (T3 (List (Str × Int)) (List (T3 Str (Tp Int) Bool)) (List (Str × (Tp Int)))))), .val (enc (r7 : (T3 (List (Str × Int)) (List (T3 Str (Tp Int) Bool)) (List (Str × (Tp Int)))))), .val (enc (r9 : (T3 (List (Str × Int)) (List (T3 Str (Tp Int) Bool)) (List (Str × (Tp Int)))))), .val (enc (r11 : (T3 (List (Str × Int)) (List (T3 Str (Tp Int) Bool)) (List (Str × (Tp Int)))))), .val (enc (v43 : Bool)), .un, .un, .un, .un, .un, .un, .un] := E
        have S : Hx K _ _ _ _ [⟨p_pot, false, r3.2.map enc⟩] _ := S
        obtain ⟨r45, h46, hm0⟩ := bindE hm0
        obtain ⟨b47, h48, hm0⟩ := bindE hm0
        try (with_reducible refine nxD ?_)
        with_reducible refine sq ?_
        refine st_if (b := (!decide (b47 = v43))) (rt_val (rx_neb (rx_eqO h48 (RX.h (rx_call (ds := [enc (r9 : (T3 (List (Str × Int)) (List (T3 Str (Tp Int) Bool)) (List (Str × (Tp Int))))), enc ((1 : Int) : Int), enc (("right" : Str) : Str)]) (d := enc (r45 : Ans)) ⟨_, _, _, r45, rfl, rfl, h46⟩ (ra_cons (rx_var (d := enc (r9 : (T3 (List (Str × Int)) (List (T3 Str (Tp Int) Bool)) (List (Str × (Tp Int)))))) rfl) (ra_cons rx_int (ra_cons (rx_str (x := ("right" : Str))) ra_nil))))) (RX.h (rx_tup (ds := [enc (("bears" : Str) : Str)]) (ra_cons (rx_str (x := ("bears" : Str))) ra_nil)))) (rx_var (d := enc (v43 : Bool)) rfl))) E S (fun hc F H f E S => ?_) (fun hc F H f E S => ?_)
        · rw [if_pos hc] at hm0
          replace fc := fc.trans f
          obtain rfl := Option.some.inj hm0
          -- return
          try (with_reducible refine nxD ?_)
          refine st_ret (d := enc (false : Bool)) rx_bl E S fun v F H f S r => ?_
          obtain ⟨g1, g2, g3, ys, g4, g5, g6⟩ := S.get (j := 0) rfl
          exact k v F H ys S.stp g1 g4 g5 g6 r
        · rw [if_neg (by rw [hc]; decide)] at hm0
          replace fc := fc.trans f
          refine nxt ?_
          obtain ⟨r49, h50, hm0⟩ := bindE hm0
          try (with_reducible refine nxD ?_)
          with_reducible refine sq ?_
          refine st_unp (d := enc (r49 : (T4 Int Int Int Int))) (rx_call (ds := [enc (v5 : (T3 (List (Str × Int)) (List (T3 Str (Tp Int) Bool)) (List (Str × (Tp Int)))))]) (d := enc (r49 : (T4 Int Int Int Int))) ⟨_, r49, rfl, rfl, h50⟩ (ra_cons (rx_var (d := enc (v5 : (T3 (List (Str × Int)) (List (T3 Str (Tp Int) Bool)) (List (Str × (Tp Int)))))) rfl) ra_nil)) (rg_tup (ds := [enc (r49.a : Int), enc (r49.b : Int), enc (r49.c : Int), enc (r49.d : Int)]) (RGs.cons (rg_name (i := 6) (d := enc (r49.a : Int))) (RGs.cons (rg_name (i := 7) (d := enc (r49.b : Int))) (RGs.cons (rg_name (i := 8) (d := enc (r49.c : Int))) (RGs.cons (rg_name (i := 9) (d := enc (r49.d : Int))) RGs.nil))))) E S fun σ F H f E S => ?_
          replace fc := fc.trans f
          have E : EnvR K _ _ [.adr p_pot, .val (enc (v5 : (T3 (List (Str × Int)) (List (T3 Str (Tp Int) Bool)) (List (Str × (Tp Int)))))), .val (enc (r7 : (T3 (List (Str × Int)) (List (T3 Str (Tp Int) Bool)) (List (Str × (Tp Int)))))), .val (enc (r9 : (T3 (List (Str × Int)) (List (T3 Str (Tp Int) Bool)) (List (Str × (Tp Int)))))), .val (enc (r11 : (T3 (List (Str × Int)) (List (T3 Str (Tp Int) Bool)) (List (Str × (Tp Int)))))), .val (enc (v43 : Bool)), .val (enc (r49.a : Int)), .val (enc (r49.b : Int)), .val (enc (r49.c : Int)), .val (enc (r49.d : Int)), .un, .un, .un] := E
          have S : Hx K _ _ _ _ [⟨p_pot, false, r3.2.map enc⟩] _ := S
          obtain ⟨r51, h52, hm0⟩ := bindE hm0
          obtain ⟨b56, h53, hm0⟩ := bindE hm0
          try (with_reducible refine nxD ?_)
          with_reducible refine sq ?_
          refine st_if (b := b56) (rt_or (a := (!decide ((r51 : (T4 Int Int Int Int)) = (T4.mk ((3 : Int) * r49.a) ((3 : Int) * r49.b) ((3 : Int) * r49.c) r49.d)))) (c := b56) (rt_val (rx_neT (x := (r51 : (T4 Int Int Int Int))) (y := ((T4.mk ((3 : Int) * r49.a) ((3 : Int) * r49.b) ((3 : Int) * r49.c) r49.d) : (T4 Int Int Int Int))) (RX.h (rx_call (ds := [enc (r7 : (T3 (List (Str × Int)) (List (T3 Str (Tp Int) Bool)) (List (Str × (Tp Int)))))]) (d := enc (r51 : (T4 Int Int Int Int))) ⟨_, r51, rfl, rfl, h52⟩ (ra_cons (rx_var (d := enc (r7 : (T3 (List (Str × Int)) (List (T3 Str (Tp Int) Bool)) (List (Str × (Tp Int)))))) rfl) ra_nil))) (RX.h (rx_tup (ds := [enc (((3 : Int) * r49.a) : Int), enc (((3 : Int) * r49.b) : Int), enc (((3 : Int) * r49.c) : Int), enc (r49.d : Int)]) (ra_cons (rx_mul rx_int (rx_var (d := enc (r49.a : Int)) rfl) (.inl (by decide))) (ra_cons (rx_mul rx_int (rx_var (d := enc (r49.b : Int)) rfl) (.inl (by decide))) (ra_cons (rx_mul rx_int (rx_var (d := enc (r49.c : Int)) rfl) (.inl (by decide))) (ra_cons (rx_var (d := enc (r49.d : Int)) rfl) ra_nil)))))))) (fun ha => by rw [if_neg (by rw [ha]; decide)] at h53; obtain ⟨r54, h55, h53⟩ := bindE h53; obtain rfl := Option.some.inj h53; exact (rt_val (rx_neT (x := (r54 : (T4 Int Int Int Int))) (y := ((T4.mk ((2 : Int) * r49.a) ((2 : Int) * r49.b) ((2 : Int) * r49.c) r49.d) : (T4 Int Int Int Int))) (RX.h (rx_call (ds := [enc (r9 : (T3 (List (Str × Int)) (List (T3 Str (Tp Int) Bool)) (List (Str × (Tp Int)))))]) (d := enc (r54 : (T4 Int Int Int Int))) ⟨_, r54, rfl, rfl, h55⟩ (ra_cons (rx_var (d := enc (r9 : (T3 (List (Str × Int)) (List (T3 Str (Tp Int) Bool)) (List (Str × (Tp Int)))))) rfl) ra_nil))) (RX.h (rx_tup (ds := [enc (((2 : Int) * r49.a) : Int), enc (((2 : Int) * r49.b) : Int), enc (((2 : Int) * r49.c) : Int), enc (r49.d : Int)]) (ra_cons (rx_mul rx_int (rx_var (d := enc (r49.a : Int)) rfl) (.inl (by decide))) (ra_cons (rx_mul rx_int (rx_var (d := enc (r49.b : Int)) rfl) (.inl (by decide))) (ra_cons (rx_mul rx_int (rx_var (d := enc (r49.c : Int)) rfl) (.inl (by decide))) (ra_cons (rx_var (d := enc (r49.d : Int)) rfl) ra_nil))))))))) (fun ha => by rw [if_pos ha] at h53; obtain rfl := Option.some.inj h53; exact ⟨rfl, rfl⟩)) E S (fun hc F H f E S => ?_) (fun hc F H f E S => ?_)
          · rw [if_pos hc] at hm0
            replace fc := fc.trans f
            obtain rfl := Option.some.inj hm0
            -- return
            try (with_reducible refine nxD ?_)
            refine st_ret (d := enc (false : Bool)) rx_bl E S fun v F H f S r => ?_
            obtain ⟨g1, g2, g3, ys, g4, g5, g6⟩ := S.get (j := 0) rfl
            exact k v F H ys S.stp g1 g4 g5 g6 r
          · rw [if_neg (by rw [hc]; decide)] at hm0
            replace fc := fc.trans f
            refine nxt ?_
            obtain ⟨r59, h60, hm0⟩ := bindE hm0
            obtain rfl := Option.some.inj hm0
            -- return
            try (with_reducible refine nxD ?_)
            refine st_ret (d := enc ((decide ((r59 : (T4 Int Int Int Int)) = (T4.mk ((6 : Int) * r49.a) (((3 : Int) * r49.b) + ((3 : Int) * r49.a)) ((6 : Int) * r49.c) ((2 : Int) * r49.d)))) : Bool)) (rx_eqT (x := (r59 : (T4 Int Int Int Int))) (y := ((T4.mk ((6 : Int) * r49.a) (((3 : Int) * r49.b) + ((3 : Int) * r49.a)) ((6 : Int) * r49.c) ((2 : Int) * r49.d)) : (T4 Int Int Int Int))) (RX.h (rx_call (ds := [enc (r11 : (T3 (List (Str × Int)) (List (T3 Str (Tp Int) Bool)) (List (Str × (Tp Int)))))]) (d := enc (r59 : (T4 Int Int Int Int))) ⟨_, r59, rfl, rfl, h60⟩ (ra_cons (rx_var (d := enc (r11 : (T3 (List (Str × Int)) (List (T3 Str (Tp Int) Bool)) (List (Str × (Tp Int)))))) rfl) ra_nil))) (RX.h (rx_tup (ds := [enc (((6 : Int) * r49.a) : Int), enc ((((3 : Int) * r49.b) + ((3 : Int) * r49.a)) : Int), enc (((6 : Int) * r49.c) : Int), enc (((2 : Int) * r49.d) : Int)]) (ra_cons (rx_mul rx_int (rx_var (d := enc (r49.a : Int)) rfl) (.inl (by decide))) (ra_cons (rx_add (rx_mul rx_int (rx_var (d := enc (r49.b : Int)) rfl) (.inl (by decide))) (rx_mul rx_int (rx_var (d := enc (r49.a : Int)) rfl) (.inl (by decide)))) (ra_cons (rx_mul rx_int (rx_var (d := enc (r49.c : Int)) rfl) (.inl (by decide))) (ra_cons (rx_mul rx_int (rx_var (d := enc (r49.d : Int)) rfl) (.inl (by decide))) ra_nil))))))) E S fun v F H f S r => ?_
            obtain ⟨g1, g2, g3, ys, g4, g5, g6⟩ := S.get (j := 0) rfl
            exact k v F H ys S.stp g1 g4 g5 g6 r
theorem sc_law : FnScope ["script", "pot"] ["script"] (defScope (top 42)) := ⟨rfl, rfl, rfl, by decide +kernel, rfl, by decide +kernel, by decide +kernel⟩
theorem ok_law {f_ : Addr} {fd_ : FuncData} (D : Fun K "law" "law" (top 42) f_ fd_) (C__law_case : Cal P w K mg base 8 "_law_case" ["pot"] (SpPo K R__law_case)) (C__law_pots : Cal P w K mg base 1 "_law_pots" ["script"] (SpPots K)) : FnOk P w K mg base CX0 9 f_ fd_ ["script"] (SpP K R_law) := by
  refine D.ok sc_law (sp_len fun ds d h => by obtain ⟨_, _, rfl, _⟩ := h; rfl) fun cdv A outer s H vs Q E hr h => ?_
  refine ⟨_, (pss_cons (ps_for PassesOwn.never rfl (k_pi_list K (pe_cal C__law_pots hr (pa_cons (pe_slice (k_sl_list K) (pv 0) po_none (po_some pe_int)) pa_nil))) (pg_name (i := 1) sc_law.nd rfl (Or.inl rfl)) (pss_one (ps_if (pt_not (pt_val (pe_cal C__law_case hr (pa_cons (pv 1) pa_nil)))) (pss_one (ps_ret pe_bl)) pss_nil))) (pss_one (ps_ret pe_bl))), ?_⟩
  obtain ⟨F, ds, d, hw, hF, ⟨v_script, rr, rfl, rfl, hm0⟩, k⟩ := h
  have E : EnvR K F _ [.val (enc (v_script : (List Int))), .un] := EnvR.start (N := ["script", "pot"]) (AsR.of_all hw)
  have S := Hx.start (K := K) hF
  have fc : Same F F := Same.refl F
  unfold m_law at hm0
  obtain ⟨fl3, h4, hm0⟩ := bindE hm0
  try (with_reducible refine nxD ?_)
  with_reducible refine sq ?_
  refine st_forP (j := 1) (ns := (cutL v_script none (some (2 : Int)))) [.val (enc (v_script : (List Int))), .un] E S (RXo.frz (rxo_sliceM (f := enc) (RX.s (rx_var (d := enc (v_script : (List Int))) rfl)) ro_none (ro_some rx_int))) h4 ⟨.inl rfl, .inr rfl, trivial⟩ (fun _ e σ F H f E S => ?_) (fun c2 out h1 hrt7 σ F H p_pot5 Or6 _ E S N B hN hB => ?_)
  · subst e
    replace fc := fc.trans f
    simp only [flK] at hm0
    obtain rfl := Option.some.inj hm0
    -- return
    try (with_reducible refine nxD ?_)
    refine st_ret (d := enc (true : Bool)) rx_bl E S fun v F H f S r => ?_
    exact k v F H S.stp r
  · have E : EnvR K _ _ [.val (enc (v_script : (List Int))), .adr p_pot5] := E
    have S : Hx K _ _ _ _ (⟨p_pot5, true, ([c2, 0] : List Int).map enc⟩ :: Or6) _ := S
    have fc : Same F F := Same.refl F
    obtain ⟨r8, h9, h1⟩ := bindE h1
    try (with_reducible refine nxD ?_)
    refine (st_if (b := (!r8.1)) (rt_not (rt_b (rx_callo (j := 0) (ds := []) (c := ([c2, 0] : List Int).map enc) (c' := r8.2.map enc) (d := enc (r8.1 : Bool)) (ra_own rfl ra_nil) rfl ⟨_, r8, rfl, rfl, rfl, rfl, h9⟩))) E S (fun hc F H f E S => ?_) (fun hc F H f E S => ?_))
    · rw [if_pos hc] at h1
      replace fc := fc.trans f
      obtain rfl := Option.some.inj h1
      obtain rfl := hrt7 _ rfl
      obtain rfl := Option.some.inj hm0
      -- return
      try (with_reducible refine nxD ?_)
      refine st_ret (d := enc (false : Bool)) rx_bl E S fun v F H f S r => ?_
      exact k v F H S.stp r
    · rw [if_neg (by rw [hc]; decide)] at h1
      replace fc := fc.trans f
      refine nxt ?_
      obtain rfl := Option.some.inj h1
      exact hN _ rfl _ _ _ fc (E.weak ⟨.inl rfl, .inr rfl, trivial⟩) (S.drop 0)
end
end W

namespace TL
open PySem L2
/-! ### whole numbers as rows of bits -/
theorem bAnd (x y : Nat) : Builtin.bitAnd (x : Int) (y : Int) = ((x &&& y : Nat) : Int) := by
  unfold Builtin.bitAnd
  rw [decide_eq_true (by omega : (0 : Int) ≤ (x : Int)), decide_eq_true (by omega : (0 : Int) ≤ (y : Int))]
  simp only [Int.toNat_natCast]
theorem bNN (x : Int) : Builtin.bitNot (Builtin.bitNot x) = x := by unfold Builtin.bitNot; omega
theorem bOr (x y : Nat) : Builtin.bitOr (x : Int) (y : Int) = ((x ||| y : Nat) : Int) := by
  unfold Builtin.bitOr Builtin.bitAnd
  have h : ∀ z : Nat, decide ((0 : Int) ≤ Builtin.bitNot (z : Int)) = false := fun z => decide_eq_false (by unfold Builtin.bitNot; omega)
  rw [h, h]
  simp only [bNN, Int.toNat_natCast]
theorem or_xor_and : ∀ (x y : Nat), (x ||| y) = (x ^^^ y) + (x &&& y) := by
  intro x
  induction x using Nat.strongRecOn with
  | _ x ih =>
    intro y
    rcases Nat.eq_zero_or_pos x with e | e
    · subst e; simp
    · have h := ih (x / 2) (by omega) (y / 2)
      have a1 := Nat.div_add_mod (x ||| y) 2
      have a2 := Nat.div_add_mod (x ^^^ y) 2
      have a3 := Nat.div_add_mod (x &&& y) 2
      rw [Nat.or_div_two] at a1
      rw [Nat.xor_div_two] at a2
      rw [Nat.and_div_two] at a3
      have m : (x ||| y) % 2 = (x ^^^ y) % 2 + (x &&& y) % 2 := by
        have b : ∀ z : Nat, z % 2 = (z.testBit 0).toNat := fun z => by
          rw [Nat.testBit_zero]
          rcases Nat.mod_two_eq_zero_or_one z with e | e <;> rw [e] <;> rfl
        rw [b, b, b, Nat.testBit_or, Nat.testBit_xor, Nat.testBit_and]
        cases x.testBit 0 <;> cases y.testBit 0 <;> rfl
      omega
theorem bXor (x y : Nat) : Builtin.bitXor (x : Int) (y : Int) = ((x ^^^ y : Nat) : Int) := by
  unfold Builtin.bitXor
  rw [bOr, bAnd]
  have := or_xor_and x y
  omega
theorem bAndNot (x y : Nat) : Builtin.bitAnd (x : Int) (Builtin.bitNot (y : Int)) = (x : Int) - ((x &&& y : Nat) : Int) := by
  unfold Builtin.bitAnd
  rw [decide_eq_true (by omega : (0 : Int) ≤ (x : Int)), decide_eq_false (by unfold Builtin.bitNot; omega : ¬(0 : Int) ≤ Builtin.bitNot (y : Int))]
  simp only [bNN, Int.toNat_natCast]
/-- the number of n bits -/
def mkN : Nat → (Nat → Bool) → Nat
  | 0, _ => 0
  | n + 1, f => 2 ^ n * (f n).toNat + mkN n f
theorem mkN_lt : ∀ (n : Nat) (f : Nat → Bool), mkN n f < 2 ^ n
  | 0, _ => Nat.one_pos
  | n + 1, f => by
    have := mkN_lt n f
    unfold mkN
    rw [Nat.pow_succ]
    cases f n
    · simp only [Bool.toNat_false]; omega
    · simp only [Bool.toNat_true]; omega
theorem mkN_bit : ∀ (n : Nat) (f : Nat → Bool) (i : Nat), (mkN n f).testBit i = (decide (i < n) && f i)
  | 0, f, i => by unfold mkN; rw [Nat.zero_testBit]; simp
  | n + 1, f, i => by
    unfold mkN
    rw [Nat.testBit_two_pow_mul_add _ (mkN_lt n f), mkN_bit n f i]
    by_cases h : i < n
    · rw [if_pos h, decide_eq_true h, decide_eq_true (by omega)]
    · rw [if_neg h]
      by_cases e : i = n
      · subst e
        rw [decide_eq_true (by omega), Nat.sub_self]
        cases f i <;> rfl
      · rw [decide_eq_false (by omega)]
        obtain ⟨k, hk⟩ : ∃ k, i - n = k + 1 := ⟨i - n - 1, by omega⟩
        rw [hk]
        cases f n
        · simp
        · show Nat.testBit 1 (k + 1) = _
          rw [Nat.testBit_succ]; simp
theorem bits_eq {n x y : Nat} (hx : x < 2 ^ n) (hy : y < 2 ^ n) (h : ∀ i, i < n → x.testBit i = y.testBit i) : x = y := Nat.eq_of_testBit_eq fun i => by
  rcases Nat.lt_or_ge i n with q | q
  · exact h i q
  · rw [Nat.testBit_lt_two_pow (Nat.lt_of_lt_of_le hx (Nat.pow_le_pow_right (by omega) q)), Nat.testBit_lt_two_pow (Nat.lt_of_lt_of_le hy (Nat.pow_le_pow_right (by omega) q))]
theorem mkN_is {n x : Nat} {f : Nat → Bool} (hx : x < 2 ^ n) (h : ∀ i, i < n → x.testBit i = f i) : x = mkN n f := bits_eq hx (mkN_lt n f) fun i q => by rw [h i q, mkN_bit, decide_eq_true q]; rfl
def mk (n : Nat) (f : Nat → Bool) : Int := (mkN n f : Nat)
theorem mk_nn (n : Nat) (f : Nat → Bool) : 0 ≤ mk n f := Int.natCast_nonneg _
theorem mk_congr {n : Nat} {f g : Nat → Bool} (h : ∀ i, i < n → f i = g i) : mk n f = mk n g := by
  unfold mk
  rw [mkN_is (f := g) (mkN_lt n f) fun i q => by rw [mkN_bit, decide_eq_true q, h i q]; rfl]
theorem mk_inj {n : Nat} {f g : Nat → Bool} (h : mk n f = mk n g) : ∀ i, i < n → f i = g i := fun i q => by
  have e : mkN n f = mkN n g := Int.ofNat.inj h
  have := congrArg (fun x => x.testBit i) e
  simp only [mkN_bit, decide_eq_true q, Bool.true_and] at this
  exact this
theorem mk_and (n : Nat) (f g : Nat → Bool) : Builtin.bitAnd (mk n f) (mk n g) = mk n fun i => f i && g i := by
  unfold mk
  rw [bAnd, mkN_is (f := fun i => f i && g i) (Nat.and_lt_two_pow _ (mkN_lt n g)) fun i q => ?_]
  rw [Nat.testBit_and, mkN_bit, mkN_bit, decide_eq_true q]; rfl
theorem mk_or (n : Nat) (f g : Nat → Bool) : Builtin.bitOr (mk n f) (mk n g) = mk n fun i => f i || g i := by
  unfold mk
  rw [bOr, mkN_is (f := fun i => f i || g i) (Nat.or_lt_two_pow (mkN_lt n f) (mkN_lt n g)) fun i q => ?_]
  rw [Nat.testBit_or, mkN_bit, mkN_bit, decide_eq_true q]; rfl
theorem mk_xor (n : Nat) (f g : Nat → Bool) : Builtin.bitXor (mk n f) (mk n g) = mk n fun i => f i ^^ g i := by
  unfold mk
  rw [bXor, mkN_is (f := fun i => f i ^^ g i) (Nat.xor_lt_two_pow (mkN_lt n f) (mkN_lt n g)) fun i q => ?_]
  rw [Nat.testBit_xor, mkN_bit, mkN_bit, decide_eq_true q]; rfl
theorem mk_one (n : Nat) : (2 : Int) ^ n - 1 = mk n fun _ => true := by
  unfold mk
  have h := Nat.two_pow_pos n
  rw [← mkN_is (x := 2 ^ n - 1) (f := fun _ => true) (by omega) fun i q => by rw [Nat.testBit_two_pow_sub_one, decide_eq_true q]]
  rw [Int.natCast_sub h, Int.natCast_pow]; rfl
theorem mk_zero (n : Nat) : (0 : Int) = mk n fun _ => false := by
  unfold mk
  rw [← mkN_is (x := 0) (f := fun _ => false) (Nat.two_pow_pos n) fun i _ => Nat.zero_testBit i]; rfl
theorem mk_not (n : Nat) (f : Nat → Bool) : Builtin.bitXor (mk n fun _ => true) (mk n f) = mk n fun i => !f i := by
  rw [mk_xor]
  exact mk_congr fun i _ => by cases f i <;> rfl
theorem mk_andnot (n : Nat) (f g : Nat → Bool) : Builtin.bitAnd (mk n f) (Builtin.bitNot (mk n g)) = mk n fun i => f i && !g i := by
  have a := mk_and n f g
  unfold mk at a ⊢
  rw [bAndNot]
  rw [bAnd] at a
  rw [a]
  have e : mkN n f = mkN n (fun i => f i && !g i) + mkN n (fun i => f i && g i) := by
    clear a
    induction n with
    | zero => rfl
    | succ n ih =>
      show 2 ^ n * (f n).toNat + mkN n f = 2 ^ n * (f n && !g n).toNat + mkN n (fun i => f i && !g i) + (2 ^ n * (f n && g n).toNat + mkN n fun i => f i && g i)
      rw [ih]
      cases f n <;> cases g n <;> simp <;> omega
  omega
theorem mk_eq0 {n : Nat} {f : Nat → Bool} : mk n f = 0 ↔ ∀ i, i < n → f i = false :=
  ⟨fun h => mk_inj (h.trans (mk_zero n)), fun h => (mk_congr h).trans (mk_zero n).symm⟩
/-- one bit of a number -/
theorem bit1 (x k : Nat) : Builtin.bitAnd ((x : Int) / 2 ^ k) 1 = b2n (x.testBit k) := by
  have e : (x : Int) / 2 ^ k = ((x / 2 ^ k : Nat) : Int) := by rw [Int.natCast_ediv, Int.natCast_pow]; rfl
  rw [e, show (1 : Int) = ((1 : Nat) : Int) from rfl, bAnd, Nat.and_one_is_mod, Nat.testBit_eq_decide_div_mod_eq]
  rcases Nat.mod_two_eq_zero_or_one (x / 2 ^ k) with q | q <;> rw [q] <;> rfl
theorem mk_bit {n : Nat} {f : Nat → Bool} {k : Nat} (h : k < n) : Builtin.bitAnd (mk n f / 2 ^ k) 1 = b2n (f k) := by
  unfold mk
  rw [bit1, mkN_bit, decide_eq_true h]; rfl
theorem mk_succ (n : Nat) (f : Nat → Bool) : mk (n + 1) f = mk n f + b2n (f n) * 2 ^ n := by
  unfold mk
  show ((2 ^ n * (f n).toNat + mkN n f : Nat) : Int) = _
  rw [Int.natCast_add, Int.natCast_mul, Int.natCast_pow]
  cases f n
  · simp [b2n]
  · simp [b2n]; omega
theorem rngL_succ (lo : Int) (n : Nat) : rngL lo (n + 1) = rngL lo n ++ [lo + n] := by
  unfold rngL
  rw [List.range_succ, List.map_append]; rfl
theorem sum_mk (f : Nat → Bool) : ∀ n : Nat, ((rngL 0 n).map fun x : Int => b2n (f x.toNat) * 2 ^ x.toNat).sum = mk n f
  | 0 => rfl
  | n + 1 => by
    rw [rngL_succ, List.map_append, List.sum_append, sum_mk f n, mk_succ]
    simp
/-- how many bits are 1 -/
def cntB : Nat → (Nat → Bool) → Nat
  | 0, _ => 0
  | n + 1, f => cntB n f + (f n).toNat
theorem cntB_le : ∀ (n : Nat) (f : Nat → Bool), cntB n f ≤ n
  | 0, _ => Nat.le_refl _
  | n + 1, f => by have := cntB_le n f; unfold cntB; cases f n <;> simp <;> omega
theorem cntB_congr : ∀ {n : Nat} {f g : Nat → Bool}, (∀ i, i < n → f i = g i) → cntB n f = cntB n g
  | 0, _, _, _ => rfl
  | n + 1, f, g, h => by unfold cntB; rw [cntB_congr fun i q => h i (by omega), h n (by omega)]
theorem cntB_zero {n : Nat} {f : Nat → Bool} (h : ∀ i, i < n → f i = false) : cntB n f = 0 := by
  induction n with
  | zero => rfl
  | succ n ih => unfold cntB; rw [ih fun i q => h i (by omega), h n (by omega)]; rfl
theorem cntB_drop {f : Nat → Bool} {j : Nat} (hj : f j = true) : ∀ {n : Nat}, j < n → cntB n f = cntB n (fun i => f i && decide (i ≠ j)) + 1
  | 0, h => by omega
  | n + 1, h => by
    unfold cntB
    by_cases e : j = n
    · subst e
      rw [cntB_congr (g := fun i => f i && decide (i ≠ j)) fun i q => by rw [decide_eq_true (by omega)]; simp, hj]
      simp
    · rw [cntB_drop hj (by omega : j < n)]
      have z : (fun i => f i && decide (i ≠ j)) n = f n := by
        show (f n && decide (n ≠ j)) = f n
        rw [decide_eq_true (by omega : n ≠ j)]; simp
      rw [z]
      omega
/-- the first bit that is 1 -/
theorem low_bit : ∀ (n : Nat) (f : Nat → Bool), (∃ i, i < n ∧ f i = true) → ∃ j, j < n ∧ f j = true ∧ ∀ i, i < j → f i = false
  | 0, f, ⟨i, h, _⟩ => by omega
  | n + 1, f, ⟨i, h, q⟩ => by
    by_cases c : ∃ i, i < n ∧ f i = true
    · obtain ⟨j, a, b, d⟩ := low_bit n f c
      exact ⟨j, by omega, b, d⟩
    · have e : i = n := by
        rcases Nat.lt_or_ge i n with z | z
        · exact absurd ⟨i, z, q⟩ c
        · omega
      subst e
      refine ⟨i, h, q, fun k hk => ?_⟩
      cases z : f k with
      | false => rfl
      | true => exact absurd ⟨k, hk, z⟩ c
theorem clear_low {n : Nat} {f : Nat → Bool} {j : Nat} (h : j < n) (hj : f j = true) (hl : ∀ i, i < j → f i = false) : Builtin.bitAnd (mk n f) (mk n f - 1) = mk n fun i => f i && decide (i ≠ j) := by
  have x1 : mkN n f % 2 ^ (j + 1) = 2 ^ j := by
    apply Nat.eq_of_testBit_eq
    intro i
    rw [Nat.testBit_mod_two_pow, mkN_bit, Nat.testBit_two_pow]
    by_cases q : i < j
    · rw [hl i q, decide_eq_false (by omega : ¬j = i)]; simp
    · by_cases e : i = j
      · subst e; rw [hj]; simp; omega
      · rw [decide_eq_false (by omega : ¬i < j + 1), decide_eq_false (by omega : ¬j = i)]; simp
  have x2 := Nat.div_add_mod (mkN n f) (2 ^ (j + 1))
  rw [x1] at x2
  generalize ea : mkN n f / 2 ^ (j + 1) = a at x2
  have p := Nat.two_pow_pos j
  have pp : 2 ^ j < 2 ^ (j + 1) := by rw [Nat.pow_succ]; omega
  have x3 : mkN n f - 1 = 2 ^ (j + 1) * a + (2 ^ j - 1) := by omega
  have x4 : mk n f - 1 = ((mkN n f - 1 : Nat) : Int) := by unfold mk; omega
  rw [x4]
  unfold mk
  rw [bAnd]
  refine congrArg _ (mkN_is (Nat.lt_of_le_of_lt Nat.and_le_left (mkN_lt n f)) fun i q => ?_)
  rw [Nat.testBit_and, x3, Nat.testBit_two_pow_mul_add _ (by omega), mkN_bit, decide_eq_true q, Nat.testBit_two_pow_sub_one]
  by_cases c : i < j + 1
  · rw [if_pos c]
    by_cases e : i = j
    · subst e; simp
    · rw [hl i (by omega)]; simp
  · rw [if_neg c]
    have e1 : (mkN n f).testBit i = f i := by rw [mkN_bit, decide_eq_true q]; rfl
    rw [← x2, Nat.testBit_two_pow_mul_add _ pp, if_neg c] at e1
    rw [e1, decide_eq_true (by omega : i ≠ j)]
    cases f i <;> rfl
end TL

namespace W
open PySem L2 TL
open Enc
abbrev Net := T3 (List (Str × Int)) (List (T3 Str (Tp Int) Bool)) (List (Str × (Tp Int)))
abbrev Gt := T3 Str (Tp Int) Bool
theorem bq {α β : Type} {m : Option α} {x : α} {f : α → Option β} {y : Option β} (e : m = some x) (h : f x = y) : m.bind f = y := by
  subst e
  exact h
theorem oq {α β : Type} {m : Option α} {x : α} {f : α → Option β} {P : β → Prop} (e : m = some x) (h : Ok (f x) P) : Ok (m.bind f) P := by
  subst e
  exact h
theorem bsome {α : Type} (m : Option α) : (m.bind fun x => some x) = m := by cases m <;> rfl
theorem rngL_cons (lo : Int) (n : Nat) : rngL lo (n + 1) = lo :: rngL (lo + 1) n := by
  unfold rngL
  rw [List.range_succ_eq_map, List.map_cons, List.map_map]
  congr 1
  · simp
  · refine List.map_congr_left fun i _ => ?_
    show lo + ((i + 1 : Nat) : Int) = lo + 1 + (i : Int)
    omega
def kinds5 : List Str := [("not" : Str), ("and" : Str), ("or" : Str), ("xor" : Str), ("vote" : Str)]
def cnt (kd : Str) : Int := (dlit [(("not" : Str), (1 : Int)), (("vote" : Str), (3 : Int))] kd).getD (2 : Int)
def GtOk (top : Int) (g : Gt) : Prop := g.a ∈ kinds5 ∧ (g.b.l.length : Int) = cnt g.a ∧ ∀ w ∈ g.b.l, 0 ≤ w ∧ w < top
theorem cnt_in {kd : Str} (h : kd ∈ kinds5) : 1 ≤ cnt kd ∧ cnt kd ≤ 3 := mem_dec (xs := kinds5) (fun t => 1 ≤ cnt t ∧ cnt t ≤ 3) (by decide +kernel) kd h
theorem kd_ok {kd : Str} (h : kd ∈ kinds5) : EqD.ok kd = true := mem_dec (xs := kinds5) (fun t => EqD.ok t = true) (by decide +kernel) kd h
theorem gt_ok {top : Int} {g : Gt} (h : GtOk top g) : EqD.ok g = true := by
  show (EqD.ok g.a && (g.b.l.all (fun _ => true) && true)) = true
  rw [kd_ok h.1]; simp
def ah (n : Net) : Int := (n.a.map (fun x => x.2)).sum
/-- a net that can be run -/
structure Wf (n : Net) : Prop where
  al : n.a.length ≤ 6
  w : ∀ x ∈ n.a, 0 ≤ x.2 ∧ x.2 ≤ 3
  gl : n.b.length ≤ 400
  gs : ∀ (i : Nat) g, n.b[i]? = some g → GtOk (ah n + (i : Int)) g
  cl : n.c.length ≤ 1000
  os : ∀ o ∈ n.c, (1 ≤ o.2.l.length ∧ o.2.l.length ≤ 3) ∧ ∀ w ∈ o.2.l, 0 ≤ w ∧ w < ah n + (n.b.length : Int)
theorem sum_le3 {xs : List (Str × Int)} (h : ∀ x ∈ xs, 0 ≤ x.2 ∧ x.2 ≤ 3) : 0 ≤ (xs.map (fun x => x.2)).sum ∧ (xs.map (fun x => x.2)).sum ≤ 3 * (xs.length : Int) := by
  induction xs with
  | nil => simp
  | cons x xs ih =>
    have h1 := ih fun y hy => h y (List.mem_cons_of_mem _ hy)
    have h2 := h x (List.mem_cons_self ..)
    rw [List.map_cons, List.sum_cons, List.length_cons]
    omega
theorem Wf.ah {n : Net} (h : Wf n) : 0 ≤ ah n ∧ ah n ≤ 18 := by
  have := sum_le3 h.w
  have := h.al
  unfold W.ah
  omega
/-! ### what the wires tell at one input -/
abbrev Bs := List Bool
def atB (s : Bs) (w : Int) : Bool := s.getD w.toNat false
def gB (kd : Str) (l : Bs) : Bool :=
  if kd = ("not" : Str) then !l.getD 0 false
  else if kd = ("and" : Str) then l.getD 0 false && l.getD 1 false
  else if kd = ("or" : Str) then l.getD 0 false || l.getD 1 false
  else if kd = ("xor" : Str) then l.getD 0 false ^^ l.getD 1 false
  else (l.getD 0 false && l.getD 1 false || l.getD 0 false && l.getD 2 false) || l.getD 1 false && l.getD 2 false
def goB (T : Int → Bool) : List Gt → Int → Bs → Bs
  | [], _, s => s
  | g :: gs, p, s => goB T gs (p + 1) (s ++ [gB g.a (g.b.l.map (atB s)) ^^ T p])
def repB (B : Int → Bool) (v : Bool) : Nat → Bs → Bs
  | 0, s => s
  | m + 1, s => repB B v m (s ++ [v ^^ B s.length])
def insB (B : Int → Bool) : List (Str × Int) → Nat → Bs → Bs → Bs
  | [], _, _, s => s
  | x :: xs, k, b, s => insB B xs (k + 1) b (repB B (b.getD k false) x.2.toNat s)
def rdB (l : Bs) : Bool × Bool := if l.length = 1 then (l.getD 0 false, false) else if l.length = 2 then (l.getD 0 false && l.getD 1 false, l.getD 0 false ^^ l.getD 1 false) else (gB ("vote" : Str) l, false)
/-- all wires -/
def WB (n : Net) (b : Bs) (T B : Int → Bool) : Bs := goB T n.b 0 (insB B n.a 0 b [])
def no : Int → Bool := fun _ => false
def inT (l : List Int) : Int → Bool := fun p => decide (p ∈ l)
theorem inT_nil : inT [] = no := by funext p; simp [inT, no]
theorem goB_len (T : Int → Bool) : ∀ (gs : List Gt) (p : Int) (s : Bs), (goB T gs p s).length = s.length + gs.length
  | [], _, s => rfl
  | g :: gs, p, s => by unfold goB; rw [goB_len T gs]; simp; omega
theorem getD_app (s : Bs) (v : Bool) (k : Nat) : (s ++ [v]).getD k false = if k < s.length then s.getD k false else if k = s.length then v else false := by
  rw [List.getD_eq_getElem?_getD, List.getD_eq_getElem?_getD, List.getElem?_append]
  split
  · rfl
  · rename_i h
    split
    · rename_i e; subst e; simp
    · rw [List.getElem?_eq_none (by simp; omega)]; rfl
theorem atB_app (s : Bs) (v : Bool) (w : Int) (h0 : 0 ≤ w) : atB (s ++ [v]) w = if w < s.length then atB s w else if w = s.length then v else false := by
  unfold atB
  rw [getD_app]
  by_cases c : w < s.length
  · rw [if_pos c, if_pos (by omega)]
  · rw [if_neg c, if_neg (by omega)]
    by_cases e : w = s.length
    · rw [if_pos e, if_pos (by omega)]
    · rw [if_neg e, if_neg (by omega)]
theorem goB_low (T : Int → Bool) : ∀ (gs : List Gt) (p : Int) (s : Bs) (w : Int), 0 ≤ w → w < s.length → atB (goB T gs p s) w = atB s w
  | [], _, s, w, _, _ => rfl
  | g :: gs, p, s, w, h0, h1 => by
    unfold goB
    rw [goB_low T gs _ _ w h0 (by rw [List.length_append]; omega), atB_app _ _ _ h0, if_pos h1]
theorem goB_app (T : Int → Bool) : ∀ (gs hs : List Gt) (p : Int) (s : Bs), goB T (gs ++ hs) p s = goB T hs (p + gs.length) (goB T gs p s)
  | [], hs, p, s => by simp [goB]
  | g :: gs, hs, p, s => by
    show goB T (gs ++ hs) (p + 1) (s ++ [gB g.a (g.b.l.map (atB s)) ^^ T p]) = goB T hs _ (goB T gs (p + 1) (s ++ [gB g.a (g.b.l.map (atB s)) ^^ T p]))
    rw [goB_app T gs hs, List.length_cons, show p + 1 + (gs.length : Int) = p + ((gs.length + 1 : Nat) : Int) by omega]
theorem goB_congr {T U : Int → Bool} : ∀ (gs : List Gt) (p : Int) (s : Bs), (∀ q : Int, p ≤ q → q < p + gs.length → T q = U q) → goB T gs p s = goB U gs p s
  | [], _, _, _ => rfl
  | g :: gs, p, s, h => by
    unfold goB
    rw [h p (by omega) (by rw [List.length_cons]; omega)]
    exact goB_congr gs (p + 1) _ fun q a c => h q (by omega) (by rw [List.length_cons]; omega)
/-- the gates ahead of a place -/
theorem goB_take (T : Int → Bool) (gs : List Gt) (p : Int) (s : Bs) (k : Nat) (hk : k ≤ gs.length) : (goB T gs p s).take (s.length + k) = goB T (gs.take k) p s := by
  have e := goB_app T (gs.take k) (gs.drop k) p s
  rw [List.take_append_drop] at e
  have pre : ∀ (hs : List Gt) (q : Int) (t : Bs), ∃ u, goB T hs q t = t ++ u := by
    intro hs
    induction hs with
    | nil => exact fun q t => ⟨[], by simp [goB]⟩
    | cons h hs ih =>
      intro q t
      obtain ⟨u, hu⟩ := ih (q + 1) (t ++ [gB h.a (h.b.l.map (atB t)) ^^ T q])
      exact ⟨_, by unfold goB; rw [hu, List.append_assoc]⟩
  obtain ⟨u, hu⟩ := pre (gs.drop k) (p + (gs.take k).length) (goB T (gs.take k) p s)
  rw [e, hu, List.take_append_of_le_length (by rw [goB_len, List.length_take]; omega), List.take_of_length_le (by rw [goB_len, List.length_take]; omega)]
theorem goB_from {T : Int → Bool} (gs : List Gt) (s : Bs) (k : Nat) (hk : k ≤ gs.length) (hT : ∀ q : Int, q < k → T q = false) : goB T (gs.drop k) k ((goB no gs 0 s).take (s.length + k)) = goB T gs 0 s := by
  rw [goB_take no gs 0 s k hk]
  have e := goB_app T (gs.take k) (gs.drop k) 0 s
  rw [List.take_append_drop] at e
  have l : (gs.take k).length = k := by rw [List.length_take]; omega
  rw [e, l, Int.zero_add]
  congr 1
  exact goB_congr _ _ _ fun q a c => by rw [l] at c; rw [hT q (by omega)]; rfl
theorem repB_len (B : Int → Bool) (v : Bool) : ∀ (m : Nat) (s : Bs), (repB B v m s).length = s.length + m
  | 0, s => rfl
  | m + 1, s => by unfold repB; rw [repB_len B v m]; simp; omega
theorem insB_len (B : Int → Bool) : ∀ (xs : List (Str × Int)) (k : Nat) (b s : Bs), (∀ x ∈ xs, 0 ≤ x.2) → ((insB B xs k b s).length : Int) = s.length + (xs.map (fun x => x.2)).sum
  | [], _, _, s, _ => by simp [insB]
  | x :: xs, k, b, s, h => by
    have := h x (List.mem_cons_self ..)
    unfold insB
    rw [insB_len B xs _ _ _ fun y hy => h y (List.mem_cons_of_mem _ hy), repB_len, List.map_cons, List.sum_cons]
    omega
theorem WB_ins {n : Net} (h : Wf n) (b : Bs) (B : Int → Bool) : ((insB B n.a 0 b []).length : Int) = ah n := by
  rw [insB_len B n.a 0 b [] fun x hx => (h.w x hx).1]; simp [ah]
theorem WB_len {n : Net} (h : Wf n) (b : Bs) (T B : Int → Bool) : ((WB n b T B).length : Int) = ah n + n.b.length := by
  unfold WB
  rw [goB_len, Int.natCast_add, WB_ins h]
/-! ### all inputs at once -/
def mkL (N : Nat) (S : Nat → Bs) (L : Nat) : List Int := (List.range L).map fun k => mk N fun i => (S i).getD k false
theorem mkL_len (N : Nat) (S : Nat → Bs) (L : Nat) : (mkL N S L).length = L := by unfold mkL; simp
theorem mkL_get (N : Nat) (S : Nat → Bs) (L k : Nat) (h : k < L) : (mkL N S L)[k]? = some (mk N fun i => (S i).getD k false) := by
  unfold mkL
  rw [List.getElem?_map, List.getElem?_range h]; rfl
theorem mkL_at {N : Nat} {S : Nat → Bs} {L : Nat} {w : Int} (h0 : 0 ≤ w) (h1 : w < L) : L2.atI (mkL N S L) w = some (mk N fun i => atB (S i) w) := by
  unfold L2.atI ixN
  rw [if_pos h0, if_pos (by rw [mkL_len]; exact h1)]
  exact mkL_get N S L w.toNat (by omega)
theorem mkL_app {N : Nat} {S : Nat → Bs} {L : Nat} (f : Nat → Bool) (h : ∀ i, (S i).length = L) : mkL N (fun i => S i ++ [f i]) (L + 1) = mkL N S L ++ [mk N f] := by
  unfold mkL
  rw [List.range_succ, List.map_append]
  congr 1
  · refine List.map_congr_left fun k hk => mk_congr fun i _ => ?_
    rw [getD_app, h i, if_pos (List.mem_range.mp hk)]
  · show [mk N _] = [mk N f]
    congr 1
    exact mk_congr fun i _ => by rw [getD_app, h i, if_neg (by omega), if_pos rfl]
theorem mkL_congr {N : Nat} {S U : Nat → Bs} {L : Nat} (h : ∀ i, i < N → S i = U i) : mkL N S L = mkL N U L := by
  unfold mkL
  exact List.map_congr_left fun k _ => mk_congr fun i q => by rw [h i q]
theorem mkL_take {N : Nat} {S : Nat → Bs} {L m : Nat} (h : m ≤ L) : (mkL N S L).take m = mkL N (fun i => (S i).take m) m := by
  unfold mkL
  rw [← List.map_take, List.take_range, Nat.min_eq_left h]
  refine List.map_congr_left fun k hk => mk_congr fun i _ => ?_
  rw [List.getD_eq_getElem?_getD, List.getD_eq_getElem?_getD, List.getElem?_take_of_lt (List.mem_range.mp hk)]
end W

namespace W
open PySem L2 TL
open Enc
theorem gate_mask {t : Bool} {N : Nat} {kd : Str} {ws : List Int} {S : Nat → Bs} (hk : kd ∈ kinds5) (hl : (ws.length : Int) = cnt kd) :
    m_gate_bits kd (Sq.mk t (ws.map fun w => mk N fun i => atB (S i) w)) (mk N fun _ => true) = some (mk N fun i => gB kd (ws.map (atB (S i)))) := by
  have c : kd = ("not" : Str) ∨ kd = ("and" : Str) ∨ kd = ("or" : Str) ∨ kd = ("xor" : Str) ∨ kd = ("vote" : Str) := by simpa [kinds5] using hk
  rcases c with e | e | e | e | e <;> subst e
  · match ws, hl with
    | [a], _ =>
      show some (Builtin.bitXor (mk N fun _ => true) (mk N fun i => atB (S i) a)) = _
      rw [mk_not]; rfl
    | [], h => exact absurd h (by decide)
    | _ :: _ :: ws, h => exact absurd h (by rw [show cnt ("not" : Str) = 1 by decide]; simp; omega)
  · match ws, hl with
    | [a, b], _ =>
      show some (Builtin.bitAnd (mk N fun i => atB (S i) a) (mk N fun i => atB (S i) b)) = _
      rw [mk_and]; rfl
    | [], h => exact absurd h (by decide)
    | [_], h => exact absurd h (by rw [show cnt ("and" : Str) = 2 by decide]; simp)
    | _ :: _ :: _ :: ws, h => exact absurd h (by rw [show cnt ("and" : Str) = 2 by decide]; simp; omega)
  · match ws, hl with
    | [a, b], _ =>
      show some (Builtin.bitOr (mk N fun i => atB (S i) a) (mk N fun i => atB (S i) b)) = _
      rw [mk_or]; rfl
    | [], h => exact absurd h (by decide)
    | [_], h => exact absurd h (by rw [show cnt ("or" : Str) = 2 by decide]; simp)
    | _ :: _ :: _ :: ws, h => exact absurd h (by rw [show cnt ("or" : Str) = 2 by decide]; simp; omega)
  · match ws, hl with
    | [a, b], _ =>
      show some (Builtin.bitXor (mk N fun i => atB (S i) a) (mk N fun i => atB (S i) b)) = _
      rw [mk_xor]; rfl
    | [], h => exact absurd h (by decide)
    | [_], h => exact absurd h (by rw [show cnt ("xor" : Str) = 2 by decide]; simp)
    | _ :: _ :: _ :: ws, h => exact absurd h (by rw [show cnt ("xor" : Str) = 2 by decide]; simp; omega)
  · match ws, hl with
    | [a, b, c], _ =>
      show some (Builtin.bitOr (Builtin.bitOr (Builtin.bitAnd (mk N fun i => atB (S i) a) (mk N fun i => atB (S i) b)) (Builtin.bitAnd (mk N fun i => atB (S i) a) (mk N fun i => atB (S i) c))) (Builtin.bitAnd (mk N fun i => atB (S i) b) (mk N fun i => atB (S i) c))) = _
      rw [mk_and, mk_and, mk_and, mk_or, mk_or]; rfl
    | [], h => exact absurd h (by decide)
    | [_], h => exact absurd h (by rw [show cnt ("vote" : Str) = 3 by decide]; simp)
    | [_, _], h => exact absurd h (by rw [show cnt ("vote" : Str) = 3 by decide]; simp)
    | _ :: _ :: _ :: _ :: ws, h => exact absurd h (by rw [show cnt ("vote" : Str) = 3 by decide]; simp; omega)
theorem mapO_mask {N L : Nat} {S : Nat → Bs} {l : List Int} (h : ∀ w ∈ l, 0 ≤ w ∧ w < (L : Int)) : mapO (fun (x15 : Int) => (L2.atI (mkL N S L) x15).bind fun t20 => some (t20 : Int)) l = some (l.map fun w => mk N fun i => atB (S i) w) := by
  induction l with
  | nil => rfl
  | cons w l ih =>
    have := h w (List.mem_cons_self ..)
    unfold mapO
    exact bq (bq (mkL_at this.1 this.2) rfl) (bq (ih fun y hy => h y (List.mem_cons_of_mem _ hy)) rfl)
theorem go_mask {n : Net} (hw : Wf n) {N L : Nat} (turned : Tp Int) : ∀ (k p : Nat) (S : Nat → Bs), p + k = n.b.length → (L : Int) = ah n + p → (∀ i, (S i).length = L) → ∀ M, M = L + k →
    forS (S := List Int) (fun (x8 : Int) (s7 : List Int) => (
(atI n.b x8).bind fun t12 =>
(mapO (fun (x15 : Int) => (atI s7 x15).bind fun t20 => some (t20 : Int)) t12.b.l).bind fun l22 =>
(m_gate_bits t12.a (Sq.mk false l22) (mk N fun _ => true)).bind fun r24 =>
(if (decide (x8 ∈ turned.l)) = true then (
(some (Builtin.bitXor (mk N fun _ => true) r24)).bind fun v28 =>
some v28)
else (
some r24) : Option (Int)).bind fun j26 =>
(appO s7 j26).bind fun u30 =>
some u30 : Option (List Int))) (rngL (p : Int) k) (mkL N S L) = some (mkL N (fun i => goB (inT turned.l) (n.b.drop p) p (S i)) M) := by
  intro k
  induction k generalizing L with
  | zero =>
    intro p S hp hL hS M hM
    subst hM
    rw [List.drop_of_length_le (by omega)]
    rfl
  | succ k ih =>
    intro p S hp hL hS M hM
    have hp' : p < n.b.length := by omega
    have eg : n.b[p]? = some n.b[p] := List.getElem?_eq_getElem hp'
    obtain ⟨g1, g2, g3⟩ := hw.gs p _ eg
    have gl := hw.gl
    have a0 := hw.ah
    have a1 : L2.atI n.b (p : Int) = some n.b[p] := by
      unfold L2.atI ixN
      rw [if_pos (by omega), if_pos (by omega)]
      exact eg
    rw [rngL_cons, List.drop_eq_getElem_cons hp']
    have a2 := mapO_mask (N := N) (S := S) (L := L) (l := n.b[p].b.l) fun w hw' => by have := g3 w hw'; omega
    have a3 := gate_mask (t := false) (N := N) (S := S) g1 g2
    generalize n.b[p] = g at a1 a2 a3
    have step : ∀ f : Nat → Bool, appO (mkL N S L) (mk N f) = some (mkL N (fun i => S i ++ [f i]) (L + 1)) := fun f => by
      rw [mkL_app f hS]
      exact if_pos (by rw [mkL_len]; omega)
    have nxt := ih (L := L + 1) (p + 1) (fun i => S i ++ [gB g.a (g.b.l.map (atB (S i))) ^^ inT turned.l p]) (by omega) (by omega) (fun i => by rw [List.length_append, hS i]; rfl) M (by omega)
    unfold forS
    refine bq ?_ nxt
    refine bq a1 (bq a2 (bq a3 (bq (x := mk N fun i => gB g.a (g.b.l.map (atB (S i))) ^^ inT turned.l p) ?_ (bq (step _) rfl))))
    unfold inT
    cases decide ((p : Int) ∈ turned.l) with
    | true =>
      rw [if_pos rfl, mk_not]
      show some _ = some _
      congr 1
      exact mk_congr fun i _ => by simp
    | false =>
      rw [if_neg (by decide)]
      congr 1
      exact mk_congr fun i _ => by simp
theorem gone_mask {n : Net} (hw : Wf n) {N L p : Nat} {S : Nat → Bs} (turned : Tp Int) (hp : p ≤ n.b.length) (hL : (L : Int) = ah n + p) (hS : ∀ i, (S i).length = L) :
    m_gone_on n (mkL N S L) (mk N fun _ => true) turned = some (mkL N (fun i => goB (inT turned.l) (n.b.drop p) p (S i)) (L + (n.b.length - p))) := by
  have gl := hw.gl
  unfold m_gone_on
  refine bq (x := ah n) rfl (bq (x := rngL (p : Int) (n.b.length - p)) ?_ (bq (go_mask hw turned (n.b.length - p) p S (by omega) hL hS _ rfl) rfl))
  unfold rng2O
  rw [mkL_len, if_pos (by omega), show (L : Int) - ah n = p by omega, show ((n.b.length : Int) - (p : Int)).toNat = n.b.length - p by omega]
/-! ### the ins' wires -/
theorem rep_mask {N : Nat} (bad : Tp Int) (f : Nat → Bool) : ∀ (l : List Int) (L : Nat) (S : Nat → Bs), (∀ i, (S i).length = L) → L + l.length ≤ 1000 → forS (S := List Int) (fun (x14 : Int) (s13 : List Int) => (
(if (decide ((s13.length : Int) ∈ bad.l)) = true then (
(appO s13 (Builtin.bitXor (mk N fun _ => true) (mk N f))).bind fun u20 =>
some u20)
else (
(appO s13 (mk N f)).bind fun u22 =>
some u22) : Option (List Int)).bind fun j18 =>
some j18 : Option (List Int))) l (mkL N S L) = some (mkL N (fun i => repB (inT bad.l) (f i) l.length (S i)) (L + l.length))
  | [], L, S, _, _ => rfl
  | y :: l, L, S, h, hl => by
    rw [List.length_cons] at hl
    have ih := rep_mask (N := N) bad f l (L + 1) (fun i => S i ++ [f i ^^ inT bad.l L]) (fun i => by rw [List.length_append, h i]; rfl) (by omega)
    have step : ∀ f : Nat → Bool, appO (mkL N S L) (mk N f) = some (mkL N (fun i => S i ++ [f i]) (L + 1)) := fun f => by
      rw [mkL_app f h]
      exact if_pos (by rw [mkL_len]; omega)
    rw [List.length_cons, show L + (l.length + 1) = L + 1 + l.length by omega]
    have e : (fun i => repB (inT bad.l) (f i) (l.length + 1) (S i)) = fun i => repB (inT bad.l) (f i) l.length (S i ++ [f i ^^ inT bad.l L]) := by
      funext i
      show repB _ _ l.length (S i ++ [f i ^^ inT bad.l (S i).length]) = _
      rw [h i]
    rw [e]
    unfold forS
    refine bq ?_ ih
    rw [bsome, mkL_len]
    unfold inT
    cases decide ((L : Int) ∈ bad.l) with
    | true =>
      rw [if_pos rfl, bsome, mk_not, step]
      congr 3
      funext i
      simp
    | false =>
      rw [if_neg (by decide), bsome, step]
      congr 3
      funext i
      simp
theorem ins_mask {N : Nat} (bad : Tp Int) (b : Nat → Bs) : ∀ (xs : List (Str × Int)) (k L : Nat) (S : Nat → Bs), (∀ i, (S i).length = L) → (∀ x ∈ xs, 0 ≤ x.2 ∧ x.2 ≤ 3) → L + 3 * xs.length ≤ 1000 → ∀ M : Nat, (M : Int) = L + (xs.map (fun x => x.2)).sum →
    forS (S := List Int) (fun (x6 : ((Str × Int) × Int)) (s5 : List Int) => (
(rngO x6.1.2).bind fun l10 =>
(forS (S := List Int) (fun (x14 : Int) (s13 : List Int) => (
(if (decide ((s13.length : Int) ∈ bad.l)) = true then (
(appO s13 (Builtin.bitXor (mk N fun _ => true) x6.2)).bind fun u20 =>
some u20)
else (
(appO s13 x6.2).bind fun u22 =>
some u22) : Option (List Int)).bind fun j18 =>
some j18 : Option (List Int))) l10 s5).bind fun s24 =>
some s24 : Option (List Int))) (xs.zip ((List.range' k xs.length).map fun j => mk N fun i => (b i).getD j false)) (mkL N S L) = some (mkL N (fun i => insB (inT bad.l) xs k (b i) (S i)) M)
  | [], k, L, S, _, _, _, M, hM => by
    have : M = L := by simp at hM; omega
    subst this; rfl
  | x :: xs, k, L, S, h, hx, hl, M, hM => by
    have h1 := hx x (List.mem_cons_self ..)
    rw [List.length_cons] at hl
    rw [List.map_cons, List.sum_cons] at hM
    have ih := ins_mask (N := N) bad b xs (k + 1) (L + x.2.toNat) (fun i => repB (inT bad.l) ((b i).getD k false) x.2.toNat (S i)) (fun i => by rw [repB_len, h i]) (fun y hy => hx y (List.mem_cons_of_mem _ hy)) (by omega) M (by omega)
    have r : rngO x.2 = some (rngL 0 x.2.toNat) := if_pos ⟨by omega, by omega⟩
    have q := rep_mask (N := N) bad (fun i => (b i).getD k false) (rngL 0 x.2.toNat) L S h (by rw [rngL_length]; omega)
    rw [rngL_length] at q
    rw [List.length_cons, List.range'_succ, List.map_cons, List.zip_cons_cons]
    unfold forS
    exact bq (bq r (bq q rfl)) ih
theorem inw_mask {t : Bool} {n : Net} (hw : Wf n) {N : Nat} (b : Nat → Bs) (bad : Tp Int) : m_ins_wires n (Sq.mk t (mkL N b n.a.length)) (mk N fun _ => true) bad = some (mkL N (fun i => insB (inT bad.l) n.a 0 (b i) []) (ah n).toNat) := by
  have al := hw.al
  have a0 := hw.ah
  have q := ins_mask (N := N) bad b n.a 0 0 (fun _ => []) (fun _ => rfl) hw.w (by omega) (ah n).toNat (by simp [ah] at a0 ⊢; omega)
  unfold m_ins_wires
  refine bq rfl (bq (x := mkL N (fun i => insB (inT bad.l) n.a 0 (b i) []) (ah n).toNat) ?_ rfl)
  rw [← q]
  congr 2
  unfold mkL
  rw [List.range_eq_range']
/-! ### all inputs -/
def inB (m i : Nat) : Bs := (List.range m).map fun k => i.testBit (m - 1 - k)
theorem inB_get {m i k : Nat} (h : k < m) : (inB m i).getD k false = i.testBit (m - 1 - k) := by
  unfold inB
  rw [List.getD_eq_getElem?_getD, List.getElem?_map, List.getElem?_range h]; rfl
theorem inB_len (m i : Nat) : (inB m i).length = m := by unfold inB; simp
theorem all_in {n : Net} (hw : Wf n) : m_all_inputs n = some (mkL (2 ^ n.a.length) (inB n.a.length) n.a.length, mk (2 ^ n.a.length) fun _ => true) := by
  have al := hw.al
  have pw : 2 ^ n.a.length ≤ 64 := by
    have := Nat.pow_le_pow_right (n := 2) (by omega) al
    omega
  have s1 : ∀ k : Nat, k ≤ 64 → shlO (1 : Int) (k : Int) = some ((2 ^ k : Nat) : Int) := fun k hk => by
    unfold shlO
    rw [if_pos (by omega), Int.toNat_natCast, Int.one_mul, Int.natCast_pow]; rfl
  unfold m_all_inputs
  refine bq (s1 _ (by omega)) (bq rfl ?_)
  have loop : ∀ m : Nat, m ≤ n.a.length → forS (S := List Int) (fun (x8 : Int) (s7 : List Int) => (
(some (((n.a.length : Int) - (1 : Int)) - x8)).bind fun v12 =>
(rngO ((2 ^ n.a.length : Nat) : Int)).bind fun l14 =>
(mapO (fun (x17 : Int) => (shrO x17 v12).bind fun t24 => (shlO (Builtin.bitAnd t24 (1 : Int)) x17).bind fun t26 => some (t26 : Int)) l14).bind fun l28 =>
(appO s7 l28.sum).bind fun u30 =>
some u30 : Option (List Int))) (rngL ((n.a.length - m : Nat) : Int) m) (mkL (2 ^ n.a.length) (inB n.a.length) (n.a.length - m)) = some (mkL (2 ^ n.a.length) (inB n.a.length) n.a.length) := by
    intro m
    induction m with
    | zero => intro _; rfl
    | succ m ih =>
      intro hm
      have ih := ih (by omega)
      rw [rngL_cons, show ((n.a.length - (m + 1) : Nat) : Int) + 1 = ((n.a.length - m : Nat) : Int) by omega]
      unfold forS
      refine bq ?_ ih
      refine bq (x := (m : Int)) (by congr 1; omega) (bq (x := rngL 0 (2 ^ n.a.length)) ?_ ?_)
      · unfold rngO
        have pz := Int.natCast_nonneg (2 ^ n.a.length)
        rw [if_pos (by omega)]; rfl
      · have col : mapO (fun (x17 : Int) => (shrO x17 (m : Int)).bind fun t24 => (shlO (Builtin.bitAnd t24 (1 : Int)) x17).bind fun t26 => some (t26 : Int)) (rngL 0 (2 ^ n.a.length)) = some ((rngL 0 (2 ^ n.a.length)).map fun x : Int => b2n ((fun i : Nat => i.testBit m) x.toNat) * 2 ^ x.toNat) := by
          have : ∀ l : List Int, (∀ x ∈ l, 0 ≤ x ∧ x < 64) → mapO (fun (x17 : Int) => (shrO x17 (m : Int)).bind fun t24 => (shlO (Builtin.bitAnd t24 (1 : Int)) x17).bind fun t26 => some (t26 : Int)) l = some (l.map fun x : Int => b2n ((fun i : Nat => i.testBit m) x.toNat) * 2 ^ x.toNat) := fun l hl => by
            induction l with
            | nil => rfl
            | cons x l ih =>
              have hx := hl x (List.mem_cons_self ..)
              unfold mapO
              refine bq (x := b2n (x.toNat.testBit m) * 2 ^ x.toNat) ?_ (bq (ih fun y hy => hl y (List.mem_cons_of_mem _ hy)) rfl)
              refine bq (x := x / 2 ^ m) ?_ ?_
              · unfold shrO
                rw [if_pos (by omega), Int.toNat_natCast]
              · have e := bit1 x.toNat m
                rw [Int.toNat_of_nonneg hx.1] at e
                rw [e]
                refine bq (x := b2n (x.toNat.testBit m) * 2 ^ x.toNat) ?_ rfl
                unfold shlO
                rw [if_pos]
                refine ⟨hx.1, by omega, ?_, ?_⟩ <;> (unfold b2n; split <;> omega)
          exact this _ fun x hx => by have := mem_rngL.mp hx; omega
        refine bq col ?_
        rw [sum_mk (fun i : Nat => i.testBit m) (2 ^ n.a.length)]
        refine bq (x := mkL (2 ^ n.a.length) (inB n.a.length) (n.a.length - m)) ?_ rfl
        have e : n.a.length - m = n.a.length - (m + 1) + 1 := by omega
        unfold appO
        rw [mkL_len, if_pos (by omega), e]
        unfold mkL
        rw [List.range_succ, List.map_append]
        congr 2
        show [_] = [_]
        congr 1
        refine mk_congr fun i _ => ?_
        rw [inB_get (by omega), show n.a.length - 1 - (n.a.length - (m + 1)) = m by omega]
  have l0 := loop n.a.length (Nat.le_refl _)
  rw [Nat.sub_self] at l0
  refine bq l0 (bq (x := ((2 ^ (2 ^ n.a.length) : Nat) : Int)) (s1 _ pw) ?_)
  rw [Int.natCast_pow, show ((2 : Nat) : Int) = 2 from rfl, mk_one]
theorem all_w {n : Net} (hw : Wf n) : m_all_wires n = some (mkL (2 ^ n.a.length) (fun i => WB n (inB n.a.length i) no no) ((ah n).toNat + n.b.length), mk (2 ^ n.a.length) fun _ => true) := by
  have a0 := hw.ah
  unfold m_all_wires
  refine bq (all_in hw) (bq (inw_mask hw _ _) ?_)
  have q := gone_mask hw (N := 2 ^ n.a.length) (L := (ah n).toNat) (p := 0) (S := fun i => insB (inT []) n.a 0 (inB n.a.length i) []) (Tp.mk []) (Nat.zero_le _) (by omega) fun i => by have := WB_ins hw (inB n.a.length i) (inT []); omega
  refine bq q ?_
  rw [inT_nil]
  rfl
/-! ### what the outs are read as -/
theorem read_mask {t : Bool} {N : Nat} {ws : List Int} {S : Nat → Bs} (h : 1 ≤ ws.length ∧ ws.length ≤ 3) : m_read_bits (Sq.mk t (ws.map fun w => mk N fun i => atB (S i) w)) = some (mk N (fun i => (rdB (ws.map (atB (S i)))).1), mk N fun i => (rdB (ws.map (atB (S i)))).2) := by
  match ws, h with
  | [a], _ =>
    show some (mk N (fun i => atB (S i) a), (0 : Int)) = _
    rw [mk_zero N]; rfl
  | [a, b], _ =>
    show some (Builtin.bitAnd (mk N fun i => atB (S i) a) (mk N fun i => atB (S i) b), Builtin.bitXor (mk N fun i => atB (S i) a) (mk N fun i => atB (S i) b)) = _
    rw [mk_and, mk_xor]; rfl
  | [a, b, c], _ =>
    show some (Builtin.bitOr (Builtin.bitOr (Builtin.bitAnd (mk N fun i => atB (S i) a) (mk N fun i => atB (S i) b)) (Builtin.bitAnd (mk N fun i => atB (S i) a) (mk N fun i => atB (S i) c))) (Builtin.bitAnd (mk N fun i => atB (S i) b) (mk N fun i => atB (S i) c)), (0 : Int)) = _
    rw [mk_and, mk_and, mk_and, mk_or, mk_or, mk_zero N]; rfl
  | [], h => exact absurd h.1 (by decide)
  | _ :: _ :: _ :: _ :: ws, h => exact absurd h.2 (by simp)
def rd (o : Str × Tp Int) (s : Bs) : Bool × Bool := rdB (o.2.l.map (atB s))
theorem outs_mask {n : Net} (hw : Wf n) {N : Nat} {S : Nat → Bs} : m_outs_read n (mkL N S ((ah n).toNat + n.b.length)) = some (n.c.map fun o => (mk N (fun i => (rd o (S i)).1), mk N fun i => (rd o (S i)).2)) := by
  have a0 := hw.ah
  have : ∀ os : List (Str × Tp Int), (∀ o ∈ os, o ∈ n.c) → mapO (fun (x32 : (Str × (Tp Int))) => (mapO (fun (x48 : Int) => (atI (mkL N S ((ah n).toNat + n.b.length)) x48).bind fun t53 => some (t53 : Int)) x32.2.l).bind fun l55 => (m_read_bits (Sq.mk false l55)).bind fun r57 => some (r57 : (Int × Int))) os = some (os.map fun o => (mk N (fun i => (rd o (S i)).1), mk N fun i => (rd o (S i)).2)) := fun os ho => by
    induction os with
    | nil => rfl
    | cons o os ih =>
      obtain ⟨h1, h2⟩ := hw.os o (ho o (List.mem_cons_self ..))
      unfold mapO
      exact bq (bq (mapO_mask fun w hw' => by have := h2 w hw'; omega) (bq (read_mask h1) rfl)) (bq (ih fun y hy => ho y (List.mem_cons_of_mem _ hy)) rfl)
  unfold m_outs_read
  exact bq (this n.c fun o ho => ho) rfl
end W

namespace W
open PySem L2 TL
open Enc
/-! ### wires of one kind tell the same -/
def aI (I : List (Str × Int)) : Int := (I.map (fun x => x.2)).sum
def wN (I : List (Str × Int)) (gs : List Gt) (b : Bs) : Bs := goB no gs 0 (insB no I 0 b [])
def Sm (I : List (Str × Int)) (gs : List Gt) (ks : List Int) : Prop := ∀ (b : Bs) (w w' : Int), 0 ≤ w → w < ks.length → 0 ≤ w' → w' < ks.length → at0 ks w = at0 ks w' → atB (wN I gs b) w = atB (wN I gs b) w'
theorem repB_no (v : Bool) : ∀ (m : Nat) (s : Bs), repB no v m s = s ++ List.replicate m v
  | 0, s => by simp [repB]
  | m + 1, s => by
    unfold repB
    rw [repB_no v m, List.replicate_succ, List.append_assoc]
    simp [no]
theorem insB_app (B : Int → Bool) : ∀ (xs : List (Str × Int)) (x : Str × Int) (k : Nat) (b s : Bs), insB B (xs ++ [x]) k b s = repB B (b.getD (k + xs.length) false) x.2.toNat (insB B xs k b s)
  | [], x, k, b, s => rfl
  | y :: xs, x, k, b, s => by
    show insB B (xs ++ [x]) (k + 1) b _ = repB B _ _ (insB B xs (k + 1) b _)
    rw [insB_app B xs x, List.length_cons, show k + 1 + xs.length = k + (xs.length + 1) by omega]
theorem goB_at (T : Int → Bool) : ∀ (gs : List Gt) (p : Int) (s : Bs) (i : Nat) (g : Gt), gs[i]? = some g → (∀ w ∈ g.b.l, 0 ≤ w ∧ w < (s.length : Int) + i) → atB (goB T gs p s) ((s.length : Int) + i) = (gB g.a (g.b.l.map (atB (goB T gs p s))) ^^ T (p + i))
  | [], _, _, _, _, h, _ => by simp at h
  | h :: gs, p, s, 0, g, e, hw => by
    have e : h = g := by simpa using e
    subst e
    have e2 : h.b.l.map (atB (goB T (h :: gs) p s)) = h.b.l.map (atB s) := List.map_congr_left fun w hw' => goB_low T _ _ _ w (hw w hw').1 (by have := (hw w hw').2; omega)
    rw [e2]
    show atB (goB T gs (p + 1) (s ++ [_])) _ = _
    rw [goB_low T gs _ _ _ (by omega) (by rw [List.length_append, List.length_singleton]; omega), atB_app _ _ _ (by omega), if_neg (by omega), if_pos (by omega)]
    simp
  | h :: gs, p, s, i + 1, g, e, hw => by
    have e : gs[i]? = some g := by simpa using e
    have l : (s ++ [gB h.a (h.b.l.map (atB s)) ^^ T p]).length = s.length + 1 := by simp
    have q := goB_at T gs (p + 1) (s ++ [gB h.a (h.b.l.map (atB s)) ^^ T p]) i g e fun w hw' => by have := hw w hw'; rw [l]; omega
    rw [l] at q
    rw [show ((i + 1 : Nat) : Int) = (i : Int) + 1 by omega, show (s.length : Int) + ((i : Int) + 1) = ((s.length + 1 : Nat) : Int) + i by omega, show p + ((i : Int) + 1) = p + 1 + i by omega]
    exact q
theorem map_same {f : Int → Int} {g : Int → Bool} : ∀ {l l' : List Int}, l.map f = l'.map f → (∀ x ∈ l, ∀ y ∈ l', f x = f y → g x = g y) → l.map g = l'.map g
  | [], [], _, _ => rfl
  | [], _ :: _, h, _ => by simp at h
  | _ :: _, [], h, _ => by simp at h
  | x :: l, y :: l', h, k => by
    rw [List.map_cons, List.map_cons, List.cons.injEq] at h
    rw [List.map_cons, List.map_cons, k x (List.mem_cons_self ..) y (List.mem_cons_self ..) h.1, map_same h.2 fun a ha c hc => k a (List.mem_cons_of_mem _ ha) c (List.mem_cons_of_mem _ hc)]
theorem wN_len {I : List (Str × Int)} (hI : ∀ x ∈ I, 0 ≤ x.2) (gs : List Gt) (b : Bs) : ((wN I gs b).length : Int) = aI I + gs.length := by
  unfold wN
  rw [goB_len, Int.natCast_add, insB_len no I 0 b [] hI]
  simp [aI]
theorem Sm.push {I : List (Str × Int)} {gs : List Gt} {ks : List Int} {g : Gt} {v : Int} (hI : ∀ x ∈ I, 0 ≤ x.2) (hl : (ks.length : Int) = aI I + gs.length) (hS : Sm I gs ks) (hg : ∀ w ∈ g.b.l, 0 ≤ w ∧ w < (ks.length : Int))
    (h : (∀ x ∈ ks, x ≠ v) ∨ ∃ (p : Nat) (q : Gt), gs[p]? = some q ∧ (∀ w ∈ q.b.l, 0 ≤ w ∧ w < aI I + p) ∧ at0 ks (aI I + p) = v ∧ q.a = g.a ∧ g.b.l.map (at0 ks) = q.b.l.map (at0 ks)) : Sm I (gs ++ [g]) (ks ++ [v]) := by
  intro b w w' h0 h1 h0' h1' e
  have a0 : 0 ≤ aI I := by
    have := insB_len no I 0 b [] hI
    simp [aI] at this ⊢
    omega
  have wl := wN_len hI gs b
  have new : wN I (gs ++ [g]) b = wN I gs b ++ [gB g.a (g.b.l.map (atB (wN I gs b)))] := by
    unfold wN
    rw [goB_app]
    show _ ++ [_ ^^ no _] = _
    simp [no]
  rw [new, atB_app _ _ _ h0, atB_app _ _ _ h0']
  rw [at0_app _ _ _ h0, at0_app _ _ _ h0'] at e
  rw [List.length_append, List.length_singleton] at h1 h1'
  -- the new one against an old one
  have key : ∀ u : Int, 0 ≤ u → u < ks.length → at0 ks u = v → atB (wN I gs b) u = gB g.a (g.b.l.map (atB (wN I gs b))) := fun u u0 u1 hu => by
    rcases h with h | ⟨p, q, eq, qw, kp, qa, qm⟩
    · refine absurd hu (h _ ?_)
      unfold at0
      rw [List.getElem?_eq_getElem (by omega)]
      exact List.getElem_mem _
    · have hp := get_lt eq
      rw [hS b u (aI I + p) u0 u1 (by omega) (by omega) (hu.trans kp.symm)]
      have il : ((insB no I 0 b []).length : Int) = aI I := by rw [insB_len no I 0 b [] hI]; simp [aI]
      have at_ := goB_at no gs 0 (insB no I 0 b []) p q eq fun w hw => by have := qw w hw; omega
      rw [il] at at_
      show atB (goB no gs 0 (insB no I 0 b [])) (aI I + p) = _
      rw [at_, qa]
      have mm : g.b.l.map (atB (wN I gs b)) = q.b.l.map (atB (wN I gs b)) := map_same qm fun x hx y hy exy => by
        have := hg x hx
        have := qw y hy
        exact hS b x y (by omega) (by omega) (by omega) (by omega) exy
      rw [mm]
      simp [no, wN]
  by_cases c : w < ks.length
  · rw [if_pos c] at e
    rw [if_pos (by omega)]
    by_cases c' : w' < ks.length
    · rw [if_pos c'] at e
      rw [if_pos (by omega)]
      exact hS b w w' h0 c h0' c' e
    · rw [if_neg c', if_pos (by omega)] at e
      rw [if_neg (by omega), if_pos (by omega)]
      exact key w h0 c e
  · rw [if_neg c, if_pos (by omega)] at e
    rw [if_neg (by omega), if_pos (by omega)]
    by_cases c' : w' < ks.length
    · rw [if_pos c'] at e
      rw [if_pos (by omega)]
      exact (key w' h0' c' e.symm).symm
    · rw [if_neg (by omega), if_pos (by omega)]
/-- the ins -/
def Si (I : List (Str × Int)) (ks : List Int) : Prop := ∀ (b : Bs) (w : Int), 0 ≤ w → w < ks.length → atB (insB no I 0 b []) w = b.getD (at0 ks w).toNat false
theorem atB_rep (s : Bs) (v : Bool) (m : Nat) (w : Int) (h0 : 0 ≤ w) (h1 : w < s.length + m) : atB (s ++ List.replicate m v) w = if w < s.length then atB s w else v := by
  unfold atB
  rw [List.getD_eq_getElem?_getD, List.getD_eq_getElem?_getD, List.getElem?_append]
  by_cases c : w < s.length
  · rw [if_pos c, if_pos (by omega)]
  · rw [if_neg c, if_neg (by omega), List.getElem?_replicate, if_pos (by omega)]; rfl
theorem at0_rp (s : List Int) (v : Int) (m : Nat) (w : Int) (h0 : 0 ≤ w) (h1 : w < s.length + m) : at0 (s ++ List.replicate m v) w = if w < s.length then at0 s w else v := by
  unfold at0
  rw [List.getElem?_append]
  by_cases c : w < s.length
  · rw [if_pos c, if_pos (by omega)]
  · rw [if_neg c, if_neg (by omega), List.getElem?_replicate, if_pos (by omega)]; rfl
theorem Si.push {I : List (Str × Int)} {ks : List Int} {x : Str × Int} {k : Int} (hk : k = I.length) (hI : ∀ y ∈ I, 0 ≤ y.2) (hx : 0 ≤ x.2) (hl : (ks.length : Int) = aI I) (h : Si I ks) : Si (I ++ [x]) (ks ++ List.replicate x.2.toNat k) := fun b w h0 h1 => by
  have il : ((insB no I 0 b []).length : Int) = aI I := by rw [insB_len no I 0 b [] hI]; simp [aI]
  rw [List.length_append, List.length_replicate] at h1
  rw [insB_app, repB_no, atB_rep _ _ _ _ h0 (by omega), at0_rp _ _ _ _ h0 (by omega)]
  by_cases c : w < ks.length
  · rw [if_pos c, if_pos (by omega)]
    exact h b w h0 c
  · rw [if_neg c, if_neg (by omega), hk]
    simp
theorem Si.sm {I : List (Str × Int)} {ks : List Int} (h : Si I ks) : Sm I [] ks := fun b w w' h0 h1 h0' h1' e => by
  show atB (insB no I 0 b []) w = atB (insB no I 0 b []) w'
  rw [h b w h0 h1, h b w' h0' h1', e]
end W

namespace W
open PySem L2 TL
open Enc
/-! ### the law's own walk -/
theorem b2n_inj : ∀ {a b : Bool}, b2n a = b2n b → a = b := by decide
theorem bt_flip : ∀ (a b : Bool), (b2n a + b2n b) % 2 = b2n (a ^^ b) := by decide
theorem at_b2n {s : Bs} {w : Int} (h0 : 0 ≤ w) (h1 : w < s.length) : L2.atI (s.map b2n) w = some (b2n (atB s w)) := by
  unfold L2.atI ixN
  rw [if_pos h0, if_pos (by rw [List.length_map]; exact h1)]
  show (s.map b2n)[w.toNat]? = _
  rw [List.getElem?_map, List.getElem?_eq_getElem (by omega)]
  unfold atB
  rw [List.getD_eq_getElem?_getD, List.getElem?_eq_getElem (by omega)]; rfl
theorem mapO_b2n {s : Bs} {l : List Int} (h : ∀ w ∈ l, 0 ≤ w ∧ w < (s.length : Int)) : mapO (fun (x15 : Int) => (L2.atI (s.map b2n) x15).bind fun t20 => some (t20 : Int)) l = some ((l.map (atB s)).map b2n) := by
  induction l with
  | nil => rfl
  | cons w l ih =>
    have := h w (List.mem_cons_self ..)
    unfold mapO
    exact bq (bq (at_b2n this.1 this.2) rfl) (bq (ih fun y hy => h y (List.mem_cons_of_mem _ hy)) rfl)
theorem app_b2n {s : Bs} {v : Bool} (h : s.length < 16777216) : appO (s.map b2n) (b2n v) = some ((s ++ [v]).map b2n) := by
  unfold appO
  rw [List.length_map, if_pos h, List.map_append]; rfl
def rdO (p : Bool × Bool) : Option Int := if p.2 = true then none else some (b2n p.1)
/-! ### all inputs in their order -/
theorem forS_app {α S : Type} {f : α → S → Option S} : ∀ (xs ys : List α) (s : S), forS f (xs ++ ys) s = (forS f xs s).bind (forS f ys)
  | [], ys, s => rfl
  | x :: xs, ys, s => by
    show (f x s).bind (forS f (xs ++ ys)) = ((f x s).bind (forS f xs)).bind (forS f ys)
    cases f x s with
    | none => rfl
    | some s' => exact forS_app xs ys s'
def iT (m i : Nat) : Tp Int := Tp.mk ((inB m i).map b2n)
theorem iT_succ (m i : Nat) (c : Bool) : iT (m + 1) (2 * i + c.toNat) = Tp.mk ((iT m i).l ++ [b2n c]) := by
  unfold iT inB
  rw [List.range_succ, List.map_append, List.map_append]
  congr 2
  · rw [List.map_map, List.map_map]
    refine List.map_congr_left fun k hk => ?_
    have hk := List.mem_range.mp hk
    show b2n ((2 * i + c.toNat).testBit (m + 1 - 1 - k)) = b2n (i.testBit (m - 1 - k))
    rw [show m + 1 - 1 - k = (m - 1 - k) + 1 by omega, Nat.testBit_succ]
    congr 2
    cases c <;> simp <;> omega
  · show [b2n ((2 * i + c.toNat).testBit (m + 1 - 1 - m))] = [b2n c]
    rw [show m + 1 - 1 - m = 0 by omega, Nat.testBit_zero]
    cases c
    · rw [show (2 * i + Bool.toNat false) % 2 = 0 by simp]; rfl
    · rw [show (2 * i + Bool.toNat true) % 2 = 1 by simp]; rfl
end W

namespace W
open PySem L2 TL
open Enc
/-! ### what turned gates spoil -/
def W0 (n : Net) (i : Nat) : Bs := WB n (inB n.a.length i) no no
def W1 (n : Net) (turned : List Int) (i : Nat) : Bs := WB n (inB n.a.length i) (inT turned) no
def NN (n : Net) : Nat := 2 ^ n.a.length
def LL (n : Net) : Nat := (ah n).toNat + n.b.length
/-- a rising row of places -/
def Ts (n : Net) (turned : List Int) : Prop := ∀ p, turned[0]? = some p → (0 ≤ p ∧ p < (n.b.length : Int)) ∧ ∀ q ∈ turned, p ≤ q
theorem at_head {α : Type} {x : α} {xs : List α} : L2.atI (x :: xs) 0 = some x := by
  unfold L2.atI ixN
  rw [if_pos (Int.le_refl 0), if_pos (by rw [List.length_cons]; omega)]
  rfl
theorem rw_mask {n : Net} (hw : Wf n) (turned : Tp Int) (ht : Ts n turned.l) : m_reads_with n (mkL (NN n) (W0 n) (LL n)) (mk (NN n) fun _ => true) turned = some (n.c.map fun o => (mk (NN n) (fun i => (rd o (W1 n turned.l i)).1), mk (NN n) fun i => (rd o (W1 n turned.l i)).2)) := by
  have a0 := hw.ah
  have ln : ∀ i, (W0 n i).length = LL n := fun i => by have := WB_len hw (inB n.a.length i) no no; unfold W0 LL; omega
  have fin : ∀ first, m_gone_on n first (mk (NN n) fun _ => true) turned = some (mkL (NN n) (W1 n turned.l) (LL n)) → ((some first).bind fun j1 => (m_gone_on n j1 (mk (NN n) fun _ => true) turned).bind fun r13 => (m_outs_read n r13).bind fun r15 => some r15) = some (n.c.map fun o => (mk (NN n) (fun i => (rd o (W1 n turned.l i)).1), mk (NN n) fun i => (rd o (W1 n turned.l i)).2)) := fun first e => bq rfl (bq e (bq (outs_mask hw) rfl))
  unfold m_reads_with
  match turned, ht with
  | ⟨[]⟩, _ =>
    rw [if_neg (by decide)]
    refine fin _ ?_
    rw [gone_mask hw (p := n.b.length) (Tp.mk []) (Nat.le_refl _) (by unfold LL; omega) ln, Nat.sub_self, List.drop_length]
    show some (mkL _ (fun i => W0 n i) _) = _
    rw [show W1 n [] = W0 n by unfold W1 W0; rw [inT_nil]]
    rfl
  | ⟨p :: rest⟩, ht =>
    obtain ⟨hp, hq⟩ := ht p rfl
    rw [if_pos (by simp)]
    refine Eq.trans (b := (some (mkL (NN n) (fun i => (W0 n i).take ((ah n).toNat + p.toNat)) ((ah n).toNat + p.toNat))).bind _) ?_ (fin _ ?_)
    · refine congrArg (fun z => Option.bind z _) (bq (x := ah n) rfl (bq (x := p) at_head (bq rfl ?_)))
      rw [cutL_to _ _ (by omega), show (ah n + p).toNat = (ah n).toNat + p.toNat by omega, mkL_take (by unfold LL; omega)]
    · rw [gone_mask hw (p := p.toNat) (Tp.mk (p :: rest)) (by omega) (by omega) fun i => by rw [List.length_take, ln]; unfold LL; omega]
      congr 1
      rw [show (ah n).toNat + p.toNat + (n.b.length - p.toNat) = LL n by unfold LL; omega]
      refine mkL_congr fun i _ => ?_
      have il := WB_ins hw (inB n.a.length i) no
      have q := goB_from (T := inT (p :: rest)) n.b (insB no n.a 0 (inB n.a.length i) []) p.toNat (by omega) fun x hx => by
        unfold inT
        refine decide_eq_false fun hm => ?_
        have := hq x hm
        omega
      unfold W0 W1 WB
      rw [← q, show (insB no n.a 0 (inB n.a.length i) []).length = (ah n).toNat by omega]
def dif (n : Net) (turned : List Int) (i : Nat) : Bool := n.c.any fun o => ((rd o (W1 n turned i)).1 ^^ (rd o (W0 n i)).1) && !(rd o (W1 n turned i)).2
def non (n : Net) (turned : List Int) (i : Nat) : Bool := n.c.any fun o => (rd o (W1 n turned i)).2
theorem spoilt_mask {n : Net} (hw : Wf n) (turned : Tp Int) (ht : Ts n turned.l) : m_spoilt n (mkL (NN n) (W0 n) (LL n)) (mk (NN n) fun _ => true) turned = some (mk (NN n) (dif n turned.l), mk (NN n) (non n turned.l)) := by
  unfold m_spoilt
  refine bq (rw_mask hw turned ht) (bq (outs_mask hw) ?_)
  have loop : ∀ (os : List (Str × Tp Int)) (f g : Nat → Bool), forS (S := Int × Int) (fun (x7 : ((Int × Int) × (Int × Int))) (s6 : Int × Int) => (
(some (Builtin.bitOr s6.1 (Builtin.bitAnd (Builtin.bitXor x7.1.1 x7.2.1) (Builtin.bitXor (mk (NN n) fun _ => true) x7.1.2)))).bind fun v11 =>
(some (Builtin.bitOr s6.2 x7.1.2)).bind fun v13 =>
some (v11, v13) : Option (Int × Int))) ((os.map fun o => (mk (NN n) (fun i => (rd o (W1 n turned.l i)).1), mk (NN n) fun i => (rd o (W1 n turned.l i)).2)).zip (os.map fun o => (mk (NN n) (fun i => (rd o (W0 n i)).1), mk (NN n) fun i => (rd o (W0 n i)).2))) (mk (NN n) f, mk (NN n) g)
      = some (mk (NN n) (fun i => f i || os.any fun o => ((rd o (W1 n turned.l i)).1 ^^ (rd o (W0 n i)).1) && !(rd o (W1 n turned.l i)).2), mk (NN n) fun i => g i || os.any fun o => (rd o (W1 n turned.l i)).2) := by
    intro os
    induction os with
    | nil => intro f g; simp [forS]
    | cons o os ih =>
      intro f g
      rw [List.map_cons, List.map_cons, List.zip_cons_cons]
      have q := ih (fun i => f i || (((rd o (W1 n turned.l i)).1 ^^ (rd o (W0 n i)).1) && !(rd o (W1 n turned.l i)).2)) (fun i => g i || (rd o (W1 n turned.l i)).2)
      unfold forS
      refine bq (bq rfl (bq rfl ?_)) (q.trans ?_)
      · show some (_, _) = some (_, _)
        rw [mk_xor, mk_not, mk_and, mk_or, mk_or]
      · congr 2
        · exact mk_congr fun i _ => by rw [List.any_cons, Bool.or_assoc]
        · exact mk_congr fun i _ => by rw [List.any_cons, Bool.or_assoc]
  have l := loop n.c (fun _ => false) (fun _ => false)
  rw [← mk_zero] at l
  refine bq l ?_
  simp only [Bool.false_or]
  rfl
end W

namespace W
open PySem L2 TL
open Enc
theorem atM {α β : Type} {xs : List α} {f : α → β} {x : Int} {i : Nat} (e : x = (i : Int)) (h : i < xs.length) : L2.atI (xs.map f) x = some (f xs[i]) := by
  unfold L2.atI ixN
  rw [if_pos (by omega), if_pos (by rw [List.length_map]; omega)]
  show (xs.map f)[x.toNat]? = _
  rw [e, Int.toNat_natCast, List.getElem?_map, List.getElem?_eq_getElem h]; rfl
theorem atN {α : Type} {xs : List α} {x : Int} {i : Nat} (e : x = (i : Int)) (h : i < xs.length) : L2.atI xs x = some xs[i] := by
  unfold L2.atI ixN
  rw [if_pos (by omega), if_pos (by omega)]
  show xs[x.toNat]? = _
  rw [e, Int.toNat_natCast, List.getElem?_eq_getElem h]
theorem NN_le {n : Net} (hw : Wf n) : NN n ≤ 64 := by
  have := hw.al
  have := Nat.pow_le_pow_right (n := 2) (by omega) this
  unfold NN
  omega
theorem enum_mem {α : Type} {xs : List α} {x : Int × α} (h : x ∈ enumL xs) : 0 ≤ x.1 ∧ x.1 < xs.length := by
  unfold enumL at h
  obtain ⟨p, hp, rfl⟩ := List.mem_map.mp h
  have := List.mem_zipIdx hp
  constructor
  · show 0 ≤ ((p.2 : Nat) : Int); omega
  · show ((p.2 : Nat) : Int) < _; omega
/-! ### the free places -/
def frees (n : Net) : List Int := ((enumL n.b).filter fun x => !x.2.c).map fun x => x.1
theorem frees_in {n : Net} : ∀ p ∈ frees n, 0 ≤ p ∧ p < (n.b.length : Int) := fun p hp => by
  obtain ⟨x, hx, rfl⟩ := List.mem_map.mp hp
  exact enum_mem (List.mem_filter.mp hx).1
theorem frees_len (n : Net) : (frees n).length ≤ n.b.length := by
  unfold frees
  rw [List.length_map]
  refine Nat.le_trans (List.length_filter_le _ _) ?_
  unfold enumL; simp
theorem free_is (n : Net) : m_free_places n = some (frees n) := rfl
theorem free_law {β : Type} (n : Net) (F : Int → Option β) (G : Int → β) (hF : ∀ p : Int, 0 ≤ p → p < n.b.length → F p = some (G p)) : filtO (fun (x24 : Int) => (L2.atI n.b x24).bind fun t31 => some (!t31.c)) F (rngL 0 n.b.length) = some ((frees n).map G) := by
  have loop : ∀ (xs : List Gt) (k : Nat), n.b.drop k = xs → filtO (fun (x24 : Int) => (L2.atI n.b x24).bind fun t31 => some (!t31.c)) F (rngL (k : Int) xs.length) = some (((((xs.zipIdx k).map fun p => (((p.2 : Nat) : Int), p.1)).filter fun x => !x.2.c).map fun x => x.1).map G) := by
    intro xs
    induction xs with
    | nil => intro k _; rfl
    | cons x xs ih =>
      intro k hd
      have hk : k < n.b.length := by
        rcases Nat.lt_or_ge k n.b.length with q | q
        · exact q
        · rw [List.drop_of_length_le q] at hd; cases hd
      rw [List.drop_eq_getElem_cons hk, List.cons.injEq] at hd
      have ih := ih (k + 1) hd.2
      rw [List.length_cons, rngL_cons, List.zipIdx_cons, List.map_cons, List.filter_cons]
      have a1 := atN (xs := n.b) (x := (k : Int)) rfl hk
      rw [hd.1] at a1
      unfold filtO
      refine bq (x := !x.c) (bq a1 rfl) ?_
      cases x.c with
      | true => exact ih
      | false => exact bq (hF k (by omega) (by omega)) (bq ih rfl)
  exact loop n.b 0 rfl
/-! ### rising sets -/
def can (t : Tp Int) (q : Int) : Bool := t.l.isEmpty || decide (t.l.getLast?.getD 0 < q)
def setsP (ps : List Int) : Nat → List (Tp Int)
  | 0 => [Tp.mk []]
  | k + 1 => (setsP ps k).flatMap fun t => (ps.filter (can t)).map fun q => Tp.mk (t.l ++ [q])
theorem setsP_ok (ps : List Int) : ∀ (k : Nat), ∀ t ∈ setsP ps k, t.l.length = k ∧ (∀ q ∈ t.l, q ∈ ps) ∧ ∀ p, t.l[0]? = some p → ∀ q ∈ t.l, p ≤ q
  | 0, t, h => by
    have h : t = Tp.mk [] := by simpa [setsP] using h
    subst h
    exact ⟨rfl, (fun q hq => by cases hq), fun p hp => by cases hp⟩
  | k + 1, t, h => by
    obtain ⟨s, hs, ht⟩ := List.mem_flatMap.mp h
    obtain ⟨q, hq, rfl⟩ := List.mem_map.mp ht
    obtain ⟨s1, s2, s3⟩ := setsP_ok ps k s hs
    obtain ⟨q1, q2⟩ := List.mem_filter.mp hq
    refine ⟨by show (s.l ++ [q]).length = _; rw [List.length_append, s1]; rfl, fun x hx => ?_, fun p hp x hx => ?_⟩
    · have hx : x ∈ s.l ++ [q] := hx
      rw [List.mem_append, List.mem_singleton] at hx
      rcases hx with hx | hx
      · exact s2 x hx
      · rw [hx]; exact q1
    · have hx : x ∈ s.l ++ [q] := hx
      have hp : (s.l ++ [q])[0]? = some p := hp
      rw [List.mem_append, List.mem_singleton] at hx
      cases e : s.l with
      | nil =>
        rw [e] at hp hx
        have hp : q = p := by simpa using hp
        rcases hx with hx | hx
        · cases hx
        · omega
      | cons a l =>
        have ha : a = p := by rw [e] at hp; simpa using hp
        rcases hx with hx | hx
        · exact s3 p (by rw [e, ← ha]; rfl) x hx
        · have c : s.l.getLast?.getD 0 < q := by
            unfold can at q2
            rw [e] at q2
            rw [e]
            simpa using q2
          have l2 : s.l.getLast?.getD 0 ∈ s.l := by
            rw [e, List.getLast?_eq_some_getLast (by simp)]
            exact List.getLast_mem _
          have := s3 p (by rw [e, ← ha]; rfl) _ l2
          omega
theorem setsP_ts {n : Net} {ps : List Int} (hp : ∀ p ∈ ps, 0 ≤ p ∧ p < (n.b.length : Int)) {k : Nat} {t : Tp Int} (h : t ∈ setsP ps k) : Ts n t.l := fun p e => by
  obtain ⟨_, h2, h3⟩ := setsP_ok ps k t h
  exact ⟨hp p (h2 p (List.mem_iff_getElem?.mpr ⟨0, e⟩)), h3 p e⟩
theorem setsP_len (ps : List Int) : ∀ k : Nat, (setsP ps k).length ≤ ps.length ^ k
  | 0 => Nat.le_refl _
  | k + 1 => by
    have := setsP_len ps k
    have h : ∀ ts : List (Tp Int), (ts.flatMap fun t => (ps.filter (can t)).map fun q => Tp.mk (t.l ++ [q])).length ≤ ts.length * ps.length := fun ts => by
      induction ts with
      | nil => simp
      | cons t ts ih =>
        rw [List.flatMap_cons, List.length_append, List.length_map, List.length_cons, Nat.succ_mul]
        have := List.length_filter_le (can t) ps
        omega
    refine Nat.le_trans (h _) ?_
    rw [Nat.pow_succ]
    exact Nat.mul_le_mul_right _ this
theorem at_last {α : Type} [Inhabited α] {xs : List α} (h : xs ≠ []) : L2.atI xs (-1) = some (xs.getLast h) := by
  have hl := List.length_pos_iff.mpr h
  unfold L2.atI ixN
  rw [if_neg (by omega), if_pos (by omega)]
  show xs[(-1 + (xs.length : Int)).toNat]? = _
  rw [show (-1 + (xs.length : Int)).toNat = xs.length - 1 by omega, List.getElem?_eq_getElem (by omega), List.getLast_eq_getElem]
/-- one set made longer -/
theorem wider {ps : List Int} (t : Tp Int) (h : t.l.length < 1000) : filtO (fun (x21 : Int) => (if (decide ((t : (Tp Int)) = ((Tp.mk []) : (Tp Int)))) = true then some true else ((L2.atI t.l (-(1 : Int))).bind fun t31 => some (decide (t31 < x21)))).bind fun b33 => some b33) (fun (x21 : Int) => (extO t.l ((Tp.mk [x21]) : (Tp Int)).l).bind fun t34 => some ((Tp.mk t34) : (Tp Int))) ps = some ((ps.filter (can t)).map fun q => Tp.mk (t.l ++ [q])) := by
  induction ps with
  | nil => rfl
  | cons q ps ih =>
    have c : ((if (decide ((t : (Tp Int)) = ((Tp.mk []) : (Tp Int)))) = true then some true else ((L2.atI t.l (-(1 : Int))).bind fun t31 => some (decide (t31 < q)))).bind fun b33 => some b33) = some (can t q) := by
      rw [bsome]
      obtain ⟨l⟩ := t
      cases l with
      | nil => rfl
      | cons a l =>
        rw [if_neg (by simp)]
        refine bq (at_last (by simp)) ?_
        unfold can
        rw [List.getLast?_eq_some_getLast (by simp)]
        rfl
    have e : ((extO t.l ((Tp.mk [q]) : (Tp Int)).l).bind fun t34 => some ((Tp.mk t34) : (Tp Int))) = some (Tp.mk (t.l ++ [q])) := bq (if_pos (by simp; omega)) rfl
    unfold filtO
    refine bq c ?_
    rw [List.filter_cons]
    cases can t q with
    | false => exact ih
    | true => exact bq e (bq ih rfl)
/-- the sets of one size more -/
theorem wide_row {ps : List Int} (hp : ps.length ≤ 100) : ∀ (ts acc : List (Tp Int)), (∀ t ∈ ts, t.l.length < 1000) → acc.length + ts.length * ps.length ≤ 16777216 → forS (S := List (Tp Int)) (fun (x16 : (Tp Int)) (s15 : List (Tp Int)) => (
(filtO (fun (x21 : Int) => (if (decide ((x16 : (Tp Int)) = ((Tp.mk []) : (Tp Int)))) = true then some true else ((atI x16.l (-(1 : Int))).bind fun t31 => some (decide (t31 < x21)))).bind fun b33 => some b33) (fun (x21 : Int) => (extO x16.l ((Tp.mk [x21]) : (Tp Int)).l).bind fun t34 => some ((Tp.mk t34) : (Tp Int))) ps).bind fun l36 =>
(extO s15 l36).bind fun u38 =>
some u38 : Option (List (Tp Int)))) ts acc = some (acc ++ ts.flatMap fun t => (ps.filter (can t)).map fun q => Tp.mk (t.l ++ [q]))
  | [], acc, _, _ => by simp [forS]
  | t :: ts, acc, ht, hl => by
    rw [List.length_cons, Nat.succ_mul] at hl
    have fl := List.length_filter_le (can t) ps
    have ih := wide_row hp ts (acc ++ (ps.filter (can t)).map fun q => Tp.mk (t.l ++ [q])) (fun s hs => ht s (List.mem_cons_of_mem _ hs)) (by rw [List.length_append, List.length_map]; omega)
    rw [List.flatMap_cons, ← List.append_assoc]
    unfold forS
    exact bq (bq (wider t (ht t (List.mem_cons_self ..))) (bq (if_pos (by rw [List.length_map]; omega)) rfl)) ih
theorem sets_pow {ps : List Int} {G k : Nat} (hp : ps.length ≤ G) (hG : G ^ k ≤ 16777216) (h1 : 1 ≤ G) : ∀ j, j < k → (setsP ps j).length * ps.length ≤ 16777216 := fun j hj => by
  have a := setsP_len ps j
  have b : (setsP ps j).length * ps.length ≤ ps.length ^ j * ps.length := Nat.mul_le_mul_right _ a
  rw [← Nat.pow_succ, show j.succ = j + 1 from rfl] at b
  have c : ps.length ^ (j + 1) ≤ G ^ (j + 1) := Nat.pow_le_pow_left hp _
  have d : G ^ (j + 1) ≤ G ^ k := Nat.pow_le_pow_right h1 hj
  omega
theorem sets_is {ps : List Int} {G k : Nat} (hp : ps.length ≤ G) (hG : G ^ k ≤ 16777216) (h1 : 1 ≤ G) (hG' : G ≤ 100) (hk : k ≤ 100) : m_sets_of ps (k : Int) = some (setsP ps k) := by
  unfold m_sets_of
  refine bq rfl (bq (x := rngL 0 k) (if_pos (by omega)) ?_)
  have loop : ∀ j, j ≤ k → forS (S := (List (Tp Int))) (fun (x7 : Int) (s6 : (List (Tp Int))) => (
(some ([] : (List (Tp Int)))).bind fun v11 =>
(forS (S := List (Tp Int)) (fun (x16 : (Tp Int)) (s15 : List (Tp Int)) => (
(filtO (fun (x21 : Int) => (if (decide ((x16 : (Tp Int)) = ((Tp.mk []) : (Tp Int)))) = true then some true else ((atI x16.l (-(1 : Int))).bind fun t31 => some (decide (t31 < x21)))).bind fun b33 => some b33) (fun (x21 : Int) => (extO x16.l ((Tp.mk [x21]) : (Tp Int)).l).bind fun t34 => some ((Tp.mk t34) : (Tp Int))) ps).bind fun l36 =>
(extO s15 l36).bind fun u38 =>
some u38 : Option (List (Tp Int)))) s6 v11).bind fun s40 =>
some s40 : Option ((List (Tp Int))))) (rngL 0 j) [Tp.mk []] = some (setsP ps j) := by
    intro j
    induction j with
    | zero => intro _; rfl
    | succ j ih =>
      intro hj
      rw [rngL_succ, forS_app, ih (by omega)]
      refine bq rfl ?_
      unfold forS
      have r := wide_row (ps := ps) (by omega) (setsP ps j) [] (fun t ht => by have := (setsP_ok ps j t ht).1; omega) (by have := sets_pow hp hG h1 j (by omega); simp; omega)
      rw [List.nil_append] at r
      exact bq (x := setsP ps (j + 1)) (bq rfl (bq r rfl)) rfl
  exact bq (loop k (Nat.le_refl _)) rfl
/-! ### the first that is so -/
def toFl {R : Type} : Option R → Fl Unit R
  | some r => .rt r
  | none => .nx ()
theorem fl_same {R : Type} {o : Option R} : (flK (toFl o) (fun _ => some (.nx ())) (fun r => some (.rt r)) : Option (Fl Unit R)) = some (toFl o) := by
  cases o <;> rfl
theorem forF_find {α R : Type} {f : α → Unit → Option (Fl Unit R)} (g : α → Option R) : ∀ (xs : List α), (∀ x ∈ xs, f x () = some (toFl (g x))) → forF f xs () = some (toFl (xs.findSome? g))
  | [], _ => rfl
  | x :: xs, h => by
    have hx := h x (List.mem_cons_self ..)
    have ih := forF_find g xs fun y hy => h y (List.mem_cons_of_mem _ hy)
    unfold forF
    rw [hx, List.findSome?_cons]
    cases g x with
    | some r => rfl
    | none => exact ih
def brk (n : Net) (level : Str) (t : List Int) (i : Nat) : Bool := if level = ("right" : Str) then dif n t i || non n t i else dif n t i
theorem broken_is {n : Net} (hw : Wf n) (level : Str) (t : Tp Int) (ht : Ts n t.l) : m_broken_at n (mkL (NN n) (W0 n) (LL n)) (mk (NN n) fun _ => true) t level = some (mk (NN n) (brk n level t.l)) := by
  unfold m_broken_at
  refine bq (spoilt_mask hw t ht) ?_
  unfold brk
  by_cases h : level = ("right" : Str)
  · rw [if_pos (decide_eq_true h)]
    show some (Builtin.bitOr _ _) = _
    rw [mk_or]
    simp only [if_pos h]
  · rw [if_neg (by rw [decide_eq_false h]; decide)]
    simp only [if_neg h]
end W

namespace W
open PySem L2 TL
open Enc
/-! ### bears -/
theorem first_go {N : Nat} {f : Nat → Bool} {j : Nat} (hj : j < N) (h1 : f j = true) (h0 : ∀ i, i < j → f i = false) : ∀ (d s fuel : Nat), s + d = j → d < fuel → whileS (S := Int) (fun (s2 : Int) => (shrO (mk N f) s2).bind fun t8 => some (decide ((Builtin.bitAnd t8 (1 : Int)) = (0 : Int)))) (fun (s2 : Int) => (
some (s2 + (1 : Int)) : Option (Int))) fuel (s : Int) = some (j : Int) := by
  intro d
  induction d with
  | zero =>
    intro s fuel hs hf
    match fuel, hf with
    | fuel + 1, _ =>
      have e : s = j := by omega
      subst e
      unfold whileS
      refine bq (bq (x := mk N f / 2 ^ s) (by unfold shrO; rw [if_pos (by omega), Int.toNat_natCast]) rfl) ?_
      rw [mk_bit hj, h1]
      exact if_neg (by decide)
  | succ d ih =>
    intro s fuel hs hf
    match fuel, hf with
    | fuel + 1, hf =>
      unfold whileS
      refine bq (bq (x := mk N f / 2 ^ s) (by unfold shrO; rw [if_pos (by omega), Int.toNat_natCast]) rfl) ?_
      rw [mk_bit (by omega), h0 s (by omega), if_pos (by decide)]
      exact bq rfl (ih (s + 1) fuel (by omega) (by omega))
theorem find_low {N : Nat} {f : Nat → Bool} : (∃ j, (List.range N).find? f = some j ∧ j < N ∧ f j = true ∧ ∀ i, i < j → f i = false) ∨ ((List.range N).find? f = none ∧ ∀ i, i < N → f i = false) := by
  cases e : (List.range N).find? f with
  | none =>
    refine .inr ⟨rfl, fun i hi => ?_⟩
    have := List.find?_eq_none.mp e i (List.mem_range.mpr hi)
    simpa using this
  | some j =>
    obtain ⟨h1, as, bs, h2, h3⟩ := List.find?_eq_some_iff_append.mp e
    have hj : j < N := by
      have : j ∈ List.range N := by rw [h2]; simp
      exact List.mem_range.mp this
    refine .inl ⟨j, rfl, hj, h1, fun i hi => ?_⟩
    have hl : as.length = j := by
      have g : (List.range N)[as.length]? = some j := by rw [h2]; simp
      have := List.getElem?_range (n := N) (i := as.length) (by rw [show N = (List.range N).length by simp, h2]; simp)
      rw [this] at g
      exact Option.some.inj g
    have hi' : i ∈ as := by
      have g : (List.range N)[i]? = some i := List.getElem?_range (by omega)
      rw [h2, List.getElem?_append_left (by omega)] at g
      exact List.mem_iff_getElem?.mpr ⟨i, g⟩
    have := h3 i hi'
    simpa using this
theorem first_is {N : Nat} (hN : N ≤ 1000) {f : Nat → Bool} {j : Nat} (h : (List.range N).find? f = some j) : m_first_bit (mk N f) = some (j : Int) := by
  rcases find_low (N := N) (f := f) with ⟨i, e, h1, h2, h3⟩ | ⟨e, _⟩
  · rw [h] at e
    obtain rfl := Option.some.inj e
    unfold m_first_bit
    have ff : FUEL = 1000000 := rfl
    exact bq (first_go h1 h2 h3 j 0 FUEL (by omega) (by omega)) rfl
  · rw [h] at e; cases e
theorem mk_find {N : Nat} {f : Nat → Bool} : decide (mk N f = 0) = ((List.range N).find? f).isNone := by
  rcases find_low (N := N) (f := f) with ⟨i, e, h1, h2, h3⟩ | ⟨e, h⟩
  · rw [e]
    refine decide_eq_false fun q => ?_
    have := mk_eq0.mp q i h1
    rw [h2] at this; cases this
  · rw [e]
    exact decide_eq_true (mk_eq0.mpr h)
def gA (n : Net) (level : Str) (t : Tp Int) : Option Ans := ((List.range (NN n)).find? (brk n level t.l)).map fun j => Ans.a3 ("breaks" : Str) t (some (j : Int))
def ansB (n : Net) (many : Nat) (level : Str) : Ans := ((rngL 1 many).findSome? fun k => (setsP (frees n) k.toNat).findSome? (gA n level)).getD (Ans.a1 ("bears" : Str))
theorem bears_is {n : Net} (hw : Wf n) (hb : n.b.length ≤ 100) {many : Nat} (hm : many ≤ 3) (level : Str) : m_bears n (many : Int) level = some (ansB n many level) := by
  have a : m_all_wires n = some (mkL (NN n) (W0 n) (LL n), mk (NN n) fun _ => true) := all_w hw
  have fl := frees_len n
  unfold m_bears
  refine bq a (bq (x := rngL 1 many) ?_ ?_)
  · unfold rng2O
    rw [if_pos (by omega), show ((many : Int) + 1 - 1).toNat = many by omega]
  refine bq (forF_find (fun k => (setsP (frees n) k.toNat).findSome? (gA n level)) (rngL 1 many) fun k hk => ?_) ?_
  · have hk := mem_rngL.mp hk
    have ek : k = (k.toNat : Int) := by omega
    refine bq (free_is n) (bq (x := setsP (frees n) k.toNat) ?_ ?_)
    · rw [ek]
      exact sets_is (G := 100) (k := k.toNat) (by omega) (by
        have : k.toNat = 1 ∨ k.toNat = 2 ∨ k.toNat = 3 := by omega
        rcases this with e | e | e <;> rw [e] <;> decide) (by omega) (by omega) (by omega)
    · refine bq (forF_find (gA n level) (setsP (frees n) k.toNat) fun t ht => ?_) fl_same
      have ts := setsP_ts (n := n) (ps := frees n) frees_in ht
      refine bq (broken_is hw level t ts) ?_
      have N64 := NN_le hw
      rw [mk_find]
      unfold gA
      cases e : (List.range (NN n)).find? (brk n level t.l) with
      | none => rfl
      | some j => exact bq (first_is (by omega) e) rfl
  · unfold ansB
    cases (rngL 1 many).findSome? fun k => (setsP (frees n) k.toNat).findSome? (gA n level) <;> rfl
theorem rdO_r : ∀ (a b c : Bool), (!decide (rdO (a, b) = rdO (c, false)) && (true || (rdO (a, b)).isSome)) = ((a ^^ c) && !b || b) := by decide
theorem rdO_s : ∀ (a b c : Bool), (!decide (rdO (a, b) = rdO (c, false)) && (false || (rdO (a, b)).isSome)) = ((a ^^ c) && !b) := by decide
theorem any_or {α : Type} (p q : α → Bool) : ∀ xs : List α, xs.any (fun x => p x || q x) = (xs.any p || xs.any q)
  | [] => rfl
  | x :: xs => by
    rw [List.any_cons, List.any_cons, List.any_cons, any_or p q xs]
    cases p x <;> cases q x <;> cases xs.any p <;> rfl
theorem any_congr {α : Type} {p q : α → Bool} {xs : List α} (h : ∀ x ∈ xs, p x = q x) : xs.any p = xs.any q := by
  induction xs with
  | nil => rfl
  | cons x xs ih => rw [List.any_cons, List.any_cons, h x (List.mem_cons_self ..), ih fun y hy => h y (List.mem_cons_of_mem _ hy)]
theorem brk_is {n : Net} {i : Nat} (hs : ∀ o ∈ n.c, (rd o (W0 n i)).2 = false) (level : Str) (t : List Int) : (n.c.any fun o => !decide (rdO (rd o (W1 n t i)) = rdO (rd o (W0 n i))) && (decide (level = ("right" : Str)) || (rdO (rd o (W1 n t i))).isSome)) = brk n level t i := by
  have s0 : ∀ o ∈ n.c, rd o (W0 n i) = ((rd o (W0 n i)).1, false) := fun o ho => by rw [← hs o ho]
  unfold brk
  by_cases h : level = ("right" : Str)
  · rw [if_pos h]
    unfold dif non
    rw [← any_or]
    refine any_congr fun o ho => ?_
    rw [decide_eq_true h, s0 o ho]
    exact rdO_r _ _ _
  · rw [if_neg h]
    unfold dif
    refine any_congr fun o ho => ?_
    rw [decide_eq_false h, s0 o ho]
    exact rdO_s _ _ _
theorem find_any {α R : Type} (q : α → Bool) (v : R) : ∀ xs : List α, xs.findSome? (fun x => if q x = true then some v else none) = if xs.any q = true then some v else none
  | [] => rfl
  | x :: xs => by
    rw [List.findSome?_cons, List.any_cons]
    cases q x with
    | true => rfl
    | false => exact find_any q v xs
theorem find_idx {R : Type} (p : Nat → Bool) (v : Nat → R) : ∀ xs : List Nat, xs.findSome? (fun i => if p i = true then some (v i) else none) = (xs.find? p).map v
  | [] => rfl
  | x :: xs => by
    rw [List.findSome?_cons, List.find?_cons]
    cases p x with
    | true => rfl
    | false => exact find_idx p v xs
theorem enum_map {α : Type} (f : Nat → α) (N : Nat) : enumL ((List.range N).map f) = (List.range N).map fun i => (((i : Nat) : Int), f i) := by
  unfold enumL
  apply List.ext_getElem?
  intro i
  rw [List.getElem?_map, List.getElem?_zipIdx, List.getElem?_map, List.getElem?_map]
  rcases Nat.lt_or_ge i N with h | h
  · rw [List.getElem?_range h]; simp
  · rw [List.getElem?_eq_none (by simp; exact h)]; rfl
def plainL (n : Net) : List (List (Option Int)) := (List.range (NN n)).map fun i => n.c.map fun o => rdO (rd o (W0 n i))
theorem mapO_map {α β γ : Type} {f : β → Option γ} {g : α → β} {h : α → γ} : ∀ {xs : List α}, (∀ x ∈ xs, f (g x) = some (h x)) → mapO f (xs.map g) = some (xs.map h)
  | [], _ => rfl
  | x :: xs, k => by
    rw [List.map_cons]
    unfold mapO
    exact bq (k x (List.mem_cons_self ..)) (bq (mapO_map fun y hy => k y (List.mem_cons_of_mem _ hy)) rfl)
end W

namespace W
open PySem L2 TL
open Enc
/-! ### one input -/
theorem mk_1 (f : Nat → Bool) : mk 1 f = b2n (f 0) := by
  unfold TL.mk TL.mkN TL.mkN
  cases f 0 <;> rfl
theorem mk_11 : (1 : Int) = mk 1 fun _ => true := by rw [mk_1]; rfl
theorem mkL_1 {s : Bs} {L : Nat} (h : s.length = L) : mkL 1 (fun _ => s) L = s.map b2n := by
  apply List.ext_getElem?
  intro k
  rcases Nat.lt_or_ge k L with q | q
  · rw [mkL_get _ _ _ _ q, mk_1, List.getElem?_map, List.getElem?_eq_getElem (by omega), List.getD_eq_getElem?_getD, List.getElem?_eq_getElem (by omega)]
    rfl
  · rw [List.getElem?_eq_none (by rw [mkL_len]; exact q), List.getElem?_eq_none (by rw [List.length_map]; omega)]
theorem run_is {n : Net} (hw : Wf n) {b : Bs} (hb : b.length = n.a.length) (turned bad : Tp Int) : m_run n (Tp.mk (b.map b2n)) turned bad = some (n.c.map fun o => Tp.mk ((o.2.l.map (atB (WB n b (inT turned.l) (inT bad.l)))).map b2n)) := by
  have a0 := hw.ah
  have il := WB_ins hw b (inT bad.l)
  have wl := WB_len hw b (inT turned.l) (inT bad.l)
  have e1 := inw_mask (t := true) hw (N := 1) (fun _ => b) bad
  rw [mkL_1 hb, ← mk_11, mkL_1 (by omega)] at e1
  have e2 := gone_mask hw (N := 1) (L := (ah n).toNat) (p := 0) (S := fun _ => insB (inT bad.l) n.a 0 b []) turned (Nat.zero_le _) (by omega) fun _ => by omega
  rw [← mk_11, mkL_1 (by omega)] at e2
  have e3 : mkL 1 (fun _ => goB (inT turned.l) (n.b.drop 0) 0 (insB (inT bad.l) n.a 0 b [])) ((ah n).toNat + (n.b.length - 0)) = (WB n b (inT turned.l) (inT bad.l)).map b2n := mkL_1 (s := WB n b (inT turned.l) (inT bad.l)) (by omega)
  rw [show (fun (_ : Nat) => goB (inT turned.l) (n.b.drop 0) ((0 : Nat) : Int) (insB (inT bad.l) n.a 0 b [])) = fun _ => goB (inT turned.l) (n.b.drop 0) 0 (insB (inT bad.l) n.a 0 b []) from rfl, e3] at e2
  unfold m_run
  refine bq e1 (bq e2 ?_)
  generalize WB n b (inT turned.l) (inT bad.l) = s at wl
  have : ∀ os : List (Str × Tp Int), (∀ o ∈ os, o ∈ n.c) → mapO (fun (x32 : (Str × (Tp Int))) => (mapO (fun (x46 : Int) => (atI (s.map b2n) x46).bind fun t51 => some (t51 : Int)) x32.2.l).bind fun l53 => some ((Tp.mk l53) : (Tp Int))) os = some (os.map fun o => Tp.mk ((o.2.l.map (atB s)).map b2n)) := fun os ho => by
    induction os with
    | nil => rfl
    | cons o os ih =>
      have h2 := (hw.os o (ho o (List.mem_cons_self ..))).2
      unfold mapO
      exact bq (bq (mapO_b2n fun w hw' => by have := h2 w hw'; omega) rfl) (bq (ih fun y hy => ho y (List.mem_cons_of_mem _ hy)) rfl)
  exact bq (this n.c fun o ho => ho) rfl
theorem tl1 : ∀ t a : Bool, m_told (Sq.mk t [b2n a]) = some (rdO (rdB [a])) := by decide +kernel
theorem tl2 : ∀ t a b : Bool, m_told (Sq.mk t [b2n a, b2n b]) = some (rdO (rdB [a, b])) := by decide +kernel
theorem tl3 : ∀ t a b c : Bool, m_told (Sq.mk t [b2n a, b2n b, b2n c]) = some (rdO (rdB [a, b, c])) := by decide +kernel
theorem told_is {t : Bool} {l : Bs} (h1 : 1 ≤ l.length) (h3 : l.length ≤ 3) : m_told (Sq.mk t (l.map b2n)) = some (rdO (rdB l)) := by
  match l, h1, h3 with
  | [a], _, _ => exact tl1 t a
  | [a, b], _, _ => exact tl2 t a b
  | [a, b, c], _, _ => exact tl3 t a b c
  | _ :: _ :: _ :: _ :: l, _, h => exact absurd h (by simp)
/-- run and told -/
theorem mapO_told {n : Net} (hw : Wf n) (s : Bs) : mapO (fun (x16 : (Tp Int)) => (m_told (Sq.mk true x16.l)).bind fun r21 => some (r21 : (Option Int))) (n.c.map fun o => Tp.mk ((o.2.l.map (atB s)).map b2n)) = some (n.c.map fun o => rdO (rd o s)) := by
  refine mapO_map fun o ho => ?_
  obtain ⟨h1, h3⟩ := (hw.os o ho).1
  exact bq (told_is (l := o.2.l.map (atB s)) (by rw [List.length_map]; exact h1) (by rw [List.length_map]; exact h3)) rfl
end W

namespace W
open PySem L2 TL
open Enc
/-! ### how many bits -/
theorem many_go (N : Nat) : ∀ (k : Nat) (f : Nat → Bool) (a : Int) (fuel : Nat), cntB N f = k → k < fuel → whileS (S := Int × Int) (fun (s2 : Int × Int) => some (decide ((0 : Int) < s2.1))) (fun (s2 : Int × Int) => (
(some (Builtin.bitAnd s2.1 (s2.1 - (1 : Int)))).bind fun v8 =>
some (v8, (s2.2 + (1 : Int))) : Option (Int × Int))) fuel (mk N f, a) = some (0, a + k) := by
  intro k
  induction k with
  | zero =>
    intro f a fuel hk hf
    match fuel, hf with
    | fuel + 1, _ =>
      have z : mk N f = 0 := by
        rw [mk_eq0]
        intro i hi
        cases e : f i with
        | false => rfl
        | true =>
          have := cntB_drop e hi
          omega
      unfold whileS
      refine bq rfl ?_
      rw [z, if_neg (by simp)]
      simp
  | succ k ih =>
    intro f a fuel hk hf
    match fuel, hf with
    | fuel + 1, hf =>
      have ex : ∃ i, i < N ∧ f i = true := by
        apply Classical.byContradiction
        intro h
        have := cntB_zero (n := N) (f := f) fun i hi => by
          cases e : f i with
          | false => rfl
          | true => exact absurd ⟨i, hi, e⟩ h
        omega
      obtain ⟨j, j1, j2, j3⟩ := low_bit N f ex
      have pos : 0 < mk N f := by
        have := mk_nn N f
        have n0 : mk N f ≠ 0 := fun z => by
          have := mk_eq0.mp z j j1
          rw [j2] at this; cases this
        omega
      have d := cntB_drop j2 j1
      unfold whileS
      refine bq rfl ?_
      rw [if_pos (decide_eq_true pos)]
      refine bq (bq rfl (congrArg some (congrArg (·, a + 1) (clear_low j1 j2 j3)))) ?_
      rw [ih _ (a + 1) fuel (by omega) (by omega)]
      congr 2
      omega
theorem many_is {N : Nat} (h : N ≤ 1000) (f : Nat → Bool) : m_how_many_bits (mk N f) = some (cntB N f : Int) := by
  have := cntB_le N f
  have e : FUEL = 1000000 := rfl
  unfold m_how_many_bits
  refine bq (many_go N (cntB N f) f 0 FUEL rfl (by omega)) ?_
  simp
end W

namespace W
open PySem L2 TL
open Enc
/-! ### rows -/
theorem forS_push {α β : Type} {f : α → List β → Option (List β)} {h : α → β} : ∀ (xs : List α) (acc : List β), (∀ x ∈ xs, ∀ acc : List β, acc.length < 16777216 → f x acc = some (acc ++ [h x])) → acc.length + xs.length ≤ 16777216 → forS f xs acc = some (acc ++ xs.map h)
  | [], acc, _, _ => by simp [forS]
  | x :: xs, acc, k, hl => by
    rw [List.length_cons] at hl
    have ih := forS_push xs (acc ++ [h x]) (fun y hy => k y (List.mem_cons_of_mem _ hy)) (by rw [List.length_append, List.length_singleton]; omega)
    rw [List.map_cons, show acc ++ h x :: xs.map h = acc ++ [h x] ++ xs.map h by simp]
    unfold forS
    exact bq (k x (List.mem_cons_self ..) acc (by omega)) ih
theorem filtO_both {α β : Type} {p : α → Option Bool} {f : α → Option β} (q : α → Bool) (g : α → β) : ∀ (xs : List α), (∀ x ∈ xs, p x = some (q x)) → (∀ x ∈ xs, f x = some (g x)) → filtO p f xs = some ((xs.filter q).map g)
  | [], _, _ => rfl
  | x :: xs, hp, hf => by
    have ih := filtO_both q g xs (fun y hy => hp y (List.mem_cons_of_mem _ hy)) (fun y hy => hf y (List.mem_cons_of_mem _ hy))
    unfold filtO
    refine bq (hp x (List.mem_cons_self ..)) ?_
    rw [List.filter_cons]
    cases q x with
    | false => exact ih
    | true => exact bq (hf x (List.mem_cons_self ..)) (bq ih rfl)
theorem rngL_0 (N : Nat) : rngL 0 N = (List.range N).map fun i : Nat => (i : Int) := by
  unfold rngL
  exact List.map_congr_left fun i _ => by simp
theorem shr_mk {N : Nat} (f : Nat → Bool) (i : Nat) : shrO (mk N f) (i : Int) = some (mk N f / 2 ^ i) := by
  unfold shrO
  rw [if_pos (by omega), Int.toNat_natCast]
/-! ### columns -/
theorem column_is {N : Nat} (hN : N ≤ 1000) (f g : Nat → Bool) : m_column_of (mk N f) (mk N g) (N : Int) = some ((List.range N).map fun i => rdO (f i, g i)) := by
  unfold m_column_of
  refine bq rfl (bq (x := rngL 0 N) (if_pos (by omega)) ?_)
  rw [rngL_0]
  refine bq (forS_push (h := fun x : Int => rdO (f x.toNat, g x.toNat)) _ [] (fun x hx acc hl => ?_) (by simp; omega)) ?_
  · obtain ⟨i, hi, rfl⟩ := List.mem_map.mp hx
    have hi := List.mem_range.mp hi
    rw [Int.toNat_natCast]
    refine bq (shr_mk g i) ?_
    rw [mk_bit hi]
    cases eg : g i with
    | true =>
      rw [if_pos (by decide)]
      exact bq (bq (if_pos hl) rfl) rfl
    | false =>
      rw [if_neg (by decide)]
      refine bq (bq (shr_mk f i) ?_) rfl
      rw [mk_bit hi]
      exact bq (if_pos hl) rfl
  · rw [List.nil_append, List.map_map]
    rfl
theorem columns_is {n : Net} (hw : Wf n) : m_columns n = some (n.c.map fun o => (List.range (NN n)).map fun i => rdO (rd o (W0 n i))) := by
  have N64 := NN_le hw
  unfold m_columns
  refine bq (all_w hw) (bq (outs_mask hw) (bq (mapO_map fun o _ => ?_) rfl))
  refine bq (x := ((NN n : Nat) : Int)) ?_ (bq (column_is (N := NN n) (by omega) _ _) rfl)
  unfold shlO NN
  have := hw.al
  rw [if_pos (by omega)]
  simp
end W

namespace W
open PySem L2 TL
open Enc
/-! ### a net in copies -/
def rowM (M : Nat) (w : Int) : List Int := (rngL 0 M).map fun k => (M : Int) * w + k
def cg (M : Nat) (g : Gt) (k : Int) : Gt := T3.mk g.a (Tp.mk (g.b.l.map fun w => (M : Int) * w + k)) g.c
def cgs (M : Nat) (g : Gt) : List Gt := (rngL 0 M).map (cg M g)
def tm (M : Nat) (n : Net) : Net := T3.mk (n.a.map fun x => (x.1, (M : Int))) (n.b.flatMap (cgs M)) (n.c.map fun o => (o.1, Tp.mk (rowM M (at0 o.2.l 0))))
/-- a net whose ins and outs are of one wire -/
structure Pn (n : Net) : Prop where
  wf : Wf n
  one : ∀ x ∈ n.a, x.2 = 1
  out : ∀ o ∈ n.c, ∃ w, o.2.l = [w]
theorem rngL_get' {M : Nat} {k : Nat} (h : k < M) : (rngL 0 M)[k]? = some (k : Int) := by
  unfold rngL
  rw [List.getElem?_map, List.getElem?_range h]
  simp
theorem cgs_len (M : Nat) (g : Gt) : (cgs M g).length = M := by unfold cgs; rw [List.length_map, rngL_length]
theorem cgs_get {M k : Nat} (g : Gt) (h : k < M) : (cgs M g)[k]? = some (cg M g k) := by
  unfold cgs
  rw [List.getElem?_map, rngL_get' h]; rfl
theorem flat_len (M : Nat) : ∀ gs : List Gt, (gs.flatMap (cgs M)).length = M * gs.length
  | [] => by simp
  | g :: gs => by rw [List.flatMap_cons, List.length_append, cgs_len, flat_len M gs, List.length_cons, Nat.mul_succ]; omega
theorem flat_get {M : Nat} : ∀ (gs : List Gt) (q k : Nat), k < M → (gs.flatMap (cgs M))[M * q + k]? = (gs[q]?).map fun g => cg M g k
  | [], q, k, _ => by simp
  | g :: gs, 0, k, hk => by
    rw [List.flatMap_cons, List.getElem?_append_left (by rw [cgs_len]; omega), Nat.mul_zero, Nat.zero_add, cgs_get g hk]
    rfl
  | g :: gs, q + 1, k, hk => by
    rw [List.flatMap_cons, List.getElem?_append_right (by rw [cgs_len, Nat.mul_succ]; omega), cgs_len, show M * (q + 1) + k - M = M * q + k by rw [Nat.mul_succ]; omega, flat_get gs q k hk]
    simp
theorem split_ix {M i : Nat} (h : 1 ≤ M) : ∃ q k, i = M * q + k ∧ k < M := ⟨i / M, i % M, (Nat.div_add_mod i M).symm, Nat.mod_lt _ h⟩
theorem ah_tm {M : Nat} {n : Net} (hp : Pn n) : ah n = n.a.length ∧ ah (tm M n) = M * n.a.length := by
  have h := hp.one
  unfold ah tm
  simp only
  generalize n.a = xs at h
  induction xs with
  | nil => simp
  | cons x xs ih =>
    obtain ⟨i1, i2⟩ := ih fun y hy => h y (List.mem_cons_of_mem _ hy)
    rw [List.map_cons, List.map_cons, List.map_cons, List.sum_cons, List.sum_cons, i1, i2, h x (List.mem_cons_self ..), List.length_cons]
    constructor
    · omega
    · show (M : Int) + _ = _
      rw [show ((xs.length + 1 : Nat) : Int) = (xs.length : Int) + 1 by omega, Int.mul_add, Int.mul_one]
      omega
theorem tm_nn (M : Nat) (n : Net) : NN (tm M n) = NN n := by unfold NN tm; simp
theorem mul_lt {M w L k : Int} (hM : 0 < M) (hw : w < L) (hk : k < M) : M * w + k < M * L := by
  have : M * (w + 1) ≤ M * L := Int.mul_le_mul_of_nonneg_left (by omega) (by omega)
  rw [Int.mul_add, Int.mul_one] at this
  omega
theorem tm_wf {M : Nat} {n : Net} (hp : Pn n) (h1 : 1 ≤ M) (h3 : M ≤ 3) (hg : n.b.length ≤ 100) : Wf (tm M n) := by
  have w := hp.wf
  obtain ⟨a1, a2⟩ := ah_tm (M := M) hp
  refine ⟨by unfold tm; simp; exact w.al, fun x hx => ?_, ?_, fun i g hi => ?_, by unfold tm; simp; exact w.cl, fun o ho => ?_⟩
  · unfold tm at hx
    obtain ⟨y, _, rfl⟩ := List.mem_map.mp hx
    show 0 ≤ (M : Int) ∧ (M : Int) ≤ 3
    omega
  · show (n.b.flatMap (cgs M)).length ≤ 400
    rw [flat_len]
    have : M * n.b.length ≤ 3 * 100 := Nat.mul_le_mul h3 hg
    omega
  · obtain ⟨q, k, rfl, hk⟩ := split_ix (i := i) h1
    have hi : (n.b.flatMap (cgs M))[M * q + k]? = some g := hi
    rw [flat_get _ _ _ hk] at hi
    obtain ⟨g', e1, rfl⟩ := Option.map_eq_some_iff.mp hi
    obtain ⟨g1, g2, g3⟩ := w.gs q g' e1
    refine ⟨g1, by show ((g'.b.l.map _).length : Int) = _; rw [List.length_map]; exact g2, fun u hu => ?_⟩
    obtain ⟨v, hv, rfl⟩ := List.mem_map.mp hu
    obtain ⟨v0, v1⟩ := g3 v hv
    rw [a1] at v1
    rw [a2]
    have m0 : 0 ≤ (M : Int) * v := Int.mul_nonneg (by omega) v0
    have m1 := mul_lt (M := (M : Int)) (k := (k : Int)) (by omega) v1 (by omega)
    rw [Int.mul_add] at m1
    have e : ((M * q + k : Nat) : Int) = (M : Int) * (q : Int) + (k : Int) := by push_cast; rfl
    rw [e]
    omega
  · unfold tm at ho
    obtain ⟨o', ho', rfl⟩ := List.mem_map.mp ho
    obtain ⟨v, hv⟩ := hp.out o' ho'
    obtain ⟨v0, v1⟩ := (w.os o' ho').2 v (by rw [hv]; simp)
    rw [a1] at v1
    refine ⟨by show 1 ≤ (rowM M _).length ∧ (rowM M _).length ≤ 3; unfold rowM; rw [List.length_map, rngL_length]; omega, fun u hu => ?_⟩
    have hu : u ∈ rowM M (at0 o'.2.l 0) := hu
    rw [hv] at hu
    have hu : u ∈ rowM M v := hu
    unfold rowM at hu
    obtain ⟨k, hk, rfl⟩ := List.mem_map.mp hu
    have hk := mem_rngL.mp hk
    have m0 : 0 ≤ (M : Int) * v := Int.mul_nonneg (by omega) v0
    have m1 := mul_lt (M := (M : Int)) (k := k) (by omega) v1 (by omega)
    rw [Int.mul_add] at m1
    rw [a2, show ((tm M n).b.length : Int) = (M : Int) * n.b.length by show ((n.b.flatMap (cgs M)).length : Int) = _; rw [flat_len]; push_cast; rfl]
    omega
/-- one copy does as the plain one -/
def Cp (M : Nat) (k : Int) (s' s : Bs) : Prop := s'.length = M * s.length ∧ ∀ w : Int, 0 ≤ w → w < (s.length : Int) → atB s' ((M : Int) * w + k) = atB s w
theorem cp_go {M : Nat} {k : Nat} (hk : k < M) {T' T : Int → Bool} (hT : ∀ q, T' ((M : Int) * q + k) = T q) : ∀ (gs : List Gt) (p : Int) (s' s : Bs), (∀ (i : Nat) g, gs[i]? = some g → ∀ w ∈ g.b.l, 0 ≤ w ∧ w < (s.length : Int) + i) → Cp M k s' s →
    Cp M k (goB T' (gs.flatMap (cgs M)) ((M : Int) * p) s') (goB T gs p s)
  | [], _, _, _, _, h => h
  | g :: gs, p, s', s, hg, ⟨hl, h⟩ => by
    have g0 := hg 0 g rfl
    rw [List.flatMap_cons, goB_app, cgs_len]
    have lv : (s ++ [gB g.a (g.b.l.map (atB s)) ^^ T p]).length = s.length + 1 := by simp
    have l1 := goB_len T' (cgs M g) ((M : Int) * p) s'
    rw [cgs_len] at l1
    have hlI : (s'.length : Int) = (M : Int) * s.length := by rw [hl]; push_cast; rfl
    have inl : ∀ w ∈ g.b.l, 0 ≤ (M : Int) * w + k ∧ (M : Int) * w + k < s'.length := fun w hw => by
      have := g0 w hw
      have m0 : 0 ≤ (M : Int) * w := Int.mul_nonneg (by omega) this.1
      have m1 := mul_lt (M := (M : Int)) (w := w) (L := s.length) (k := (k : Int)) (by omega) (by omega) (by omega)
      rw [hlI]
      omega
    have at1 := goB_at T' (cgs M g) ((M : Int) * p) s' k (cg M g k) (cgs_get g hk) fun w hw => by
      obtain ⟨v, hv, rfl⟩ := List.mem_map.mp hw
      have := inl v hv
      omega
    have e1 : (cg M g k).b.l.map (atB (goB T' (cgs M g) ((M : Int) * p) s')) = g.b.l.map (atB s) := by
      show (g.b.l.map _).map _ = _
      rw [List.map_map]
      refine List.map_congr_left fun w hw => ?_
      have a := inl w hw
      show atB _ ((M : Int) * w + k) = _
      rw [goB_low _ _ _ _ _ a.1 a.2, h w (g0 w hw).1 (by have := (g0 w hw).2; omega)]
    rw [e1, hT] at at1
    have at1 : atB (goB T' (cgs M g) ((M : Int) * p) s') ((s'.length : Int) + k) = (gB g.a (g.b.l.map (atB s)) ^^ T p) := at1
    have q := cp_go hk hT gs (p + 1) (goB T' (cgs M g) ((M : Int) * p) s') (s ++ [gB g.a (g.b.l.map (atB s)) ^^ T p]) (fun i g' e w hw => by
      have := hg (i + 1) g' e w hw
      rw [lv]; omega) ⟨by rw [l1, lv, hl, Nat.mul_succ], fun w w0 w1 => ?_⟩
    · rw [Int.mul_add, Int.mul_one] at q
      exact q
    · rw [lv] at w1
      rw [atB_app _ _ _ w0]
      by_cases e : w < s.length
      · have m0 : 0 ≤ (M : Int) * w := Int.mul_nonneg (by omega) w0
        have m1 := mul_lt (M := (M : Int)) (w := w) (L := s.length) (k := (k : Int)) (by omega) e (by omega)
        rw [if_pos e, goB_low _ _ _ _ _ (by omega) (by omega), h w w0 e]
      · have e : w = s.length := by omega
        subst e
        rw [if_neg (by omega), if_pos rfl, ← hlI]
        exact at1
theorem cp_ins {M : Nat} {k : Nat} (hk : k < M) (b : Bs) : ∀ (xs : List (Str × Int)) (j : Nat) (s' s : Bs), (∀ x ∈ xs, x.2 = 1) → Cp M k s' s → Cp M k (insB no (xs.map fun x => (x.1, (M : Int))) j b s') (insB no xs j b s)
  | [], _, _, _, _, h => h
  | x :: xs, j, s', s, hx, ⟨hl, h⟩ => by
    have x1 := hx x (List.mem_cons_self ..)
    have hlI : (s'.length : Int) = (M : Int) * s.length := by rw [hl]; push_cast; rfl
    refine cp_ins hk b xs (j + 1) _ _ (fun y hy => hx y (List.mem_cons_of_mem _ hy)) ?_
    rw [x1, repB_no, repB_no, show ((x.1, (M : Int)).2).toNat = M from Int.toNat_natCast M, show (1 : Int).toNat = 1 from rfl]
    refine ⟨by simp [hl, Nat.mul_succ], fun w w0 w1 => ?_⟩
    rw [List.length_append, List.length_replicate] at w1
    have m0 : 0 ≤ (M : Int) * w := Int.mul_nonneg (by omega) w0
    rw [atB_rep _ _ _ _ w0 (by omega)]
    by_cases e : w < s.length
    · have m1 := mul_lt (M := (M : Int)) (w := w) (L := s.length) (k := (k : Int)) (by omega) e (by omega)
      rw [if_pos e, atB_rep _ _ _ _ (by omega) (by omega), if_pos (by omega), h w w0 e]
    · have e : w = s.length := by omega
      subst e
      rw [if_neg (by omega), atB_rep _ _ _ _ (by omega) (by omega), if_neg (by omega)]
theorem cp_WB {M : Nat} {k : Nat} (hk : k < M) {n : Net} (hp : Pn n) (b : Bs) {T' T : Int → Bool} (hT : ∀ q, T' ((M : Int) * q + k) = T q) : Cp M k (WB (tm M n) b T' no) (WB n b T no) := by
  have il := WB_ins hp.wf b no
  have q := cp_go hk hT n.b 0 _ _ (fun i g e w hw => ?_) (cp_ins (M := M) hk b n.a 0 [] [] hp.one ⟨by simp, fun w _ h => by simp at h; omega⟩)
  · rw [Int.mul_zero] at q
    exact q
  · have := (hp.wf.gs i g e).2.2 w hw
    omega
/-! ### one gate turned -/
theorem w0_copy {M : Nat} {n : Net} (hp : Pn n) {k : Nat} (hk : k < M) (i : Nat) : Cp M k (W0 (tm M n) i) (W0 n i) := by
  have e : inB (tm M n).a.length i = inB n.a.length i := by unfold tm; simp
  unfold W0
  rw [e]
  exact cp_WB hk hp _ fun _ => rfl
theorem mul_inj {M : Nat} {k j : Nat} {q g : Int} (hk : k < M) (hj : j < M) : (M : Int) * q + k = (M : Int) * g + j ↔ q = g ∧ k = j := by
  constructor
  · intro h
    have e1 := congrArg (· / (M : Int)) h
    have m0 : (M : Int) ≠ 0 := by omega
    have d : ∀ (a : Int) (c : Nat), c < M → ((M : Int) * a + c) / (M : Int) = a := fun a c hc => by
      rw [Int.mul_add_ediv_left _ _ m0, Int.ediv_eq_zero_of_lt (by omega) (by omega), Int.add_zero]
    have e1 : ((M : Int) * q + k) / (M : Int) = ((M : Int) * g + j) / (M : Int) := e1
    rw [d q k hk, d g j hj] at e1
    subst e1
    exact ⟨rfl, by omega⟩
  · rintro ⟨rfl, rfl⟩
    rfl
theorem w1_copy {M : Nat} {n : Net} (hp : Pn n) {k j : Nat} (hk : k < M) (hj : j < M) (g : Int) (i : Nat) : Cp M k (W1 (tm M n) [(M : Int) * g + j] i) (if k = j then W1 n [g] i else W0 n i) := by
  have e : inB (tm M n).a.length i = inB n.a.length i := by unfold tm; simp
  unfold W1 W0
  rw [e]
  by_cases c : k = j
  · subst c
    rw [if_pos rfl]
    refine cp_WB hk hp _ fun q => ?_
    unfold inT
    refine decide_eq_decide.mpr ?_
    rw [List.mem_singleton, List.mem_singleton, mul_inj hk hk]
    exact ⟨fun h => h.1, fun h => ⟨h, rfl⟩⟩
  · rw [if_neg c]
    refine cp_WB hk hp _ fun q => ?_
    unfold inT
    refine decide_eq_false fun h => ?_
    rw [List.mem_singleton, mul_inj hk hj] at h
    exact c h.2
theorem tm_in {M : Nat} {n : Net} {o' : Str × Tp Int} (ho : o' ∈ (tm M n).c) (hp : Pn n) : ∃ o ∈ n.c, ∃ w, o.2.l = [w] ∧ o' = (o.1, Tp.mk (rowM M w)) ∧ 0 ≤ w ∧ w < ah n + (n.b.length : Int) := by
  unfold tm at ho
  obtain ⟨o, ho', rfl⟩ := List.mem_map.mp ho
  obtain ⟨w, hw⟩ := hp.out o ho'
  exact ⟨o, ho', w, hw, by rw [hw]; rfl, (hp.wf.os o ho').2 w (by rw [hw]; simp)⟩
theorem rd_3 (a b c : Bool) : rdB [a, b, c] = (a && b || a && c || b && c, false) := by cases a <;> cases b <;> cases c <;> rfl
theorem rd3 (nm : Str) (w : Int) (s : Bs) : rd (nm, Tp.mk (rowM 3 w)) s = (atB s (3 * w + (0 : Nat)) && atB s (3 * w + (1 : Nat)) || atB s (3 * w + (0 : Nat)) && atB s (3 * w + (2 : Nat)) || atB s (3 * w + (1 : Nat)) && atB s (3 * w + (2 : Nat)), false) := by
  have e : rowM 3 w = [3 * w + (0 : Nat), 3 * w + (1 : Nat), 3 * w + (2 : Nat)] := by
    unfold rowM
    have : rngL 0 3 = [0, 1, 2] := by decide
    rw [this]; rfl
  unfold rd
  show rdB ((rowM 3 w).map (atB s)) = _
  rw [e]
  exact rd_3 _ _ _
theorem rd2 (nm : Str) (w : Int) (s : Bs) : rd (nm, Tp.mk (rowM 2 w)) s = (atB s (2 * w + (0 : Nat)) && atB s (2 * w + (1 : Nat)), atB s (2 * w + (0 : Nat)) ^^ atB s (2 * w + (1 : Nat))) := by
  have e : rowM 2 w = [2 * w + (0 : Nat), 2 * w + (1 : Nat)] := by
    unfold rowM
    have : rngL 0 2 = [0, 1] := by decide
    rw [this]; rfl
  unfold rd
  show rdB ((rowM 2 w).map (atB s)) = _
  rw [e]
  rfl
theorem wb_len {n : Net} (hp : Pn n) (b : Bs) (T : Int → Bool) {w : Int} (h : w < ah n + (n.b.length : Int)) : w < (WB n b T no).length := by
  have := WB_len hp.wf b T no
  omega
/-- in threes one turned gate changes no out -/
theorem three_same {n : Net} (hp : Pn n) {j : Nat} (hj : j < 3) (g : Int) (i : Nat) {o' : Str × Tp Int} (ho : o' ∈ (tm 3 n).c) : ∃ x, rd o' (W1 (tm 3 n) [3 * g + j] i) = (x, false) ∧ rd o' (W0 (tm 3 n) i) = (x, false) := by
  obtain ⟨o, _, w, _, rfl, w0, w1⟩ := tm_in ho hp
  have c0 : ∀ k : Nat, k < 3 → atB (W0 (tm 3 n) i) (3 * w + k) = atB (W0 n i) w := fun k hk => (w0_copy hp hk i).2 w w0 (wb_len hp _ _ w1)
  have c1 : ∀ k : Nat, k < 3 → k ≠ j → atB (W1 (tm 3 n) [3 * g + j] i) (3 * w + k) = atB (W0 n i) w := fun k hk hc => by
    have := w1_copy hp hk hj g i
    rw [if_neg hc] at this
    exact this.2 w w0 (wb_len hp _ _ w1)
  refine ⟨atB (W0 n i) w, ?_, ?_⟩
  · rw [rd3]
    have c : j = 0 ∨ j = 1 ∨ j = 2 := by omega
    rcases c with e | e | e <;> subst e
    · rw [c1 1 (by omega) (by omega), c1 2 (by omega) (by omega)]
      generalize atB (W0 n i) w = a
      generalize atB _ (3 * w + (0 : Nat)) = c
      cases a <;> cases c <;> rfl
    · rw [c1 0 (by omega) (by omega), c1 2 (by omega) (by omega)]
      generalize atB (W0 n i) w = a
      generalize atB _ (3 * w + (1 : Nat)) = c
      cases a <;> cases c <;> rfl
    · rw [c1 0 (by omega) (by omega), c1 1 (by omega) (by omega)]
      generalize atB (W0 n i) w = a
      generalize atB _ (3 * w + (2 : Nat)) = c
      cases a <;> cases c <;> rfl
  · rw [rd3, c0 0 (by omega), c0 1 (by omega), c0 2 (by omega)]
    cases atB (W0 n i) w <;> rfl
theorem three_brk {n : Net} (hp : Pn n) (level : Str) {j : Nat} (hj : j < 3) (g : Int) (i : Nat) : brk (tm 3 n) level [3 * g + j] i = false := by
  have d : dif (tm 3 n) [3 * g + j] i = false := by
    unfold dif
    refine List.any_eq_false.mpr fun o ho => ?_
    obtain ⟨x, e1, e0⟩ := three_same hp hj g i ho
    rw [e1, e0]
    cases x <;> decide
  have m : non (tm 3 n) [3 * g + j] i = false := by
    unfold non
    refine List.any_eq_false.mpr fun o ho => ?_
    obtain ⟨x, e1, e0⟩ := three_same hp hj g i ho
    rw [e1]
    simp
  unfold brk
  rw [d, m]
  split <;> rfl
/-- in pairs -/
theorem pair_rd {n : Net} (hp : Pn n) {j : Nat} (hj : j < 2) (g : Int) (i : Nat) {o : Str × Tp Int} {w : Int} (w0 : 0 ≤ w) (w1 : w < ah n + (n.b.length : Int)) :
    rd (o.1, Tp.mk (rowM 2 w)) (W1 (tm 2 n) [2 * g + j] i) = (atB (W1 n [g] i) w && atB (W0 n i) w, atB (W1 n [g] i) w ^^ atB (W0 n i) w) ∧ rd (o.1, Tp.mk (rowM 2 w)) (W0 (tm 2 n) i) = (atB (W0 n i) w, false) := by
  have c0 : ∀ k : Nat, k < 2 → atB (W0 (tm 2 n) i) (2 * w + k) = atB (W0 n i) w := fun k hk => (w0_copy hp hk i).2 w w0 (wb_len hp _ _ w1)
  have c1 : ∀ k : Nat, k < 2 → atB (W1 (tm 2 n) [2 * g + j] i) (2 * w + k) = if k = j then atB (W1 n [g] i) w else atB (W0 n i) w := fun k hk => by
    have := w1_copy hp hk hj g i
    by_cases c : k = j
    · rw [if_pos c] at this ⊢
      exact this.2 w w0 (wb_len hp _ _ w1)
    · rw [if_neg c] at this ⊢
      exact this.2 w w0 (wb_len hp _ _ w1)
  refine ⟨?_, ?_⟩
  · rw [rd2, c1 0 (by omega), c1 1 (by omega)]
    have c : j = 0 ∨ j = 1 := by omega
    rcases c with e | e <;> subst e
    · rfl
    · rw [if_neg (by omega), if_pos rfl]
      generalize atB (W0 n i) w = a
      generalize atB (W1 n [g] i) w = c
      cases a <;> cases c <;> rfl
  · rw [rd2, c0 0 (by omega), c0 1 (by omega)]
    cases atB (W0 n i) w <;> rfl
def spl (n : Net) (g : Int) (i : Nat) : Bool := n.c.any fun o => atB (W1 n [g] i) (at0 o.2.l 0) ^^ atB (W0 n i) (at0 o.2.l 0)
theorem pair_dif {n : Net} (hp : Pn n) {j : Nat} (hj : j < 2) (g : Int) (i : Nat) : dif (tm 2 n) [2 * g + j] i = false := by
  unfold dif
  refine List.any_eq_false.mpr fun o' ho => ?_
  obtain ⟨o, _, w, _, rfl, w0, w1⟩ := tm_in ho hp
  obtain ⟨e1, e0⟩ := pair_rd hp hj g i (o := o) w0 w1
  rw [e1, e0]
  generalize atB (W0 n i) w = a
  generalize atB (W1 n [g] i) w = c
  cases a <;> cases c <;> decide
theorem pair_non {n : Net} (hp : Pn n) {j : Nat} (hj : j < 2) (g : Int) (i : Nat) : non (tm 2 n) [2 * g + j] i = spl n g i := by
  unfold non spl
  show (n.c.map _).any _ = _
  rw [List.any_map]
  refine any_congr fun o ho => ?_
  obtain ⟨w, hw⟩ := hp.out o ho
  obtain ⟨w0, w1⟩ := (hp.wf.os o ho).2 w (by rw [hw]; simp)
  show (rd (o.1, Tp.mk (rowM 2 (at0 o.2.l 0))) _).2 = _
  rw [hw]
  have := (pair_rd hp hj g i (o := o) w0 w1).1
  show (rd (o.1, Tp.mk (rowM 2 w)) _).2 = _
  rw [this]
  rfl
/-! ### free places -/
theorem mem_frees {n : Net} {p : Int} : p ∈ frees n ↔ ∃ (q : Nat) (g : Gt), p = (q : Int) ∧ n.b[q]? = some g ∧ g.c = false := by
  unfold frees enumL
  rw [List.mem_map]
  constructor
  · rintro ⟨x, hx, rfl⟩
    obtain ⟨hx, hc⟩ := List.mem_filter.mp hx
    obtain ⟨y, hy, rfl⟩ := List.mem_map.mp hx
    have := List.mem_zipIdx hy
    refine ⟨y.2, y.1, rfl, ?_, by simpa using hc⟩
    have e := this.2.2
    simp only [Nat.sub_zero] at e
    rw [e]
    exact List.getElem?_eq_getElem _
  · rintro ⟨q, g, rfl, e, hc⟩
    refine ⟨((q : Int), g), List.mem_filter.mpr ⟨List.mem_map.mpr ⟨(g, q), ?_, rfl⟩, by simpa using hc⟩, rfl⟩
    obtain ⟨h, e⟩ := List.getElem?_eq_some_iff.mp e
    rw [List.mem_iff_getElem?]
    exact ⟨q, by rw [List.getElem?_zipIdx, List.getElem?_eq_getElem h, e]; simp⟩
theorem frees_tm {M : Nat} (h1 : 1 ≤ M) {n : Net} {p : Int} (h : p ∈ frees (tm M n)) : ∃ (q j : Nat), p = (M : Int) * (q : Int) + j ∧ j < M ∧ (q : Int) ∈ frees n := by
  obtain ⟨i, g, rfl, e, hc⟩ := mem_frees.mp h
  obtain ⟨q, k, rfl, hk⟩ := split_ix (i := i) h1
  have e : (n.b.flatMap (cgs M))[M * q + k]? = some g := e
  rw [flat_get _ _ _ hk] at e
  obtain ⟨g', e1, rfl⟩ := Option.map_eq_some_iff.mp e
  exact ⟨q, k, by push_cast; rfl, hk, mem_frees.mpr ⟨q, g', rfl, e1, hc⟩⟩
theorem tm_frees {M : Nat} (h1 : 1 ≤ M) {n : Net} {q : Int} (h : q ∈ frees n) : (M : Int) * q ∈ frees (tm M n) := by
  obtain ⟨i, g, rfl, e, hc⟩ := mem_frees.mp h
  refine mem_frees.mpr ⟨M * i + 0, cg M g 0, by push_cast; omega, ?_, hc⟩
  show (n.b.flatMap (cgs M))[M * i + 0]? = _
  rw [flat_get _ _ _ (by omega), e]
  rfl
/-! ### bears one -/
theorem sets1 (ps : List Int) : setsP ps 1 = ps.map fun q => Tp.mk [q] := by
  show ([Tp.mk []].flatMap fun t => (ps.filter (can t)).map fun q => Tp.mk (t.l ++ [q])) = _
  rw [List.flatMap_cons, List.flatMap_nil, List.append_nil]
  have : ps.filter (can (Tp.mk [])) = ps := List.filter_eq_self.mpr fun _ _ => rfl
  rw [this]; rfl
theorem ans1 (n : Net) (level : Str) : ansB n 1 level = ((frees n).findSome? fun p => gA n level (Tp.mk [p])).getD (Ans.a1 ("bears" : Str)) := by
  unfold ansB
  have : rngL 1 1 = [1] := by decide
  rw [this, List.findSome?_cons, List.findSome?_nil, show (1 : Int).toNat = 1 from rfl, sets1, List.findSome?_map]
  have e : (gA n level ∘ fun q => Tp.mk [q]) = fun p => gA n level (Tp.mk [p]) := rfl
  rw [e]
  cases (frees n).findSome? fun p => gA n level (Tp.mk [p]) <;> rfl
theorem ans0 (n : Net) (level : Str) : ansB n 0 level = Ans.a1 ("bears" : Str) := rfl
theorem gA_none {n : Net} {level : Str} {t : Tp Int} : gA n level t = none ↔ ∀ i, i < NN n → brk n level t.l i = false := by
  unfold gA
  cases e : (List.range (NN n)).find? (brk n level t.l) with
  | none =>
    refine ⟨fun _ i hi => ?_, fun _ => rfl⟩
    have := List.find?_eq_none.mp e i (List.mem_range.mpr hi)
    simpa using this
  | some j =>
    refine ⟨fun h => (by cases h), fun h => ?_⟩
    have hj := List.mem_range.mp (List.mem_of_find?_eq_some e)
    have := List.find?_some e
    rw [h j hj] at this
    cases this
theorem ans1_bears {n : Net} {level : Str} : ansB n 1 level = Ans.a1 ("bears" : Str) ↔ ∀ p ∈ frees n, ∀ i, i < NN n → brk n level [p] i = false := by
  rw [ans1]
  constructor
  · intro h p hp
    refine (gA_none (t := Tp.mk [p])).mp ?_
    cases e : (frees n).findSome? fun p => gA n level (Tp.mk [p]) with
    | none => exact List.findSome?_eq_none_iff.mp e p hp
    | some a =>
      rw [e] at h
      obtain ⟨q, _, hq⟩ := List.exists_of_findSome?_eq_some e
      have h : a = Ans.a1 ("bears" : Str) := h
      subst h
      unfold gA at hq
      obtain ⟨j, _, z⟩ := Option.map_eq_some_iff.mp hq
      cases z
  · intro h
    rw [List.findSome?_eq_none_iff.mpr fun p hp => (gA_none (t := Tp.mk [p])).mpr (h p hp)]
    rfl
theorem ans_sure {n : Net} (h : frees n = []) {many : Nat} (level : Str) : ansB n many level = Ans.a1 ("bears" : Str) := by
  have e : ∀ k : Nat, 1 ≤ k → setsP [] k = [] := fun k hk => by
    match k, hk with
    | k + 1, _ =>
      unfold setsP
      refine List.flatMap_eq_nil_iff.mpr fun t _ => rfl
  unfold ansB
  rw [h, List.findSome?_eq_none_iff.mpr fun k hk => ?_]
  · rfl
  · have := mem_rngL.mp hk
    rw [e k.toNat (by omega)]
    rfl
theorem three_bears {n : Net} (hp : Pn n) (level : Str) : ansB (tm 3 n) 1 level = Ans.a1 ("bears" : Str) := ans1_bears.mpr fun p h i _ => by
  obtain ⟨q, j, rfl, hj, _⟩ := frees_tm (by omega) h
  exact three_brk hp level hj q i
theorem pair_safe {n : Net} (hp : Pn n) : ansB (tm 2 n) 1 ("safe" : Str) = Ans.a1 ("bears" : Str) := ans1_bears.mpr fun p h i _ => by
  obtain ⟨q, j, rfl, hj, _⟩ := frees_tm (by omega) h
  unfold brk
  rw [if_neg (show ¬ ("safe" : Str) = ("right" : Str) by decide +kernel)]
  exact pair_dif hp hj q i
theorem pair_right {n : Net} (hp : Pn n) : ansB (tm 2 n) 1 ("right" : Str) = Ans.a1 ("bears" : Str) ↔ ∀ q ∈ frees n, ∀ i, i < NN n → spl n q i = false := by
  rw [ans1_bears, tm_nn]
  have b : ∀ (q : Int) (j : Nat), j < 2 → ∀ i, brk (tm 2 n) ("right" : Str) [2 * q + j] i = spl n q i := fun q j hj i => by
    unfold brk
    rw [if_pos rfl, pair_dif hp hj, pair_non hp hj, Bool.false_or]
  constructor
  · intro h q hq i hi
    have := h _ (tm_frees (M := 2) (by omega) hq) i hi
    have e := b q 0 (by omega) i
    rw [show (2 : Int) * q + (0 : Nat) = 2 * q by omega] at e
    rw [← e]
    exact this
  · intro h p hp' i hi
    obtain ⟨q, j, rfl, hj, hq⟩ := frees_tm (by omega) hp'
    exact (b q j hj i).trans (h q hq i hi)
theorem brk_ok {t : Tp Int} {o : Option Int} : EqD.ok (Ans.a3 ("breaks" : Str) t o) = true := by
  show EqD.ok ("breaks" : Str) = true
  decide +kernel
theorem brs_ok : EqD.ok (Ans.a1 ("bears" : Str)) = true := by
  show EqD.ok ("bears" : Str) = true
  decide +kernel
theorem ans_ok {n : Net} {many : Nat} {level : Str} : EqD.ok (ansB n many level) = true := by
  have g : ∀ t a, gA n level t = some a → EqD.ok a = true := fun t a h => by
    unfold gA at h
    obtain ⟨j, _, rfl⟩ := Option.map_eq_some_iff.mp h
    exact brk_ok
  unfold ansB
  cases e : (rngL 1 many).findSome? fun k => (setsP (frees n) k.toNat).findSome? (gA n level) with
  | none => exact brs_ok
  | some a =>
    obtain ⟨k, _, hk⟩ := List.exists_of_findSome?_eq_some e
    obtain ⟨t, _, ht⟩ := List.exists_of_findSome?_eq_some hk
    exact g t a ht
end W

namespace W
open PySem L2 TL
open Enc
theorem next_ok {p : List Int} {many : Int} (hp : p.length = 2) (h : 0 < many) (h1 : many < 1073741824) : Ok (m__law_next p many) fun r => (0 ≤ r.1 ∧ r.1 < many) ∧ r.2.length = 2 := by
  unfold m__law_next
  refine Ok.bind (Ok.atI (by omega) (by omega)) fun t1 _ => ?_
  refine Ok.bind (Ok.setO (by omega) (by omega)) fun u3 e3 => ?_
  have l3 : u3.length = 2 := by rw [e3, List.length_set]; exact hp
  refine Ok.bind (Ok.atI (by omega) (by omega)) fun t5 _ => ?_
  refine Ok.ite (fun _ => ?_) (fun _ => ?_)
  · refine Ok.bind (Ok.fdivO h h1) fun t7 _ => ?_
    refine Ok.bind (Ok.setO (by omega) (by omega)) fun u9 e9 => ?_
    refine Ok.bind (Ok.modO h) fun t11 h11 => ?_
    exact Ok.pure ⟨h11.2, by rw [e9, List.length_set]; exact l3⟩
  · refine Ok.bind (Ok.atI (by omega) (by omega)) fun t13 _ => Ok.lt ?_
    refine Ok.bind (Ok.mulO (by omega) (by omega)) fun t17 _ => Ok.lt ?_
    refine Ok.bind (Ok.atI (by omega) (by omega)) fun t21 _ => ?_
    refine Ok.bind (Ok.modO h) fun t23 h23 => ?_
    exact Ok.pure ⟨h23.2, l3⟩
/-! ### loops that compute what a map does -/
theorem mapO_eq {α β : Type} {f : α → Option β} (g : α → β) : ∀ (xs : List α), (∀ x ∈ xs, f x = some (g x)) → mapO f xs = some (xs.map g)
  | [], _ => rfl
  | x :: xs, h => by
    unfold mapO
    rw [h x (List.mem_cons_self ..), mapO_eq g xs fun y hy => h y (List.mem_cons_of_mem _ hy)]
    rfl
theorem forS_ext {α β : Type} {f : α → List β → Option (List β)} (g : α → List β) (m : Nat) : ∀ (xs : List α) (s : List β), s.length + xs.length * m ≤ 16777216 → (∀ x ∈ xs, (g x).length ≤ m) → (∀ x ∈ xs, ∀ s, s.length + (g x).length ≤ 16777216 → f x s = some (s ++ g x)) → forS f xs s = some (s ++ xs.flatMap g)
  | [], s, _, _, _ => by simp [forS]
  | x :: xs, s, h, hm, hf => by
    have hx := hm x (List.mem_cons_self ..)
    have e : xs.length * m + m = (xs.length + 1) * m := by rw [Nat.add_mul, Nat.one_mul]
    rw [List.length_cons, ← e] at h
    unfold forS
    rw [hf x (List.mem_cons_self ..) s (by omega)]
    show forS f xs (s ++ g x) = _
    rw [forS_ext g m xs (s ++ g x) (by rw [List.length_append]; omega) (fun y hy => hm y (List.mem_cons_of_mem _ hy)) fun y hy => hf y (List.mem_cons_of_mem _ hy)]
    simp
theorem forS_one {α β : Type} {f : α → List β → Option (List β)} (g : α → β) (xs : List α) (s : List β) (h : s.length + xs.length ≤ 16777216) (hf : ∀ x ∈ xs, ∀ s, s.length < 16777216 → f x s = some (s ++ [g x])) : forS f xs s = some (s ++ xs.map g) := by
  rw [forS_ext (fun x => [g x]) 1 xs s (by omega) (fun _ _ => Nat.le_refl _) fun x hx s hs => hf x hx s (by simp at hs; omega)]
  congr 2
  induction xs with
  | nil => rfl
  | cons x xs ih => rw [List.flatMap_cons, ih (by rw [List.length_cons] at h; omega) fun y hy => hf y (List.mem_cons_of_mem _ hy)]; rfl
theorem appO_eq {α : Type} {s : List α} {x : α} (h : s.length < 16777216) : appO s x = some (s ++ [x]) := if_pos h
theorem extO_eq {α : Type} {s t : List α} (h : s.length + t.length ≤ 16777216) : extO s t = some (s ++ t) := if_pos h
theorem mulO_eq {i j : Int} (h : -18446744073709551616 < i) (h1 : i < 18446744073709551616) : mulO i j = some (i * j) := if_pos (.inl ⟨h, h1⟩)
theorem rngO_eq {n : Int} (h : -4611686018427387904 ≤ n) (h1 : n ≤ 16777216) : rngO n = some (rngL 0 n.toNat) := if_pos ⟨h, h1⟩
theorem atI_eq {α : Type} {xs : List α} {i : Int} {x : α} (h0 : 0 ≤ i) (h : xs[i.toNat]? = some x) : L2.atI xs i = some x := by
  have h1 := get_lt h
  unfold L2.atI ixN
  rw [if_pos h0, if_pos (by omega)]
  exact h
theorem rngL_at {lo : Int} {n : Nat} {i : Int} (h0 : 0 ≤ i) (h1 : i < n) : (rngL lo n)[i.toNat]? = some (lo + i) := by
  unfold rngL
  rw [List.getElem?_map, List.getElem?_range (by omega)]
  show some (lo + ((i.toNat : Nat) : Int)) = _
  rw [Int.toNat_of_nonneg h0]
theorem enumL_length {α : Type} (xs : List α) : (enumL xs).length = xs.length := by unfold enumL; simp
theorem enumL_get {α : Type} (xs : List α) (i : Nat) : (enumL xs)[i]? = xs[i]?.map fun x => ((i : Int), x) := by
  unfold enumL
  rw [List.getElem?_map, List.getElem?_zipIdx]
  cases xs[i]? <;> simp
/-! ### plain nets -/
structure Pl (n : Net) (G : Nat) : Prop where
  il : 1 ≤ n.a.length ∧ n.a.length ≤ 6
  w1 : ∀ x ∈ n.a, x.2 = 1
  gl : n.b.length ≤ G
  gs : ∀ (i : Nat) g, n.b[i]? = some g → ∀ w ∈ g.b.l, 0 ≤ w ∧ w < (n.a.length : Int) + i
  ol : n.c.length ≤ 6
  os : ∀ o ∈ n.c, ∃ w, o.2.l = [w] ∧ 0 ≤ w ∧ w < (n.a.length : Int) + n.b.length
theorem need_ok {n : Net} {G : Nat} (h : Pl n G) : m_need_plain n = some () := by
  unfold m_need_plain
  have e1 : n.a.filter (fun (x2 : (Str × Int)) => (!decide (x2.2 = (1 : Int)))) = [] := List.filter_eq_nil_iff.mpr fun x hx => by rw [h.w1 x hx]; simp
  have e2 : n.c.filter (fun (x6 : (Str × (Tp Int))) => (!decide ((x6.2.l.length : Int) = (1 : Int)))) = [] := List.filter_eq_nil_iff.mpr fun x hx => by
    obtain ⟨w, e, _⟩ := h.os x hx
    rw [e]; simp
  rw [e1, e2]
  rfl
/-! ### copies -/
/-- the wire's first copy -/
def rc (I c st vc w : Int) : Int := if w < I then w * c else I * c + (w - I) * st + vc
def blk (I c st vc : Int) (v : Bool) (x : Int × Gt) : List Gt :=
  (rngL 0 c.toNat).map (fun k => T3.mk x.2.a (Tp.mk (x.2.b.l.map fun w => rc I c st vc w + k)) x.2.c) ++
  (if v = true then List.replicate c.toNat (T3.mk ("vote" : Str) (Tp.mk ((rngL 0 c.toNat).map fun k => I * c + x.1 * st + k)) x.2.c) else [])
def made (n : Net) (c : Int) (v : Bool) : Net :=
  let I : Int := n.a.length
  let st := c * (1 + b2n v)
  let vc := b2n v * c
  T3.mk (n.a.map fun x => (x.1, c)) ((enumL n.b).flatMap (blk I c st vc v)) (n.c.map fun o => (o.1, Tp.mk ((rngL 0 c.toNat).map fun k => rc I c st vc (o.2.l.headD 0) + k)))
theorem blk_length (I c st vc : Int) (v : Bool) (x : Int × Gt) (h0 : 1 ≤ c) (h1 : c ≤ 3) : ((blk I c st vc v x).length : Int) = c * (1 + b2n v) := by
  unfold blk b2n
  rw [List.length_append, List.length_map, rngL_length]
  cases v with
  | true => rw [if_pos rfl, if_pos rfl, List.length_replicate]; omega
  | false => rw [if_neg (by decide), if_neg (by decide)]; simp; omega
theorem rep_eq {α : Type} {x : α} {i : Int} (h : -9223372036854775808 ≤ i) (h1 : i ≤ 16777216) : repO [x] i = some (List.replicate i.toNat x) := by
  obtain ⟨r, e, q⟩ := Ok.repO1 (x := x) h h1
  rw [e, q]
/-- what the wires' first copies are: a list -/
def rdL (I G : Nat) (c st vc : Int) : List Int := (rngL 0 I).map (fun x => x * c) ++ (rngL 0 G).map fun x => (I : Int) * c + x * st + vc
theorem rdL_at {I G : Nat} {c st vc w : Int} (h0 : 0 ≤ w) (h1 : w < (I : Int) + G) : (rdL I G c st vc)[w.toNat]? = some (rc I c st vc w) := by
  unfold rdL rc
  rw [List.getElem?_append, List.length_map, rngL_length]
  by_cases h : w < I
  · rw [if_pos (by omega), if_pos h, List.getElem?_map, rngL_at h0 h]
    show some ((0 + w) * c) = _
    rw [Int.zero_add]
  · rw [if_neg (by omega), if_neg h, List.getElem?_map, show w.toNat - I = (w - I).toNat by omega, rngL_at (by omega) (by omega)]
    show some ((I : Int) * c + (0 + (w - I)) * st + vc) = _
    rw [Int.zero_add]
theorem copied_ok {n : Net} {G : Nat} {c : Int} {v : Bool} (h : Pl n G) (h0 : 1 ≤ c) (h1 : c ≤ 3) (hG : (n.b.length : Int) * (c * (1 + b2n v)) ≤ 60) : m_copied n c v = some (made n c v) := by
  unfold m_copied
  rw [need_ok h]
  have hv : 0 ≤ b2n v ∧ b2n v ≤ 1 := by unfold b2n; split <;> omega
  have hil := h.il
  have hgl : n.b.length ≤ 60 := by
    have q : (n.b.length : Int) * 1 ≤ (n.b.length : Int) * (c * (1 + b2n v)) := Int.mul_le_mul_of_nonneg_left (by
      have : 1 * 1 ≤ c * (1 + b2n v) := Int.mul_le_mul h0 (by omega) (by omega) (by omega)
      omega) (by omega)
    omega
  refine bq rfl ?_
  refine bq (mulO_eq (by omega) (by omega)) ?_
  generalize est : c * (1 + b2n v) = st at hG ⊢
  have hst : 1 ≤ st ∧ st ≤ 6 := by
    have a1 : 1 * 1 ≤ c * (1 + b2n v) := Int.mul_le_mul h0 (by omega) (by omega) (by omega)
    have a2 : c * (1 + b2n v) ≤ 3 * 2 := Int.mul_le_mul h1 (by omega) (by omega) (by omega)
    omega
  refine bq (mulO_eq (by omega) (by omega)) ?_
  rw [if_neg (by simp; omega)]
  refine bq (mulO_eq (by omega) (by omega)) ?_
  refine bq (mapO_eq (fun x => x * c) _ fun x hx => by
    rw [mem_rngL] at hx
    rw [mulO_eq (by omega) (by omega)]
    rfl) ?_
  refine bq (mapO_eq (fun x => (n.a.length : Int) * c + x * st + b2n v * c) _ fun x hx => by
    rw [mem_rngL] at hx
    rw [mulO_eq (by omega) (by omega), mulO_eq (by omega) (by omega)]
    rfl) ?_
  refine bq (extO_eq (by simp only [List.length_map, rngL_length]; omega)) ?_
  rw [show (rngL 0 n.a.length).map (fun x => x * c) ++ (rngL 0 n.b.length).map (fun x => (n.a.length : Int) * c + x * st + b2n v * c) = rdL n.a.length n.b.length c st (b2n v * c) from rfl]
  have rdw : ∀ w : Int, 0 ≤ w → w < (n.a.length : Int) + n.b.length → L2.atI (rdL n.a.length n.b.length c st (b2n v * c)) w = some (rc n.a.length c st (b2n v * c) w) := fun w g0 g1 => atI_eq g0 (rdL_at g0 g1)
  have hrc : rngO c = some (rngL 0 c.toNat) := rngO_eq (by omega) (by omega)
  refine bq rfl ?_
  refine bq (forS_ext (blk n.a.length c st (b2n v * c) v) 6 (enumL n.b) [] (by rw [enumL_length]; simp; omega) (fun x hx => by
      have := blk_length n.a.length c st (b2n v * c) v x h0 h1
      omega) (fun x hx s hs => by
    obtain ⟨i, ei⟩ := mem_get hx
    rw [enumL_get] at ei
    obtain ⟨g, eg, rfl⟩ := Option.map_eq_some_iff.mp ei
    have gi := get_lt eg
    have gw := h.gs i g eg
    refine bq (hrc) ?_
    refine bq (mapO_eq (fun k => T3.mk g.a (Tp.mk (g.b.l.map fun w => rc n.a.length c st (b2n v * c) w + k)) g.c) _ fun k hk => by
      rw [mapO_eq (fun w => rc n.a.length c st (b2n v * c) w + k) _ fun w hw => by
        have := gw w hw
        rw [rdw w this.1 (by omega)]
        rfl]
      rfl) ?_
    have bl := blk_length n.a.length c st (b2n v * c) v ((i : Int), g) h0 h1
    have hb : (blk n.a.length c st (b2n v * c) v ((i : Int), g)) = (rngL 0 c.toNat).map (fun k => T3.mk g.a (Tp.mk (g.b.l.map fun w => rc n.a.length c st (b2n v * c) w + k)) g.c) ++
        (if v = true then List.replicate c.toNat (T3.mk ("vote" : Str) (Tp.mk ((rngL 0 c.toNat).map fun k => (n.a.length : Int) * c + (i : Int) * st + k)) g.c) else []) := rfl
    rw [hb, List.length_append] at hs
    refine bq (extO_eq (by omega)) ?_
    refine bq hrc ?_
    refine bq (mapO_eq (fun k => (n.a.length : Int) * c + (i : Int) * st + k) _ fun k hk => by
      rw [mulO_eq (by omega) (by omega)]
      rfl) ?_
    refine bq rfl ?_
    refine bq (mulO_eq (by omega) (by omega)) ?_
    have cv : c * b2n v = if v = true then c else 0 := by unfold b2n; cases v <;> simp
    rw [cv]
    refine bq (rep_eq (by split <;> omega) (by split <;> omega)) ?_
    have e : List.replicate (if v = true then c else 0).toNat (T3.mk ("vote" : Str) (Tp.mk ((rngL 0 c.toNat).map fun k => (n.a.length : Int) * c + (i : Int) * st + k)) g.c) = if v = true then List.replicate c.toNat (T3.mk ("vote" : Str) (Tp.mk ((rngL 0 c.toNat).map fun k => (n.a.length : Int) * c + (i : Int) * st + k)) g.c) else [] := by cases v <;> rfl
    rw [e, hb]
    refine bq (extO_eq (by rw [List.length_append]; omega)) ?_
    rw [List.append_assoc])) ?_
  refine bq (mapO_eq (fun o => (o.1, Tp.mk ((rngL 0 c.toNat).map fun k => rc n.a.length c st (b2n v * c) (o.2.l.headD 0) + k))) _ fun o ho => by
    obtain ⟨w, ew, w0, w1⟩ := h.os o ho
    refine bq (hrc) ?_
    rw [mapO_eq (fun k => rc n.a.length c st (b2n v * c) (o.2.l.headD 0) + k) _ fun k hk => by
      have q0 : L2.atI [w] 0 = some w := rfl
      rw [ew]
      refine bq (q0) ?_
      rw [rdw w w0 w1]
      rfl]
    rfl) ?_
  subst est
  rfl
end W

namespace W
open PySem L2 TL
open Enc
/-! ### a made net tells what the plain one tells -/
theorem rc_lt {I c st vc w k q : Int} (hc : 1 ≤ c) (hv : 0 ≤ vc) (hs : st = c + vc) (I0 : 0 ≤ I) (q0 : 0 ≤ q) (w0 : 0 ≤ w) (w1 : w < I + q) (k0 : 0 ≤ k) (k1 : k < c) : 0 ≤ rc I c st vc w + k ∧ rc I c st vc w + k < I * c + q * st := by
  unfold rc
  split
  · have a := mul_lt (M := c) (w := w) (L := I) (k := k) (by omega) (by omega) k1
    have b : 0 ≤ q * st := Int.mul_nonneg q0 (by omega)
    have d : 0 ≤ w * c := Int.mul_nonneg w0 (by omega)
    rw [Int.mul_comm c w, Int.mul_comm c I] at a
    omega
  · have a := mul_lt (M := st) (w := w - I) (L := q) (k := vc + k) (by omega) (by omega) (by omega)
    have b : 0 ≤ I * c := Int.mul_nonneg I0 (by omega)
    have d : 0 ≤ (w - I) * st := Int.mul_nonneg (by omega) (by omega)
    rw [Int.mul_comm st (w - I), Int.mul_comm st q] at a
    omega
/-- in all copies but j s' tells what s tells -/
def Jv (I c st vc j : Int) (s' s : Bs) : Prop := ∀ w : Int, 0 ≤ w → w < (s.length : Int) → ∀ k : Int, 0 ≤ k → k < c → k ≠ j → atB s' (rc I c st vc w + k) = atB s w
theorem gt_at (T : Int → Bool) (gs : List Gt) (p : Int) (s : Bs) {k : Int} (k0 : 0 ≤ k) {g : Gt} (e : gs[k.toNat]? = some g) (h : ∀ w ∈ g.b.l, 0 ≤ w ∧ w < (s.length : Int)) : atB (goB T gs p s) ((s.length : Int) + k) = (gB g.a (g.b.l.map (atB s)) ^^ T (p + k)) := by
  have ek : ((k.toNat : Nat) : Int) = k := Int.toNat_of_nonneg k0
  have := goB_at T gs p s k.toNat g e fun w hw => by have := h w hw; omega
  rw [ek] at this
  rw [this, List.map_congr_left fun w hw => goB_low T gs p s w (h w hw).1 (h w hw).2]
theorem vote3 {b0 b1 b2 y : Bool} {j : Int} (h0 : 0 ≠ j → b0 = y) (h1 : 1 ≠ j → b1 = y) (h2 : 2 ≠ j → b2 = y) : gB ("vote" : Str) [b0, b1, b2] = y := by
  have e : ∀ b0 b1 b2 : Bool, gB ("vote" : Str) [b0, b1, b2] = (b0 && b1 || b0 && b2 || b1 && b2) := by decide +kernel
  rw [e]
  by_cases c0 : (0 : Int) = j
  · rw [h1 (by omega), h2 (by omega)]
    cases b0 <;> cases y <;> rfl
  · rw [h0 c0]
    by_cases c1 : (1 : Int) = j
    · rw [h2 (by omega)]
      cases b1 <;> cases y <;> rfl
    · rw [h1 c1]
      cases b2 <;> cases y <;> rfl
theorem rng3 : rngL 0 3 = [0, 1, 2] := by decide
theorem blk_at {I c st vc j q p : Int} {v : Bool} {T' : Int → Bool} {g : Gt} {s' s : Bs} (h1 : 1 ≤ c) (hv : v = true → c = 3 ∧ vc = 3) (hv' : v = false → vc = 0)
    (hT : ∀ k : Int, 0 ≤ k → k < c → k ≠ j → T' (p + k) = false ∧ T' (p + vc + k) = false) (hl : (s'.length : Int) = I * c + q * st)
    (hin : ∀ w ∈ g.b.l, ∀ k : Int, 0 ≤ k → k < c → 0 ≤ rc I c st vc w + k ∧ rc I c st vc w + k < (s'.length : Int)) (hJ : ∀ w ∈ g.b.l, ∀ k : Int, 0 ≤ k → k < c → k ≠ j → atB s' (rc I c st vc w + k) = atB s w) (k : Int) (k0 : 0 ≤ k) (k1 : k < c) (kj : k ≠ j) :
    atB (goB T' (blk I c st vc v (q, g)) p s') ((s'.length : Int) + vc + k) = gB g.a (g.b.l.map (atB s)) := by
  have cl : ∀ C : List Gt, C = (rngL 0 c.toNat).map (fun k => T3.mk g.a (Tp.mk (g.b.l.map fun w => rc I c st vc w + k)) g.c) → (C.length : Int) = c ∧ ∀ k : Int, 0 ≤ k → k < c → k ≠ j → atB (goB T' C p s') ((s'.length : Int) + k) = gB g.a (g.b.l.map (atB s)) := fun C e => by
    have l : (C.length : Int) = c := by rw [e, List.length_map, rngL_length]; omega
    refine ⟨l, fun k k0 k1 kj => ?_⟩
    have eg : C[k.toNat]? = some (T3.mk g.a (Tp.mk (g.b.l.map fun w => rc I c st vc w + k)) g.c) := by
      rw [e, List.getElem?_map, rngL_at k0 (by omega), Int.zero_add]
      rfl
    have := gt_at T' C p s' k0 eg fun u hu => by
      obtain ⟨w, hw, rfl⟩ := List.mem_map.mp hu
      exact hin w hw k k0 k1
    rw [this, (hT k k0 k1 kj).1]
    show (gB g.a ((g.b.l.map fun w => rc I c st vc w + k).map (atB s')) ^^ false) = _
    rw [Bool.xor_false, List.map_map]
    congr 1
    exact List.map_congr_left fun w hw => hJ w hw k k0 k1 kj
  unfold blk
  cases v with
  | false =>
    have v0 := hv' rfl
    subst v0
    obtain ⟨_, c2⟩ := cl _ rfl
    rw [if_neg (by decide), List.append_nil, Int.add_zero]
    exact c2 k k0 k1 kj
  | true =>
    obtain ⟨e1, e2⟩ := hv rfl
    subst e1
    subst e2
    rw [if_pos rfl, goB_app]
    obtain ⟨c1, c2⟩ := cl _ rfl
    generalize (rngL 0 (3 : Int).toNat).map (fun k => T3.mk g.a (Tp.mk (g.b.l.map fun w => rc I 3 st 3 w + k)) g.c) = C at c1 c2 ⊢
    have l1 := goB_len T' C p s'
    have l1' : ((goB T' C p s').length : Int) = (s'.length : Int) + 3 := by omega
    generalize goB T' C p s' = s1 at c2 l1 l1' ⊢
    have own : (rngL 0 (3 : Int).toNat).map (fun k => I * 3 + q * st + k) = [(s'.length : Int) + 0, (s'.length : Int) + 1, (s'.length : Int) + 2] := by
      rw [show (3 : Int).toNat = 3 from rfl, rng3, hl]
      rfl
    rw [own]
    have := gt_at T' (List.replicate (3 : Int).toNat (T3.mk ("vote" : Str) (Tp.mk [(s'.length : Int) + 0, (s'.length : Int) + 1, (s'.length : Int) + 2]) g.c)) (p + C.length) s1 k0 (by rw [List.getElem?_replicate, if_pos (by omega)]) fun u hu => by
      have hu : u ∈ [(s'.length : Int) + 0, (s'.length : Int) + 1, (s'.length : Int) + 2] := hu
      rw [List.mem_cons, List.mem_cons, List.mem_singleton] at hu
      omega
    rw [l1', c1, (hT k k0 k1 kj).2, Bool.xor_false] at this
    rw [c1]
    refine this.trans ?_
    exact vote3 (j := j) (fun h => c2 0 (by omega) (by omega) h) (fun h => c2 1 (by omega) (by omega) h) (fun h => c2 2 (by omega) (by omega) h)
theorem mk_go {I c st vc j : Int} {v : Bool} {T' : Int → Bool} (I0 : 0 ≤ I) (h1 : 1 ≤ c) (h3 : c ≤ 3) (hv : v = true → c = 3 ∧ vc = 3) (hv' : v = false → vc = 0) (hs : st = c + vc) (hst : st = c * (1 + b2n v))
    (hT : ∀ (q : Nat) (k : Int), 0 ≤ k → k < c → k ≠ j → T' (q * st + k) = false ∧ T' (q * st + vc + k) = false) :
    ∀ (gs : List Gt) (q : Nat) (s' s : Bs), (s.length : Int) = I + q → (s'.length : Int) = I * c + q * st → (∀ (i : Nat) g, gs[i]? = some g → ∀ w ∈ g.b.l, 0 ≤ w ∧ w < (s.length : Int) + i) → Jv I c st vc j s' s →
      Jv I c st vc j (goB T' (((gs.zipIdx q).map fun p => (((p.2 : Nat) : Int), p.1)).flatMap (blk I c st vc v)) ((q : Int) * st) s') (goB no gs (q : Int) s)
  | [], _, _, _, _, _, _, h => h
  | g :: gs, q, s', s, ls, ls', hg, hJ => by
    have vc0 : 0 ≤ vc := by cases v with
      | true => have := hv rfl; omega
      | false => have := hv' rfl; omega
    have bl := blk_length I c st vc v ((q : Int), g) h1 h3
    rw [← hst] at bl
    have g0 := hg 0 g rfl
    rw [List.zipIdx_cons, List.map_cons, List.flatMap_cons, goB_app, bl]
    have hin : ∀ w : Int, 0 ≤ w → w < (s.length : Int) → ∀ k : Int, 0 ≤ k → k < c → 0 ≤ rc I c st vc w + k ∧ rc I c st vc w + k < (s'.length : Int) := fun w w0 w1 k k0 k1 => by
      rw [ls']
      exact rc_lt h1 vc0 hs I0 (by omega) w0 (by omega) k0 k1
    have B := blk_at (q := (q : Int)) (p := (q : Int) * st) (T' := T') (g := g) (s' := s') (s := s) (j := j) (st := st) h1 hv hv' (fun k k0 k1 kj => hT q k k0 k1 kj) ls'
      (fun w hw k k0 k1 => hin w (g0 w hw).1 (by have := (g0 w hw).2; omega) k k0 k1) (fun w hw k k0 k1 kj => hJ w (g0 w hw).1 (by have := (g0 w hw).2; omega) k k0 k1 kj)
    have l2 := goB_len T' (blk I c st vc v ((q : Int), g)) ((q : Int) * st) s'
    have eq1 : ((q + 1 : Nat) : Int) * st = (q : Int) * st + st := by rw [Int.natCast_add, Int.add_mul]; simp
    have sl : (s ++ [gB g.a (g.b.l.map (atB s)) ^^ no (q : Int)]).length = s.length + 1 := by simp
    have R := mk_go I0 h1 h3 hv hv' hs hst hT gs (q + 1) (goB T' (blk I c st vc v ((q : Int), g)) ((q : Int) * st) s') (s ++ [gB g.a (g.b.l.map (atB s)) ^^ no (q : Int)]) (by rw [sl]; omega) (by rw [eq1]; omega)
      (fun i g' e w hw => by have := hg (i + 1) g' e w hw; rw [sl]; omega) (fun w w0 w1 k k0 k1 kj => ?_)
    · rw [eq1] at R
      exact R
    · rw [sl] at w1
      rw [atB_app _ _ _ w0]
      by_cases e : w < s.length
      · have hi := hin w w0 e k k0 k1
        rw [if_pos e, goB_low _ _ _ _ _ hi.1 hi.2]
        exact hJ w w0 e k k0 k1 kj
      · have e2 : w = s.length := by omega
        rw [if_neg e, if_pos e2]
        have er : rc I c st vc w + k = (s'.length : Int) + vc + k := by
          unfold rc
          rw [if_neg (by omega), show w - I = (q : Int) by omega, ls']
        rw [er, B k k0 k1 kj]
        show _ = (_ ^^ false)
        rw [Bool.xor_false]
theorem repB_at (B : Int → Bool) (b : Bool) : ∀ (m : Nat) (s : Bs) (w : Int), 0 ≤ w → w < (s.length : Int) + m → atB (repB B b m s) w = if w < s.length then atB s w else b ^^ B w
  | 0, s, w, w0, w1 => by
    rw [if_pos (by omega)]
    rfl
  | m + 1, s, w, w0, w1 => by
    unfold repB
    have l : (s ++ [b ^^ B s.length]).length = s.length + 1 := by simp
    rw [repB_at B b m _ w w0 (by rw [l]; omega), l, atB_app _ _ _ w0]
    by_cases e : w < s.length
    · rw [if_pos (by omega), if_pos e, if_pos e]
    · rw [if_neg e]
      by_cases e2 : w = s.length
      · rw [if_pos (by omega), if_neg e, if_pos e2, e2]
      · rw [if_neg (by omega), if_neg e]
theorem mk_ins {c j : Int} {B' : Int → Bool} {b : Bs} (h1 : 1 ≤ c) (hB : ∀ (w : Nat) (k : Int), 0 ≤ k → k < c → k ≠ j → B' (w * c + k) = false) : ∀ (xs : List (Str × Int)) (i : Nat) (s' s : Bs), (∀ x ∈ xs, x.2 = 1) → (s'.length : Int) = (s.length : Int) * c →
    (∀ w : Int, 0 ≤ w → w < (s.length : Int) → ∀ k : Int, 0 ≤ k → k < c → k ≠ j → atB s' (w * c + k) = atB s w) →
    ∀ w : Int, 0 ≤ w → w < ((insB no xs i b s).length : Int) → ∀ k : Int, 0 ≤ k → k < c → k ≠ j → atB (insB B' (xs.map fun x => (x.1, c)) i b s') (w * c + k) = atB (insB no xs i b s) w
  | [], _, _, _, _, _, h => h
  | x :: xs, i, s', s, hx, hl, h => by
    have x1 := hx x (List.mem_cons_self ..)
    have e1 : repB no (b.getD i false) x.2.toNat s = s ++ [b.getD i false] := by
      rw [x1, repB_no]; rfl
    have l' := repB_len B' (b.getD i false) c.toNat s'
    have sl : (s ++ [b.getD i false]).length = s.length + 1 := by simp
    show ∀ w : Int, 0 ≤ w → w < ((insB no xs (i + 1) b (repB no (b.getD i false) x.2.toNat s)).length : Int) → ∀ k : Int, 0 ≤ k → k < c → k ≠ j → atB (insB B' (xs.map fun x => (x.1, c)) (i + 1) b (repB B' (b.getD i false) c.toNat s')) (w * c + k) = atB (insB no xs (i + 1) b (repB no (b.getD i false) x.2.toNat s)) w
    rw [e1]
    refine mk_ins h1 hB xs (i + 1) _ _ (fun y hy => hx y (List.mem_cons_of_mem _ hy)) (by rw [sl, l', Int.natCast_add, hl, Int.natCast_add, Int.add_mul]; omega) fun w w0 w1 k k0 k1 kj => ?_
    rw [sl] at w1
    have m0 : 0 ≤ w * c := Int.mul_nonneg w0 (by omega)
    rw [atB_app _ _ _ w0]
    by_cases e : w < s.length
    · have m1 := mul_lt (M := c) (w := w) (L := s.length) (k := k) (by omega) e k1
      rw [Int.mul_comm c w, Int.mul_comm c] at m1
      rw [if_pos e, repB_at _ _ _ _ _ (by omega) (by omega), if_pos (by omega)]
      exact h w w0 e k k0 k1 kj
    · have e2 : w = s.length := by omega
      subst e2
      rw [if_neg e, if_pos rfl, repB_at _ _ _ _ _ (by omega) (by omega), if_neg (by omega), hB s.length k k0 k1 kj, Bool.xor_false]
theorem mk_WB {n : Net} (hp : Pn n) {c j : Int} {v : Bool} {T' B' : Int → Bool} (b : Bs) (h1 : 1 ≤ c) (h3 : c ≤ 3) (hv : v = true → c = 3)
    (hT : ∀ (q : Nat) (k : Int), 0 ≤ k → k < c → k ≠ j → T' (q * (c * (1 + b2n v)) + k) = false ∧ T' (q * (c * (1 + b2n v)) + b2n v * c + k) = false) (hB : ∀ (w : Nat) (k : Int), 0 ≤ k → k < c → k ≠ j → B' (w * c + k) = false) :
    Jv n.a.length c (c * (1 + b2n v)) (b2n v * c) j (WB (made n c v) b T' B') (WB n b no no) := by
  have il := WB_ins hp.wf b no
  rw [(ah_tm (M := 1) hp).1] at il
  have wi := mk_ins (c := c) (j := j) (B' := B') (b := b) h1 hB n.a 0 [] [] hp.one (by simp) (fun w _ h => by simp at h; omega)
  have l' : ((insB B' (n.a.map fun x => (x.1, c)) 0 b []).length : Int) = n.a.length * c := by
    rw [insB_len _ _ _ _ _ fun x hx => by obtain ⟨y, _, rfl⟩ := List.mem_map.mp hx; show 0 ≤ c; omega]
    have : ∀ xs : List (Str × Int), ((xs.map fun x => (x.1, c)).map fun x => x.2).sum = (xs.length : Int) * c := fun xs => by
      induction xs with
      | nil => simp
      | cons x xs ih => rw [List.map_cons, List.map_cons, List.sum_cons, ih, List.length_cons, Int.natCast_add, Int.add_mul]; show c + _ = _; omega
    rw [this]; simp
  have bv : b2n v = 0 ∨ b2n v = 1 := by cases v <;> simp [b2n]
  have G := mk_go (I := n.a.length) (c := c) (st := c * (1 + b2n v)) (vc := b2n v * c) (j := j) (v := v) (T' := T') (by omega) h1 h3 (fun e => ⟨hv e, by rw [hv e, e]; rfl⟩) (fun e => by rw [e]; show (0 : Int) * c = 0; omega)
    (by rcases bv with e | e <;> rw [e] <;> omega) rfl hT n.b 0 (insB B' (n.a.map fun x => (x.1, c)) 0 b []) (insB no n.a 0 b []) (by omega) (by rw [l']; simp) (fun i g e w hw => ?_) (fun w w0 w1 k k0 k1 kj => ?_)
  · rw [show ((0 : Nat) : Int) * (c * (1 + b2n v)) = 0 by simp] at G
    exact G
  · have := (hp.wf.gs i g e).2.2 w hw
    rw [(ah_tm (M := 1) hp).1] at this
    omega
  · unfold rc
    rw [if_pos (by omega)]
    exact wi w w0 w1 k k0 k1 kj
end W

namespace W
open PySem L2 TL
open Enc
/-! ### made nets can be run -/
structure Q31 (n : Net) : Prop where
  pn : Pn n
  a1 : 1 ≤ n.a.length
  a3 : n.a.length ≤ 3
  b5 : n.b.length ≤ 5
  c1 : n.c ≠ []
  c3 : n.c.length ≤ 3
theorem Q31.ah {n : Net} (h : Q31 n) : ah n = n.a.length := (ah_tm (M := 1) h.pn).1
theorem Q31.pl {n : Net} (h : Q31 n) : Pl n 5 where
  il := ⟨h.a1, by have := h.a3; omega⟩
  w1 := h.pn.one
  gl := h.b5
  gs := fun i g e w hw => by
    have := (h.pn.wf.gs i g e).2.2 w hw
    rw [h.ah] at this
    exact this
  ol := by have := h.c3; omega
  os := fun o ho => by
    obtain ⟨w, e⟩ := h.pn.out o ho
    have := (h.pn.wf.os o ho).2 w (by rw [e]; simp)
    rw [h.ah] at this
    exact ⟨w, e, this⟩
theorem flat_length (I c st vc : Int) (v : Bool) (h0 : 1 ≤ c) (h1 : c ≤ 3) (xs : List (Int × Gt)) : ((xs.flatMap (blk I c st vc v)).length : Int) = xs.length * (c * (1 + b2n v)) := by
  induction xs with
  | nil => simp
  | cons x xs ih =>
    have b := blk_length I c st vc v x h0 h1
    rw [List.flatMap_cons, List.length_append, List.length_cons]
    have e : (((blk I c st vc v x).length + (xs.flatMap (blk I c st vc v)).length : Nat) : Int) = ((blk I c st vc v x).length : Int) + ((xs.flatMap (blk I c st vc v)).length : Int) := by omega
    have e2 : ((xs.length + 1 : Nat) : Int) = (xs.length : Int) + 1 := by omega
    rw [e, e2, b, ih, Int.add_mul, Int.one_mul]
    omega
theorem vote_in : ("vote" : Str) ∈ kinds5 := by unfold kinds5; simp
theorem vote_cnt : cnt ("vote" : Str) = 3 := by decide +kernel
theorem blk_gs {I c st vc q : Int} {v : Bool} {g : Gt} (h1 : 1 ≤ c) (hv : v = true → c = 3 ∧ vc = 3) (hv' : v = false → vc = 0) (hs : st = c + vc) (I0 : 0 ≤ I) (q0 : 0 ≤ q) (hg : GtOk (I + q) g) (i : Nat) (x : Gt) (e : (blk I c st vc v (q, g))[i]? = some x) :
    GtOk (I * c + q * st + (i : Int)) x := by
  have vc0 : 0 ≤ vc := by cases v with
    | true => have := hv rfl; omega
    | false => have := hv' rfl; omega
  obtain ⟨g1, g2, g3⟩ := hg
  unfold blk at e
  rw [List.getElem?_append, List.length_map, rngL_length] at e
  split at e
  · rename_i c1
    rw [List.getElem?_map, rngL_get' c1] at e
    have e := Option.some.inj e
    subst e
    refine ⟨g1, ?_, fun u hu => ?_⟩
    · show ((g.b.l.map _).length : Int) = _
      rw [List.length_map]; exact g2
    · obtain ⟨w, hw, rfl⟩ := List.mem_map.mp hu
      have := g3 w hw
      have a := rc_lt (k := 0) h1 vc0 hs I0 q0 this.1 this.2 (by omega) (by omega)
      omega
  · rename_i c1
    cases v with
    | false => rw [if_neg (by decide)] at e; simp at e
    | true =>
      obtain ⟨e1, e2⟩ := hv rfl
      subst e1
      rw [if_pos rfl, List.getElem?_replicate] at e
      split at e
      · have e := Option.some.inj e
        subst e
        refine ⟨vote_in, ?_, fun u hu => ?_⟩
        · show (((rngL 0 (3 : Int).toNat).map _).length : Int) = _
          rw [List.length_map, rngL_length]
          exact vote_cnt.symm
        · have hu : u ∈ (rngL 0 (3 : Int).toNat).map fun k => I * 3 + q * st + k := hu
          obtain ⟨k, hk, rfl⟩ := List.mem_map.mp hu
          have hk := mem_rngL.mp hk
          have b : 0 ≤ I * 3 := by omega
          have d : 0 ≤ q * st := Int.mul_nonneg q0 (by omega)
          omega
      · cases e
theorem flat_gs {I c st vc : Int} {v : Bool} (h1 : 1 ≤ c) (h3 : c ≤ 3) (hv : v = true → c = 3 ∧ vc = 3) (hv' : v = false → vc = 0) (hs : st = c + vc) (hst : st = c * (1 + b2n v)) (I0 : 0 ≤ I) : ∀ (gs : List Gt) (q : Nat), (∀ (i : Nat) g, gs[i]? = some g → GtOk (I + q + (i : Int)) g) →
    ∀ (i : Nat) x, (((gs.zipIdx q).map fun p => (((p.2 : Nat) : Int), p.1)).flatMap (blk I c st vc v))[i]? = some x → GtOk (I * c + (q : Int) * st + (i : Int)) x
  | [], _, _, _, _, e => by simp at e
  | g :: gs, q, hg, i, x, e => by
    have bl := blk_length I c st vc v ((q : Int), g) h1 h3
    rw [← hst] at bl
    rw [List.zipIdx_cons, List.map_cons, List.flatMap_cons] at e
    have e : (blk I c st vc v ((q : Int), g) ++ ((gs.zipIdx (q + 1)).map fun p => (((p.2 : Nat) : Int), p.1)).flatMap (blk I c st vc v))[i]? = some x := e
    rw [List.getElem?_append] at e
    split at e
    · have := hg 0 g rfl
      rw [show I + (q : Int) + ((0 : Nat) : Int) = I + q by omega] at this
      exact blk_gs h1 hv hv' hs I0 (by omega) this i x e
    · rename_i c1
      have r := flat_gs h1 h3 hv hv' hs hst I0 gs (q + 1) (fun i g' e => by
        have := hg (i + 1) g' e
        rw [show I + ((q + 1 : Nat) : Int) + (i : Int) = I + (q : Int) + ((i + 1 : Nat) : Int) by omega]
        exact this) _ x e
      rw [show ((q + 1 : Nat) : Int) * st = (q : Int) * st + st by rw [Int.natCast_add, Int.add_mul]; simp] at r
      rw [show I * c + (q : Int) * st + (i : Int) = I * c + ((q : Int) * st + st) + ((i - (blk I c st vc v ((q : Int), g)).length : Nat) : Int) by omega]
      exact r
theorem sum_c (c : Int) : ∀ xs : List (Str × Int), ((xs.map fun x => (x.1, c)).map fun x => x.2).sum = (xs.length : Int) * c
  | [] => by simp
  | x :: xs => by
    rw [List.map_cons, List.map_cons, List.sum_cons, sum_c c xs, List.length_cons, Int.natCast_add, Int.add_mul]
    show c + _ = _
    omega
/-- how nets are made here -/
structure Hw (c : Int) (v : Bool) : Prop where
  h2 : 2 ≤ c
  h3 : c ≤ 3
  hv : v = true → c = 3
theorem Hw.st {c : Int} {v : Bool} (h : Hw c v) : (v = true → c = 3 ∧ b2n v * c = 3) ∧ (v = false → b2n v * c = 0) ∧ c * (1 + b2n v) = c + b2n v * c ∧ 2 ≤ c * (1 + b2n v) ∧ c * (1 + b2n v) ≤ 6 := by
  have := h.h2
  have := h.h3
  cases v with
  | true =>
    have := h.hv rfl
    subst this
    exact ⟨fun _ => ⟨rfl, rfl⟩, fun e => (by cases e), rfl, by decide, by decide⟩
  | false =>
    have b : b2n false = 0 := rfl
    rw [b]
    refine ⟨fun e => (by cases e), fun _ => by omega, by omega, by omega, by omega⟩
theorem made_len {n : Net} {c : Int} {v : Bool} (h : Hw c v) : ((made n c v).b.length : Int) = n.b.length * (c * (1 + b2n v)) := by
  show (((enumL n.b).flatMap _).length : Int) = _
  rw [flat_length _ _ _ _ _ (by have := h.h2; omega) h.h3, enumL_length]
theorem made_ah {n : Net} (c : Int) (v : Bool) : ah (made n c v) = n.a.length * c := sum_c c n.a
theorem made_small {n : Net} (hq : Q31 n) {c : Int} {v : Bool} (h : Hw c v) : (n.b.length : Int) * (c * (1 + b2n v)) ≤ 30 := by
  obtain ⟨_, _, _, s2, s6⟩ := h.st
  have := hq.b5
  have a1 : (n.b.length : Int) * (c * (1 + b2n v)) ≤ 5 * (c * (1 + b2n v)) := Int.mul_le_mul_of_nonneg_right (by omega) (by omega)
  omega
theorem made_wf {n : Net} (hq : Q31 n) {c : Int} {v : Bool} (h : Hw c v) : Wf (made n c v) where
  al := by
    show (n.a.map _).length ≤ 6
    rw [List.length_map]
    have := hq.a3; omega
  w := fun x hx => by
    obtain ⟨y, _, rfl⟩ := List.mem_map.mp hx
    have := h.h2
    have := h.h3
    show 0 ≤ c ∧ c ≤ 3
    omega
  gl := by
    have := made_len (n := n) h
    have := made_small hq h
    omega
  gs := fun i g e => by
    obtain ⟨s1, s2, s3, s4, s5⟩ := h.st
    have := flat_gs (I := n.a.length) (v := v) (c := c) (by have := h.h2; omega) h.h3 s1 s2 s3 rfl (by omega) n.b 0 (fun i g e => by
      have := hq.pn.wf.gs i g e
      rw [hq.ah] at this
      rw [show (n.a.length : Int) + ((0 : Nat) : Int) + (i : Int) = n.a.length + (i : Int) by omega]
      exact this) i g e
    rw [made_ah]
    rw [show ((0 : Nat) : Int) * (c * (1 + b2n v)) = 0 by simp, Int.add_zero] at this
    exact this
  cl := by
    show (n.c.map _).length ≤ 1000
    rw [List.length_map]
    have := hq.c3; omega
  os := fun o ho => by
    obtain ⟨s1, s2, s3, s4, s5⟩ := h.st
    have c2 := h.h2
    have c3 := h.h3
    obtain ⟨p, hp, rfl⟩ := List.mem_map.mp ho
    obtain ⟨w, ew, w0, w1⟩ := hq.pl.os p hp
    refine ⟨?_, fun u hu => ?_⟩
    · show 1 ≤ ((rngL 0 c.toNat).map _).length ∧ ((rngL 0 c.toNat).map _).length ≤ 3
      rw [List.length_map, rngL_length]
      omega
    · have hu : u ∈ (rngL 0 c.toNat).map fun k => rc n.a.length c (c * (1 + b2n v)) (b2n v * c) (p.2.l.headD 0) + k := hu
      rw [ew] at hu
      obtain ⟨k, hk, rfl⟩ := List.mem_map.mp hu
      have hk := mem_rngL.mp hk
      have vc0 : 0 ≤ b2n v * c := by cases v with
        | true => have := s1 rfl; omega
        | false => have := s2 rfl; omega
      rw [made_ah, made_len h]
      exact rc_lt (by omega) vc0 s3 (by omega) (by omega) w0 w1 (by omega) (by omega)
theorem made_is {n : Net} (hq : Q31 n) {c : Int} {v : Bool} (h : Hw c v) : m_copied n c v = some (made n c v) := copied_ok hq.pl (by have := h.h2; omega) h.h3 (by have := made_small hq h; omega)
/-! ### what its outs are read as -/
def mo (n : Net) (c : Int) (v : Bool) (o : Str × Tp Int) : Str × Tp Int := (o.1, Tp.mk ((rngL 0 c.toNat).map fun k => rc n.a.length c (c * (1 + b2n v)) (b2n v * c) (o.2.l.headD 0) + k))
theorem made_c (n : Net) (c : Int) (v : Bool) : (made n c v).c = n.c.map (mo n c v) := rfl
def ow (o : Str × Tp Int) : Int := o.2.l.headD 0
theorem ow_in {n : Net} (hq : Q31 n) {o : Str × Tp Int} (ho : o ∈ n.c) : o.2.l = [ow o] ∧ 0 ≤ ow o ∧ ow o < ah n + (n.b.length : Int) := by
  obtain ⟨w, ew, w0, w1⟩ := hq.pl.os o ho
  have : ow o = w := by unfold ow; rw [ew]; rfl
  rw [this, hq.ah]
  exact ⟨ew, w0, w1⟩
theorem rd_plain {n : Net} (hq : Q31 n) {o : Str × Tp Int} (ho : o ∈ n.c) (s : Bs) : rd o s = (atB s (ow o), false) := by
  obtain ⟨e, _⟩ := ow_in hq ho
  unfold rd
  rw [e]
  rfl
theorem mo_row (n : Net) (v : Bool) (c : Int) (o : Str × Tp Int) : (mo n c v o).2.l = (rngL 0 c.toNat).map fun k => rc n.a.length c (c * (1 + b2n v)) (b2n v * c) (ow o) + k := rfl
theorem rng2 : rngL 0 2 = [0, 1] := by decide
theorem mo_at {n : Net} (hq : Q31 n) {c j : Int} {v : Bool} (h : Hw c v) {s' s : Bs} (hs : (s.length : Int) = ah n + n.b.length) (J : Jv n.a.length c (c * (1 + b2n v)) (b2n v * c) j s' s) {o : Str × Tp Int} (ho : o ∈ n.c) (k : Int) (k0 : 0 ≤ k) (k1 : k < c) (kj : k ≠ j) :
    atB s' (rc n.a.length c (c * (1 + b2n v)) (b2n v * c) (ow o) + k) = atB s (ow o) := by
  obtain ⟨_, w0, w1⟩ := ow_in hq ho
  exact J (ow o) w0 (by omega) k k0 k1 kj
theorem mo_all {n : Net} (hq : Q31 n) {c : Int} {v : Bool} (h : Hw c v) {s' s : Bs} (hs : (s.length : Int) = ah n + n.b.length) (J : Jv n.a.length c (c * (1 + b2n v)) (b2n v * c) c s' s) {o : Str × Tp Int} (ho : o ∈ n.c) :
    (mo n c v o).2.l.map (atB s') = List.replicate c.toNat (atB s (ow o)) := by
  rw [mo_row, List.map_map]
  have e : (rngL 0 c.toNat).map (atB s' ∘ fun k => rc n.a.length c (c * (1 + b2n v)) (b2n v * c) (ow o) + k) = (rngL 0 c.toNat).map fun _ => atB s (ow o) := List.map_congr_left fun k hk => by
    have hk := mem_rngL.mp hk
    have := h.h2
    exact mo_at hq h hs J ho k (by omega) (by omega) (by omega)
  rw [e, List.map_const', rngL_length]
theorem rd_3v {b0 b1 b2 y : Bool} {j : Int} (h0 : 0 ≠ j → b0 = y) (h1 : 1 ≠ j → b1 = y) (h2 : 2 ≠ j → b2 = y) : rdB [b0, b1, b2] = (y, false) := by
  have := vote3 h0 h1 h2
  unfold rdB
  rw [if_neg (by simp), if_neg (by simp), this]
theorem mo_rd3 {n : Net} (hq : Q31 n) {j : Int} {v : Bool} (h : Hw 3 v) {s' s : Bs} (hs : (s.length : Int) = ah n + n.b.length) (J : Jv n.a.length 3 (3 * (1 + b2n v)) (b2n v * 3) j s' s) {o : Str × Tp Int} (ho : o ∈ n.c) : rd (mo n 3 v o) s' = (atB s (ow o), false) := by
  unfold rd
  rw [mo_row, show (3 : Int).toNat = 3 from rfl, rng3]
  exact rd_3v (j := j) (fun e => mo_at hq h hs J ho 0 (by omega) (by omega) e) (fun e => mo_at hq h hs J ho 1 (by omega) (by omega) e) (fun e => mo_at hq h hs J ho 2 (by omega) (by omega) e)
theorem mo_rd {n : Net} (hq : Q31 n) {c : Int} {v : Bool} (h : Hw c v) {s' s : Bs} (hs : (s.length : Int) = ah n + n.b.length) (J : Jv n.a.length c (c * (1 + b2n v)) (b2n v * c) c s' s) {o : Str × Tp Int} (ho : o ∈ n.c) : rd (mo n c v o) s' = (atB s (ow o), false) := by
  unfold rd
  rw [mo_all hq h hs J ho]
  have c2 := h.h2
  have c3 := h.h3
  have e : c = 2 ∨ c = 3 := by omega
  rcases e with e | e <;> subst e <;> cases atB s (ow o) <;> rfl
theorem mk_none {n : Net} (hq : Q31 n) {c : Int} {v : Bool} (h : Hw c v) (b : Bs) : Jv n.a.length c (c * (1 + b2n v)) (b2n v * c) c (WB (made n c v) b no no) (WB n b no no) :=
  mk_WB hq.pn b (by have := h.h2; omega) h.h3 h.hv (fun _ _ _ _ _ => ⟨rfl, rfl⟩) fun _ _ _ _ _ => rfl
theorem mk_one3 {n : Net} (hq : Q31 n) {v : Bool} {T' B' : Int → Bool} (j : Int) (hT : ∀ x : Int, x % 3 ≠ j → T' x = false) (hB : ∀ x : Int, x % 3 ≠ j → B' x = false) (b : Bs) : Jv n.a.length 3 (3 * (1 + b2n v)) (b2n v * 3) j (WB (made n 3 v) b T' B') (WB n b no no) :=
  mk_WB hq.pn b (by omega) (by omega) (fun _ => rfl) (fun q k k0 k1 kj => ⟨hT _ (by cases v <;> simp [b2n] <;> omega), hT _ (by cases v <;> simp [b2n] <;> omega)⟩) fun w k k0 k1 kj => hB _ (by omega)
end W

namespace W
open PySem L2 TL
open Enc
theorem sound_is {n : Net} (hw : Wf n) : m_is_sound n = some (n.c.all fun o => decide (mk (NN n) (fun i => (rd o (W0 n i)).2) = 0)) := by
  unfold m_is_sound
  refine bq (all_w hw) (bq (outs_mask hw) (congrArg some ?_))
  have : ∀ os : List (Str × Tp Int), decide ((((os.map fun o => (mk (NN n) (fun i => (rd o (W0 n i)).1), mk (NN n) fun i => (rd o (W0 n i)).2)).filter (fun (x14 : (Int × Int)) => (!decide (x14.2 = (0 : Int))))).map (fun (x14 : (Int × Int)) => (x14.2 : Int)) : List Int) = ([] : (List Int))) = os.all fun o => decide (mk (NN n) (fun i => (rd o (W0 n i)).2) = 0) := fun os => by
    induction os with
    | nil => rfl
    | cons o os ih =>
      rw [List.map_cons, List.filter_cons, List.all_cons]
      by_cases h : mk (NN n) (fun i => (rd o (W0 n i)).2) = 0
      · rw [if_neg (by simp [h]), decide_eq_true h, Bool.true_and]
        exact ih
      · rw [if_pos (by simp [h]), decide_eq_false h, Bool.false_and]
        rfl
  exact this n.c
section
variable {n : Net} {c : Int} {v : Bool}
theorem made_al (n : Net) (c : Int) (v : Bool) : (made n c v).a.length = n.a.length := by
  show (n.a.map _).length = _
  rw [List.length_map]
theorem made_nn (n : Net) (c : Int) (v : Bool) : NN (made n c v) = NN n := by unfold NN; rw [made_al]
theorem W0_len (hq : Q31 n) (i : Nat) : ((W0 n i).length : Int) = ah n + n.b.length := WB_len hq.pn.wf _ _ _
theorem w0_made (hq : Q31 n) (h : Hw c v) (i : Nat) : Jv n.a.length c (c * (1 + b2n v)) (b2n v * c) c (W0 (made n c v) i) (W0 n i) := by
  unfold W0
  rw [made_al]
  exact mk_none hq h _
theorem rd0 (hq : Q31 n) (h : Hw c v) (i : Nat) {o : Str × Tp Int} (ho : o ∈ n.c) : rd (mo n c v o) (W0 (made n c v) i) = (atB (W0 n i) (ow o), false) := mo_rd hq h (W0_len hq i) (w0_made hq h i) ho
theorem made_sound (hq : Q31 n) (h : Hw c v) : m_is_sound (made n c v) = some true := by
  rw [sound_is (made_wf hq h)]
  refine congrArg some (List.all_eq_true.mpr fun o' ho => decide_eq_true ?_)
  rw [made_c] at ho
  obtain ⟨o, hm, rfl⟩ := List.mem_map.mp ho
  exact mk_eq0.mpr fun i _ => by rw [rd0 hq h i hm]
theorem made_columns (hq : Q31 n) (h : Hw c v) : m_columns (made n c v) = m_columns n := by
  rw [columns_is (made_wf hq h), columns_is hq.pn.wf, made_c, List.map_map, made_nn]
  refine congrArg some (List.map_congr_left fun o ho => ?_)
  refine List.map_congr_left fun i _ => ?_
  show rdO (rd (mo n c v o) _) = _
  rw [rd0 hq h i ho, rd_plain hq ho]
/-! ### one gate turned -/
theorem w1_made (hq : Q31 n) (p : Int) (i : Nat) : Jv n.a.length 3 (3 * (1 + b2n v)) (b2n v * 3) (p % 3) (W1 (made n 3 v) [p] i) (W0 n i) := by
  unfold W0 W1
  rw [made_al]
  exact mk_one3 hq (p % 3) (fun x hx => decide_eq_false fun hm => hx (by rw [List.mem_singleton.mp hm])) (fun _ _ => rfl) _
theorem hw3 (v : Bool) : Hw 3 v := ⟨by omega, by omega, fun _ => rfl⟩
theorem hw2 : Hw 2 false := ⟨by omega, by omega, fun e => by cases e⟩
theorem rd1m (hq : Q31 n) (p : Int) (i : Nat) {o : Str × Tp Int} (ho : o ∈ n.c) : rd (mo n 3 v o) (W1 (made n 3 v) [p] i) = (atB (W0 n i) (ow o), false) := mo_rd3 hq (hw3 v) (W0_len hq i) (w1_made hq p i) ho
theorem made_bears (hq : Q31 n) (level : Str) : ansB (made n 3 v) 1 level = Ans.a1 ("bears" : Str) := ans1_bears.mpr fun p _ i _ => by
  have d : dif (made n 3 v) [p] i = false := by
    unfold dif
    refine List.any_eq_false.mpr fun o' ho => ?_
    rw [made_c] at ho
    obtain ⟨o, hm, rfl⟩ := List.mem_map.mp ho
    rw [rd1m hq p i hm, rd0 hq (hw3 v) i hm]
    cases atB (W0 n i) (ow o) <;> decide
  have m : non (made n 3 v) [p] i = false := by
    unfold non
    refine List.any_eq_false.mpr fun o' ho => ?_
    rw [made_c] at ho
    obtain ⟨o, hm, rfl⟩ := List.mem_map.mp ho
    rw [rd1m hq p i hm]
    simp
  unfold brk
  rw [d, m]
  split <;> rfl
/-! ### pairs -/
theorem rc_plain (I c w : Int) : rc I c c 0 w = c * w := by
  unfold rc
  split
  · exact Int.mul_comm ..
  · rw [← Int.add_mul, Int.mul_comm, Int.add_zero, show I + (w - I) = w by omega]
theorem made_tm (hq : Q31 n) (M : Nat) : made n (M : Int) false = tm M n := by
  have e1 : (M : Int) * (1 + b2n false) = M := by show (M : Int) * (1 + 0) = M; omega
  have e2 : b2n false * (M : Int) = 0 := by show (0 : Int) * M = 0; omega
  have eM : (M : Int).toNat = M := Int.toNat_natCast M
  unfold made tm
  simp only [e1, e2]
  congr 1
  · have : ∀ (gs : List Gt) (q : Nat), ((gs.zipIdx q).map fun p => (((p.2 : Nat) : Int), p.1)).flatMap (blk n.a.length M M 0 false) = gs.flatMap (cgs M) := fun gs => by
      induction gs with
      | nil => intro q; rfl
      | cons g gs ih =>
        intro q
        rw [List.zipIdx_cons, List.map_cons, List.flatMap_cons, List.flatMap_cons, ih]
        congr 1
        unfold blk cgs
        rw [if_neg (by decide), List.append_nil, eM]
        refine List.map_congr_left fun k _ => ?_
        unfold cg
        simp only [rc_plain]
    exact this n.b 0
  · refine List.map_congr_left fun o ho => ?_
    obtain ⟨e, _⟩ := ow_in hq ho
    rw [e]
    unfold rowM
    rw [eM]
    simp only [rc_plain]
    rfl
theorem dif_spl (hq : Q31 n) (p : Int) (i : Nat) : dif n [p] i = spl n p i := by
  unfold dif spl
  refine any_congr fun o ho => ?_
  obtain ⟨e, _⟩ := ow_in hq ho
  rw [rd_plain hq ho, rd_plain hq ho]
  have : at0 o.2.l 0 = ow o := by rw [e]; rfl
  rw [this]
  show ((_ ^^ _) && !false) = _
  rw [Bool.not_false, Bool.and_true]
/-! ### matters -/
def nod (n : Net) (t : List Int) (i : Nat) : Bool := non n t i && !dif n t i
theorem ts1 {n : Net} {p : Int} (h : p ∈ frees n) : Ts n [p] := fun q e => by
  have e : p = q := by simpa using e
  subst e
  exact ⟨frees_in p h, fun r hr => by rw [List.mem_singleton] at hr; omega⟩
theorem matters_is {n : Net} (hw : Wf n) (hb : n.b.length ≤ 100) : m_matters n = some ((frees n).map fun p => T3.mk p (cntB (NN n) (dif n [p]) : Int) (cntB (NN n) (nod n [p]) : Int)) := by
  have N64 := NN_le hw
  have fl := frees_len n
  have a : m_all_wires n = some (mkL (NN n) (W0 n) (LL n), mk (NN n) fun _ => true) := all_w hw
  unfold m_matters
  refine bq a (bq rfl (bq (free_is n) (bq (forS_push (h := fun p => T3.mk p (cntB (NN n) (dif n [p]) : Int) (cntB (NN n) (nod n [p]) : Int)) _ [] (fun p hp acc hl => ?_) (by simp; omega)) rfl)))
  refine bq (spoilt_mask hw (Tp.mk [p]) (ts1 hp)) (bq (many_is (by omega) _) (bq (x := (cntB (NN n) (nod n [p]) : Int)) ?_ (bq (if_pos hl) rfl)))
  show m_how_many_bits (Builtin.bitAnd (mk (NN n) (non n [p])) (Builtin.bitXor (mk (NN n) fun _ => true) (mk (NN n) (dif n [p])))) = _
  rw [mk_not, mk_and]
  exact many_is (by omega) _
theorem cnt_none {N : Nat} {f : Nat → Bool} : cntB N f = 0 ↔ ∀ i, i < N → f i = false := by
  constructor
  · intro h i hi
    cases e : f i with
    | false => rfl
    | true =>
      have := cntB_drop e hi
      omega
  · exact cntB_zero
theorem quiet_is (hq : Q31 n) : decide (((((frees n).map fun p => T3.mk p (cntB (NN n) (dif n [p]) : Int) (cntB (NN n) (nod n [p]) : Int)).filter (fun (x40 : (T3 Int Int Int)) => (decide ((0 : Int) < x40.b)))).map (fun (x40 : (T3 Int Int Int)) => (x40.a : Int)) : List Int) = ([] : (List Int))) = true ↔ ∀ q ∈ frees n, ∀ i, i < NN n → spl n q i = false := by
  rw [decide_eq_true_iff, List.map_eq_nil_iff, List.filter_eq_nil_iff]
  constructor
  · intro h q hq' i hi
    have := h _ (List.mem_map.mpr ⟨q, hq', rfl⟩)
    have z : cntB (NN n) (dif n [q]) = 0 := by
      have : ¬ (0 : Int) < (cntB (NN n) (dif n [q]) : Int) := by simpa using this
      omega
    rw [← dif_spl hq]
    exact cnt_none.mp z i hi
  · intro h x hx
    obtain ⟨q, hq', rfl⟩ := List.mem_map.mp hx
    have z : cntB (NN n) (dif n [q]) = 0 := cnt_none.mpr fun i hi => by
      rw [dif_spl hq]
      exact h q hq' i hi
    show ¬ decide ((0 : Int) < (cntB (NN n) (dif n [q]) : Int)) = true
    rw [z]
    decide
end
end W

namespace W
open PySem L2 TL
open Enc
structure Snz (n : Net) : Prop where
  f1 : 1 ≤ ah n ∧ ah n ≤ 18
  gl : n.b.length ≤ 60
  gs : ∀ (i : Nat) g, n.b[i]? = some g → g.b.l ≠ [] ∧ ∀ w ∈ g.b.l, 0 ≤ w ∧ w < ah n + (i : Int)
  oe : n.c ≠ []
  os : ∀ o ∈ n.c, o.2.l ≠ [] ∧ ∀ w ∈ o.2.l, 0 ≤ w ∧ w < ah n + (n.b.length : Int)
/-- how deep each wire lies -/
structure DP (n : Net) (D : List Int) : Prop where
  len : (D.length : Int) = ah n + n.b.length
  nn : ∀ w, 0 ≤ at0 D w
  ins : ∀ w, 0 ≤ w → w < ah n → at0 D w = 0
  gs : ∀ (p : Nat) g, n.b[p]? = some g → (∃ w ∈ g.b.l, at0 D (ah n + p) = 1 + at0 D w) ∧ ∀ w ∈ g.b.l, 1 + at0 D w ≤ at0 D (ah n + p)
/-- the deepest wire of the outs -/
structure DM (n : Net) (D : List Int) (M : Int) : Prop where
  le : ∀ o ∈ n.c, ∀ w ∈ o.2.l, at0 D w ≤ M
  ex : ∃ o ∈ n.c, ∃ w ∈ o.2.l, at0 D w = M
def votesN (n : Net) : Nat := (n.b.filter fun x => decide (x.a = ("vote" : Str))).length
def suresN (n : Net) : Nat := (n.b.filter fun x => x.c).length
theorem size_ok {n : Net} (h : Snz n) : Ok (m_size n) fun r => ∃ D M, DP n D ∧ DM n D M ∧ r = ⟨n.b.length, votesN n, suresN n, M⟩ := by
  unfold m_size
  have hf := h.f1
  have hg := h.gl
  refine Ok.bind (Ok.repO1 (x := 0) (i := ah n) (by omega) (by omega)) fun t5 h5 => ?_
  have l5 : (t5.length : Int) = ah n := by rw [h5, List.length_replicate]; omega
  refine Ok.bind (Ok.forSi (fun k s => (s.length : Int) = ah n + (k : Int) ∧ (∀ w, 0 ≤ at0 s w) ∧ (∀ w, 0 ≤ w → w < ah n → at0 s w = 0) ∧ ∀ (p : Nat) g, p < k → n.b[p]? = some g → (∃ w ∈ g.b.l, at0 s (ah n + p) = 1 + at0 s w) ∧ ∀ w ∈ g.b.l, 1 + at0 s w ≤ at0 s (ah n + p))
    n.b 0 t5 ⟨by omega, fun w => ?_, fun w h0 h1 => ?_, fun p g hp => by omega⟩ fun i x s hx hs => ?_) fun s28 h28 => ?_
  · rw [h5]; unfold at0; rw [List.getElem?_replicate]; split <;> exact Int.le_refl _
  · rw [h5]; exact at0_rep _ _ _ h0 (by omega)
  · have hw := h.gs i x hx
    have hi := get_lt hx
    obtain ⟨s1, s2, s3, s4⟩ := hs
    refine Ok.bind (Ok.mapO (P := fun w y => y = at0 s w) _ fun w hm => ?_) fun l22 h22 => ?_
    · have := hw.2 w hm
      exact Ok.bind (Ok.at0 this.1 (by omega)) fun r hr => Ok.pure hr
    have ne : l22 ≠ [] := fun e => by
      have := h22.1
      rw [e] at this
      exact hw.1 (List.length_eq_zero_iff.mp this.symm)
    refine Ok.bind (Ok.maxO ne) fun m hm => ?_
    refine (Ok.bind (Ok.appO (by omega)) fun u hu => Ok.pure hu).mono fun u hu => ?_
    subst hu
    obtain ⟨w0, hw0, e0⟩ := all_of h22.1 h22.2 m hm.1
    have low : ∀ w, 0 ≤ w → w < ah n + i → at0 (s ++ [1 + m]) w = at0 s w := fun w h0 h1 => by
      rw [at0_app _ _ _ h0, if_pos (by omega)]
    have top : at0 (s ++ [1 + m]) (ah n + i) = 1 + m := by
      rw [at0_app _ _ _ (by omega), if_neg (by omega), if_pos (by omega)]
    refine ⟨by simp; omega, fun w => ?_, fun w h0 h1 => ?_, fun p g hp hg' => ?_⟩
    · by_cases hw' : 0 ≤ w
      · rw [at0_app _ _ _ hw']
        split
        · exact s2 w
        · split
          · have := s2 w0; omega
          · exact Int.le_refl _
      · have : at0 (s ++ [1 + m]) w = at0 (s ++ [1 + m]) 0 := by unfold at0; rw [show w.toNat = (0 : Int).toNat by omega]
        rw [this, low 0 (Int.le_refl _) (by omega)]
        exact s2 0
    · rw [low w h0 (by omega)]; exact s3 w h0 h1
    · by_cases e : p = i
      · subst e
        rw [hx] at hg'
        cases hg'
        rw [top]
        refine ⟨⟨w0, hw0, ?_⟩, fun w hm' => ?_⟩
        · have := hw.2 w0 hw0
          rw [low w0 this.1 this.2, e0]
        · have := hw.2 w hm'
          rw [low w this.1 this.2]
          obtain ⟨y, hy, ey⟩ := all_to h22.1 h22.2 w hm'
          have := hm.2 y hy
          omega
      · have hp' : p < i := by omega
        have q := s4 p g (by omega) hg'
        have r := (h.gs p g hg').2
        have t : ∀ w ∈ g.b.l, at0 (s ++ [1 + m]) w = at0 s w := fun w hm' => by
          have := r w hm'
          exact low w this.1 (by omega)
        rw [low _ (by omega) (by omega)]
        exact ⟨by obtain ⟨w, q1, q2⟩ := q.1; exact ⟨w, q1, by rw [t w q1]; exact q2⟩, fun w hm' => by rw [t w hm']; exact q.2 w hm'⟩
  have dp : DP n s28 := ⟨by have := h28.1; omega, h28.2.1, h28.2.2.1, fun p g hp => h28.2.2.2 p g (by have := get_lt hp; omega) hp⟩
  refine Ok.lt (Ok.lt ?_)
  refine Ok.bind (Ok.mapO (P := fun o y => (∃ w ∈ o.2.l, at0 s28 w = y) ∧ ∀ w ∈ o.2.l, at0 s28 w ≤ y) _ fun o ho => ?_) fun l69 h69 => ?_
  · have hw := h.os o ho
    refine Ok.bind (Ok.mapO (P := fun w y => y = at0 s28 w) _ fun w hm => ?_) fun l65 h65 => ?_
    · have := hw.2 w hm
      have := dp.len
      exact Ok.bind (Ok.at0 (by omega) (by omega)) fun r hr => Ok.pure hr
    have ne : l65 ≠ [] := fun e => by
      have := h65.1
      rw [e] at this
      exact hw.1 (List.length_eq_zero_iff.mp this.symm)
    refine Ok.bind (Ok.maxO ne) fun m hm => Ok.pure ⟨?_, fun w hw' => ?_⟩
    · obtain ⟨w0, hw0, e0⟩ := all_of h65.1 h65.2 m hm.1
      exact ⟨w0, hw0, e0.symm⟩
    · obtain ⟨y, hy, ey⟩ := all_to h65.1 h65.2 w hw'
      have := hm.2 y hy
      omega
  have ne : l69 ≠ [] := fun e => by
    have := h69.1
    rw [e] at this
    exact h.oe (List.length_eq_zero_iff.mp this.symm)
  refine Ok.bind (Ok.maxO ne) fun M hM => Ok.pure ⟨s28, M, dp, ⟨fun o ho w hw => ?_, ?_⟩, ?_⟩
  · obtain ⟨y, hy, e⟩ := all_to h69.1 h69.2 o ho
    have := e.2 w hw
    have := hM.2 y hy
    omega
  · obtain ⟨o, ho, ⟨w, hw, e⟩, _⟩ := all_of h69.1 h69.2 M hM.1
    exact ⟨o, ho, w, hw, e⟩
  · unfold votesN suresN
    simp only [List.length_map]
end W

namespace W
open PySem L2 TL
open Enc
/-! ### the made net's size -/
theorem made_ab {n : Net} (hq : Q31 n) {c : Int} {v : Bool} (h : Hw c v) : Snz (made n c v) := by
  have w := made_wf hq h
  have a1 := hq.a1
  have a3 := hq.a3
  have c2 := h.h2
  have c3 := h.h3
  refine ⟨?_, ?_, fun i g e => ?_, ?_, fun o ho => ?_⟩
  · rw [made_ah]
    have e : c = 2 ∨ c = 3 := by omega
    rcases e with e | e <;> subst e <;> omega
  · have := made_len (n := n) h
    have := made_small hq h
    omega
  · obtain ⟨g1, g2, g3⟩ := w.gs i g e
    have := cnt_in g1
    refine ⟨fun z => ?_, g3⟩
    rw [z] at g2
    simp at g2
    omega
  · intro z
    rw [made_c, List.map_eq_nil_iff] at z
    exact hq.c1 z
  · obtain ⟨⟨g1, g2⟩, g3⟩ := w.os o ho
    refine ⟨fun z => ?_, g3⟩
    rw [z] at g1
    simp at g1
theorem plain_snz {n : Net} (hq : Q31 n) : Snz n := by
  have w := hq.pn.wf
  have a1 := hq.a1
  have a3 := hq.a3
  refine ⟨by rw [hq.ah]; omega, by have := hq.b5; omega, fun i g e => ?_, hq.c1, fun o ho => ?_⟩
  · obtain ⟨g1, g2, g3⟩ := w.gs i g e
    have := cnt_in g1
    refine ⟨fun z => ?_, g3⟩
    rw [z] at g2
    simp at g2
    omega
  · obtain ⟨⟨g1, g2⟩, g3⟩ := w.os o ho
    refine ⟨fun z => ?_, g3⟩
    rw [z] at g1
    simp at g1
theorem flat_at {I c st vc : Int} {v : Bool} (h1 : 1 ≤ c) (h3 : c ≤ 3) (hst : st = c * (1 + b2n v)) : ∀ (gs : List Gt) (q p r : Nat) (g : Gt), gs[p]? = some g → (r : Int) < st → ∀ i : Nat, (i : Int) = p * st + r →
    (((gs.zipIdx q).map fun p => (((p.2 : Nat) : Int), p.1)).flatMap (blk I c st vc v))[i]? = (blk I c st vc v (((q + p : Nat) : Int), g))[r]?
  | [], _, _, _, _, e, _, _, _ => by simp at e
  | x :: gs, q, 0, r, g, e, hr, i, hi => by
    have e : x = g := by simpa using e
    subst e
    have bl := blk_length I c st vc v ((q : Int), x) h1 h3
    rw [← hst] at bl
    have hi : i = r := by rw [show ((0 : Nat) : Int) * st = 0 by simp] at hi; omega
    subst hi
    rw [List.zipIdx_cons, List.map_cons, List.flatMap_cons]
    show (blk I c st vc v ((q : Int), x) ++ ((gs.zipIdx (q + 1)).map fun p => (((p.2 : Nat) : Int), p.1)).flatMap (blk I c st vc v))[i]? = _
    rw [List.getElem?_append_left (by omega)]
    rfl
  | x :: gs, q, p + 1, r, g, e, hr, i, hi => by
    have e : gs[p]? = some g := by simpa using e
    have bl := blk_length I c st vc v ((q : Int), x) h1 h3
    rw [← hst] at bl
    have em : ((p + 1 : Nat) : Int) * st = (p : Int) * st + st := by rw [Int.natCast_add, Int.add_mul]; simp
    rw [em] at hi
    have p0 : 0 ≤ (p : Int) * st := Int.mul_nonneg (by omega) (by omega)
    rw [List.zipIdx_cons, List.map_cons, List.flatMap_cons]
    show (blk I c st vc v ((q : Int), x) ++ ((gs.zipIdx (q + 1)).map fun p => (((p.2 : Nat) : Int), p.1)).flatMap (blk I c st vc v))[i]? = _
    rw [List.getElem?_append_right (by omega), flat_at h1 h3 hst gs (q + 1) p r g e hr _ (by omega), show q + 1 + p = q + (p + 1) by omega]
theorem made_at {n : Net} {c : Int} {v : Bool} (h : Hw c v) {p r : Nat} {g : Gt} (e : n.b[p]? = some g) (hr : (r : Int) < c * (1 + b2n v)) {i : Nat} (hi : (i : Int) = p * (c * (1 + b2n v)) + r) :
    (made n c v).b[i]? = (blk n.a.length c (c * (1 + b2n v)) (b2n v * c) v ((p : Int), g))[r]? := by
  have := flat_at (I := n.a.length) (vc := b2n v * c) (v := v) (c := c) (by have := h.h2; omega) h.h3 rfl n.b 0 p r g e hr i hi
  rw [Nat.zero_add] at this
  exact this
theorem made_deep {n : Net} (hq : Q31 n) {c : Int} {v : Bool} (h : Hw c v) {D D' : List Int} (hD : DP n D) (hD' : DP (made n c v) D') : ∀ (m : Nat), (m : Int) < ah n + n.b.length → ∀ k : Int, 0 ≤ k → k < c → at0 D' (rc n.a.length c (c * (1 + b2n v)) (b2n v * c) m + k) = (1 + b2n v) * at0 D m := by
  obtain ⟨s1, s2, s3, s4, s5⟩ := h.st
  have c2 := h.h2
  have c3 := h.h3
  have ahn := hq.ah
  have aM := made_ah (n := n) c v
  intro m
  induction m using Nat.strongRecOn with
  | _ m ih =>
  intro hm k k0 k1
  by_cases hI : m < n.a.length
  · have z := hD.ins m (by omega) (by omega)
    rw [z, Int.mul_zero]
    have a := mul_lt (M := c) (w := (m : Int)) (L := n.a.length) (k := k) (by omega) (by omega) k1
    have d : 0 ≤ (m : Int) * c := Int.mul_nonneg (by omega) (by omega)
    rw [Int.mul_comm c, Int.mul_comm c] at a
    unfold rc
    rw [if_pos (by omega)]
    exact hD'.ins _ (by omega) (by omega)
  · obtain ⟨p, hp⟩ : ∃ p : Nat, m = n.a.length + p := ⟨m - n.a.length, by omega⟩
    subst hp
    have hpl : p < n.b.length := by omega
    have eg : n.b[p]? = some n.b[p] := List.getElem?_eq_getElem hpl
    generalize n.b[p] = g at eg
    obtain ⟨⟨wd, wd1, wd2⟩, dle⟩ := hD.gs p g eg
    rw [ahn] at wd2 dle
    have gin : ∀ w ∈ g.b.l, 0 ≤ w ∧ w < (n.a.length : Int) + p := fun w hw => by
      have := (hq.pn.wf.gs p g eg).2.2 w hw
      omega
    have er : rc n.a.length c (c * (1 + b2n v)) (b2n v * c) ((n.a.length + p : Nat) : Int) + k = n.a.length * c + (p : Int) * (c * (1 + b2n v)) + b2n v * c + k := by
      unfold rc
      rw [if_neg (by omega), show ((n.a.length + p : Nat) : Int) - (n.a.length : Int) = (p : Int) by omega]
    have p0 : 0 ≤ (p : Int) * (c * (1 + b2n v)) := Int.mul_nonneg (by omega) (by omega)
    rw [er, show ((n.a.length + p : Nat) : Int) = (n.a.length : Int) + p by omega]
    -- the copies
    have cpy : ∀ k : Int, 0 ≤ k → k < c → at0 D' (n.a.length * c + (p : Int) * (c * (1 + b2n v)) + k) = 1 + (1 + b2n v) * (at0 D ((n.a.length : Int) + p) - 1) := fun k k0 k1 => by
      have e := made_at (n := n) h (p := p) (r := k.toNat) (i := ((p : Int) * (c * (1 + b2n v)) + k).toNat) eg (by cases v <;> simp [b2n] at * <;> omega) (by omega)
      have eb : (blk n.a.length c (c * (1 + b2n v)) (b2n v * c) v ((p : Int), g))[k.toNat]? = some (T3.mk g.a (Tp.mk (g.b.l.map fun w => rc n.a.length c (c * (1 + b2n v)) (b2n v * c) w + k)) g.c) := by
        unfold blk
        rw [List.getElem?_append_left (by rw [List.length_map, rngL_length]; omega), List.getElem?_map, rngL_at k0 (by omega), Int.zero_add]
        rfl
      rw [eb] at e
      obtain ⟨⟨u, u1, u2⟩, ule⟩ := hD'.gs _ _ e
      rw [aM, show (n.a.length : Int) * c + ((((p : Int) * (c * (1 + b2n v)) + k).toNat : Nat) : Int) = n.a.length * c + (p : Int) * (c * (1 + b2n v)) + k by omega] at u2 ule
      have val : ∀ w ∈ g.b.l, at0 D' (rc n.a.length c (c * (1 + b2n v)) (b2n v * c) w + k) = (1 + b2n v) * at0 D w := fun w hw => by
        have hw' := gin w hw
        have := ih w.toNat (by omega) (by omega) k k0 k1
        rw [Int.toNat_of_nonneg hw'.1] at this
        exact this
      obtain ⟨w, hw, rfl⟩ := List.mem_map.mp u1
      have lo := ule _ (List.mem_map.mpr ⟨wd, wd1, rfl⟩)
      rw [val wd wd1] at lo
      rw [val w hw] at u2
      have le := dle w hw
      rw [u2] at lo ⊢
      cases v with
      | true =>
        have b : b2n true = 1 := rfl
        rw [b] at lo ⊢
        omega
      | false =>
        have b : b2n false = 0 := rfl
        rw [b] at lo ⊢
        omega
    cases v with
    | false =>
      have v0 := s2 rfl
      rw [v0, Int.add_zero, cpy k k0 k1]
      have b : b2n false = 0 := rfl
      rw [b]
      omega
    | true =>
      obtain ⟨e3, v3⟩ := s1 rfl
      subst e3
      have b : b2n true = 1 := rfl
      rw [b] at cpy p0 ⊢
      have e := made_at (n := n) h (p := p) (r := (3 + k).toNat) (i := ((p : Int) * (3 * (1 + 1)) + (3 + k)).toNat) eg (by rw [b]; omega) (by rw [b]; omega)
      have eb : (blk n.a.length 3 (3 * (1 + b2n true)) (b2n true * 3) true ((p : Int), g))[(3 + k).toNat]? = some (T3.mk ("vote" : Str) (Tp.mk ((rngL 0 (3 : Int).toNat).map fun k => (n.a.length : Int) * 3 + (p : Int) * (3 * (1 + b2n true)) + k)) g.c) := by
        unfold blk
        rw [List.getElem?_append_right (by rw [List.length_map, rngL_length]; show 3 ≤ _; omega), if_pos rfl, List.getElem?_replicate, if_pos (by rw [List.length_map, rngL_length]; show _ - 3 < 3; omega)]
      rw [eb] at e
      obtain ⟨⟨u, u1, u2⟩, _⟩ := hD'.gs _ _ e
      rw [aM, show (n.a.length : Int) * 3 + ((((p : Int) * (3 * (1 + 1)) + (3 + k)).toNat : Nat) : Int) = n.a.length * 3 + (p : Int) * (3 * (1 + 1)) + 1 * 3 + k by omega] at u2
      obtain ⟨k', hk', rfl⟩ := List.mem_map.mp u1
      have hk' := mem_rngL.mp hk'
      have := cpy k' (by omega) (by omega)
      rw [u2, b, this]
      omega
theorem dp_nn {n : Net} {D : List Int} (d : DP n D) (w : Int) : 0 ≤ at0 D w := d.nn w
theorem made_dm {n : Net} (hq : Q31 n) {c : Int} {v : Bool} (h : Hw c v) {D D' : List Int} {M M' : Int} (hD : DP n D) (hD' : DP (made n c v) D') (hM : DM n D M) (hM' : DM (made n c v) D' M') : M' = (1 + b2n v) * M := by
  have c2 := h.h2
  have val : ∀ o ∈ n.c, ∀ k : Int, 0 ≤ k → k < c → at0 D' (rc n.a.length c (c * (1 + b2n v)) (b2n v * c) (ow o) + k) = (1 + b2n v) * at0 D (ow o) := fun o ho k k0 k1 => by
    obtain ⟨_, w0, w1⟩ := ow_in hq ho
    have := made_deep hq h hD hD' (ow o).toNat (by omega) k k0 k1
    rw [Int.toNat_of_nonneg w0] at this
    exact this
  have e2 : ∀ x y : Int, x ≤ y → (1 + b2n v) * x ≤ (1 + b2n v) * y := fun x y hxy => Int.mul_le_mul_of_nonneg_left hxy (by cases v <;> decide)
  refine Int.le_antisymm ?_ ?_
  · obtain ⟨o', ho', u, hu, e⟩ := hM'.ex
    rw [made_c] at ho'
    obtain ⟨o, ho, rfl⟩ := List.mem_map.mp ho'
    rw [mo_row] at hu
    obtain ⟨k, hk, rfl⟩ := List.mem_map.mp hu
    have hk := mem_rngL.mp hk
    rw [val o ho k (by omega) (by omega)] at e
    rw [← e]
    refine e2 _ _ (hM.le o ho (ow o) ?_)
    obtain ⟨e1, _⟩ := ow_in hq ho
    rw [e1]; simp
  · obtain ⟨o, ho, u, hu, e⟩ := hM.ex
    obtain ⟨e1, _⟩ := ow_in hq ho
    rw [e1] at hu
    have hu := List.mem_singleton.mp hu
    subst hu
    rw [← e, ← val o ho 0 (by omega) (by omega)]
    refine hM'.le (mo n c v o) (by rw [made_c]; exact List.mem_map.mpr ⟨o, ho, rfl⟩) _ ?_
    rw [mo_row]
    exact List.mem_map.mpr ⟨0, mem_rngL.mpr (by omega), rfl⟩
def isV (g : Gt) : Bool := decide (g.a = ("vote" : Str))
theorem filt_const {α : Type} (p : α → Bool) (b : Bool) : ∀ xs : List α, (∀ x ∈ xs, p x = b) → (xs.filter p).length = if b = true then xs.length else 0
  | [], _ => by simp
  | x :: xs, h => by
    have ih := filt_const p b xs fun y hy => h y (List.mem_cons_of_mem _ hy)
    rw [List.filter_cons, h x (List.mem_cons_self ..)]
    cases b with
    | true => rw [if_pos rfl, List.length_cons, ih]; simp
    | false => rw [if_neg (by decide), ih]; simp
theorem blk_votes {I c st vc : Int} {v : Bool} {x : Int × Gt} : (((blk I c st vc v x).filter isV).length : Int) = (if isV x.2 = true then (c.toNat : Int) else 0) + (if v = true then (c.toNat : Int) else 0) := by
  unfold blk
  rw [List.filter_append, List.length_append, filt_const isV (isV x.2) _ fun y hy => by obtain ⟨k, _, rfl⟩ := List.mem_map.mp hy; rfl, List.length_map, rngL_length]
  cases v with
  | true =>
    rw [if_pos rfl, filt_const isV true _ fun y hy => by rw [List.eq_of_mem_replicate hy]; exact decide_eq_true rfl, if_pos rfl, List.length_replicate, if_pos rfl]
    split <;> simp
  | false =>
    rw [if_neg (show ¬ (false = true) by decide), if_neg (show ¬ (false = true) by decide)]
    split <;> simp
def isS (g : Gt) : Bool := g.c
theorem blk_sures {I c st vc : Int} {v : Bool} {x : Int × Gt} : (((blk I c st vc v x).filter isS).length : Int) = if isS x.2 = true then (c.toNat : Int) + (if v = true then (c.toNat : Int) else 0) else 0 := by
  unfold blk
  rw [List.filter_append, List.length_append, filt_const isS (isS x.2) _ fun y hy => by obtain ⟨k, _, rfl⟩ := List.mem_map.mp hy; rfl, List.length_map, rngL_length]
  cases v with
  | true =>
    rw [if_pos rfl, filt_const isS (isS x.2) _ fun y hy => by rw [List.eq_of_mem_replicate hy]; rfl, List.length_replicate, if_pos rfl]
    split <;> simp
  | false =>
    rw [if_neg (show ¬ (false = true) by decide), if_neg (show ¬ (false = true) by decide)]
    split <;> simp
theorem flat_filt {β : Type} {I c st vc : Int} {v : Bool} (p : Gt → Bool) (f : Gt → Int) (hf : ∀ x : Int × Gt, (((blk I c st vc v x).filter p).length : Int) = f x.2) : ∀ (gs : List Gt) (q : Nat), (((((gs.zipIdx q).map fun p => (((p.2 : Nat) : Int), p.1)).flatMap (blk I c st vc v)).filter p).length : Int) = (gs.map f).sum
  | [], _ => rfl
  | g :: gs, q => by
    rw [List.zipIdx_cons, List.map_cons, List.flatMap_cons, List.filter_append, List.length_append, Int.natCast_add, hf, List.map_cons, List.sum_cons, flat_filt (β := β) p f hf gs (q + 1)]
theorem sum_votes (c : Int) (e : Int) : ∀ gs : List Gt, (gs.map fun g => (if isV g = true then c else 0) + e).sum = c * ((gs.filter isV).length : Int) + e * (gs.length : Int)
  | [] => by simp
  | g :: gs => by
    rw [List.map_cons, List.sum_cons, sum_votes c e gs, List.filter_cons, List.length_cons]
    have e2 : ((gs.length + 1 : Nat) : Int) = (gs.length : Int) + 1 := by omega
    rw [e2, Int.mul_add, Int.mul_one]
    by_cases h : isV g = true
    · rw [if_pos h, if_pos h, List.length_cons]
      have e3 : (((gs.filter isV).length + 1 : Nat) : Int) = ((gs.filter isV).length : Int) + 1 := by omega
      rw [e3, Int.mul_add, Int.mul_one]
      omega
    · rw [if_neg h, if_neg h]
      omega
theorem sum_sures (c : Int) : ∀ gs : List Gt, (gs.map fun g => if isS g = true then c else 0).sum = c * ((gs.filter isS).length : Int)
  | [] => by simp
  | g :: gs => by
    rw [List.map_cons, List.sum_cons, sum_sures c gs, List.filter_cons]
    by_cases h : isS g = true
    · rw [if_pos h, if_pos h, List.length_cons]
      have e3 : (((gs.filter isS).length + 1 : Nat) : Int) = ((gs.filter isS).length : Int) + 1 := by omega
      rw [e3, Int.mul_add, Int.mul_one]
      omega
    · rw [if_neg h, if_neg h]
      omega
theorem made_votes {n : Net} {c : Int} {v : Bool} (h : Hw c v) : (votesN (made n c v) : Int) = c * (votesN n : Int) + (if v = true then c else 0) * (n.b.length : Int) := by
  have c2 := h.h2
  have ec : (c.toNat : Int) = c := by omega
  have := flat_filt (β := Unit) (I := n.a.length) (c := c) (st := c * (1 + b2n v)) (vc := b2n v * c) (v := v) isV (fun g => (if isV g = true then c else 0) + (if v = true then c else 0)) (fun x => by rw [blk_votes, ec]) n.b 0
  rw [sum_votes] at this
  exact this
theorem made_sures {n : Net} {c : Int} {v : Bool} (h : Hw c v) : (suresN (made n c v) : Int) = (c * (1 + b2n v)) * (suresN n : Int) := by
  have c2 := h.h2
  have ec : (c.toNat : Int) = c := by omega
  have := flat_filt (β := Unit) (I := n.a.length) (c := c) (st := c * (1 + b2n v)) (vc := b2n v * c) (v := v) isS (fun g => if isS g = true then c * (1 + b2n v) else 0) (fun x => by
    rw [blk_sures, ec]
    have : c + (if v = true then c else 0) = c * (1 + b2n v) := by
      cases v with
      | true => have b : b2n true = 1 := rfl; rw [b, if_pos rfl]; omega
      | false => have b : b2n false = 0 := rfl; rw [b, if_neg (by decide)]; omega
    rw [this]) n.b 0
  rw [sum_sures] at this
  exact this
end W

namespace W
open PySem L2 TL
open Enc
/-! ### the law's own parts -/
theorem kinds8 {kd : Str} (h : kd ∈ ([("not" : Str), ("and" : Str), ("or" : Str), ("xor" : Str), ("vote" : Str), ("and" : Str), ("or" : Str), ("xor" : Str)] : List Str)) : kd ∈ kinds5 := by
  unfold kinds5
  simp at h ⊢
  rcases h with h | h | h | h | h | h | h | h <;> simp [h]
theorem plain_ok {p : List Int} {g : Int} (hp : p.length = 2) (h0 : 0 ≤ g) (h1 : g ≤ 5) : Ok (m__law_plain p 3 g) fun r => Q31 (T3.mk r.1.a r.1.b (cutL r.1.c none (some (3 : Int)))) ∧ r.2.length = 2 := by
  unfold m__law_plain
  refine Ok.lt ?_
  refine Ok.bind (next_ok hp (by omega) (by omega)) fun r3 h3 => ?_
  refine Ok.bind (next_ok h3.2 (by omega) (by omega)) fun r5 h5 => ?_
  refine Ok.bind (Ok.rngO (by omega) (by omega)) fun l7 e7 => ?_
  refine Ok.bind (Ok.mapO (P := fun _ y => y.2 = 1) _ fun x hx => ?_) fun l17 h17 => ?_
  · have b := Int.emod_nonneg (r3.1 + x) (b := 6) (by omega)
    have c := Int.emod_lt_of_pos (r3.1 + x) (b := 6) (by omega)
    exact Ok.bind (Ok.atI b (by show _ < ((6 : Nat) : Int); omega)) fun t15 h15 => Ok.pure rfl
  have il : 1 ≤ l17.length ∧ l17.length ≤ 3 := by
    have := h17.1
    rw [e7, rngL_length] at this
    omega
  have iw : ∀ x ∈ l17, x.2 = 1 := fun y hy => by
    obtain ⟨x, _, e⟩ := all_of h17.1 h17.2 y hy
    exact e
  have as : (l17.map (fun x => x.2)).sum = (l17.length : Int) := by
    clear h17 il
    induction l17 with
    | nil => rfl
    | cons x xs ih => rw [List.map_cons, List.sum_cons, ih fun y hy => iw y (List.mem_cons_of_mem _ hy), iw x (List.mem_cons_self ..), List.length_cons]; omega
  refine Ok.lt ?_
  refine Ok.bind (Ok.rngO (by omega) (by omega)) fun l22 e22 => ?_
  refine Ok.bind (Ok.forSi (fun k s => s.1.length = 2 ∧ s.2.length = k ∧ ∀ (i : Nat) g, s.2[i]? = some g → GtOk ((l17.length : Int) + i) g) l22 0 _ ⟨h5.2, rfl, fun i g h => by simp at h⟩ fun i x s hx hs => ?_) fun s59 h59 => ?_
  · rw [e22] at hx
    have hx := rngL_get hx
    refine Ok.lt ?_
    refine Ok.bind (next_ok hs.1 (by omega) (by omega)) fun r32 h32 => ?_
    refine Ok.bind (Ok.atI h32.1.1 h32.1.2) fun t34 h34 => ?_
    have hk := kinds8 (get_mem h34)
    have hkk := cnt_in hk
    refine Ok.lt ?_
    rw [show (dlit [(("not" : Str), (1 : Int)), (("vote" : Str), (3 : Int))] t34).getD (2 : Int) = cnt t34 from rfl]
    refine Ok.bind (Ok.rngO (by omega) (by omega)) fun l38 e38 => ?_
    refine Ok.bind (Ok.mapS (fun _ y => 0 ≤ y ∧ y < (l17.length : Int) + x) (fun s => s.length = 2) _ _ h32.2 fun x41 _ s48 h48 => ?_) fun l53 h53 => ?_
    · have hm : min2 ((l17.length : Int) + x) 4 ≤ (l17.length : Int) + x ∧ 1 ≤ min2 ((l17.length : Int) + x) 4 := by unfold min2; split <;> omega
      refine Ok.bind (Ok.atI (by omega) (by simp; omega)) fun t49 h49 => ?_
      have h5 : t49 = (l17.length : Int) + x ∨ t49 = min2 ((l17.length : Int) + x) 4 := by simpa using get_mem h49
      refine Ok.bind (next_ok h48 (by omega) (by omega)) fun r51 h51 => Ok.pure ⟨?_, h51.2⟩
      show 0 ≤ (l17.length : Int) + x - 1 - r51.1 ∧ (l17.length : Int) + x - 1 - r51.1 < (l17.length : Int) + x
      omega
    refine Ok.bind (next_ok h53.1 (by omega) (by omega)) fun r55 h55 => ?_
    refine Ok.bind (Ok.appO (by omega)) fun u57 e57 => Ok.pure ⟨h55.2, ?_, fun j g hj => ?_⟩
    · show u57.length = _
      rw [e57, List.length_append]; simp; omega
    · have hj : u57[j]? = some g := hj
      rw [e57, List.getElem?_append] at hj
      split at hj
      · exact hs.2.2 j g hj
      · have : j - s.2.length = 0 := by
          have := get_lt hj
          simp at this
          omega
        rw [this] at hj
        simp at hj
        subst hj
        refine ⟨hk, ?_, fun w hw => ?_⟩
        · show (l53.1.length : Int) = cnt t34
          rw [h53.2.1, e38, rngL_length]
          omega
        · obtain ⟨_, _, e⟩ := all_of h53.2.1 h53.2.2 w hw
          omega
  have gl : s59.2.length ≤ 5 := by
    have := h59.2.1
    rw [e22, rngL_length] at this
    omega
  refine Ok.lt ?_
  refine Ok.bind (next_ok h59.1 (by omega) (by omega)) fun r63 h63 => ?_
  refine Ok.bind (Ok.rngO (by omega) (by omega)) fun l65 e65 => ?_
  refine Ok.bind (Ok.forSi (fun k s => s.1.length = 2 ∧ s.2.length = k ∧ ∀ o ∈ s.2, ∃ w, o.2.l = [w] ∧ 0 ≤ w ∧ w < (l17.length : Int) + s59.2.length) l65 0 _ ⟨h63.2, rfl, fun o h => by cases h⟩ fun i x s hx hs => ?_) fun s85 h85 => ?_
  · rw [e65] at hx
    have hx := rngL_get hx
    refine Ok.lt ?_
    have hm : min2 ((l17.length : Int) + (s59.2.length : Int)) 4 ≤ (l17.length : Int) + (s59.2.length : Int) ∧ 1 ≤ min2 ((l17.length : Int) + (s59.2.length : Int)) 4 := by unfold min2; split <;> omega
    refine Ok.bind (Ok.atI (by omega) (by simp; omega)) fun t75 h75 => ?_
    have h5 : t75 = (l17.length : Int) + (s59.2.length : Int) ∨ t75 = min2 ((l17.length : Int) + (s59.2.length : Int)) 4 := by simpa using get_mem h75
    refine Ok.bind (next_ok hs.1 (by omega) (by omega)) fun r77 h77 => Ok.lt ?_
    refine Ok.bind (Ok.atI (by omega) (by show x < ((6 : Nat) : Int); omega)) fun t81 h81 => ?_
    refine Ok.bind (Ok.appO (by omega)) fun u83 e83 => Ok.pure ⟨h77.2, ?_, fun o ho => ?_⟩
    · show u83.length = _
      rw [e83, List.length_append]; simp; omega
    · have ho : o ∈ u83 := ho
      rw [e83, List.mem_append] at ho
      rcases ho with ho | ho
      · exact hs.2.2 o ho
      · rw [List.mem_singleton] at ho
        subst ho
        exact ⟨_, rfl, by omega, by omega⟩
  refine Ok.pure ⟨?_, h85.1⟩
  have ol := h85.2.1
  rw [e65, rngL_length] at ol
  have ec : cutL s85.2 none (some (3 : Int)) = s85.2.take 3 := cutL_to _ _ (by omega)
  have ah' : ah (T3.mk l17 s59.2 (s85.2.take 3)) = (l17.length : Int) := as
  show Q31 (T3.mk l17 s59.2 (cutL s85.2 none (some (3 : Int))))
  rw [ec]
  have os : ∀ o ∈ s85.2.take 3, ∃ w, o.2.l = [w] ∧ 0 ≤ w ∧ w < (l17.length : Int) + s59.2.length := fun o ho => h85.2.2 o (List.mem_of_mem_take ho)
  refine ⟨⟨⟨by show l17.length ≤ 6; omega, fun x hx => by rw [iw x hx]; omega, by show s59.2.length ≤ 400; omega, fun i g e => ?_, by show (s85.2.take 3).length ≤ 1000; rw [List.length_take]; omega, fun o ho => ?_⟩, iw, fun o ho => ?_⟩, il.1, il.2, gl, ?_, ?_⟩
  · rw [ah']
    exact h59.2.2 i g e
  · obtain ⟨w, ew, w0, w1⟩ := os o ho
    rw [ew, ah']
    exact ⟨⟨by simp, by simp⟩, fun u hu => by rw [List.mem_singleton.mp hu]; exact ⟨w0, w1⟩⟩
  · obtain ⟨w, ew, _⟩ := os o ho
    exact ⟨w, ew⟩
  · show s85.2.take 3 ≠ []
    intro z
    have : min 3 s85.2.length = 0 := by rw [← List.length_take, z]; rfl
    omega
  · show (s85.2.take 3).length ≤ 3
    rw [List.length_take]; omega
/-! ### good -/
theorem bits_is {m i : Nat} (hm : m ≤ 6) : mapO (fun (x20 : Int) => (shrO (i : Int) (((m : Int) - (1 : Int)) - x20)).bind fun t25 => some ((Builtin.bitAnd t25 (1 : Int)) : Int)) (rngL 0 m) = some ((inB m i).map b2n) := by
  rw [rngL_0]
  refine (mapO_map (h := fun k : Nat => b2n (i.testBit (m - 1 - k))) fun k hk => ?_).trans ?_
  · have hk := List.mem_range.mp hk
    refine bq (x := (i : Int) / 2 ^ (m - 1 - k)) ?_ ?_
    · unfold shrO
      rw [if_pos (by omega), show ((m : Int) - 1 - (k : Int)).toNat = m - 1 - k by omega]
    · rw [bit1]
  · unfold inB
    rw [List.map_map]
    rfl
theorem forF_nx {α R : Type} {f : α → Unit → Option (Fl Unit R)} : ∀ (xs : List α), (∀ x ∈ xs, f x () = some (.nx ())) → forF f xs () = some (.nx ())
  | [], _ => rfl
  | x :: xs, h => by
    unfold forF
    exact bq (h x (List.mem_cons_self ..)) (forF_nx xs fun y hy => h y (List.mem_cons_of_mem _ hy))
theorem rep_b {c : Int} (h2 : 2 ≤ c) (h3 : c ≤ 3) (y : Bool) : repTO ([b2n y] : List Int) c = some ((List.replicate c.toNat y).map b2n) := by
  have e : c = 2 ∨ c = 3 := by omega
  rcases e with e | e <;> subst e <;> rfl
theorem good_is {n : Net} (hq : Q31 n) {c : Int} {v : Bool} (h : Hw c v) : m__law_good n (made n c v) c = some true := by
  have w := hq.pn.wf
  have w' := made_wf hq h
  have a3 := hq.a3
  have c2 := h.h2
  have c3 := h.h3
  have N64 := NN_le w
  have sh : shlO (1 : Int) (n.a.length : Int) = some ((NN n : Nat) : Int) := by
    unfold shlO NN
    rw [if_pos (by omega)]
    simp
  unfold m__law_good
  refine bq (made_sound hq h) ?_
  rw [if_neg (show ¬ ((true != true) = true) by decide), made_columns hq h]
  refine bq (x := false) (bq (columns_is w) (bq (columns_is w) (congrArg some (by simp)))) ?_
  rw [if_neg (show ¬ (false = true) by decide)]
  refine bq sh (bq (x := rngL 0 (NN n)) (if_pos (by omega)) ?_)
  rw [rngL_0 (NN n)]
  refine bq (forF_nx _ fun x hx => ?_) rfl
  obtain ⟨i, hi, rfl⟩ := List.mem_map.mp hx
  have il := inB_len n.a.length i
  have ilm : (inB n.a.length i).length = (made n c v).a.length := by rw [made_al]; exact il
  have r0 := run_is w il (Tp.mk []) (Tp.mk [])
  have r1 := run_is w' ilm (Tp.mk []) (Tp.mk [])
  have i0 : inT (Tp.mk ([] : List Int)).l = no := inT_nil
  rw [i0] at r0 r1
  have sl : ((WB n (inB n.a.length i) no no).length : Int) = ah n + n.b.length := WB_len w _ _ _
  have J0 := mk_none hq h (inB n.a.length i)
  refine bq (bits_is (m := n.a.length) (i := i) (by omega)) (bq rfl (bq r0 (bq r1 ?_)))
  rw [made_c, List.map_map]
  have eL : n.c.map ((fun o => Tp.mk ((o.2.l.map (atB (WB (made n c v) (inB n.a.length i) no no))).map b2n)) ∘ mo n c v) = n.c.map fun o => Tp.mk ((List.replicate c.toNat (atB (WB n (inB n.a.length i) no no) (ow o))).map b2n) := List.map_congr_left fun o ho => by
    show Tp.mk (((mo n c v o).2.l.map _).map b2n) = _
    rw [mo_all hq h sl J0 ho]
  rw [eL]
  have e0 : n.c.map (fun o => Tp.mk ((o.2.l.map (atB (WB n (inB n.a.length i) no no))).map b2n)) = n.c.map fun o => Tp.mk [b2n (atB (WB n (inB n.a.length i) no no) (ow o))] := List.map_congr_left fun o ho => by
    rw [(ow_in hq ho).1]
    rfl
  rw [e0]
  refine bq (mapO_map (h := fun o => Tp.mk ((List.replicate c.toNat (atB (WB n (inB n.a.length i) no no) (ow o))).map b2n)) fun o ho => bq (rep_b c2 c3 _) rfl) ?_
  rw [if_neg (by simp)]
  by_cases hc : c = 3
  · subst hc
    rw [if_pos (by decide)]
    refine bq (x := rngL 0 (3 * n.a.length)) ?_ (bq (forF_nx _ fun x hx => ?_) rfl)
    · unfold rngO
      rw [if_pos (by omega)]
      congr 2
    · have hx := mem_rngL.mp hx
      have r2 := run_is w' ilm (Tp.mk []) (Tp.mk [x])
      rw [i0] at r2
      have J1 := mk_one3 (v := v) (T' := no) (B' := inT [x]) hq (x % 3) (fun _ _ => rfl) (fun z hz => decide_eq_false fun hm => hz (by rw [List.mem_singleton.mp hm])) (inB n.a.length i)
      refine bq r2 (bq (mapO_told w' _) ?_)
      refine bq (mapO_map (h := fun o => b2n (atB (WB n (inB n.a.length i) no no) (ow o))) fun o ho => bq (x := b2n (atB (WB n (inB n.a.length i) no no) (ow o))) rfl rfl) ?_
      have eT : (made n 3 v).c.map (fun o => rdO (rd o (WB (made n 3 v) (inB n.a.length i) no (inT (Tp.mk [x]).l)))) = (n.c.map fun o => b2n (atB (WB n (inB n.a.length i) no no) (ow o))).map some := by
        rw [made_c, List.map_map, List.map_map]
        refine List.map_congr_left fun o ho => ?_
        show rdO (rd (mo n 3 v o) _) = _
        rw [mo_rd3 hq h sl J1 ho]
        rfl
      rw [eT, if_neg (by simp)]
  · rw [if_neg (by simpa using hc)]
/-! ### the law -/
theorem eqA {n : Net} {many : Nat} {level : Str} : eqO (ansB n many level : Ans) (Ans.a1 ("bears" : Str)) = some (decide (ansB n many level = Ans.a1 ("bears" : Str))) := if_pos ⟨ans_ok, brs_ok⟩
theorem size_is {n : Net} (hq : Q31 n) : ∃ D M, DP n D ∧ DM n D M ∧ m_size n = some (T4.mk (n.b.length : Int) (votesN n : Int) (suresN n : Int) M) ∧ ∀ {c : Int} {v : Bool}, Hw c v → m_size (made n c v) = some (T4.mk ((n.b.length : Int) * (c * (1 + b2n v))) (c * (votesN n : Int) + (if v = true then c else 0) * (n.b.length : Int)) ((c * (1 + b2n v)) * (suresN n : Int)) ((1 + b2n v) * M)) := by
  obtain ⟨r, er, D, M, h1, h2, h3⟩ := size_ok (plain_snz hq)
  refine ⟨D, M, h1, h2, by rw [er, h3], fun {c v} h => ?_⟩
  obtain ⟨r', er', D', M', h1', h2', h3'⟩ := size_ok (made_ab hq h)
  rw [er', h3', made_len h, made_votes h, made_sures h, made_dm hq h h1 h1' h2 h2']
theorem case_ok {p : List Int} (hp : p.length = 2) : Ok (m__law_case p) fun r => r.1 = true := by
  unfold m__law_case
  refine Ok.bind (next_ok hp (by omega) (by omega)) fun r1 h1 => ?_
  refine Ok.bind (plain_ok h1.2 (by omega) (by omega)) fun r3 h3 => Ok.lt ?_
  obtain ⟨hq, _⟩ := h3
  generalize T3.mk r3.1.a r3.1.b (cutL r3.1.c none (some (3 : Int))) = n at hq
  have w := hq.pn.wf
  have H3 := hw3 false
  have HV := hw3 true
  have H2 := hw2
  have ml : ∀ {c : Int} {v : Bool}, Hw c v → (made n c v).b.length ≤ 100 := fun h => by
    have := made_len (n := n) h
    have := made_small hq h
    omega
  refine oq (bq (made_is hq H3) rfl) (oq (bq (made_is hq H2) rfl) (oq (bq (made_is hq HV) rfl) ?_))
  refine oq (good_is hq H3) (oq (x := false) ?_ ?_)
  · rw [if_neg (by decide)]
    refine bq (good_is hq H2) (bq (x := false) ?_ rfl)
    rw [if_neg (by decide)]
    exact bq (good_is hq HV) rfl
  rw [if_neg (by decide)]
  have b3 : m_bears (made n 3 false) (1 : Int) ("right" : Str) = some (ansB (made n 3 false) 1 ("right" : Str)) := bears_is (many := 1) (made_wf hq H3) (ml H3) (by omega) ("right" : Str)
  have bV : m_bears (made n 3 true) (1 : Int) ("right" : Str) = some (ansB (made n 3 true) 1 ("right" : Str)) := bears_is (many := 1) (made_wf hq HV) (ml HV) (by omega) ("right" : Str)
  have b2s : m_bears (made n 2 false) (1 : Int) ("safe" : Str) = some (ansB (made n 2 false) 1 ("safe" : Str)) := bears_is (many := 1) (made_wf hq H2) (ml H2) (by omega) ("safe" : Str)
  have b2r : m_bears (made n 2 false) (1 : Int) ("right" : Str) = some (ansB (made n 2 false) 1 ("right" : Str)) := bears_is (many := 1) (made_wf hq H2) (ml H2) (by omega) ("right" : Str)
  have e2 : made n 2 false = tm 2 n := made_tm hq 2
  refine oq b3 (oq (x := true) (eqA.trans (by rw [made_bears hq]; simp)) (oq (x := false) ?_ ?_))
  · rw [if_neg (by decide)]
    exact bq bV (bq (x := true) (eqA.trans (by rw [made_bears hq]; simp)) rfl)
  rw [if_neg (by decide)]
  refine oq b2s (oq (x := true) (eqA.trans (by rw [e2, pair_safe hq.pn]; simp)) ?_)
  rw [if_neg (by decide)]
  refine oq (matters_is w (by have := hq.b5; omega)) (oq rfl (oq b2r (oq eqA ?_)))
  have key : decide (ansB (made n 2 false) 1 ("right" : Str) = Ans.a1 ("bears" : Str)) = decide (((((frees n).map fun p => T3.mk p (cntB (NN n) (dif n [p]) : Int) (cntB (NN n) (nod n [p]) : Int)).filter (fun (x40 : (T3 Int Int Int)) => (decide ((0 : Int) < x40.b)))).map (fun (x40 : (T3 Int Int Int)) => (x40.a : Int)) : List Int) = ([] : (List Int))) := by
    rw [Bool.eq_iff_iff, quiet_is hq, decide_eq_true_iff, e2]
    exact pair_right hq.pn
  rw [key, if_neg (by simp)]
  obtain ⟨D, M, _, _, s0, sm⟩ := size_is hq
  have bF : b2n false = 0 := rfl
  have bT : b2n true = 1 := rfl
  have s3 := sm H3
  have s2 := sm H2
  have sV := sm HV
  rw [bF] at s3 s2
  rw [bT] at sV
  refine oq s0 (oq s3 (oq (x := false) ?_ ?_))
  · rw [if_neg ?_]
    · refine bq s2 (congrArg some ?_)
      simp
      omega
    · simp
      omega
  rw [if_neg (by decide)]
  refine oq sV (Ok.pure ?_)
  simp
  omega
theorem law_ok (ns : List Int) (hn : ns.length ≤ 63) : m_law ns = some true := by
  unfold m_law
  refine bq (forF_nx _ fun x _ => ?_) rfl
  obtain ⟨r, e, h⟩ := case_ok (p := [x, 0]) rfl
  refine bq e ?_
  rw [h, if_neg (by decide)]
end W

namespace W
open PySem L2 TL
open Enc
theorem dfn_mk {K : Fg} {h : Heap} {mg : Str → Option Value} (X : K.In h) (G : h.Ns mainGlobals mg) {x : Str} {st : Stmt} {ps : List Str} {f : Addr} {od an : Option Addr} {sl : Array (Option Value)} {oc kV dc pm cd ct : Value}
    (a : PySem.W.nsIn K mainGlobals x = some (some (.ref f))) (l : K.lookup f = some ⟨oc, od, .func (PySem.W.fnOf x x (defArgs st) (defBody st) (defScope st) .none kV dc pm an cd ct), sl⟩) (c : PySem.W.codeIn K cd x = true) (k : PySem.W.keepIn K (.ref f) = true)
    (hb : ∀ (kV doc pm : Value) (an : Option Addr) (cdv ct : Value) (us : List Value), us.length = ps.length → bindArgs (PySem.W.fnOf x x (defArgs st) (defBody st) (defScope st) .none kV doc pm an cdv ct) ⟨us, []⟩ = pure (ps.zip us)) : Dfn K mg x st ps :=
  ⟨f, _, fun_mk l c k, PySem.W.mg_of X G a, (fun_mk l c k).binds hb⟩
theorem all_mk {l : PySem.W.OpenLaw} {w : World} {K : Fg} {h : Heap} {mg : Str → Option Value} {fa : Addr} (X : K.In h) (G : h.Ns mainGlobals mg) (hfa : mg "law" = some (.ref fa))
    {f0 : Addr} {od0 an0 : Option Addr} {sl0 : Array (Option Value)} {oc0 kV0 dc0 pm0 cd0 ct0 : Value} (a0 : PySem.W.nsIn K mainGlobals "_law_pots" = some (some (.ref f0))) (l0 : K.lookup f0 = some ⟨oc0, od0, .func (PySem.W.fnOf "_law_pots" "_law_pots" (defArgs (top 38)) (defBody (top 38)) (defScope (top 38)) .none kV0 dc0 pm0 an0 cd0 ct0), sl0⟩) (c0 : PySem.W.codeIn K cd0 "_law_pots" = true) (k0 : PySem.W.keepIn K (.ref f0) = true)
    {f1 : Addr} {od1 an1 : Option Addr} {sl1 : Array (Option Value)} {oc1 kV1 dc1 pm1 cd1 ct1 : Value} (a1 : PySem.W.nsIn K mainGlobals "_law_next" = some (some (.ref f1))) (l1 : K.lookup f1 = some ⟨oc1, od1, .func (PySem.W.fnOf "_law_next" "_law_next" (defArgs (top 37)) (defBody (top 37)) (defScope (top 37)) .none kV1 dc1 pm1 an1 cd1 ct1), sl1⟩) (c1 : PySem.W.codeIn K cd1 "_law_next" = true) (k1 : PySem.W.keepIn K (.ref f1) = true)
    {f2 : Addr} {od2 an2 : Option Addr} {sl2 : Array (Option Value)} {oc2 kV2 dc2 pm2 cd2 ct2 : Value} (a2 : PySem.W.nsIn K mainGlobals "_law_plain" = some (some (.ref f2))) (l2 : K.lookup f2 = some ⟨oc2, od2, .func (PySem.W.fnOf "_law_plain" "_law_plain" (defArgs (top 39)) (defBody (top 39)) (defScope (top 39)) .none kV2 dc2 pm2 an2 cd2 ct2), sl2⟩) (c2 : PySem.W.codeIn K cd2 "_law_plain" = true) (k2 : PySem.W.keepIn K (.ref f2) = true)
    {f3 : Addr} {od3 an3 : Option Addr} {sl3 : Array (Option Value)} {oc3 kV3 dc3 pm3 cd3 ct3 : Value} (a3 : PySem.W.nsIn K mainGlobals "need_plain" = some (some (.ref f3))) (l3 : K.lookup f3 = some ⟨oc3, od3, .func (PySem.W.fnOf "need_plain" "need_plain" (defArgs (top 6)) (defBody (top 6)) (defScope (top 6)) .none kV3 dc3 pm3 an3 cd3 ct3), sl3⟩) (c3 : PySem.W.codeIn K cd3 "need_plain" = true) (k3 : PySem.W.keepIn K (.ref f3) = true)
    {f4 : Addr} {od4 an4 : Option Addr} {sl4 : Array (Option Value)} {oc4 kV4 dc4 pm4 cd4 ct4 : Value} (a4 : PySem.W.nsIn K mainGlobals "copied" = some (some (.ref f4))) (l4 : K.lookup f4 = some ⟨oc4, od4, .func (PySem.W.fnOf "copied" "copied" (defArgs (top 7)) (defBody (top 7)) (defScope (top 7)) .none kV4 dc4 pm4 an4 cd4 ct4), sl4⟩) (c4 : PySem.W.codeIn K cd4 "copied" = true) (k4 : PySem.W.keepIn K (.ref f4) = true)
    {f5 : Addr} {od5 an5 : Option Addr} {sl5 : Array (Option Value)} {oc5 kV5 dc5 pm5 cd5 ct5 : Value} (a5 : PySem.W.nsIn K mainGlobals "in_threes" = some (some (.ref f5))) (l5 : K.lookup f5 = some ⟨oc5, od5, .func (PySem.W.fnOf "in_threes" "in_threes" (defArgs (top 8)) (defBody (top 8)) (defScope (top 8)) .none kV5 dc5 pm5 an5 cd5 ct5), sl5⟩) (c5 : PySem.W.codeIn K cd5 "in_threes" = true) (k5 : PySem.W.keepIn K (.ref f5) = true)
    {f6 : Addr} {od6 an6 : Option Addr} {sl6 : Array (Option Value)} {oc6 kV6 dc6 pm6 cd6 ct6 : Value} (a6 : PySem.W.nsIn K mainGlobals "in_pairs" = some (some (.ref f6))) (l6 : K.lookup f6 = some ⟨oc6, od6, .func (PySem.W.fnOf "in_pairs" "in_pairs" (defArgs (top 9)) (defBody (top 9)) (defScope (top 9)) .none kV6 dc6 pm6 an6 cd6 ct6), sl6⟩) (c6 : PySem.W.codeIn K cd6 "in_pairs" = true) (k6 : PySem.W.keepIn K (.ref f6) = true)
    {f7 : Addr} {od7 an7 : Option Addr} {sl7 : Array (Option Value)} {oc7 kV7 dc7 pm7 cd7 ct7 : Value} (a7 : PySem.W.nsIn K mainGlobals "with_votes" = some (some (.ref f7))) (l7 : K.lookup f7 = some ⟨oc7, od7, .func (PySem.W.fnOf "with_votes" "with_votes" (defArgs (top 10)) (defBody (top 10)) (defScope (top 10)) .none kV7 dc7 pm7 an7 cd7 ct7), sl7⟩) (c7 : PySem.W.codeIn K cd7 "with_votes" = true) (k7 : PySem.W.keepIn K (.ref f7) = true)
    {f8 : Addr} {od8 an8 : Option Addr} {sl8 : Array (Option Value)} {oc8 kV8 dc8 pm8 cd8 ct8 : Value} (a8 : PySem.W.nsIn K mainGlobals "size" = some (some (.ref f8))) (l8 : K.lookup f8 = some ⟨oc8, od8, .func (PySem.W.fnOf "size" "size" (defArgs (top 11)) (defBody (top 11)) (defScope (top 11)) .none kV8 dc8 pm8 an8 cd8 ct8), sl8⟩) (c8 : PySem.W.codeIn K cd8 "size" = true) (k8 : PySem.W.keepIn K (.ref f8) = true)
    {f9 : Addr} {od9 an9 : Option Addr} {sl9 : Array (Option Value)} {oc9 kV9 dc9 pm9 cd9 ct9 : Value} (a9 : PySem.W.nsIn K mainGlobals "all_inputs" = some (some (.ref f9))) (l9 : K.lookup f9 = some ⟨oc9, od9, .func (PySem.W.fnOf "all_inputs" "all_inputs" (defArgs (top 17)) (defBody (top 17)) (defScope (top 17)) .none kV9 dc9 pm9 an9 cd9 ct9), sl9⟩) (c9 : PySem.W.codeIn K cd9 "all_inputs" = true) (k9 : PySem.W.keepIn K (.ref f9) = true)
    {f10 : Addr} {od10 an10 : Option Addr} {sl10 : Array (Option Value)} {oc10 kV10 dc10 pm10 cd10 ct10 : Value} (a10 : PySem.W.nsIn K mainGlobals "gate_bits" = some (some (.ref f10))) (l10 : K.lookup f10 = some ⟨oc10, od10, .func (PySem.W.fnOf "gate_bits" "gate_bits" (defArgs (top 13)) (defBody (top 13)) (defScope (top 13)) .none kV10 dc10 pm10 an10 cd10 ct10), sl10⟩) (c10 : PySem.W.codeIn K cd10 "gate_bits" = true) (k10 : PySem.W.keepIn K (.ref f10) = true)
    {f11 : Addr} {od11 an11 : Option Addr} {sl11 : Array (Option Value)} {oc11 kV11 dc11 pm11 cd11 ct11 : Value} (a11 : PySem.W.nsIn K mainGlobals "how_many_ahead" = some (some (.ref f11))) (l11 : K.lookup f11 = some ⟨oc11, od11, .func (PySem.W.fnOf "how_many_ahead" "how_many_ahead" (defArgs (top 15)) (defBody (top 15)) (defScope (top 15)) .none kV11 dc11 pm11 an11 cd11 ct11), sl11⟩) (c11 : PySem.W.codeIn K cd11 "how_many_ahead" = true) (k11 : PySem.W.keepIn K (.ref f11) = true)
    {f12 : Addr} {od12 an12 : Option Addr} {sl12 : Array (Option Value)} {oc12 kV12 dc12 pm12 cd12 ct12 : Value} (a12 : PySem.W.nsIn K mainGlobals "gone_on" = some (some (.ref f12))) (l12 : K.lookup f12 = some ⟨oc12, od12, .func (PySem.W.fnOf "gone_on" "gone_on" (defArgs (top 16)) (defBody (top 16)) (defScope (top 16)) .none kV12 dc12 pm12 an12 cd12 ct12), sl12⟩) (c12 : PySem.W.codeIn K cd12 "gone_on" = true) (k12 : PySem.W.keepIn K (.ref f12) = true)
    {f13 : Addr} {od13 an13 : Option Addr} {sl13 : Array (Option Value)} {oc13 kV13 dc13 pm13 cd13 ct13 : Value} (a13 : PySem.W.nsIn K mainGlobals "ins_wires" = some (some (.ref f13))) (l13 : K.lookup f13 = some ⟨oc13, od13, .func (PySem.W.fnOf "ins_wires" "ins_wires" (defArgs (top 14)) (defBody (top 14)) (defScope (top 14)) .none kV13 dc13 pm13 an13 cd13 ct13), sl13⟩) (c13 : PySem.W.codeIn K cd13 "ins_wires" = true) (k13 : PySem.W.keepIn K (.ref f13) = true)
    {f14 : Addr} {od14 an14 : Option Addr} {sl14 : Array (Option Value)} {oc14 kV14 dc14 pm14 cd14 ct14 : Value} (a14 : PySem.W.nsIn K mainGlobals "all_wires" = some (some (.ref f14))) (l14 : K.lookup f14 = some ⟨oc14, od14, .func (PySem.W.fnOf "all_wires" "all_wires" (defArgs (top 18)) (defBody (top 18)) (defScope (top 18)) .none kV14 dc14 pm14 an14 cd14 ct14), sl14⟩) (c14 : PySem.W.codeIn K cd14 "all_wires" = true) (k14 : PySem.W.keepIn K (.ref f14) = true)
    {f15 : Addr} {od15 an15 : Option Addr} {sl15 : Array (Option Value)} {oc15 kV15 dc15 pm15 cd15 ct15 : Value} (a15 : PySem.W.nsIn K mainGlobals "sets_of" = some (some (.ref f15))) (l15 : K.lookup f15 = some ⟨oc15, od15, .func (PySem.W.fnOf "sets_of" "sets_of" (defArgs (top 28)) (defBody (top 28)) (defScope (top 28)) .none kV15 dc15 pm15 an15 cd15 ct15), sl15⟩) (c15 : PySem.W.codeIn K cd15 "sets_of" = true) (k15 : PySem.W.keepIn K (.ref f15) = true)
    {f16 : Addr} {od16 an16 : Option Addr} {sl16 : Array (Option Value)} {oc16 kV16 dc16 pm16 cd16 ct16 : Value} (a16 : PySem.W.nsIn K mainGlobals "free_places" = some (some (.ref f16))) (l16 : K.lookup f16 = some ⟨oc16, od16, .func (PySem.W.fnOf "free_places" "free_places" (defArgs (top 27)) (defBody (top 27)) (defScope (top 27)) .none kV16 dc16 pm16 an16 cd16 ct16), sl16⟩) (c16 : PySem.W.codeIn K cd16 "free_places" = true) (k16 : PySem.W.keepIn K (.ref f16) = true)
    {f17 : Addr} {od17 an17 : Option Addr} {sl17 : Array (Option Value)} {oc17 kV17 dc17 pm17 cd17 ct17 : Value} (a17 : PySem.W.nsIn K mainGlobals "read_bits" = some (some (.ref f17))) (l17 : K.lookup f17 = some ⟨oc17, od17, .func (PySem.W.fnOf "read_bits" "read_bits" (defArgs (top 19)) (defBody (top 19)) (defScope (top 19)) .none kV17 dc17 pm17 an17 cd17 ct17), sl17⟩) (c17 : PySem.W.codeIn K cd17 "read_bits" = true) (k17 : PySem.W.keepIn K (.ref f17) = true)
    {f18 : Addr} {od18 an18 : Option Addr} {sl18 : Array (Option Value)} {oc18 kV18 dc18 pm18 cd18 ct18 : Value} (a18 : PySem.W.nsIn K mainGlobals "outs_read" = some (some (.ref f18))) (l18 : K.lookup f18 = some ⟨oc18, od18, .func (PySem.W.fnOf "outs_read" "outs_read" (defArgs (top 20)) (defBody (top 20)) (defScope (top 20)) .none kV18 dc18 pm18 an18 cd18 ct18), sl18⟩) (c18 : PySem.W.codeIn K cd18 "outs_read" = true) (k18 : PySem.W.keepIn K (.ref f18) = true)
    {f19 : Addr} {od19 an19 : Option Addr} {sl19 : Array (Option Value)} {oc19 kV19 dc19 pm19 cd19 ct19 : Value} (a19 : PySem.W.nsIn K mainGlobals "reads_with" = some (some (.ref f19))) (l19 : K.lookup f19 = some ⟨oc19, od19, .func (PySem.W.fnOf "reads_with" "reads_with" (defArgs (top 29)) (defBody (top 29)) (defScope (top 29)) .none kV19 dc19 pm19 an19 cd19 ct19), sl19⟩) (c19 : PySem.W.codeIn K cd19 "reads_with" = true) (k19 : PySem.W.keepIn K (.ref f19) = true)
    {f20 : Addr} {od20 an20 : Option Addr} {sl20 : Array (Option Value)} {oc20 kV20 dc20 pm20 cd20 ct20 : Value} (a20 : PySem.W.nsIn K mainGlobals "spoilt" = some (some (.ref f20))) (l20 : K.lookup f20 = some ⟨oc20, od20, .func (PySem.W.fnOf "spoilt" "spoilt" (defArgs (top 30)) (defBody (top 30)) (defScope (top 30)) .none kV20 dc20 pm20 an20 cd20 ct20), sl20⟩) (c20 : PySem.W.codeIn K cd20 "spoilt" = true) (k20 : PySem.W.keepIn K (.ref f20) = true)
    {f21 : Addr} {od21 an21 : Option Addr} {sl21 : Array (Option Value)} {oc21 kV21 dc21 pm21 cd21 ct21 : Value} (a21 : PySem.W.nsIn K mainGlobals "broken_at" = some (some (.ref f21))) (l21 : K.lookup f21 = some ⟨oc21, od21, .func (PySem.W.fnOf "broken_at" "broken_at" (defArgs (top 31)) (defBody (top 31)) (defScope (top 31)) .none kV21 dc21 pm21 an21 cd21 ct21), sl21⟩) (c21 : PySem.W.codeIn K cd21 "broken_at" = true) (k21 : PySem.W.keepIn K (.ref f21) = true)
    {f22 : Addr} {od22 an22 : Option Addr} {sl22 : Array (Option Value)} {oc22 kV22 dc22 pm22 cd22 ct22 : Value} (a22 : PySem.W.nsIn K mainGlobals "first_bit" = some (some (.ref f22))) (l22 : K.lookup f22 = some ⟨oc22, od22, .func (PySem.W.fnOf "first_bit" "first_bit" (defArgs (top 32)) (defBody (top 32)) (defScope (top 32)) .none kV22 dc22 pm22 an22 cd22 ct22), sl22⟩) (c22 : PySem.W.codeIn K cd22 "first_bit" = true) (k22 : PySem.W.keepIn K (.ref f22) = true)
    {f23 : Addr} {od23 an23 : Option Addr} {sl23 : Array (Option Value)} {oc23 kV23 dc23 pm23 cd23 ct23 : Value} (a23 : PySem.W.nsIn K mainGlobals "bears" = some (some (.ref f23))) (l23 : K.lookup f23 = some ⟨oc23, od23, .func (PySem.W.fnOf "bears" "bears" (defArgs (top 33)) (defBody (top 33)) (defScope (top 33)) .none kV23 dc23 pm23 an23 cd23 ct23), sl23⟩) (c23 : PySem.W.codeIn K cd23 "bears" = true) (k23 : PySem.W.keepIn K (.ref f23) = true)
    {f24 : Addr} {od24 an24 : Option Addr} {sl24 : Array (Option Value)} {oc24 kV24 dc24 pm24 cd24 ct24 : Value} (a24 : PySem.W.nsIn K mainGlobals "run" = some (some (.ref f24))) (l24 : K.lookup f24 = some ⟨oc24, od24, .func (PySem.W.fnOf "run" "run" (defArgs (top 21)) (defBody (top 21)) (defScope (top 21)) .none kV24 dc24 pm24 an24 cd24 ct24), sl24⟩) (c24 : PySem.W.codeIn K cd24 "run" = true) (k24 : PySem.W.keepIn K (.ref f24) = true)
    {f25 : Addr} {od25 an25 : Option Addr} {sl25 : Array (Option Value)} {oc25 kV25 dc25 pm25 cd25 ct25 : Value} (a25 : PySem.W.nsIn K mainGlobals "is_sound" = some (some (.ref f25))) (l25 : K.lookup f25 = some ⟨oc25, od25, .func (PySem.W.fnOf "is_sound" "is_sound" (defArgs (top 23)) (defBody (top 23)) (defScope (top 23)) .none kV25 dc25 pm25 an25 cd25 ct25), sl25⟩) (c25 : PySem.W.codeIn K cd25 "is_sound" = true) (k25 : PySem.W.keepIn K (.ref f25) = true)
    {f26 : Addr} {od26 an26 : Option Addr} {sl26 : Array (Option Value)} {oc26 kV26 dc26 pm26 cd26 ct26 : Value} (a26 : PySem.W.nsIn K mainGlobals "column_of" = some (some (.ref f26))) (l26 : K.lookup f26 = some ⟨oc26, od26, .func (PySem.W.fnOf "column_of" "column_of" (defArgs (top 24)) (defBody (top 24)) (defScope (top 24)) .none kV26 dc26 pm26 an26 cd26 ct26), sl26⟩) (c26 : PySem.W.codeIn K cd26 "column_of" = true) (k26 : PySem.W.keepIn K (.ref f26) = true)
    {f27 : Addr} {od27 an27 : Option Addr} {sl27 : Array (Option Value)} {oc27 kV27 dc27 pm27 cd27 ct27 : Value} (a27 : PySem.W.nsIn K mainGlobals "columns" = some (some (.ref f27))) (l27 : K.lookup f27 = some ⟨oc27, od27, .func (PySem.W.fnOf "columns" "columns" (defArgs (top 25)) (defBody (top 25)) (defScope (top 25)) .none kV27 dc27 pm27 an27 cd27 ct27), sl27⟩) (c27 : PySem.W.codeIn K cd27 "columns" = true) (k27 : PySem.W.keepIn K (.ref f27) = true)
    {f28 : Addr} {od28 an28 : Option Addr} {sl28 : Array (Option Value)} {oc28 kV28 dc28 pm28 cd28 ct28 : Value} (a28 : PySem.W.nsIn K mainGlobals "told" = some (some (.ref f28))) (l28 : K.lookup f28 = some ⟨oc28, od28, .func (PySem.W.fnOf "told" "told" (defArgs (top 22)) (defBody (top 22)) (defScope (top 22)) .none kV28 dc28 pm28 an28 cd28 ct28), sl28⟩) (c28 : PySem.W.codeIn K cd28 "told" = true) (k28 : PySem.W.keepIn K (.ref f28) = true)
    {f29 : Addr} {od29 an29 : Option Addr} {sl29 : Array (Option Value)} {oc29 kV29 dc29 pm29 cd29 ct29 : Value} (a29 : PySem.W.nsIn K mainGlobals "_law_good" = some (some (.ref f29))) (l29 : K.lookup f29 = some ⟨oc29, od29, .func (PySem.W.fnOf "_law_good" "_law_good" (defArgs (top 40)) (defBody (top 40)) (defScope (top 40)) .none kV29 dc29 pm29 an29 cd29 ct29), sl29⟩) (c29 : PySem.W.codeIn K cd29 "_law_good" = true) (k29 : PySem.W.keepIn K (.ref f29) = true)
    {f30 : Addr} {od30 an30 : Option Addr} {sl30 : Array (Option Value)} {oc30 kV30 dc30 pm30 cd30 ct30 : Value} (a30 : PySem.W.nsIn K mainGlobals "how_many_bits" = some (some (.ref f30))) (l30 : K.lookup f30 = some ⟨oc30, od30, .func (PySem.W.fnOf "how_many_bits" "how_many_bits" (defArgs (top 34)) (defBody (top 34)) (defScope (top 34)) .none kV30 dc30 pm30 an30 cd30 ct30), sl30⟩) (c30 : PySem.W.codeIn K cd30 "how_many_bits" = true) (k30 : PySem.W.keepIn K (.ref f30) = true)
    {f31 : Addr} {od31 an31 : Option Addr} {sl31 : Array (Option Value)} {oc31 kV31 dc31 pm31 cd31 ct31 : Value} (a31 : PySem.W.nsIn K mainGlobals "matters" = some (some (.ref f31))) (l31 : K.lookup f31 = some ⟨oc31, od31, .func (PySem.W.fnOf "matters" "matters" (defArgs (top 35)) (defBody (top 35)) (defScope (top 35)) .none kV31 dc31 pm31 an31 cd31 ct31), sl31⟩) (c31 : PySem.W.codeIn K cd31 "matters" = true) (k31 : PySem.W.keepIn K (.ref f31) = true)
    {f32 : Addr} {od32 an32 : Option Addr} {sl32 : Array (Option Value)} {oc32 kV32 dc32 pm32 cd32 ct32 : Value} (a32 : PySem.W.nsIn K mainGlobals "_law_case" = some (some (.ref f32))) (l32 : K.lookup f32 = some ⟨oc32, od32, .func (PySem.W.fnOf "_law_case" "_law_case" (defArgs (top 41)) (defBody (top 41)) (defScope (top 41)) .none kV32 dc32 pm32 an32 cd32 ct32), sl32⟩) (c32 : PySem.W.codeIn K cd32 "_law_case" = true) (k32 : PySem.W.keepIn K (.ref f32) = true)
    {f33 : Addr} {od33 an33 : Option Addr} {sl33 : Array (Option Value)} {oc33 kV33 dc33 pm33 cd33 ct33 : Value} (a33 : PySem.W.nsIn K mainGlobals "law" = some (some (.ref f33))) (l33 : K.lookup f33 = some ⟨oc33, od33, .func (PySem.W.fnOf "law" "law" (defArgs (top 42)) (defBody (top 42)) (defScope (top 42)) .none kV33 dc33 pm33 an33 cd33 ct33), sl33⟩) (c33 : PySem.W.codeIn K cd33 "law" = true) (k33 : PySem.W.keepIn K (.ref f33) = true)
    {t_MOST_GATES : Tok} (zc_MOST_GATES : PySem.W.nsIn K mainGlobals "MOST_GATES" = some (some (.int 60 t_MOST_GATES)))
    (z_enumerate : PySem.W.nsIn K mainGlobals "enumerate" = some none)
    (z_int : PySem.W.nsIn K mainGlobals "int" = some none)
    (z_len : PySem.W.nsIn K mainGlobals "len" = some none)
    (z_list : PySem.W.nsIn K mainGlobals "list" = some none)
    (z_max : PySem.W.nsIn K mainGlobals "max" = some none)
    (z_min : PySem.W.nsIn K mainGlobals "min" = some none)
    (z_range : PySem.W.nsIn K mainGlobals "range" = some none)
    (z_sum : PySem.W.nsIn K mainGlobals "sum" = some none)
    (z_tuple : PySem.W.nsIn K mainGlobals "tuple" = some none)
    (z_zip : PySem.W.nsIn K mainGlobals "zip" = some none) :
    ∃ fd : FuncData, (∀ (s : Shared) (v : Value), BindsTo s fd ⟨[v], []⟩ [("script", v)]) ∧ ∀ base : Heap, K.In base → base.Ns mainGlobals mg → FnOk l.prog w K mg base CX0 9 fa fd ["script"] (SpP K R_law) := by
  have e := hfa.symm.trans (PySem.W.mg_of X G a33)
  cases e
  have B : Bi mg := { triv := trivial, c_MOST_GATES := ⟨_, PySem.W.mg_of X G zc_MOST_GATES⟩, enumerate := PySem.W.mg_none_of X G z_enumerate, int := PySem.W.mg_none_of X G z_int, len := PySem.W.mg_none_of X G z_len, list := PySem.W.mg_none_of X G z_list, max := PySem.W.mg_none_of X G z_max, min := PySem.W.mg_none_of X G z_min, range := PySem.W.mg_none_of X G z_range, sum := PySem.W.mg_none_of X G z_sum, tuple := PySem.W.mg_none_of X G z_tuple, zip := PySem.W.mg_none_of X G z_zip }
  have d0 : Dfn K mg "_law_pots" (top 38) ["script"] := dfn_mk X G a0 l0 c0 k0 fun _ _ _ _ _ _ us hl => match us, hl with | [_], _ => rfl
  have d1 : Dfn K mg "_law_next" (top 37) ["pot", "many"] := dfn_mk X G a1 l1 c1 k1 fun _ _ _ _ _ _ us hl => match us, hl with | [_, _], _ => rfl
  have d2 : Dfn K mg "_law_plain" (top 39) ["pot", "most", "gates"] := dfn_mk X G a2 l2 c2 k2 fun _ _ _ _ _ _ us hl => match us, hl with | [_, _, _], _ => rfl
  have d3 : Dfn K mg "need_plain" (top 6) ["net"] := dfn_mk X G a3 l3 c3 k3 fun _ _ _ _ _ _ us hl => match us, hl with | [_], _ => rfl
  have d4 : Dfn K mg "copied" (top 7) ["net", "copies", "votes"] := dfn_mk X G a4 l4 c4 k4 fun _ _ _ _ _ _ us hl => match us, hl with | [_, _, _], _ => rfl
  have d5 : Dfn K mg "in_threes" (top 8) ["net"] := dfn_mk X G a5 l5 c5 k5 fun _ _ _ _ _ _ us hl => match us, hl with | [_], _ => rfl
  have d6 : Dfn K mg "in_pairs" (top 9) ["net"] := dfn_mk X G a6 l6 c6 k6 fun _ _ _ _ _ _ us hl => match us, hl with | [_], _ => rfl
  have d7 : Dfn K mg "with_votes" (top 10) ["net"] := dfn_mk X G a7 l7 c7 k7 fun _ _ _ _ _ _ us hl => match us, hl with | [_], _ => rfl
  have d8 : Dfn K mg "size" (top 11) ["net"] := dfn_mk X G a8 l8 c8 k8 fun _ _ _ _ _ _ us hl => match us, hl with | [_], _ => rfl
  have d9 : Dfn K mg "all_inputs" (top 17) ["net"] := dfn_mk X G a9 l9 c9 k9 fun _ _ _ _ _ _ us hl => match us, hl with | [_], _ => rfl
  have d10 : Dfn K mg "gate_bits" (top 13) ["kind", "some", "ones"] := dfn_mk X G a10 l10 c10 k10 fun _ _ _ _ _ _ us hl => match us, hl with | [_, _, _], _ => rfl
  have d11 : Dfn K mg "how_many_ahead" (top 15) ["net"] := dfn_mk X G a11 l11 c11 k11 fun _ _ _ _ _ _ us hl => match us, hl with | [_], _ => rfl
  have d12 : Dfn K mg "gone_on" (top 16) ["net", "first", "ones", "turned"] := dfn_mk X G a12 l12 c12 k12 fun _ _ _ _ _ _ us hl => match us, hl with | [_, _, _, _], _ => rfl
  have d13 : Dfn K mg "ins_wires" (top 14) ["net", "own", "ones", "bad"] := dfn_mk X G a13 l13 c13 k13 fun _ _ _ _ _ _ us hl => match us, hl with | [_, _, _, _], _ => rfl
  have d14 : Dfn K mg "all_wires" (top 18) ["net"] := dfn_mk X G a14 l14 c14 k14 fun _ _ _ _ _ _ us hl => match us, hl with | [_], _ => rfl
  have d15 : Dfn K mg "sets_of" (top 28) ["places", "size"] := dfn_mk X G a15 l15 c15 k15 fun _ _ _ _ _ _ us hl => match us, hl with | [_, _], _ => rfl
  have d16 : Dfn K mg "free_places" (top 27) ["net"] := dfn_mk X G a16 l16 c16 k16 fun _ _ _ _ _ _ us hl => match us, hl with | [_], _ => rfl
  have d17 : Dfn K mg "read_bits" (top 19) ["some"] := dfn_mk X G a17 l17 c17 k17 fun _ _ _ _ _ _ us hl => match us, hl with | [_], _ => rfl
  have d18 : Dfn K mg "outs_read" (top 20) ["net", "wires"] := dfn_mk X G a18 l18 c18 k18 fun _ _ _ _ _ _ us hl => match us, hl with | [_, _], _ => rfl
  have d19 : Dfn K mg "reads_with" (top 29) ["net", "plain", "ones", "turned"] := dfn_mk X G a19 l19 c19 k19 fun _ _ _ _ _ _ us hl => match us, hl with | [_, _, _, _], _ => rfl
  have d20 : Dfn K mg "spoilt" (top 30) ["net", "plain", "ones", "turned"] := dfn_mk X G a20 l20 c20 k20 fun _ _ _ _ _ _ us hl => match us, hl with | [_, _, _, _], _ => rfl
  have d21 : Dfn K mg "broken_at" (top 31) ["net", "plain", "ones", "turned", "level"] := dfn_mk X G a21 l21 c21 k21 fun _ _ _ _ _ _ us hl => match us, hl with | [_, _, _, _, _], _ => rfl
  have d22 : Dfn K mg "first_bit" (top 32) ["bits"] := dfn_mk X G a22 l22 c22 k22 fun _ _ _ _ _ _ us hl => match us, hl with | [_], _ => rfl
  have d23 : Dfn K mg "bears" (top 33) ["net", "many", "level"] := dfn_mk X G a23 l23 c23 k23 fun _ _ _ _ _ _ us hl => match us, hl with | [_, _, _], _ => rfl
  have d24 : Dfn K mg "run" (top 21) ["net", "bits", "turned", "bad"] := dfn_mk X G a24 l24 c24 k24 fun _ _ _ _ _ _ us hl => match us, hl with | [_, _, _, _], _ => rfl
  have d25 : Dfn K mg "is_sound" (top 23) ["net"] := dfn_mk X G a25 l25 c25 k25 fun _ _ _ _ _ _ us hl => match us, hl with | [_], _ => rfl
  have d26 : Dfn K mg "column_of" (top 24) ["value", "unlike", "many"] := dfn_mk X G a26 l26 c26 k26 fun _ _ _ _ _ _ us hl => match us, hl with | [_, _, _], _ => rfl
  have d27 : Dfn K mg "columns" (top 25) ["net"] := dfn_mk X G a27 l27 c27 k27 fun _ _ _ _ _ _ us hl => match us, hl with | [_], _ => rfl
  have d28 : Dfn K mg "told" (top 22) ["bits"] := dfn_mk X G a28 l28 c28 k28 fun _ _ _ _ _ _ us hl => match us, hl with | [_], _ => rfl
  have d29 : Dfn K mg "_law_good" (top 40) ["net", "made", "many"] := dfn_mk X G a29 l29 c29 k29 fun _ _ _ _ _ _ us hl => match us, hl with | [_, _, _], _ => rfl
  have d30 : Dfn K mg "how_many_bits" (top 34) ["bits"] := dfn_mk X G a30 l30 c30 k30 fun _ _ _ _ _ _ us hl => match us, hl with | [_], _ => rfl
  have d31 : Dfn K mg "matters" (top 35) ["net"] := dfn_mk X G a31 l31 c31 k31 fun _ _ _ _ _ _ us hl => match us, hl with | [_], _ => rfl
  have d32 : Dfn K mg "_law_case" (top 41) ["pot"] := dfn_mk X G a32 l32 c32 k32 fun _ _ _ _ _ _ us hl => match us, hl with | [_], _ => rfl
  refine ⟨PySem.W.fnOf "law" "law" (defArgs (top 42)) (defBody (top 42)) (defScope (top 42)) .none kV33 dc33 pm33 an33 cd33 ct33, fun s v => .of_eq rfl, fun base _ _ => ?_⟩
  have b0 := ok__law_pots (P := l.prog) (w := w) (base := base) B d0
  have b1 := ok__law_next (P := l.prog) (w := w) (base := base) d1
  have b2 := ok__law_plain (P := l.prog) (w := w) (base := base) B d2 (b1.mono (by decide))
  have b3 := ok_need_plain (P := l.prog) (w := w) (base := base) B d3
  have b4 := ok_copied (P := l.prog) (w := w) (base := base) B d4 (b3.mono (by decide))
  have b5 := ok_in_threes (P := l.prog) (w := w) (base := base) d5 (b4.mono (by decide))
  have b6 := ok_in_pairs (P := l.prog) (w := w) (base := base) d6 (b4.mono (by decide))
  have b7 := ok_with_votes (P := l.prog) (w := w) (base := base) d7 (b4.mono (by decide))
  have b8 := ok_size (P := l.prog) (w := w) (base := base) B d8
  have b9 := ok_all_inputs (P := l.prog) (w := w) (base := base) B d9
  have b10 := ok_gate_bits (P := l.prog) (w := w) (base := base) d10
  have b11 := ok_how_many_ahead (P := l.prog) (w := w) (base := base) B d11
  have b12 := ok_gone_on (P := l.prog) (w := w) (base := base) B d12 (b10.mono (by decide)) (b11.mono (by decide))
  have b13 := ok_ins_wires (P := l.prog) (w := w) (base := base) B d13
  have b14 := ok_all_wires (P := l.prog) (w := w) (base := base) d14 (b9.mono (by decide)) (b12.mono (by decide)) (b13.mono (by decide))
  have b15 := ok_sets_of (P := l.prog) (w := w) (base := base) B d15
  have b16 := ok_free_places (P := l.prog) (w := w) (base := base) B d16
  have b17 := ok_read_bits (P := l.prog) (w := w) (base := base) B d17 (b10.mono (by decide))
  have b18 := ok_outs_read (P := l.prog) (w := w) (base := base) d18 (b17.mono (by decide))
  have b19 := ok_reads_with (P := l.prog) (w := w) (base := base) d19 (b12.mono (by decide)) (b11.mono (by decide)) (b18.mono (by decide))
  have b20 := ok_spoilt (P := l.prog) (w := w) (base := base) B d20 (b18.mono (by decide)) (b19.mono (by decide))
  have b21 := ok_broken_at (P := l.prog) (w := w) (base := base) d21 (b20.mono (by decide))
  have b22 := ok_first_bit (P := l.prog) (w := w) (base := base) d22
  have b23 := ok_bears (P := l.prog) (w := w) (base := base) B d23 (b14.mono (by decide)) (b21.mono (by decide)) (b22.mono (by decide)) (b16.mono (by decide)) (b15.mono (by decide))
  have b24 := ok_run (P := l.prog) (w := w) (base := base) B d24 (b12.mono (by decide)) (b13.mono (by decide))
  have b25 := ok_is_sound (P := l.prog) (w := w) (base := base) d25 (b14.mono (by decide)) (b18.mono (by decide))
  have b26 := ok_column_of (P := l.prog) (w := w) (base := base) B d26
  have b27 := ok_columns (P := l.prog) (w := w) (base := base) B d27 (b14.mono (by decide)) (b26.mono (by decide)) (b18.mono (by decide))
  have b28 := ok_told (P := l.prog) (w := w) (base := base) d28 (b17.mono (by decide))
  have b29 := ok__law_good (P := l.prog) (w := w) (base := base) B d29 (b27.mono (by decide)) (b25.mono (by decide)) (b24.mono (by decide)) (b28.mono (by decide))
  have b30 := ok_how_many_bits (P := l.prog) (w := w) (base := base) d30
  have b31 := ok_matters (P := l.prog) (w := w) (base := base) d31 (b14.mono (by decide)) (b16.mono (by decide)) (b30.mono (by decide)) (b20.mono (by decide))
  have b32 := ok__law_case (P := l.prog) (w := w) (base := base) d32 (b29.mono (by decide)) (b1.mono (by decide)) (b2.mono (by decide)) (b23.mono (by decide)) (b6.mono (by decide)) (b5.mono (by decide)) (b31.mono (by decide)) (b8.mono (by decide)) (b7.mono (by decide))
  exact ok_law (fun_mk l33 c33 k33) (b32.mono (by decide)) (b0.mono (by decide))
theorem walk {l : PySem.W.OpenLaw} {q : Program} {loose : List Str} {XP : (Str → Option Value) → Heap → Prop} {YP : World → Heap → Prop} {d : DefRec} {K : Params → Fg} (hn : l.most = some 63) (hdf : d.params.defaults = [])
    (hY : ∀ (w : World) (h : Heap), YP w h → (K w.params).In h)
    (F : ∀ (w : World) (mg : Str → Option Value) (fa : Addr) (h : Heap), (K w.params).In h → h.Ns mainGlobals mg → mg d.name = some (.ref fa) →
      ∃ fd : FuncData, (∀ (s : Shared) (u : Value), BindsTo s fd ⟨[u], []⟩ [("script", u)]) ∧ ∀ base : Heap, (K w.params).In base → base.Ns mainGlobals mg → FnOk l.prog w (K w.params) mg base CX0 9 fa fd ["script"] (SpP (K w.params) R_law)) :
    PySem.W.WalkO q loose XP YP l.row.toRowW d [] (fun f vs => PySem.call f vs) :=
  L2.walk_of (n := 63) (k := 9) (x := "script") (CX := fun _ => CX0) (sp := fun w => SpP (K w.params) R_law) hn (by decide) hdf ⟨rfl, by decide, by decide⟩ hY F
    (fun w H a ns hl _ hS => ⟨H, [.list (ns.map .int)], .bool true, .cons (.lst hS (by rw [List.length_map]; exact Nat.le_trans hl (by decide)) (RpAll.of_ints ns)) .nil, Same.refl H, ⟨ns, true, by simp [enc], rfl, law_ok ns hl⟩, fun v F H _ r => by cases r; rfl⟩) fun _ _ _ _ _ z => z
end W

open PySem PySem.W PyProof.Rows in
set_option maxRecDepth 100000 in
set_option maxHeartbeats 0 in
theorem PySem.Challenge.cw_bearfaults_k31_whole_made_nets_bear_holds : PySem.Challenge.rw_bearfaults_k31_whole_made_nets_bear.Holds := by
  w_on; o_law; k_head; (case hw => w_witness2)
  k_fill
  refine W.walk (l := PySem.Challenge.rw_bearfaults_k31_whole_made_nets_bear) rfl rfl (fun w h Y => PySem.W.kIn_of Y) ?F
  case F =>
    intro w mg fa h KX G hmg
    refine' W.all_mk KX G hmg ?a0 ?l0 ?c0 ?k0 ?a1 ?l1 ?c1 ?k1 ?a2 ?l2 ?c2 ?k2 ?a3 ?l3 ?c3 ?k3 ?a4 ?l4 ?c4 ?k4 ?a5 ?l5 ?c5 ?k5 ?a6 ?l6 ?c6 ?k6 ?a7 ?l7 ?c7 ?k7 ?a8 ?l8 ?c8 ?k8 ?a9 ?l9 ?c9 ?k9 ?a10 ?l10 ?c10 ?k10 ?a11 ?l11 ?c11 ?k11 ?a12 ?l12 ?c12 ?k12 ?a13 ?l13 ?c13 ?k13 ?a14 ?l14 ?c14 ?k14 ?a15 ?l15 ?c15 ?k15 ?a16 ?l16 ?c16 ?k16 ?a17 ?l17 ?c17 ?k17 ?a18 ?l18 ?c18 ?k18 ?a19 ?l19 ?c19 ?k19 ?a20 ?l20 ?c20 ?k20 ?a21 ?l21 ?c21 ?k21 ?a22 ?l22 ?c22 ?k22 ?a23 ?l23 ?c23 ?k23 ?a24 ?l24 ?c24 ?k24 ?a25 ?l25 ?c25 ?k25 ?a26 ?l26 ?c26 ?k26 ?a27 ?l27 ?c27 ?k27 ?a28 ?l28 ?c28 ?k28 ?a29 ?l29 ?c29 ?k29 ?a30 ?l30 ?c30 ?k30 ?a31 ?l31 ?c31 ?k31 ?a32 ?l32 ?c32 ?k32 ?a33 ?l33 ?c33 ?k33 ?zc_MOST_GATES ?z_enumerate ?z_int ?z_len ?z_list ?z_max ?z_min ?z_range ?z_sum ?z_tuple ?z_zip
    (case a0 => k_is)
    (case l0 => k_is)
    (case c0 => k_is)
    (case k0 => k_is)
    (case a1 => k_is)
    (case l1 => k_is)
    (case c1 => k_is)
    (case k1 => k_is)
    (case a2 => k_is)
    (case l2 => k_is)
    (case c2 => k_is)
    (case k2 => k_is)
    (case a3 => k_is)
    (case l3 => k_is)
    (case c3 => k_is)
    (case k3 => k_is)
    (case a4 => k_is)
    (case l4 => k_is)
    (case c4 => k_is)
    (case k4 => k_is)
    (case a5 => k_is)
    (case l5 => k_is)
    (case c5 => k_is)
    (case k5 => k_is)
    (case a6 => k_is)
    (case l6 => k_is)
    (case c6 => k_is)
    (case k6 => k_is)
    (case a7 => k_is)
    (case l7 => k_is)
    (case c7 => k_is)
    (case k7 => k_is)
    (case a8 => k_is)
    (case l8 => k_is)
    (case c8 => k_is)
    (case k8 => k_is)
    (case a9 => k_is)
    (case l9 => k_is)
    (case c9 => k_is)
    (case k9 => k_is)
    (case a10 => k_is)
    (case l10 => k_is)
    (case c10 => k_is)
    (case k10 => k_is)
    (case a11 => k_is)
    (case l11 => k_is)
    (case c11 => k_is)
    (case k11 => k_is)
    (case a12 => k_is)
    (case l12 => k_is)
    (case c12 => k_is)
    (case k12 => k_is)
    (case a13 => k_is)
    (case l13 => k_is)
    (case c13 => k_is)
    (case k13 => k_is)
    (case a14 => k_is)
    (case l14 => k_is)
    (case c14 => k_is)
    (case k14 => k_is)
    (case a15 => k_is)
    (case l15 => k_is)
    (case c15 => k_is)
    (case k15 => k_is)
    (case a16 => k_is)
    (case l16 => k_is)
    (case c16 => k_is)
    (case k16 => k_is)
    (case a17 => k_is)
    (case l17 => k_is)
    (case c17 => k_is)
    (case k17 => k_is)
    (case a18 => k_is)
    (case l18 => k_is)
    (case c18 => k_is)
    (case k18 => k_is)
    (case a19 => k_is)
    (case l19 => k_is)
    (case c19 => k_is)
    (case k19 => k_is)
    (case a20 => k_is)
    (case l20 => k_is)
    (case c20 => k_is)
    (case k20 => k_is)
    (case a21 => k_is)
    (case l21 => k_is)
    (case c21 => k_is)
    (case k21 => k_is)
    (case a22 => k_is)
    (case l22 => k_is)
    (case c22 => k_is)
    (case k22 => k_is)
    (case a23 => k_is)
    (case l23 => k_is)
    (case c23 => k_is)
    (case k23 => k_is)
    (case a24 => k_is)
    (case l24 => k_is)
    (case c24 => k_is)
    (case k24 => k_is)
    (case a25 => k_is)
    (case l25 => k_is)
    (case c25 => k_is)
    (case k25 => k_is)
    (case a26 => k_is)
    (case l26 => k_is)
    (case c26 => k_is)
    (case k26 => k_is)
    (case a27 => k_is)
    (case l27 => k_is)
    (case c27 => k_is)
    (case k27 => k_is)
    (case a28 => k_is)
    (case l28 => k_is)
    (case c28 => k_is)
    (case k28 => k_is)
    (case a29 => k_is)
    (case l29 => k_is)
    (case c29 => k_is)
    (case k29 => k_is)
    (case a30 => k_is)
    (case l30 => k_is)
    (case c30 => k_is)
    (case k30 => k_is)
    (case a31 => k_is)
    (case l31 => k_is)
    (case c31 => k_is)
    (case k31 => k_is)
    (case a32 => k_is)
    (case l32 => k_is)
    (case c32 => k_is)
    (case k32 => k_is)
    (case a33 => k_is)
    (case l33 => k_is)
    (case c33 => k_is)
    (case k33 => k_is)
    (case zc_MOST_GATES => k_is)
    (case z_enumerate => k_is)
    (case z_int => k_is)
    (case z_len => k_is)
    (case z_list => k_is)
    (case z_max => k_is)
    (case z_min => k_is)
    (case z_range => k_is)
    (case z_sum => k_is)
    (case z_tuple => k_is)
    (case z_zip => k_is)
