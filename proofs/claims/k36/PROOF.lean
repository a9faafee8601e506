import PyProof.Rows.All
import Wide.All
import OpenK.AllK
import Wide.FinOn
import HandS.ForMost
import HandS.Walk
import HandS.TupAny
import HandS.Style
import HandS.IsInst
import HandS.Zip
import KE.GoesMore
import HandS.Wide
import HandS.SortInts
import HandS.Conv
import HandS.SetFor
import PyProof.Rows.SumAny
import HandS.TryOnly
import HandS.TupMul
import HandS.More
import HandS.Dict
import HandS.Exc
import HandS.ExcOwn
import HandS.ExcIs
import HandS.WordsExc
import HandS.Text
import PyProof.StrBlock2
import HandS.SortKw
import HandS.NamedTupSort
import HandS.ExcValue
import HandS.WideBits
import HandS.Deep
import HandS.Strs
import KE.GoesEnum
import PySem.Challenge.RW_bearfaults_k36_whole_joined_runs_on
import PyProof.StrLaws
set_option Elab.async false
set_option linter.all false
set_option maxRecDepth 100000
set_option maxHeartbeats 4000000
/-! TL: data over the hand layer's readings: what a reading evaluates to, by plain data; a frozen part of the heap, own lists, the whole. -/
namespace TL
open PySem L2
abbrev Fg := PySem.W.Frag

/-! ### data in a heap -/
mutual
inductive Rp (K : Fg) (F : Hp) : V → PyData → Prop
  | non : Rp K F .non .none
  | bl (b : Bool) : Rp K F (.bl b) (.bool b)
  | int (i : Int) : Rp K F (.int i) (.int i)
  | str (x : Str) : Rp K F (.str x) (.str x)
  | lst {a : Addr} {xs : List V} {ds : List PyData} : SqL K F a xs → xs.length ≤ sizeLine → RpAll K F xs ds → Rp K F (.ref a) (.list ds)
  | tup {a : Addr} {xs : List V} {ds : List PyData} : SqT K F a xs → xs.length ≤ sizeLine → RpAll K F xs ds → Rp K F (.ref a) (.tuple ds)
inductive RpAll (K : Fg) (F : Hp) : List V → List PyData → Prop
  | nil : RpAll K F [] []
  | cons {v : V} {vs : List V} {d : PyData} {ds : List PyData} : Rp K F v d → RpAll K F vs ds → RpAll K F (v :: vs) (d :: ds)
end
theorem same_rd {H H' : Hp} {a : Addr} {u : HO} (e : Same H H') (h : Rd H a u) : Rd H' a u := by
  rcases h with h | ⟨o, h⟩
  · exact .inl (e _ _ h)
  · exact .inr ⟨o, e _ _ h⟩
theorem same_t {K : Fg} {H H' : Hp} {a : Addr} {xs : List V} (e : Same H H') (h : SqT K H a xs) : SqT K H' a xs := by
  rcases h with h | h
  · exact .inl (same_rd e h)
  · exact .inr h
section
variable {K : Fg} {F F' : Hp}
mutual
theorem Rp.mono (e : Same F F') : ∀ (d : PyData) (v : V), Rp K F v d → Rp K F' v d
  | .none, _, h => by cases h; exact .non
  | .bool b, _, h => by cases h; exact .bl b
  | .int i, _, h => by cases h; exact .int i
  | .str x, _, h => by cases h; exact .str x
  | .list ds, _, h => by
    cases h with
    | lst h1 h2 h3 => exact .lst (e.seq h1) h2 (RpAll.mono e ds _ h3)
  | .tuple ds, _, h => by
    cases h with
    | tup h1 h2 h3 => exact .tup (same_t e h1) h2 (RpAll.mono e ds _ h3)
  | .dict _, _, h => by cases h
theorem RpAll.mono (e : Same F F') : ∀ (ds : List PyData) (vs : List V), RpAll K F vs ds → RpAll K F' vs ds
  | [], _, h => by cases h; exact .nil
  | d :: ds, _, h => by
    cases h with
    | cons h1 h2 => exact .cons (Rp.mono e d _ h1) (RpAll.mono e ds _ h2)
end
theorem Rp.up {d : PyData} {v : V} (h : Rp K F v d) (e : Same F F') : Rp K F' v d := Rp.mono e d v h
theorem RpAll.up {ds : List PyData} {vs : List V} (h : RpAll K F vs ds) (e : Same F F') : RpAll K F' vs ds := RpAll.mono e ds vs h
mutual
theorem Rp.dp : ∀ (d : PyData) (v : V), Rp K F v d → Dp K F v d
  | .none, _, h => by cases h; exact .non
  | .bool b, _, h => by cases h; exact .bl b
  | .int i, _, h => by cases h; exact .int i
  | .str x, _, h => by cases h; exact .str x
  | .list ds, _, h => by
    cases h with
    | lst h1 h2 h3 => exact .lst h1 (RpAll.dp ds _ h3)
  | .tuple ds, _, h => by
    cases h with
    | tup h1 h2 h3 => exact .tup h1 (RpAll.dp ds _ h3)
  | .dict _, _, h => by cases h
theorem RpAll.dp : ∀ (ds : List PyData) (vs : List V), RpAll K F vs ds → DpAll K F vs ds
  | [], _, h => by cases h; exact .nil
  | d :: ds, _, h => by
    cases h with
    | cons h1 h2 => exact .cons (Rp.dp d _ h1) (RpAll.dp ds _ h2)
end
theorem RpAll.length : ∀ {vs : List V} {ds : List PyData}, RpAll K F vs ds → vs.length = ds.length
  | _, _, .nil => rfl
  | _, _, .cons _ t => by rw [List.length_cons, List.length_cons, RpAll.length t]
theorem RpAll.get : ∀ {vs : List V} {ds : List PyData} {i : Nat} {d : PyData}, RpAll K F vs ds → ds[i]? = some d → ∃ v, vs[i]? = some v ∧ Rp K F v d
  | _, _, _, _, .nil, e => by simp at e
  | _, _, 0, _, .cons r _, e => by simp at e; subst e; exact ⟨_, rfl, r⟩
  | _, _, i + 1, d, .cons _ t, e => by
    obtain ⟨v, h1, h2⟩ := RpAll.get (i := i) (d := d) t (by simpa using e)
    exact ⟨v, by simpa using h1, h2⟩
theorem RpAll.getV : ∀ {vs : List V} {ds : List PyData} {i : Nat} {v : V}, RpAll K F vs ds → vs[i]? = some v → ∃ d, ds[i]? = some d ∧ Rp K F v d
  | _, _, _, _, .nil, e => by simp at e
  | _, _, 0, _, .cons r _, e => by simp at e; subst e; exact ⟨_, rfl, r⟩
  | _, _, i + 1, v, .cons _ t, e => by
    obtain ⟨d, h1, h2⟩ := RpAll.getV (i := i) (v := v) t (by simpa using e)
    exact ⟨d, by simpa using h1, h2⟩
theorem RpAll.append : ∀ {vs ws : List V} {ds es : List PyData}, RpAll K F vs ds → RpAll K F ws es → RpAll K F (vs ++ ws) (ds ++ es)
  | _, _, _, _, .nil, s => s
  | _, _, _, _, .cons r t, s => .cons r (RpAll.append t s)
theorem RpAll.take : ∀ {vs : List V} {ds : List PyData} (n : Nat), RpAll K F vs ds → RpAll K F (vs.take n) (ds.take n)
  | _, _, 0, _ => .nil
  | _, _, _ + 1, .nil => .nil
  | _, _, n + 1, .cons r t => .cons r (RpAll.take n t)
theorem RpAll.drop : ∀ {vs : List V} {ds : List PyData} (n : Nat), RpAll K F vs ds → RpAll K F (vs.drop n) (ds.drop n)
  | _, _, 0, r => r
  | _, _, _ + 1, .nil => .nil
  | _, _, n + 1, .cons _ t => RpAll.drop n t
theorem RpAll.set {v : V} {d : PyData} (r : Rp K F v d) : ∀ {vs : List V} {ds : List PyData} (i : Nat), RpAll K F vs ds → RpAll K F (vs.set i v) (ds.set i d)
  | _, _, _, .nil => .nil
  | _, _, 0, .cons _ t => .cons r t
  | _, _, i + 1, .cons q t => .cons q (RpAll.set r i t)
theorem RpAll.reverse {vs : List V} {ds : List PyData} (h : RpAll K F vs ds) : RpAll K F vs.reverse ds.reverse := by
  induction vs generalizing ds with
  | nil => cases h; exact .nil
  | cons v vs ih =>
    cases h with
    | cons r t =>
      rw [List.reverse_cons, List.reverse_cons]
      exact (ih t).append (.cons r .nil)
theorem RpAll.rep {vs : List V} {ds : List PyData} (h : RpAll K F vs ds) : ∀ k : Nat, RpAll K F (List.replicate k vs).flatten (List.replicate k ds).flatten
  | 0 => .nil
  | k + 1 => by
    rw [List.replicate_succ, List.replicate_succ, List.flatten_cons, List.flatten_cons]
    exact h.append (RpAll.rep h k)
theorem RpAll.ints : ∀ {vs : List V} {ns : List Int}, RpAll K F vs (ns.map PyData.int) → vs = ns.map V.int
  | _, [], h => by cases h; rfl
  | _, n :: ns, h => by
    cases h with
    | cons r t => cases r; rw [RpAll.ints t]; rfl
theorem RpAll.bools : ∀ {vs : List V} {ns : List Bool}, RpAll K F vs (ns.map PyData.bool) → vs = ns.map V.bl
  | _, [], h => by cases h; rfl
  | _, n :: ns, h => by
    cases h with
    | cons r t => cases r; rw [RpAll.bools t]; rfl
theorem RpAll.strs : ∀ {vs : List V} {ns : List Str}, RpAll K F vs (ns.map PyData.str) → vs = ns.map V.str
  | _, [], h => by cases h; rfl
  | _, n :: ns, h => by
    cases h with
    | cons r t => cases r; rw [RpAll.strs t]; rfl
theorem RpAll.of_ints : ∀ (ns : List Int), RpAll K F (ns.map V.int) (ns.map PyData.int)
  | [] => .nil
  | n :: ns => .cons (.int n) (RpAll.of_ints ns)
end

/-! ### the slots -/
/-- pairs of a dict, by their data -/
def KD {κ : Type} (K : Fg) (F : Hp) (vs : List (κ × V)) (kvs : List (κ × PyData)) : Prop := vs.map (·.1) = kvs.map (·.1) ∧ RpAll K F (vs.map (·.2)) (kvs.map (·.2))
theorem KD.up {κ : Type} {K : Fg} {F F' : Hp} {vs : List (κ × V)} {kvs : List (κ × PyData)} (h : KD K F vs kvs) (e : Same F F') : KD K F' vs kvs := ⟨h.1, h.2.up e⟩
inductive Sl where
  | un
  | val (d : PyData)
  | adr (a : Addr)
  | tow (ps : List Addr)
  | dic (kvs : List (Str × Str))
  | lol (ps : List Addr)
  | dii (kvs : List (Str × Int))
  | dkb (ks : List Int)
  | dk (kvs : List (Key × PyData))
  | dt (kvs : List (List Key × PyData))
def keyB (ks : List Int) : List (Key × V) := ks.map fun k => ((Sum.inl k : Key), V.bl true)
def litI (kvs : List (Str × Int)) : List (Key × V) := kvs.map fun p => (Sum.inr p.1, V.int p.2)
def litS (kvs : List (Str × Str)) : List (Key × V) := kvs.map fun p => (Sum.inr p.1, V.str p.2)
def SlR (K : Fg) (F : Hp) : Option V → Sl → Prop
  | _, .un => True
  | s, .val d => ∃ v, s = some v ∧ Rp K F v d
  | s, .adr a => s = some (.ref a)
  | s, .tow ps => ∃ t, s = some (.ref t) ∧ SqT K F t (ps.map .ref)
  | s, .dic kvs => ∃ t, s = some (.ref t) ∧ F t = some (.dK (litS kvs))
  | s, .lol ps => ∃ t, s = some (.ref t) ∧ SqL K F t (ps.map .ref) ∧ ps.length ≤ sizeLine
  | s, .dii kvs => ∃ t, s = some (.ref t) ∧ F t = some (.dK (litI kvs))
  | s, .dkb ks => ∃ t, s = some (.ref t) ∧ F t = some (.dK (keyB ks))
  | s, .dk kvs => ∃ t vs, s = some (.ref t) ∧ F t = some (.dK vs) ∧ vs.length ≤ sizeLine ∧ KD K F vs kvs
  | s, .dt kvs => ∃ t vs, s = some (.ref t) ∧ F t = some (.dT vs) ∧ vs.length ≤ sizeLine ∧ KD K F vs kvs
inductive EnvR (K : Fg) (F : Hp) : L2.St → List Sl → Prop
  | nil : EnvR K F [] []
  | cons {s : Option V} {σ : L2.St} {r : Sl} {ρ : List Sl} : SlR K F s r → EnvR K F σ ρ → EnvR K F (s :: σ) (r :: ρ)
section
variable {K : Fg} {F F' : Hp} {σ : L2.St} {ρ : List Sl}
theorem SlR.up {s : Option V} {r : Sl} (h : SlR K F s r) (e : Same F F') : SlR K F' s r := by
  cases r with
  | un => trivial
  | val d => obtain ⟨v, h1, h2⟩ := h; exact ⟨v, h1, h2.up e⟩
  | adr a => exact h
  | tow ps => obtain ⟨t, h1, h2⟩ := h; exact ⟨t, h1, same_t e h2⟩
  | dic kvs => obtain ⟨t, h1, h2⟩ := h; exact ⟨t, h1, e _ _ h2⟩
  | lol ps => obtain ⟨t, h1, h2, h3⟩ := h; exact ⟨t, h1, e.seq h2, h3⟩
  | dii kvs => obtain ⟨t, h1, h2⟩ := h; exact ⟨t, h1, e _ _ h2⟩
  | dkb ks => obtain ⟨t, h1, h2⟩ := h; exact ⟨t, h1, e _ _ h2⟩
  | dk kvs => obtain ⟨t, vs, h1, h2, h3, h4⟩ := h; exact ⟨t, vs, h1, e _ _ h2, h3, h4.up e⟩
  | dt kvs => obtain ⟨t, vs, h1, h2, h3, h4⟩ := h; exact ⟨t, vs, h1, e _ _ h2, h3, h4.up e⟩
theorem EnvR.up (h : EnvR K F σ ρ) (e : Same F F') : EnvR K F' σ ρ := by
  induction h with
  | nil => exact .nil
  | cons r _ ih => exact .cons (r.up e) ih
theorem EnvR.at : ∀ {σ : L2.St} {ρ : List Sl} {i : Nat} {r : Sl}, EnvR K F σ ρ → ρ[i]? = some r → ∃ s, σ[i]? = some s ∧ SlR K F s r
  | _, _, _, _, .nil, e => by simp at e
  | _, _, 0, _, .cons r _, e => by simp at e; subst e; exact ⟨_, rfl, r⟩
  | _, _, i + 1, r, .cons _ t, e => by
    obtain ⟨v, h1, h2⟩ := EnvR.at (i := i) (r := r) t (by simpa using e)
    exact ⟨v, by simpa using h1, h2⟩
theorem EnvR.val {i : Nat} {d : PyData} (h : EnvR K F σ ρ) (e : ρ[i]? = some (.val d)) : ∃ v, σ[i]? = some (some v) ∧ Rp K F v d := by
  obtain ⟨s, h1, v, rfl, h2⟩ := h.at e
  exact ⟨v, h1, h2⟩
theorem EnvR.adr {i : Nat} {a : Addr} (h : EnvR K F σ ρ) (e : ρ[i]? = some (.adr a)) : σ[i]? = some (some (.ref a)) := by
  obtain ⟨s, h1, h2⟩ := h.at e
  cases h2
  exact h1
theorem EnvR.set {s : Option V} {r : Sl} (q : SlR K F s r) : ∀ {σ : L2.St} {ρ : List Sl} (i : Nat), EnvR K F σ ρ → EnvR K F (σ.set i s) (ρ.set i r)
  | _, _, _, .nil => .nil
  | _, _, 0, .cons _ t => .cons q t
  | _, _, i + 1, .cons p t => .cons p (EnvR.set q i t)
theorem EnvR.setv {v : V} {d : PyData} (h : EnvR K F σ ρ) (q : Rp K F v d) (i : Nat) : EnvR K F (σ.set i (some v)) (ρ.set i (.val d)) := EnvR.set (s := some v) (r := .val d) ⟨v, rfl, q⟩ i h
theorem EnvR.seta {a : Addr} (h : EnvR K F σ ρ) (i : Nat) : EnvR K F (σ.set i (some (.ref a))) (ρ.set i (.adr a)) := EnvR.set (s := some (.ref a)) (r := .adr a) rfl i h
theorem EnvR.blank : ∀ (n : Nat), EnvR K F (List.replicate n none) (List.replicate n .un)
  | 0 => .nil
  | n + 1 => .cons trivial (EnvR.blank n)
theorem EnvR.app : ∀ {σ τ : L2.St} {ρ π : List Sl}, EnvR K F σ ρ → EnvR K F τ π → EnvR K F (σ ++ τ) (ρ ++ π)
  | _, _, _, _, .nil, s => s
  | _, _, _, _, .cons r t, s => .cons r (EnvR.app t s)
/-- arguments: data, or own lists by their addresses -/
inductive AsR (K : Fg) (F : Hp) : List V → List Sl → Prop
  | nil : AsR K F [] []
  | val {v : V} {d : PyData} {vs : List V} {as : List Sl} : Rp K F v d → AsR K F vs as → AsR K F (v :: vs) (.val d :: as)
  | adr {a : Addr} {vs : List V} {as : List Sl} : AsR K F vs as → AsR K F (.ref a :: vs) (.adr a :: as)
  | dk {a : Addr} {ps : List (Key × V)} {kvs : List (Key × PyData)} {vs : List V} {as : List Sl} : F a = some (.dK ps) → ps.length ≤ sizeLine → KD K F ps kvs → AsR K F vs as → AsR K F (.ref a :: vs) (.dk kvs :: as)
theorem AsR.up {vs : List V} {as : List Sl} (h : AsR K F vs as) (e : Same F F') : AsR K F' vs as := by
  induction h with
  | nil => exact .nil
  | val r _ ih => exact .val (r.up e) ih
  | adr _ ih => exact .adr ih
  | dk h1 h2 h3 _ ih => exact .dk (e _ _ h1) h2 (h3.up e) ih
theorem AsR.env : ∀ {vs : List V} {as : List Sl}, AsR K F vs as → EnvR K F (vs.map some) as
  | _, _, .nil => .nil
  | _, _, .val r t => .cons ⟨_, rfl, r⟩ t.env
  | _, _, .adr t => .cons rfl t.env
  | _, _, .dk h1 h2 h3 t => .cons ⟨_, _, rfl, h1, h2, h3⟩ t.env
theorem AsR.length : ∀ {vs : List V} {as : List Sl}, AsR K F vs as → vs.length = as.length
  | _, _, .nil => rfl
  | _, _, .val _ t => by rw [List.length_cons, List.length_cons, AsR.length t]
  | _, _, .adr t => by rw [List.length_cons, List.length_cons, AsR.length t]
  | _, _, .dk _ _ _ t => by rw [List.length_cons, List.length_cons, AsR.length t]
theorem AsR.all : ∀ {vs : List V} {ds : List PyData}, AsR K F vs (ds.map .val) → RpAll K F vs ds
  | _, [], h => by cases h; exact .nil
  | _, d :: ds, h => by
    cases h with
    | val r t => exact .cons r (AsR.all t)
theorem EnvR.start {N : List Str} {vs : List V} {as : List Sl} (h : AsR K F vs as) : EnvR K F (start N vs) (as ++ List.replicate (N.length - as.length) .un) := by
  unfold L2.start
  rw [h.length]
  exact h.env.app (EnvR.blank _)
/-- forgetting slots -/
def Wk : List Sl → List Sl → Prop
  | [], [] => True
  | r :: ρ, r' :: ρ' => (r' = r ∨ r' = .un) ∧ Wk ρ ρ'
  | _, _ => False
theorem EnvR.weak : ∀ {σ : L2.St} {ρ ρ' : List Sl}, EnvR K F σ ρ → Wk ρ ρ' → EnvR K F σ ρ'
  | _, _, [], .nil, _ => .nil
  | _, _, r' :: ρ', .cons r t, ⟨h1, h2⟩ => by
    refine .cons ?_ (EnvR.weak t h2)
    rcases h1 with rfl | rfl
    · exact r
    · trivial
  | _, _, _ :: _, .nil, h => h.elim
  | _, _, [], .cons _ _, h => h.elim
def wipeS (ρ : List Sl) : List Nat → List Sl
  | [] => ρ
  | v :: vs => (wipeS ρ vs).set v .un
theorem EnvR.wipe (h : EnvR K F σ ρ) : ∀ vs : List Nat, EnvR K F (L2.wipe σ vs) (wipeS ρ vs)
  | [] => h
  | v :: vs => by
    unfold L2.wipe wipeS
    exact EnvR.set (r := .un) trivial v (EnvR.wipe h vs)
theorem wipe_at (σ : L2.St) (i : Nat) : ∀ vs : List Nat, (L2.wipe σ vs)[i]? = if i ∈ vs then (if i < σ.length then some none else none) else σ[i]?
  | [] => by simp [L2.wipe]
  | v :: vs => by
    unfold L2.wipe
    rw [List.getElem?_set, wipe_at σ i vs, wipe_length]
    by_cases h : v = i
    · subst h; simp
    · have h' : ¬ i = v := fun e => h e.symm
      simp [h, h']
theorem wipe_wipe (σ : L2.St) (vs : List Nat) : L2.wipe (L2.wipe σ vs) vs = L2.wipe σ vs := by
  apply List.ext_getElem?
  intro i
  rw [wipe_at, wipe_at, wipe_length]
  split <;> rfl
theorem wipe_set (σ : L2.St) {i : Nat} {s : Option V} {vs : List Nat} (h : i ∈ vs) : L2.wipe (σ.set i s) vs = L2.wipe σ vs := by
  apply List.ext_getElem?
  intro j
  rw [wipe_at, wipe_at, List.length_set]
  by_cases e : j ∈ vs
  · rw [if_pos e, if_pos e]
  · rw [if_neg e, if_neg e, List.getElem?_set_ne (fun (q : i = j) => e (q ▸ h))]
end

/-! ### the heap's parts: F0, H0: frozen and whole at the entry; D0: lists at the entry that may be changed; F: frozen; O: own lists; H: the whole -/
/-- what an own object holds: a list's items; a dict's pairs, by flat keys, by tuples -/
inductive OD where
  | l (ds : List PyData)
  | k (kvs : List (Key × PyData))
  | t (kvs : List (List Key × PyData))
instance : Coe (List PyData) OD := ⟨OD.l⟩
structure OE where
  a : Addr
  nw : Bool
  ds : OD
@[reducible] def OwnAt (K : Fg) (F H : Hp) (a : Addr) : OD → Prop
  | .l ds => ∃ vs, H a = some (.lst vs) ∧ vs.length ≤ sizeLine ∧ RpAll K F vs ds
  | .k kvs => ∃ vs, H a = some (.dK vs) ∧ vs.length ≤ sizeLine ∧ KD K F vs kvs
  | .t kvs => ∃ vs, H a = some (.dT vs) ∧ vs.length ≤ sizeLine ∧ KD K F vs kvs
theorem OwnAt.live {K : Fg} {F H : Hp} {a : Addr} {o : OD} (h : OwnAt K F H a o) : ∃ u, H a = some u := by
  cases o with
  | l ds => obtain ⟨vs, h, _⟩ := h; exact ⟨_, h⟩
  | k kvs => obtain ⟨vs, h, _⟩ := h; exact ⟨_, h⟩
  | t kvs => obtain ⟨vs, h, _⟩ := h; exact ⟨_, h⟩
theorem OwnAt.up {K : Fg} {F F' H : Hp} {a : Addr} {o : OD} (h : OwnAt K F H a o) (e : Same F F') : OwnAt K F' H a o := by
  cases o with
  | l ds => obtain ⟨vs, h, z, r⟩ := h; exact ⟨vs, h, z, r.up e⟩
  | k kvs => obtain ⟨vs, h, z, r1, r2⟩ := h; exact ⟨vs, h, z, r1, r2.up e⟩
  | t kvs => obtain ⟨vs, h, z, r1, r2⟩ := h; exact ⟨vs, h, z, r1, r2.up e⟩
theorem OwnAt.at {K : Fg} {F H H' : Hp} {a : Addr} {o : OD} (h : OwnAt K F H a o) (e : H' a = H a) : OwnAt K F H' a o := by
  cases o with
  | l ds => obtain ⟨vs, h, z, r⟩ := h; exact ⟨vs, e.trans h, z, r⟩
  | k kvs => obtain ⟨vs, h, z, r1, r2⟩ := h; exact ⟨vs, e.trans h, z, r1, r2⟩
  | t kvs => obtain ⟨vs, h, z, r1, r2⟩ := h; exact ⟨vs, e.trans h, z, r1, r2⟩
abbrev Os := List OE
structure Hx (K : Fg) (F0 H0 : Hp) (D0 : List Addr) (F : Hp) (O : Os) (H : Hp) : Prop where
  f0 : Same F0 F
  fh : Same F H
  keep : ∀ a o, H0 a = some o → a ∉ D0 → H a = some o
  live : ∀ a o, H0 a = some o → ∃ o', H a = some o'
  new : ∀ a o, H0 a = some o → F0 a = none → F a = none
  own : ∀ p ∈ O, F p.a = none ∧ (p.nw = true → H0 p.a = none) ∧ (p.nw = false → p.a ∈ D0) ∧ OwnAt K F H p.a p.ds
  nd : (O.map OE.a).Nodup
/-- what a call leaves: D the lists that it may have changed -/
structure Stp (D : List Addr) (F H F' H' : Hp) : Prop where
  ff : Same F F'
  fh : Same F' H'
  keep : ∀ a o, H a = some o → a ∉ D → H' a = some o
  live : ∀ a o, H a = some o → ∃ o', H' a = some o'
  new : ∀ a o, H a = some o → F a = none → F' a = none
section
variable {K : Fg} {F0 H0 F H F' H' : Hp} {D0 : List Addr} {O : Os}
theorem Hx.start (h : Same F H) : Hx K F H [] F [] H := ⟨Same.refl _, h, fun _ _ e _ => e, fun _ o e => ⟨o, e⟩, fun _ _ _ e => e, fun p h => by simp at h, List.nodup_nil⟩
theorem Hx.start1 {p : Addr} {vs : List V} {ds : List PyData} (h : Same F H) (n : F p = none) (hp : H p = some (.lst vs)) (hz : vs.length ≤ sizeLine) (r : RpAll K F vs ds) : Hx K F H [p] F [⟨p, false, ds⟩] H := by
  refine ⟨Same.refl _, h, fun _ _ e _ => e, fun _ o e => ⟨o, e⟩, fun _ _ _ e => e, fun q hq => ?_, by simp⟩
  have e : q = ⟨p, false, ds⟩ := by simpa using hq
  subst e
  exact ⟨n, fun z => (Bool.false_ne_true z).elim, fun _ => by simp, vs, hp, hz, r⟩
theorem Hx.ownL (S : Hx K F0 H0 D0 F O H) {q : OE} (h : q ∈ O) : ∃ u, H q.a = some u := (S.own q h).2.2.2.live
theorem Hx.stp (S : Hx K F0 H0 D0 F O H) : Stp D0 F0 H0 F H := ⟨S.f0, S.fh, S.keep, S.live, S.new⟩
theorem Hx.nof (S : Hx K F0 H0 D0 F O H) {p : Addr} (h : H p = none) : F p = none := S.fh.free h
theorem Hx.noh0 (S : Hx K F0 H0 D0 F O H) {p : Addr} (h : H p = none) : H0 p = none := by
  cases e : H0 p with
  | none => rfl
  | some o =>
    obtain ⟨o', e'⟩ := S.live _ _ e
    rw [h] at e'
    cases e'
theorem same_upd {H : Hp} {p : Addr} {o : HO} (h : H p = none) : Same H (upd H p o) := fun a u e => by
  rw [upd_ne (ne_of_none e h)]
  exact e
theorem same_upd2 {F H : Hp} {p : Addr} {o : HO} (h : Same F H) : Same (upd F p o) (upd H p o) := fun a u e => by
  unfold upd at e ⊢
  split at e
  · rw [if_pos (by assumption)]; exact e
  · rw [if_neg (by assumption)]; exact h _ _ e
/-- a new object, frozen -/
theorem Hx.put (S : Hx K F0 H0 D0 F O H) {p : Addr} {o : HO} (h : H p = none) : Hx K F0 H0 D0 (upd F p o) O (upd H p o) := by
  have hF := S.nof h
  refine ⟨S.f0.trans (same_upd hF), same_upd2 S.fh, fun a u e n => ?_, fun a u e => ?_, fun a u e n => ?_, fun q hq => ?_, S.nd⟩
  · have := S.keep a u e n
    rw [upd_ne (ne_of_none this h)]
    exact this
  · obtain ⟨u', e'⟩ := S.live a u e
    exact ⟨u', by rw [upd_ne (ne_of_none e' h)]; exact e'⟩
  · obtain ⟨u', e'⟩ := S.live a u e
    rw [upd_ne (ne_of_none e' h)]
    exact S.new a u e n
  · obtain ⟨h1, h2, h3, h4⟩ := S.own q hq
    obtain ⟨u, h5⟩ := h4.live
    have ne := ne_of_none h5 h
    exact ⟨by rw [upd_ne ne]; exact h1, h2, h3, (h4.at (upd_ne ne)).up (same_upd hF)⟩
/-- a new own object -/
theorem Hx.mineD (S : Hx K F0 H0 D0 F O H) {p : Addr} {u : HO} {ds : OD} (h : H p = none) (hz : OwnAt K F (upd H p u) p ds) : Hx K F0 H0 D0 F (⟨p, true, ds⟩ :: O) (upd H p u) := by
  have hF := S.nof h
  refine ⟨S.f0, S.fh.trans (same_upd h), fun a u e n => ?_, fun a u e => ?_, S.new, fun q hq => ?_, ?_⟩
  · have := S.keep a u e n
    rw [upd_ne (ne_of_none this h)]
    exact this
  · obtain ⟨u', e'⟩ := S.live a u e
    exact ⟨u', by rw [upd_ne (ne_of_none e' h)]; exact e'⟩
  · rcases List.mem_cons.mp hq with rfl | hq
    · exact ⟨hF, fun _ => S.noh0 h, fun z => (Bool.false_ne_true z.symm).elim, hz⟩
    · obtain ⟨h1, h2, h3, h4⟩ := S.own q hq
      obtain ⟨u, h5⟩ := h4.live
      exact ⟨h1, h2, h3, h4.at (upd_ne (ne_of_none h5 h))⟩
  · rw [List.map_cons, List.nodup_cons]
    refine ⟨fun hm => ?_, S.nd⟩
    obtain ⟨q, hq, e⟩ := List.mem_map.mp hm
    obtain ⟨_, _, _, h4⟩ := S.own q hq
    obtain ⟨u, h5⟩ := h4.live
    have e' : q.a = p := e
    rw [e', h] at h5
    cases h5
theorem Hx.mine (S : Hx K F0 H0 D0 F O H) {p : Addr} {vs : List V} {ds : List PyData} (h : H p = none) (hz : vs.length ≤ sizeLine) (r : RpAll K F vs ds) : Hx K F0 H0 D0 F (⟨p, true, ds⟩ :: O) (upd H p (.lst vs)) := S.mineD h ⟨vs, upd_same, hz, r⟩
theorem Hx.getD (S : Hx K F0 H0 D0 F O H) {j : Nat} {q : OE} (h : O[j]? = some q) : F q.a = none ∧ (q.nw = true → H0 q.a = none) ∧ (q.nw = false → q.a ∈ D0) ∧ OwnAt K F H q.a q.ds := S.own q (List.mem_of_getElem? h)
theorem Hx.get (S : Hx K F0 H0 D0 F O H) {j : Nat} {a : Addr} {nw : Bool} {ds : List PyData} (h : O[j]? = some ⟨a, nw, ds⟩) : F a = none ∧ (nw = true → H0 a = none) ∧ (nw = false → a ∈ D0) ∧ ∃ vs, H a = some (.lst vs) ∧ vs.length ≤ sizeLine ∧ RpAll K F vs ds := S.getD h
theorem nodup_at {α : Type} {l : List α} (h : l.Nodup) {i j : Nat} {x : α} (a : l[i]? = some x) (b : l[j]? = some x) : i = j := by
  obtain ⟨h1, e1⟩ := List.getElem?_eq_some_iff.mp a
  obtain ⟨h2, e2⟩ := List.getElem?_eq_some_iff.mp b
  exact (List.getElem_inj h).mp (e1.trans e2.symm)
/-- an own object is changed -/
theorem Hx.mutD (S : Hx K F0 H0 D0 F O H) {j : Nat} {l : Addr} {nw : Bool} {ds ds' : OD} {v : HO} (h : O[j]? = some ⟨l, nw, ds⟩) (hz : OwnAt K F (upd H l v) l ds') :
    Hx K F0 H0 D0 F (O.set j ⟨l, nw, ds'⟩) (upd H l v) := by
  obtain ⟨h1, h2, h3, h4⟩ := S.getD h
  refine ⟨S.f0, fun a u e => ?_, fun a u e n => ?_, fun a u e => ?_, S.new, fun q hq => ?_, ?_⟩
  · rw [upd_ne (ne_of_none e h1)]
    exact S.fh _ _ e
  · have ne : a ≠ l := by
      rintro rfl
      cases nw with
      | true => rw [h2 rfl] at e; cases e
      | false => exact n (h3 rfl)
    rw [upd_ne ne]
    exact S.keep a u e n
  · by_cases ne : a = l
    · subst ne; exact ⟨_, upd_same⟩
    · rw [upd_ne ne]; exact S.live a u e
  · obtain ⟨i, hi⟩ := List.mem_iff_getElem?.mp hq
    by_cases e : j = i
    · subst e
      have hj : j < O.length := (List.getElem?_eq_some_iff.mp h).1
      rw [List.getElem?_set_self hj] at hi
      cases hi
      exact ⟨h1, h2, h3, hz⟩
    · rw [List.getElem?_set_ne e] at hi
      obtain ⟨g1, g2, g3, g4⟩ := S.getD hi
      have ne : q.a ≠ l := by
        intro z
        refine e (nodup_at S.nd (x := l) ?_ ?_)
        · rw [List.getElem?_map, h]; rfl
        · rw [List.getElem?_map, hi]; simp [z]
      exact ⟨g1, g2, g3, g4.at (upd_ne ne)⟩
  · have e : (O.set j ⟨l, nw, ds'⟩).map OE.a = O.map OE.a := by
      rw [List.map_set]
      apply List.ext_getElem?
      intro i
      by_cases e : j = i
      · subst e
        have hj : j < O.length := (List.getElem?_eq_some_iff.mp h).1
        rw [List.getElem?_set_self (by simpa using hj), List.getElem?_map, h]; rfl
      · rw [List.getElem?_set_ne e]
    rw [e]
    exact S.nd
theorem Hx.mut (S : Hx K F0 H0 D0 F O H) {j : Nat} {l : Addr} {nw : Bool} {ds : OD} {ds' : List PyData} {vs : List V} (h : O[j]? = some ⟨l, nw, ds⟩) (hz : vs.length ≤ sizeLine) (r : RpAll K F vs ds') :
    Hx K F0 H0 D0 F (O.set j ⟨l, nw, ds'⟩) (upd H l (.lst vs)) := S.mutD h ⟨vs, upd_same, hz, r⟩
/-- an own object is frozen -/
theorem Hx.frzD (S : Hx K F0 H0 D0 F O H) {j : Nat} {l : Addr} {ds : OD} {v : HO} (h : O[j]? = some ⟨l, true, ds⟩) (h4 : H l = some v) :
    Same F (upd F l v) ∧ Hx K F0 H0 D0 (upd F l v) (O.eraseIdx j) H := by
  obtain ⟨h1, h2, h3, h5⟩ := S.getD h
  refine ⟨same_upd h1, ⟨S.f0.trans (same_upd h1), fun a u e => ?_, S.keep, S.live, fun a u e n => ?_, fun q hq => ?_, ?_⟩⟩
  · unfold upd at e
    split at e
    · rename_i z
      subst z
      cases e
      exact h4
    · exact S.fh _ _ e
  · have ne : a ≠ l := by rintro rfl; rw [h2 rfl] at e; cases e
    rw [upd_ne ne]
    exact S.new a u e n
  · have hq' := List.mem_of_mem_eraseIdx hq
    obtain ⟨g1, g2, g3, g4⟩ := S.own q hq'
    have ne : q.a ≠ l := by
      intro z
      obtain ⟨i, hi⟩ := List.mem_iff_getElem?.mp hq
      rw [List.getElem?_eraseIdx] at hi
      split at hi
      · rename_i hlt
        have := nodup_at S.nd (x := l) (i := j) (j := i) (by rw [List.getElem?_map, h]; rfl) (by rw [List.getElem?_map, hi]; simp [z])
        omega
      · rename_i hlt
        have := nodup_at S.nd (x := l) (i := j) (j := i + 1) (by rw [List.getElem?_map, h]; rfl) (by rw [List.getElem?_map, hi]; simp [z])
        omega
    exact ⟨by rw [upd_ne ne]; exact g1, g2, g3, g4.up (same_upd h1)⟩
  · exact S.nd.sublist ((List.eraseIdx_sublist O j).map OE.a)
theorem Hx.frz (S : Hx K F0 H0 D0 F O H) {j : Nat} {l : Addr} {ds : List PyData} (h : O[j]? = some ⟨l, true, ds⟩) :
    ∃ F', Same F F' ∧ Hx K F0 H0 D0 F' (O.eraseIdx j) H ∧ Rp K F' (.ref l) (.list ds) := by
  obtain ⟨h1, h2, h3, vs, h4, h5, h6⟩ := S.get h
  obtain ⟨q1, q2⟩ := S.frzD h h4
  exact ⟨_, q1, q2, .lst (SqL.of upd_same) h5 (h6.up (same_upd h1))⟩
/-- behind a call that changes nothing that was there -/
theorem Hx.call (S : Hx K F0 H0 D0 F O H) (q : Stp [] F H F' H') : Hx K F0 H0 D0 F' O H' := by
  refine ⟨S.f0.trans q.ff, q.fh, fun a u e n => q.keep _ _ (S.keep a u e n) (by simp), fun a u e => ?_, fun a u e n => ?_, fun p hp => ?_, S.nd⟩
  · obtain ⟨u', e'⟩ := S.live a u e
    exact q.live _ _ e'
  · obtain ⟨u', e'⟩ := S.live a u e
    exact q.new _ _ e' (S.new a u e n)
  · obtain ⟨h1, h2, h3, h4⟩ := S.own p hp
    obtain ⟨u, h5⟩ := h4.live
    exact ⟨q.new _ _ h5 h1, h2, h3, (h4.at ((q.keep _ _ h5 (by simp)).trans h5.symm)).up q.ff⟩
/-- .. that changes one own list -/
theorem Hx.call1D (S : Hx K F0 H0 D0 F O H) {j : Nat} {l : Addr} {nw : Bool} {ds ds' : OD} (h : O[j]? = some ⟨l, nw, ds⟩) (q : Stp [l] F H F' H') (hl : OwnAt K F' H' l ds') :
    Hx K F0 H0 D0 F' (O.set j ⟨l, nw, ds'⟩) H' := by
  obtain ⟨h1, h2, h3, h40⟩ := S.getD h
  obtain ⟨u0, h4⟩ := h40.live
  refine ⟨S.f0.trans q.ff, q.fh, fun a u e n => ?_, fun a u e => ?_, fun a u e n => ?_, fun p hp => ?_, ?_⟩
  · have ne : a ≠ l := by
      rintro rfl
      cases nw with
      | true => rw [h2 rfl] at e; cases e
      | false => exact n (h3 rfl)
    exact q.keep _ _ (S.keep a u e n) (by simpa using ne)
  · obtain ⟨u', e'⟩ := S.live a u e
    exact q.live _ _ e'
  · obtain ⟨u', e'⟩ := S.live a u e
    exact q.new _ _ e' (S.new a u e n)
  · obtain ⟨i, hi⟩ := List.mem_iff_getElem?.mp hp
    by_cases e : j = i
    · subst e
      have hj : j < O.length := (List.getElem?_eq_some_iff.mp h).1
      rw [List.getElem?_set_self hj] at hi
      cases hi
      exact ⟨q.new _ _ h4 h1, h2, h3, hl⟩
    · rw [List.getElem?_set_ne e] at hi
      obtain ⟨g1, g2, g3, g40⟩ := S.getD hi
      obtain ⟨u1, g4⟩ := g40.live
      have ne : p.a ≠ l := by
        intro z
        refine e (nodup_at S.nd (x := l) ?_ ?_)
        · rw [List.getElem?_map, h]; rfl
        · rw [List.getElem?_map, hi]; simp [z]
      exact ⟨q.new _ _ g4 g1, g2, g3, (g40.at ((q.keep _ _ g4 (by simpa using ne)).trans g4.symm)).up q.ff⟩
  · have e : (O.set j ⟨l, nw, ds'⟩).map OE.a = O.map OE.a := by
      rw [List.map_set]
      apply List.ext_getElem?
      intro i
      by_cases e : j = i
      · subst e
        have hj : j < O.length := (List.getElem?_eq_some_iff.mp h).1
        rw [List.getElem?_set_self (by simpa using hj), List.getElem?_map, h]; rfl
      · rw [List.getElem?_set_ne e]
    rw [e]
    exact S.nd
theorem Hx.call1 (S : Hx K F0 H0 D0 F O H) {j : Nat} {l : Addr} {nw : Bool} {ds : OD} {ds' : List PyData} {vs : List V} (h : O[j]? = some ⟨l, nw, ds⟩) (q : Stp [l] F H F' H') (hl : H' l = some (.lst vs)) (hz : vs.length ≤ sizeLine) (r : RpAll K F' vs ds') :
    Hx K F0 H0 D0 F' (O.set j ⟨l, nw, ds'⟩) H' := S.call1D h q ⟨vs, hl, hz, r⟩
end
end TL

namespace TL
open PySem L2

/-! ### encodings -/
class Enc (α : Type) where
  enc : α → PyData
open Enc
@[reducible] instance : Enc Int := ⟨.int⟩
@[reducible] instance : Enc Bool := ⟨.bool⟩
@[reducible] instance : Enc Str := ⟨.str⟩
@[reducible] instance : Enc Unit := ⟨fun _ => .none⟩
@[reducible] instance {α : Type} [Enc α] : Enc (List α) := ⟨fun xs => .list (xs.map enc)⟩
@[reducible] instance {α β : Type} [Enc α] [Enc β] : Enc (α × β) := ⟨fun p => .tuple [enc p.1, enc p.2]⟩
/-- a tuple of any length, its items of one kind -/
structure Tp (α : Type) where
  l : List α
  deriving DecidableEq
@[reducible] instance {α : Type} [Enc α] : Enc (Tp α) := ⟨fun t => .tuple (t.l.map enc)⟩
structure T3 (α β γ : Type) where
  a : α
  b : β
  c : γ
  deriving DecidableEq
structure T4 (α β γ δ : Type) where
  a : α
  b : β
  c : γ
  d : δ
  deriving DecidableEq
@[reducible] instance {α β γ : Type} [Enc α] [Enc β] [Enc γ] : Enc (T3 α β γ) := ⟨fun p => .tuple [enc p.a, enc p.b, enc p.c]⟩
@[reducible] instance {α β γ δ : Type} [Enc α] [Enc β] [Enc γ] [Enc δ] : Enc (T4 α β γ δ) := ⟨fun p => .tuple [enc p.a, enc p.b, enc p.c, enc p.d]⟩
def encO {α : Type} [Enc α] : Option α → PyData
  | none => .none
  | some x => enc x
@[reducible] instance {α : Type} [Enc α] : Enc (Option α) := ⟨encO⟩

/-! ### judgements -/
section
variable (K : Fg)
structure RX (t : TE) (ρ : List Sl) (O : Os) (d : PyData) (O' : Os) : Prop where
  run : ∀ (F0 H0 : Hp) (D0 : List Addr) (σ : L2.St) (F H : Hp) (Q : VK), EnvR K F σ ρ → Hx K F0 H0 D0 F O H →
    (∀ v F' H', Same F F' → Hx K F0 H0 D0 F' O' H' → Rp K F' v d → Q v H') → t σ H Q
/-- a new list, own -/
structure RXo (t : TE) (ρ : List Sl) (O : Os) (ds : List PyData) (O' : Os) : Prop where
  run : ∀ (F0 H0 : Hp) (D0 : List Addr) (σ : L2.St) (F H : Hp) (Q : VK), EnvR K F σ ρ → Hx K F0 H0 D0 F O H →
    (∀ p F' H', Same F F' → Hx K F0 H0 D0 F' (⟨p, true, ds⟩ :: O') H' → Q (.ref p) H') → t σ H Q
/-- a list that is read -/
structure RXs (t : TE) (ρ : List Sl) (O : Os) (ds : List PyData) (O' : Os) : Prop where
  run : ∀ (F0 H0 : Hp) (D0 : List Addr) (σ : L2.St) (F H : Hp) (Q : VK), EnvR K F σ ρ → Hx K F0 H0 D0 F O H →
    (∀ a F' H', Same F F' → Hx K F0 H0 D0 F' O' H' → (∀ F2 H2, Same F' F2 → Hx K F0 H0 D0 F2 O' H2 → ∃ vs, SqL K H2 a vs ∧ vs.length ≤ sizeLine ∧ RpAll K F2 vs ds) → Q (.ref a) H') → t σ H Q
/-- what is read, by the whole heap -/
structure RXh (t : TE) (ρ : List Sl) (O : Os) (d : PyData) (O' : Os) : Prop where
  run : ∀ (F0 H0 : Hp) (D0 : List Addr) (σ : L2.St) (F H : Hp) (Q : VK), EnvR K F σ ρ → Hx K F0 H0 D0 F O H →
    (∀ v F' H', Same F F' → Hx K F0 H0 D0 F' O' H' → (∀ F2 H2, Same F' F2 → Hx K F0 H0 D0 F2 O' H2 → Rp K H2 v d) → Q v H') → t σ H Q
structure RA (t : TA) (ρ : List Sl) (O : Os) (as : List Sl) (O' : Os) : Prop where
  run : ∀ (F0 H0 : Hp) (D0 : List Addr) (σ : L2.St) (F H : Hp) (Q : List V → Hp → Prop), EnvR K F σ ρ → Hx K F0 H0 D0 F O H →
    (∀ vs F' H', Same F F' → Hx K F0 H0 D0 F' O' H' → AsR K F' vs as → Q vs H') → t σ H Q
structure RT (t : TT) (ρ : List Sl) (O : Os) (b : Bool) (O' : Os) : Prop where
  run : ∀ (F0 H0 : Hp) (D0 : List Addr) (σ : L2.St) (F H : Hp) (Q : Bool → Hp → Prop), EnvR K F σ ρ → Hx K F0 H0 D0 F O H →
    (∀ F' H', Same F F' → Hx K F0 H0 D0 F' O' H' → Q b H') → t σ H Q
structure RO (t : TO) (ρ : List Sl) (O : Os) (o : Option Int) (O' : Os) : Prop where
  run : ∀ (F0 H0 : Hp) (D0 : List Addr) (σ : L2.St) (F H : Hp) (Q : Option Int → Hp → Prop), EnvR K F σ ρ → Hx K F0 H0 D0 F O H →
    (∀ F' H', Same F F' → Hx K F0 H0 D0 F' O' H' → Q o H') → t σ H Q
/-- a target; ts its slots -/
structure RG (g : TG) (d : PyData) (ρ ρ' : List Sl) (ts : List Nat) : Prop where
  run : ∀ (σ : L2.St) (F H : Hp) (v : V) (Q : L2.St → Hp → Prop), EnvR K F σ ρ → Rp K F v d → Same F H →
    (∀ σ', EnvR K F σ' ρ' → (∀ vs : List Nat, (∀ t ∈ ts, t ∈ vs) → L2.wipe σ' vs = L2.wipe σ vs) → Q σ' H) → g v σ H Q
structure WalkD (J : It) (ys : List PyData) (F1 : Hp) : Prop where
  sz : ys.length ≤ sizeLine
  go : ∀ (F0 H0 : Hp) (D0 : List Addr) (F : Hp) (O : Os) (H : Hp) (i : Nat), i < ys.length → Same F1 F → Hx K F0 H0 D0 F O H → J.go i H
  stop : ∀ (F0 H0 : Hp) (D0 : List Addr) (F : Hp) (O : Os) (H : Hp), Same F1 F → Hx K F0 H0 D0 F O H → J.stop ys.length H
  yld : ∀ (F0 H0 : Hp) (D0 : List Addr) (F : Hp) (O : Os) (H : Hp) (i : Nat) (x : V) (H' : Hp), i < ys.length → Same F1 F → Hx K F0 H0 D0 F O H → J.yld i H x H' →
    ∃ F' y, Same F F' ∧ Hx K F0 H0 D0 F' O H' ∧ ys[i]? = some y ∧ Rp K F' x y
structure RI (wi : TI) (ρ : List Sl) (O : Os) (ys : List PyData) (O' : Os) : Prop where
  run : ∀ (F0 H0 : Hp) (D0 : List Addr) (σ : L2.St) (F H : Hp) (R : It → Hp → Prop), EnvR K F σ ρ → Hx K F0 H0 D0 F O H →
    (∀ J F' H', Same F F' → Hx K F0 H0 D0 F' O' H' → WalkD K J ys F' → R J H') → wi σ H R
end
section
variable {K : Fg} {t : TE} {ρ : List Sl} {O O' : Os} {d : PyData} {ds : List PyData} {F0 H0 : Hp} {D0 : List Addr} {σ : L2.St} {F H : Hp}
/-- the evaluation is used -/
theorem RX.go (h : RX K t ρ O d O') {Q : VK} (E : EnvR K F σ ρ) (S : Hx K F0 H0 D0 F O H)
    (k : ∀ v F' H', Same F F' → EnvR K F' σ ρ → Hx K F0 H0 D0 F' O' H' → Rp K F' v d → Q v H') : t σ H Q := h.run _ _ _ _ _ _ Q E S fun v F' H' f S' r => k v F' H' f (E.up f) S' r
theorem RXo.go (h : RXo K t ρ O ds O') {Q : VK} (E : EnvR K F σ ρ) (S : Hx K F0 H0 D0 F O H)
    (k : ∀ p F' H', Same F F' → EnvR K F' σ ρ → Hx K F0 H0 D0 F' (⟨p, true, ds⟩ :: O') H' → Q (.ref p) H') : t σ H Q := h.run _ _ _ _ _ _ Q E S fun v F' H' f S' => k v F' H' f (E.up f) S'
theorem RXs.go (h : RXs K t ρ O ds O') {Q : VK} (E : EnvR K F σ ρ) (S : Hx K F0 H0 D0 F O H)
    (k : ∀ a F' H', Same F F' → EnvR K F' σ ρ → Hx K F0 H0 D0 F' O' H' → (∀ F2 H2, Same F' F2 → Hx K F0 H0 D0 F2 O' H2 → ∃ vs, SqL K H2 a vs ∧ vs.length ≤ sizeLine ∧ RpAll K F2 vs ds) → Q (.ref a) H') : t σ H Q :=
  h.run _ _ _ _ _ _ Q E S fun a F' H' f S' q => k a F' H' f (E.up f) S' q
theorem RXh.go (h : RXh K t ρ O d O') {Q : VK} (E : EnvR K F σ ρ) (S : Hx K F0 H0 D0 F O H)
    (k : ∀ v F' H', Same F F' → EnvR K F' σ ρ → Hx K F0 H0 D0 F' O' H' → (∀ F2 H2, Same F' F2 → Hx K F0 H0 D0 F2 O' H2 → Rp K H2 v d) → Q v H') : t σ H Q :=
  h.run _ _ _ _ _ _ Q E S fun v F' H' f S' q => k v F' H' f (E.up f) S' q
theorem RT.go {t : TT} {b : Bool} (h : RT K t ρ O b O') {Q : Bool → Hp → Prop} (E : EnvR K F σ ρ) (S : Hx K F0 H0 D0 F O H)
    (k : ∀ F' H', Same F F' → EnvR K F' σ ρ → Hx K F0 H0 D0 F' O' H' → Q b H') : t σ H Q := h.run _ _ _ _ _ _ Q E S fun F' H' f S' => k F' H' f (E.up f) S'
theorem RA.go {t : TA} {as : List Sl} (h : RA K t ρ O as O') {Q : List V → Hp → Prop} (E : EnvR K F σ ρ) (S : Hx K F0 H0 D0 F O H)
    (k : ∀ vs F' H', Same F F' → EnvR K F' σ ρ → Hx K F0 H0 D0 F' O' H' → AsR K F' vs as → Q vs H') : t σ H Q := h.run _ _ _ _ _ _ Q E S fun v F' H' f S' r => k v F' H' f (E.up f) S' r
theorem RO.go {t : TO} {o : Option Int} (h : RO K t ρ O o O') {Q : Option Int → Hp → Prop} (E : EnvR K F σ ρ) (S : Hx K F0 H0 D0 F O H)
    (k : ∀ F' H', Same F F' → EnvR K F' σ ρ → Hx K F0 H0 D0 F' O' H' → Q o H') : t σ H Q := h.run _ _ _ _ _ _ Q E S fun F' H' f S' => k F' H' f (E.up f) S'
theorem RI.go {t : TI} {ys : List PyData} (h : RI K t ρ O ys O') {Q : It → Hp → Prop} (E : EnvR K F σ ρ) (S : Hx K F0 H0 D0 F O H)
    (k : ∀ J F' H', Same F F' → EnvR K F' σ ρ → Hx K F0 H0 D0 F' O' H' → WalkD K J ys F' → Q J H') : t σ H Q := h.run _ _ _ _ _ _ Q E S fun J F' H' f S' r => k J F' H' f (E.up f) S' r
theorem RXo.frz (h : RXo K t ρ O ds O') : RX K t ρ O (.list ds) O' := ⟨fun _ _ _ _ _ _ Q E S k => h.go E S fun p F' H' f _ S' => by
  obtain ⟨F2, f2, S2, r⟩ := S'.frz (j := 0) (l := p) (ds := ds) rfl
  exact k _ F2 H' (f.trans f2) S2 r⟩
theorem RX.s (h : RX K t ρ O (.list ds) O') : RXs K t ρ O ds O' := ⟨fun _ _ _ _ _ _ Q E S k => h.go E S fun v F' H' f _ S' r => by
  cases r with
  | lst h1 h2 h3 => exact k _ F' H' f S' fun F2 H2 f2 S2 => ⟨_, (f2.trans S2.fh).seq h1, h2, h3.up f2⟩⟩
theorem RXo.s (h : RXo K t ρ O ds O') : RXs K t ρ O ds O' := RX.s (RXo.frz h)
theorem RX.h (h : RX K t ρ O d O') : RXh K t ρ O d O' := ⟨fun _ _ _ _ _ _ Q E S k => h.go E S fun v F' H' f _ S' r => k v F' H' f S' fun F2 H2 f2 S2 => r.up (f2.trans S2.fh)⟩
theorem RXs.h (h : RXs K t ρ O ds O') : RXh K t ρ O (.list ds) O' := ⟨fun _ _ _ _ _ _ Q E S k => h.go E S fun a F' H' f _ S' h1 => k _ F' H' f S' fun F2 H2 f2 S2 => by
  obtain ⟨vs, q1, q2, q3⟩ := h1 F2 H2 f2 S2
  exact .lst q1 q2 (q3.up S2.fh)⟩

/-! ### names, constants -/
theorem rx_var {i : Nat} (h : ρ[i]? = some (.val d)) : RX K (tVar i) ρ O d O := ⟨fun _ _ _ _ _ _ Q E S k => by
  obtain ⟨v, h1, h2⟩ := E.val h
  exact ⟨v, h1, k v _ _ (Same.refl _) S h2⟩⟩
theorem rxs_own {i j : Nat} {a : Addr} {nw : Bool} (h : ρ[i]? = some (.adr a)) (ho : O[j]? = some ⟨a, nw, ds⟩) : RXs K (tVar i) ρ O ds O := ⟨fun _ _ _ _ _ _ Q E S k => by
  refine ⟨_, E.adr h, k a _ _ (Same.refl _) S fun F2 H2 f2 S2 => ?_⟩
  obtain ⟨_, _, _, vs', h4', h5', h6'⟩ := S2.get ho
  exact ⟨vs', SqL.of h4', h5', h6'⟩⟩
theorem rx_int {i : Int} : RX K (tC (.int i)) ρ O (.int i) O := ⟨fun _ _ _ _ _ _ Q E S k => k _ _ _ (Same.refl _) S (.int i)⟩
theorem rx_bl {b : Bool} : RX K (tC (.bl b)) ρ O (.bool b) O := ⟨fun _ _ _ _ _ _ Q E S k => k _ _ _ (Same.refl _) S (.bl b)⟩
theorem rx_str {x : Str} : RX K (tC (.str x)) ρ O (.str x) O := ⟨fun _ _ _ _ _ _ Q E S k => k _ _ _ (Same.refl _) S (.str x)⟩
theorem rx_non : RX K (tC .non) ρ O .none O := ⟨fun _ _ _ _ _ _ Q E S k => k _ _ _ (Same.refl _) S .non⟩
end
end TL

namespace TL
open PySem L2
open Enc

/-! ### operators -/
section
variable {K : Fg} {ta tb tc : TE} {ρ : List Sl} {O O1 O2 O3 : Os}
/-- two-place rules by values -/
theorem rx_op {r : R2} {d e f : PyData} (ha : RX K ta ρ O d O1) (hb : RX K tb ρ O1 e O2)
    (hr : ∀ (F H : Hp) (x y : V) (Q : VK), Same F H → Rp K F x d → Rp K F y e → (∀ v, Rp K F v f → Q v H) → r x y H Q) : RX K (tOp r ta tb) ρ O f O2 := ⟨fun _ _ _ _ _ _ Q E S k =>
  ha.go E S fun x F1 H1 f1 E1 S1 r1 => hb.go E1 S1 fun y F2 H2 f2 E2 S2 r2 => hr F2 H2 x y Q S2.fh (r1.up f2) r2 fun v r3 => k v F2 H2 (f1.trans f2) S2 r3⟩
theorem rx_ii {g : Int → Int → V} {i j : Int} {f : PyData} (hg : ∀ F, Rp K F (g i j) f) (ha : RX K ta ρ O (.int i) O1) (hb : RX K tb ρ O1 (.int j) O2) : RX K (tOp (rI0 g) ta tb) ρ O f O2 :=
  rx_op ha hb fun F H x y Q _ rx ry k => by
    cases rx
    cases ry
    exact ⟨i, j, rfl, rfl, k _ (hg F)⟩
theorem rx_iiC {C : Int → Int → Prop} {g : Int → Int → V} {i j : Int} {f : PyData} (hg : ∀ F, Rp K F (g i j) f) (hc : C i j) (ha : RX K ta ρ O (.int i) O1) (hb : RX K tb ρ O1 (.int j) O2) : RX K (tOp (rI C g) ta tb) ρ O f O2 :=
  rx_op ha hb fun F H x y Q _ rx ry k => by
    cases rx
    cases ry
    exact ⟨i, j, rfl, rfl, hc, k _ (hg F)⟩
variable {i j : Int}
theorem rx_add (ha : RX K ta ρ O (.int i) O1) (hb : RX K tb ρ O1 (.int j) O2) : RX K (tOp (rI0 fun i j => .int (i + j)) ta tb) ρ O (.int (i + j)) O2 := rx_ii (fun _ => .int _) ha hb
theorem rx_sub (ha : RX K ta ρ O (.int i) O1) (hb : RX K tb ρ O1 (.int j) O2) : RX K (tOp (rI0 fun i j => .int (i - j)) ta tb) ρ O (.int (i - j)) O2 := rx_ii (fun _ => .int _) ha hb
theorem rx_band (ha : RX K ta ρ O (.int i) O1) (hb : RX K tb ρ O1 (.int j) O2) : RX K (tOp (rI0 fun i j => .int (Builtin.bitAnd i j)) ta tb) ρ O (.int (Builtin.bitAnd i j)) O2 := rx_ii (fun _ => .int _) ha hb
theorem rx_bor (ha : RX K ta ρ O (.int i) O1) (hb : RX K tb ρ O1 (.int j) O2) : RX K (tOp (rI0 fun i j => .int (Builtin.bitOr i j)) ta tb) ρ O (.int (Builtin.bitOr i j)) O2 := rx_ii (fun _ => .int _) ha hb
theorem rx_bxor (ha : RX K ta ρ O (.int i) O1) (hb : RX K tb ρ O1 (.int j) O2) : RX K (tOp (rI0 fun i j => .int (Builtin.bitXor i j)) ta tb) ρ O (.int (Builtin.bitXor i j)) O2 := rx_ii (fun _ => .int _) ha hb
theorem rx_mul (ha : RX K ta ρ O (.int i) O1) (hb : RX K tb ρ O1 (.int j) O2) (hc : CMul i j) : RX K (tOp (rI CMul fun i j => .int (i * j)) ta tb) ρ O (.int (i * j)) O2 := rx_iiC (fun _ => .int _) hc ha hb
theorem rx_mod (ha : RX K ta ρ O (.int i) O1) (hb : RX K tb ρ O1 (.int j) O2) (hc : 0 < j) : RX K (tOp (rI (fun _ j => 0 < j) fun i j => .int (i % j)) ta tb) ρ O (.int (i % j)) O2 := rx_iiC (C := fun _ j => 0 < j) (fun _ => .int _) hc ha hb
theorem rx_fdiv (ha : RX K ta ρ O (.int i) O1) (hb : RX K tb ρ O1 (.int j) O2) (hc : CDiv i j) : RX K (tOp (rI CDiv fun i j => .int (i / j)) ta tb) ρ O (.int (i / j)) O2 := rx_iiC (fun _ => .int _) hc ha hb
theorem rx_pow (ha : RX K ta ρ O (.int i) O1) (hb : RX K tb ρ O1 (.int j) O2) (hc : CPow i j) : RX K (tOp (rI CPow fun i j => .int (i ^ j.toNat)) ta tb) ρ O (.int (i ^ j.toNat)) O2 := rx_iiC (fun _ => .int _) hc ha hb
theorem rx_shl (ha : RX K ta ρ O (.int i) O1) (hb : RX K tb ρ O1 (.int j) O2) (hc : CPow i j) : RX K (tOp (rI CPow fun i j => .int (i * 2 ^ j.toNat)) ta tb) ρ O (.int (i * 2 ^ j.toNat)) O2 := rx_iiC (fun _ => .int _) hc ha hb
theorem rx_shr (ha : RX K ta ρ O (.int i) O1) (hb : RX K tb ρ O1 (.int j) O2) (hc : 0 ≤ j) : RX K (tOp (rI (fun _ j => 0 ≤ j) fun i j => .int (i / 2 ^ j.toNat)) ta tb) ρ O (.int (i / 2 ^ j.toNat)) O2 := rx_iiC (C := fun _ j => 0 ≤ j) (fun _ => .int _) hc ha hb
theorem rx_lt (ha : RX K ta ρ O (.int i) O1) (hb : RX K tb ρ O1 (.int j) O2) : RX K (tOp (rI0 fun i j => .bl (decide (i < j))) ta tb) ρ O (.bool (decide (i < j))) O2 := rx_ii (fun _ => .bl _) ha hb
theorem rx_le (ha : RX K ta ρ O (.int i) O1) (hb : RX K tb ρ O1 (.int j) O2) : RX K (tOp (rI0 fun i j => .bl (decide (i ≤ j))) ta tb) ρ O (.bool (decide (i ≤ j))) O2 := rx_ii (fun _ => .bl _) ha hb
theorem rx_gt (ha : RX K ta ρ O (.int i) O1) (hb : RX K tb ρ O1 (.int j) O2) : RX K (tOp (rI0 fun i j => .bl (decide (j < i))) ta tb) ρ O (.bool (decide (j < i))) O2 := rx_ii (fun _ => .bl _) ha hb
theorem rx_ge (ha : RX K ta ρ O (.int i) O1) (hb : RX K tb ρ O1 (.int j) O2) : RX K (tOp (rI0 fun i j => .bl (decide (j ≤ i))) ta tb) ρ O (.bool (decide (j ≤ i))) O2 := rx_ii (fun _ => .bl _) ha hb
theorem rx_neg {g : Int → V} {f : PyData} (ha : RX K ta ρ O (.int i) O1) (hg : ∀ F, Rp K F (g i) f) : RX K (tUn (rU g) ta) ρ O f O1 := ⟨fun _ _ _ _ _ _ Q E S k =>
  ha.go E S fun x F1 H1 f1 E1 S1 r1 => by
    cases r1
    exact ⟨i, rfl, k _ _ _ f1 S1 (hg _)⟩⟩
theorem rx_usub (ha : RX K ta ρ O (.int i) O1) : RX K (tUn (rU fun i => .int (-i)) ta) ρ O (.int (-i)) O1 := rx_neg ha fun _ => .int _
theorem rx_inv (ha : RX K ta ρ O (.int i) O1) : RX K (tUn (rU fun i => .int (Builtin.bitNot i)) ta) ρ O (.int (Builtin.bitNot i)) O1 := rx_neg ha fun _ => .int _

/-! ### == -/
/-- kinds whose data == tells apart as Lean's = does; ok: the texts within are texts -/
class EqD (α : Type) [Enc α] [DecidableEq α] where
  ok : α → Bool
  eqv : ∀ x y : α, PyData.eqv (enc x) (enc y) = decide (x = y)
  dp : Nat
  dep : ∀ x : α, (enc x).depth ≤ dp
  lay : ∀ x : α, ok x = true → (enc x).canLay0 = true
theorem eqvAll_map {α : Type} [Enc α] [DecidableEq α] [EqD α] : ∀ xs ys : List α, PyData.eqvAll (xs.map enc) (ys.map enc) = decide (xs = ys)
  | [], [] => by simp [PyData.eqvAll]
  | [], y :: ys => by simp [PyData.eqvAll]
  | x :: xs, [] => by simp [PyData.eqvAll]
  | x :: xs, y :: ys => by
    rw [List.map_cons, List.map_cons, PyData.eqvAll, EqD.eqv, eqvAll_map xs ys]
    rw [Bool.eq_iff_iff]
    simp
end

theorem canLayAll_map {α : Type} [Enc α] [DecidableEq α] [EqD α] : ∀ xs : List α, xs.all EqD.ok = true → PyData.canLayAll0 (xs.map enc) = true
  | [], _ => rfl
  | x :: xs, h => by
    rw [List.all_cons, Bool.and_eq_true] at h
    rw [List.map_cons, PyData.canLayAll0, EqD.lay x h.1, canLayAll_map xs h.2]
    rfl
theorem depthAll_map {α : Type} [Enc α] [DecidableEq α] [EqD α] : ∀ xs : List α, PyData.depthAll (xs.map enc) ≤ EqD.dp α
  | [] => Nat.zero_le _
  | x :: xs => by
    rw [List.map_cons, PyData.depthAll]
    have h1 := EqD.dep x
    have h2 := depthAll_map xs
    omega
instance : EqD Int := ⟨fun _ => true, fun x y => by simp [enc, PyData.eqv, Bool.beq_eq_decide_eq], 0, fun _ => Nat.le_refl _, fun _ _ => rfl⟩
instance : EqD Bool := ⟨fun _ => true, fun x y => by simp [enc, PyData.eqv, Bool.beq_eq_decide_eq], 0, fun _ => Nat.le_refl _, fun _ _ => rfl⟩
instance : EqD Str := ⟨PyData.strOk, fun x y => by simp [enc, PyData.eqv, Bool.beq_eq_decide_eq], 0, fun _ => Nat.le_refl _, fun x h => by simpa [enc, PyData.canLay0] using h⟩
instance {α : Type} [Enc α] [DecidableEq α] [EqD α] : EqD (List α) := ⟨fun xs => xs.all EqD.ok, fun x y => by simp only [enc, PyData.eqv, eqvAll_map], EqD.dp α + 1, fun x => by
  have := depthAll_map x
  simp only [enc, PyData.depth]; omega, fun x h => by
  simp only [enc, PyData.canLay0]
  exact canLayAll_map x h⟩
instance {α : Type} [Enc α] [DecidableEq α] [EqD α] : EqD (Tp α) := ⟨fun xs => xs.l.all EqD.ok, fun x y => by
  simp only [enc, PyData.eqv, eqvAll_map]
  cases x; cases y; simp, EqD.dp α + 1, fun x => by
  have := depthAll_map x.l
  simp only [enc, PyData.depth]; omega, fun x h => by
  simp only [enc, PyData.canLay0]
  exact canLayAll_map x.l h⟩
instance {α β : Type} [Enc α] [DecidableEq α] [EqD α] [Enc β] [DecidableEq β] [EqD β] : EqD (α × β) := ⟨fun p => EqD.ok p.1 && EqD.ok p.2, fun x y => by
  simp only [enc, PyData.eqv, PyData.eqvAll, EqD.eqv, Bool.and_true]
  cases x; cases y; rw [Bool.eq_iff_iff]; simp, max (EqD.dp α) (EqD.dp β) + 1, fun x => by
  have h1 := EqD.dep x.1
  have h2 := EqD.dep x.2
  simp only [enc, PyData.depth, PyData.depthAll] at *; omega, fun x h => by
  rw [Bool.and_eq_true] at h
  simp only [enc, PyData.canLay0, PyData.canLayAll0, Bool.and_true, Bool.and_eq_true]
  exact ⟨EqD.lay _ h.1, EqD.lay _ h.2⟩⟩
instance {α β γ : Type} [Enc α] [DecidableEq α] [EqD α] [Enc β] [DecidableEq β] [EqD β] [Enc γ] [DecidableEq γ] [EqD γ] : EqD (T3 α β γ) := ⟨fun p => EqD.ok p.a && (EqD.ok p.b && EqD.ok p.c), fun x y => by
  simp only [enc, PyData.eqv, PyData.eqvAll, EqD.eqv, Bool.and_true]
  cases x; cases y; rw [Bool.eq_iff_iff]; simp, max (EqD.dp α) (max (EqD.dp β) (EqD.dp γ)) + 1, fun x => by
  have h1 := EqD.dep x.a
  have h2 := EqD.dep x.b
  have h3 := EqD.dep x.c
  simp only [enc, PyData.depth, PyData.depthAll] at *; omega, fun x h => by
  rw [Bool.and_eq_true, Bool.and_eq_true] at h
  simp only [enc, PyData.canLay0, PyData.canLayAll0, Bool.and_true, Bool.and_eq_true]
  exact ⟨EqD.lay _ h.1, EqD.lay _ h.2.1, EqD.lay _ h.2.2⟩⟩
instance {α β γ δ : Type} [Enc α] [DecidableEq α] [EqD α] [Enc β] [DecidableEq β] [EqD β] [Enc γ] [DecidableEq γ] [EqD γ] [Enc δ] [DecidableEq δ] [EqD δ] : EqD (T4 α β γ δ) := ⟨fun p => EqD.ok p.a && (EqD.ok p.b && (EqD.ok p.c && EqD.ok p.d)), fun x y => by
  simp only [enc, PyData.eqv, PyData.eqvAll, EqD.eqv, Bool.and_true]
  cases x; cases y; rw [Bool.eq_iff_iff]; simp, max (EqD.dp α) (max (EqD.dp β) (max (EqD.dp γ) (EqD.dp δ))) + 1, fun x => by
  have h1 := EqD.dep x.a
  have h2 := EqD.dep x.b
  have h3 := EqD.dep x.c
  have h4 := EqD.dep x.d
  simp only [enc, PyData.depth, PyData.depthAll] at *; omega, fun x h => by
  rw [Bool.and_eq_true, Bool.and_eq_true, Bool.and_eq_true] at h
  simp only [enc, PyData.canLay0, PyData.canLayAll0, Bool.and_true, Bool.and_eq_true]
  exact ⟨EqD.lay _ h.1, EqD.lay _ h.2.1, EqD.lay _ h.2.2.1, EqD.lay _ h.2.2.2⟩⟩
instance : EqD (Option Int) := ⟨fun _ => true, fun x y => by cases x <;> cases y <;> simp [enc, encO, PyData.eqv, Bool.beq_eq_decide_eq], 0, fun x => by cases x <;> exact Nat.le_refl _, fun x _ => by cases x <;> rfl⟩

section
variable {K : Fg} {ta tb tc : TE} {ρ : List Sl} {O O1 O2 O3 : Os}
/-- two-place rules that read the whole heap -/
theorem rx_opH {r : R2} {d e f : PyData} (ha : RXh K ta ρ O d O1) (hb : RXh K tb ρ O1 e O1)
    (hr : ∀ (H : Hp) (x y : V) (Q : VK), Rp K H x d → Rp K H y e → (∀ v, (∀ F, Rp K F v f) → Q v H) → r x y H Q) : RX K (tOp r ta tb) ρ O f O1 := ⟨fun _ _ _ _ _ _ Q E S k =>
  ha.go E S fun x F1 H1 f1 E1 S1 r1 => hb.go E1 S1 fun y F2 H2 f2 E2 S2 r2 => hr H2 x y Q (r1 F2 H2 f2 S2) (r2 F2 H2 (Same.refl _) S2) fun v r3 => k v F2 H2 (f1.trans f2) S2 (r3 F2)⟩
theorem rx_eqD {α : Type} [Enc α] [DecidableEq α] [EqD α] {x y : α} (ha : RXh K ta ρ O (enc x) O1) (hb : RXh K tb ρ O1 (enc y) O1) (hd : EqD.dp α ≤ 64) (hx : EqD.ok x = true) (hy : EqD.ok y = true) :
    RX K (tOp (rEqD K) ta tb) ρ O (.bool (decide (x = y))) O1 := rx_opH ha hb fun H u v Q ru rv k => by
  have s : ∀ z : α, EqD.ok z = true → SeqAt.shaped (enc z) = true := fun z h => by
    unfold SeqAt.shaped
    rw [EqD.lay z h, Bool.true_and]
    exact decide_eq_true (Nat.le_trans (EqD.dep z) hd)
  refine ⟨enc x, enc y, ru.dp _ _, rv.dp _ _, s x hx, s y hy, ?_⟩
  rw [EqD.eqv]
  exact k _ fun _ => .bl _
theorem rx_neD {α : Type} [Enc α] [DecidableEq α] [EqD α] {x y : α} (ha : RXh K ta ρ O (enc x) O1) (hb : RXh K tb ρ O1 (enc y) O1) (hd : EqD.dp α ≤ 64) (hx : EqD.ok x = true) (hy : EqD.ok y = true) :
    RX K (tOp (rNeD K) ta tb) ρ O (.bool (!decide (x = y))) O1 := rx_opH ha hb fun H u v Q ru rv k => by
  have s : ∀ z : α, EqD.ok z = true → SeqAt.shaped (enc z) = true := fun z h => by
    unfold SeqAt.shaped
    rw [EqD.lay z h, Bool.true_and]
    exact decide_eq_true (Nat.le_trans (EqD.dep z) hd)
  refine ⟨enc x, enc y, ru.dp _ _, rv.dp _ _, s x hx, s y hy, ?_⟩
  rw [EqD.eqv]
  exact k _ fun _ => .bl _
/-- == of texts -/
theorem rx_eqs {i j : Str} (ha : RX K ta ρ O (.str i) O1) (hb : RX K tb ρ O1 (.str j) O2) : RX K (tOp rEq ta tb) ρ O (.bool (decide (i = j))) O2 := rx_op ha hb fun F H x y Q _ rx ry k => by
  cases rx
  cases ry
  refine ⟨rfl, ?_⟩
  rw [show decide (V.str i = V.str j) = decide (i = j) from by simp]
  exact k _ (.bl _)
theorem rx_nes {i j : Str} (ha : RX K ta ρ O (.str i) O1) (hb : RX K tb ρ O1 (.str j) O2) : RX K (tOp rNe ta tb) ρ O (.bool (!decide (i = j))) O2 := rx_op ha hb fun F H x y Q _ rx ry k => by
  cases rx
  cases ry
  refine ⟨rfl, ?_⟩
  rw [show decide (V.str i = V.str j) = decide (i = j) from by simp]
  exact k _ (.bl _)
theorem rx_eqi {i j : Int} (ha : RX K ta ρ O (.int i) O1) (hb : RX K tb ρ O1 (.int j) O2) : RX K (tOp rEq ta tb) ρ O (.bool (decide (i = j))) O2 := rx_op ha hb fun F H x y Q _ rx ry k => by
  cases rx
  cases ry
  refine ⟨rfl, ?_⟩
  rw [show decide (V.int i = V.int j) = decide (i = j) from by simp]
  exact k _ (.bl _)
theorem rx_nei {i j : Int} (ha : RX K ta ρ O (.int i) O1) (hb : RX K tb ρ O1 (.int j) O2) : RX K (tOp rNe ta tb) ρ O (.bool (!decide (i = j))) O2 := rx_op ha hb fun F H x y Q _ rx ry k => by
  cases rx
  cases ry
  refine ⟨rfl, ?_⟩
  rw [show decide (V.int i = V.int j) = decide (i = j) from by simp]
  exact k _ (.bl _)
theorem rx_eqb {i j : Bool} (ha : RX K ta ρ O (.bool i) O1) (hb : RX K tb ρ O1 (.bool j) O2) : RX K (tOp rEq ta tb) ρ O (.bool (decide (i = j))) O2 := rx_op ha hb fun F H x y Q _ rx ry k => by
  cases rx
  cases ry
  refine ⟨rfl, ?_⟩
  rw [show decide (V.bl i = V.bl j) = decide (i = j) from by simp]
  exact k _ (.bl _)
theorem rx_neb {i j : Bool} (ha : RX K ta ρ O (.bool i) O1) (hb : RX K tb ρ O1 (.bool j) O2) : RX K (tOp rNe ta tb) ρ O (.bool (!decide (i = j))) O2 := rx_op ha hb fun F H x y Q _ rx ry k => by
  cases rx
  cases ry
  refine ⟨rfl, ?_⟩
  rw [show decide (V.bl i = V.bl j) = decide (i = j) from by simp]
  exact k _ (.bl _)
/-- is None of what may be None -/
theorem rx_isN {α : Type} [Enc α] {o : Option α} (hn : ∀ x : α, enc x ≠ .none) (ha : RX K ta ρ O (enc o) O1) : RX K (tIsN ta) ρ O (.bool o.isNone) O1 := ⟨fun _ _ _ _ _ _ Q E S k => ha.go E S fun x F1 H1 f1 E1 S1 r1 => by
  have e : decide (x = V.non) = o.isNone := by
    cases o with
    | none => cases r1; rfl
    | some z =>
      have r1 : Rp K F1 x (enc z) := r1
      refine decide_eq_false fun q => ?_
      subst q
      generalize h : enc z = d at r1
      cases r1
      exact hn z h
  rw [e]
  exact k _ _ _ f1 S1 (.bl _)⟩
theorem rx_notN {α : Type} [Enc α] {o : Option α} (hn : ∀ x : α, enc x ≠ .none) (ha : RX K ta ρ O (enc o) O1) : RX K (tNotN ta) ρ O (.bool o.isSome) O1 := ⟨fun _ _ _ _ _ _ Q E S k => ha.go E S fun x F1 H1 f1 E1 S1 r1 => by
  have e : (!decide (x = V.non)) = o.isSome := by
    cases o with
    | none => cases r1; rfl
    | some z =>
      have r1 : Rp K F1 x (enc z) := r1
      have : decide (x = V.non) = false := decide_eq_false fun q => by
        subst q
        generalize h : enc z = d at r1
        cases r1
        exact hn z h
      rw [this]; rfl
  rw [e]
  exact k _ _ _ f1 S1 (.bl _)⟩
end
end TL

namespace TL
open PySem L2
open Enc
/-! ### displays, arguments -/
section
variable {K : Fg} {ta tb tc : TE} {ρ : List Sl} {O O1 O2 O3 : Os} {t : TA}
theorem ra_nil : RA K tNil ρ O [] O := ⟨fun _ _ _ _ _ _ Q E S k => k _ _ _ (Same.refl _) S .nil⟩
theorem ra_cons {d : PyData} {as : List Sl} (ha : RX K ta ρ O d O1) (hr : RA K t ρ O1 as O2) : RA K (tCons ta t) ρ O (.val d :: as) O2 := ⟨fun _ _ _ _ _ _ Q E S k =>
  ha.go E S fun x F1 H1 f1 E1 S1 r1 => hr.go E1 S1 fun xs F2 H2 f2 E2 S2 r2 => k _ F2 H2 (f1.trans f2) S2 (.val (r1.up f2) r2)⟩
theorem ra_own {i : Nat} {a : Addr} {as : List Sl} (h : ρ[i]? = some (.adr a)) (hr : RA K t ρ O as O2) : RA K (tCons (tVar i) t) ρ O (.adr a :: as) O2 := ⟨fun _ _ _ _ _ _ Q E S k =>
  ⟨_, E.adr h, hr.go E S fun xs F2 H2 f2 E2 S2 r2 => k _ F2 H2 f2 S2 (.adr r2)⟩⟩
theorem rx_tup {ds : List PyData} (h : RA K t ρ O (ds.map .val) O1) (hz : ds.length ≤ 1000 := by exact Nat.le_of_ble_eq_true rfl) : RX K (tTup t) ρ O (.tuple ds) O1 := ⟨fun _ _ _ _ _ _ Q E S k => h.go E S fun vs F1 H1 f1 E1 S1 r1 => by
  have r := r1.all
  have hl := r.length
  have hz' : vs.length ≤ sizeLine := Nat.le_trans (by omega : vs.length ≤ 1000) (by decide)
  refine ⟨hz', fun p hp => ?_⟩
  have f2 := same_upd (o := .tup vs) (S1.nof hp)
  exact k _ _ _ (f1.trans f2) (S1.put hp) (.tup (SqT.of upd_same) hz' (r.up f2))⟩
theorem rxo_lst {ds : List PyData} (h : RA K t ρ O (ds.map .val) O1) (hz : ds.length ≤ 1000 := by exact Nat.le_of_ble_eq_true rfl) : RXo K (tLst t) ρ O ds O1 := ⟨fun _ _ _ _ _ _ Q E S k => h.go E S fun vs F1 H1 f1 E1 S1 r1 => by
  have r := r1.all
  have hl := r.length
  have hz' : vs.length ≤ sizeLine := Nat.le_trans (by omega : vs.length ≤ 1000) (by decide)
  exact ⟨hz', fun p hp => k _ _ _ f1 (S1.mine hp hz' r)⟩⟩

/-! ### calls of built-ins, by values -/
theorem rx_cb1 {r : List V → Hp → VK → Prop} {d f : PyData} (ha : RX K ta ρ O d O1) (hr : ∀ (F H : Hp) (x : V) (Q : VK), Same F H → Rp K F x d → (∀ v, Rp K F v f → Q v H) → r [x] H Q) : RX K (tCB r (tCons ta tNil)) ρ O f O1 := ⟨fun _ _ _ _ _ _ Q E S k =>
  ha.go E S fun x F1 H1 f1 E1 S1 r1 => hr F1 H1 x Q S1.fh r1 fun v r3 => k v F1 H1 f1 S1 r3⟩
theorem rx_cb2 {r : List V → Hp → VK → Prop} {d e f : PyData} (ha : RX K ta ρ O d O1) (hb : RX K tb ρ O1 e O2) (hr : ∀ (F H : Hp) (x y : V) (Q : VK), Same F H → Rp K F x d → Rp K F y e → (∀ v, Rp K F v f → Q v H) → r [x, y] H Q) :
    RX K (tCB r (tCons ta (tCons tb tNil))) ρ O f O2 := ⟨fun _ _ _ _ _ _ Q E S k =>
  ha.go E S fun x F1 H1 f1 E1 S1 r1 => hb.go E1 S1 fun y F2 H2 f2 E2 S2 r2 => hr F2 H2 x y Q S2.fh (r1.up f2) r2 fun v r3 => k v F2 H2 (f1.trans f2) S2 r3⟩
/-- over a list that is read -/
theorem rx_cbs {r : List V → Hp → VK → Prop} {ds : List PyData} {f : PyData} (ha : RXs K ta ρ O ds O1)
    (hr : ∀ (F H : Hp) (a : Addr) (vs : List V) (Q : VK), Same F H → SqL K H a vs → vs.length ≤ sizeLine → RpAll K F vs ds → (∀ v, (∀ F, Rp K F v f) → Q v H) → r [.ref a] H Q) : RX K (tCB r (tCons ta tNil)) ρ O f O1 := ⟨fun _ _ _ _ _ _ Q E S k =>
  ha.go E S fun a F1 H1 f1 E1 S1 r1 => by
    obtain ⟨vs, q1, q2, q3⟩ := r1 F1 H1 (Same.refl _) S1
    exact hr F1 H1 a vs Q S1.fh q1 q2 q3 fun v r3 => k v F1 H1 f1 S1 (r3 F1)⟩
abbrev rLenQ (K : Fg) : List V → Hp → VK → Prop := fun xs H Q => ∃ p ys, xs = [.ref p] ∧ (SqL K H p ys ∨ SqT K H p ys) ∧ Q (.int ys.length) H
theorem rx_len {ds : List PyData} (ha : RXs K ta ρ O ds O1) : RX K (tCB (rLenQ K) (tCons ta tNil)) ρ O (.int (ds.length : Nat)) O1 := rx_cbs ha fun F H a vs Q _ h1 h2 h3 k =>
  ⟨a, vs, rfl, .inl h1, by rw [h3.length]; exact k _ fun _ => .int _⟩
theorem rx_lenT {ds : List PyData} (ha : RX K ta ρ O (.tuple ds) O1) : RX K (tCB (rLenQ K) (tCons ta tNil)) ρ O (.int (ds.length : Nat)) O1 := rx_cb1 ha fun F H x Q f r k => by
  cases r with
  | tup h1 h2 h3 => exact ⟨_, _, rfl, .inr (same_t f h1), by rw [h3.length]; exact k _ (.int _)⟩
theorem rx_lenS {z : Str} (ha : RX K ta ρ O (.str z) O1) (hz : z.length ≤ sizeLine) : RX K (tCB (fun xs H Q => ∃ z, xs = [.str z] ∧ z.length ≤ sizeLine ∧ Q (.int z.length) H) (tCons ta tNil)) ρ O (.int z.length) O1 := rx_cb1 ha fun F H x Q f r k => by
  cases r
  exact ⟨_, rfl, hz, k _ (.int _)⟩
theorem rx_sum {ns : List Int} (ha : RXs K ta ρ O (ns.map .int) O1) : RX K (tCB (rSum K) (tCons ta tNil)) ρ O (.int ns.sum) O1 := rx_cbs ha fun F H a vs Q _ h1 h2 h3 k =>
  ⟨a, ns, rfl, (by rw [← h3.ints]; exact h1), k _ fun _ => .int _⟩
theorem rx_all {ns : List Bool} (ha : RXs K ta ρ O (ns.map .bool) O1) : RX K (tCB (rAll K) (tCons ta tNil)) ρ O (.bool (ns.all id)) O1 := rx_cbs ha fun F H a vs Q _ h1 h2 h3 k =>
  ⟨a, ns, rfl, (by rw [← h3.bools]; exact h1), k _ fun _ => .bl _⟩
def maxO (ns : List Int) : Option Int := ns.max?
def minO (ns : List Int) : Option Int := ns.min?
theorem rx_max {ns : List Int} {m : Int} (hm : maxO ns = some m) (ha : RXs K ta ρ O (ns.map .int) O1) : RX K (tCB (rMax K) (tCons ta tNil)) ρ O (.int m) O1 := rx_cbs ha fun F H a vs Q _ h1 h2 h3 k => by
  have hm' : ns.max? = some m := hm
  rw [List.max?_eq_some_iff] at hm'
  refine ⟨a, ns, rfl, (by rw [← h3.ints]; exact h1), ?_, fun m' h4 h5 => ?_⟩
  · cases ns with
    | nil => simp at hm'
    | cons _ _ => exact Nat.succ_pos _
  · have e : m' = m := Int.le_antisymm (hm'.2 _ h4) (h5 _ hm'.1)
    subst e
    exact k _ fun _ => .int _
theorem rx_min {ns : List Int} {m : Int} (hm : minO ns = some m) (ha : RXs K ta ρ O (ns.map .int) O1) : RX K (tCB (rMin K) (tCons ta tNil)) ρ O (.int m) O1 := rx_cbs ha fun F H a vs Q _ h1 h2 h3 k => by
  have hm' : ns.min? = some m := hm
  rw [List.min?_eq_some_iff] at hm'
  refine ⟨a, ns, rfl, (by rw [← h3.ints]; exact h1), ?_, fun m' h4 h5 => ?_⟩
  · cases ns with
    | nil => simp at hm'
    | cons _ _ => exact Nat.succ_pos _
  · have e : m' = m := Int.le_antisymm (h5 _ hm'.1) (hm'.2 _ h4)
    subst e
    exact k _ fun _ => .int _
def max2 (i j : Int) : Int := if j > i then j else i
def min2 (i j : Int) : Int := if j < i then j else i
def abs1 (i : Int) : Int := if i < 0 then -i else i
theorem rx_max2 {i j : Int} (ha : RX K ta ρ O (.int i) O1) (hb : RX K tb ρ O1 (.int j) O2) : RX K (tCB (fun xs H Q => ∃ i j, xs = [.int i, .int j] ∧ Q (.int (if j > i then j else i)) H) (tCons ta (tCons tb tNil))) ρ O (.int (max2 i j)) O2 := rx_cb2 ha hb fun F H x y Q f r s k => by
  cases r
  cases s
  exact ⟨i, j, rfl, k _ (.int _)⟩
theorem rx_min2 {i j : Int} (ha : RX K ta ρ O (.int i) O1) (hb : RX K tb ρ O1 (.int j) O2) : RX K (tCB (fun xs H Q => ∃ i j, xs = [.int i, .int j] ∧ Q (.int (if j < i then j else i)) H) (tCons ta (tCons tb tNil))) ρ O (.int (min2 i j)) O2 := rx_cb2 ha hb fun F H x y Q f r s k => by
  cases r
  cases s
  exact ⟨i, j, rfl, k _ (.int _)⟩
theorem rx_abs {i : Int} (ha : RX K ta ρ O (.int i) O1) : RX K (tCB (fun xs H Q => ∃ i, xs = [.int i] ∧ Q (.int (if i < 0 then -i else i)) H) (tCons ta tNil)) ρ O (.int (abs1 i)) O1 := rx_cb1 ha fun F H x Q f r k => by
  cases r
  exact ⟨i, rfl, k _ (.int _)⟩

/-! ### items -/
theorem atI_map {α β : Type} (f : α → β) {xs : List α} {i : Int} {x : α} (h : atI xs i = some x) : atI (xs.map f) i = some (f x) := by
  unfold atI at h ⊢
  rw [List.length_map]
  cases e : ixN xs.length i with
  | none => rw [e] at h; simp at h
  | some j =>
    rw [e] at h
    simp only [Option.bind_some] at h ⊢
    rw [List.getElem?_map, h]
    rfl
theorem RpAll.atI {K : Fg} {F : Hp} {vs : List V} {ds : List PyData} (r : RpAll K F vs ds) {i : Int} {d : PyData} (h : L2.atI ds i = some d) : ∃ v, L2.atI vs i = some v ∧ Rp K F v d := by
  unfold L2.atI at h ⊢
  rw [r.length]
  cases e : ixN ds.length i with
  | none => rw [e] at h; simp at h
  | some j =>
    rw [e] at h
    simp only [Option.bind_some] at h ⊢
    exact r.get h
theorem rx_ix {ds : List PyData} {i : Int} {d : PyData} (h : atI ds i = some d) (ha : RXs K ta ρ O ds O1) (hb : RX K tb ρ O1 (.int i) O1) : RX K (tOp (rIxL K) ta tb) ρ O d O1 := ⟨fun _ _ _ _ _ _ Q E S k =>
  ha.go E S fun a F1 H1 f1 E1 S1 r1 => hb.go E1 S1 fun y F2 H2 f2 E2 S2 r2 => by
    cases r2
    obtain ⟨vs, q1, q2, q3⟩ := r1 F2 H2 f2 S2
    obtain ⟨v, e, r⟩ := q3.atI h
    exact ⟨a, vs, i, v, rfl, rfl, q1, e, k v F2 H2 (f1.trans f2) S2 r⟩⟩
/-- a list just made, its place reckoned with changes -/
theorem rx_ixF {ds : List PyData} {i : Int} {d : PyData} (h : atI ds i = some d) (ha : RX K ta ρ O (.list ds) O1) (hb : RX K tb ρ O1 (.int i) O2) : RX K (tOp (rIxL K) ta tb) ρ O d O2 := ⟨fun _ _ _ _ _ _ Q E S k =>
  ha.go E S fun x F1 H1 f1 E1 S1 r1 => hb.go E1 S1 fun y F2 H2 f2 E2 S2 r2 => by
    cases r2
    have r1' := r1.up f2
    cases r1' with
    | lst q1 q2 q3 =>
      obtain ⟨v, e, r⟩ := q3.atI h
      exact ⟨_, _, i, v, rfl, rfl, S2.fh.seq q1, e, k v F2 H2 (f1.trans f2) S2 r⟩⟩
theorem rx_ixT {ds : List PyData} {i : Int} {d : PyData} (h : atI ds i = some d) (ha : RX K ta ρ O (.tuple ds) O1) (hb : RX K tb ρ O1 (.int i) O2) : RX K (tOp (rIxT K) ta tb) ρ O d O2 := ⟨fun _ _ _ _ _ _ Q E S k =>
  ha.go E S fun x F1 H1 f1 E1 S1 r1 => hb.go E1 S1 fun y F2 H2 f2 E2 S2 r2 => by
    cases r2
    have r1' := r1.up f2
    cases r1' with
    | tup q1 q2 q3 =>
      obtain ⟨v, e, r⟩ := q3.atI h
      exact ⟨_, _, i, v, rfl, rfl, same_t S2.fh q1, e, k v F2 H2 (f1.trans f2) S2 r⟩⟩
def signAt (z : Str) (i : Int) : Option Str := if z.length ≤ sizeLine then (atI z.cps.toList i).map fun c => ⟨#[c]⟩ else none
theorem rx_ixS {z : Str} {i : Int} {c : Str} (h : signAt z i = some c) (ha : RX K ta ρ O (.str z) O1) (hb : RX K tb ρ O1 (.int i) O2) : RX K (tOp rIxS ta tb) ρ O (.str c) O2 := rx_op ha hb fun F H x y Q f r s k => by
  cases r
  cases s
  unfold signAt at h
  split at h
  · rename_i hz
    cases e : atI z.cps.toList i with
    | none => rw [e] at h; cases h
    | some n =>
      rw [e] at h
      cases h
      exact ⟨z, i, n, rfl, rfl, hz, e, k _ (.str _)⟩
  · cases h

/-! ### in -/
theorem inV_ints (x : Int) (xs : List Int) : inV (.int x) (xs.map V.int) = decide (x ∈ xs) := by
  induction xs with
  | nil => rfl
  | cons a xs ih =>
    show (eqV (.int a) (.int x) || inV (.int x) (xs.map V.int)) = _
    rw [ih, show eqV (.int a) (.int x) = (a == x) from rfl, Bool.eq_iff_iff]
    simp only [Bool.or_eq_true, beq_iff_eq, decide_eq_true_eq, List.mem_cons]
    exact ⟨fun h => h.imp Eq.symm id, fun h => h.imp Eq.symm id⟩
theorem flat_ints (xs : List Int) : (xs.map V.int).all flatV = true := by simp [flatV]
theorem inV_strs (x : Str) (xs : List Str) : inV (.str x) (xs.map V.str) = decide (x ∈ xs) := by
  induction xs with
  | nil => rfl
  | cons a xs ih =>
    show (eqV (.str a) (.str x) || inV (.str x) (xs.map V.str)) = _
    rw [ih, show eqV (.str a) (.str x) = (a == x) from rfl, Bool.eq_iff_iff]
    simp only [Bool.or_eq_true, beq_iff_eq, decide_eq_true_eq, List.mem_cons]
    exact ⟨fun h => h.imp Eq.symm id, fun h => h.imp Eq.symm id⟩
theorem flat_strs (xs : List Str) : (xs.map V.str).all flatV = true := by simp [flatV]
theorem rx_inI {x : Int} {xs : List Int} {neg : Bool} (ha : RX K ta ρ O (.int x) O1) (hb : RXs K tb ρ O1 (xs.map .int) O2) : RX K (tOp (rIn K neg) ta tb) ρ O (.bool (if neg then !decide (x ∈ xs) else decide (x ∈ xs))) O2 := ⟨fun _ _ _ _ _ _ Q E S k =>
  ha.go E S fun v F1 H1 f1 E1 S1 r1 => hb.go E1 S1 fun a F2 H2 f2 E2 S2 r2 => by
    cases r1
    obtain ⟨vs, q1, q2, q3⟩ := r2 F2 H2 (Same.refl _) S2
    have e := q3.ints
    subst e
    refine ⟨a, _, rfl, .inl q1, rfl, flat_ints xs, ?_⟩
    rw [inV_ints]
    exact k _ F2 H2 (f1.trans f2) S2 (.bl _)⟩
theorem rx_inS {x : Str} {xs : List Str} {neg : Bool} (ha : RX K ta ρ O (.str x) O1) (hb : RXs K tb ρ O1 (xs.map .str) O2) : RX K (tOp (rIn K neg) ta tb) ρ O (.bool (if neg then !decide (x ∈ xs) else decide (x ∈ xs))) O2 := ⟨fun _ _ _ _ _ _ Q E S k =>
  ha.go E S fun v F1 H1 f1 E1 S1 r1 => hb.go E1 S1 fun a F2 H2 f2 E2 S2 r2 => by
    cases r1
    obtain ⟨vs, q1, q2, q3⟩ := r2 F2 H2 (Same.refl _) S2
    have e := q3.strs
    subst e
    refine ⟨a, _, rfl, .inl q1, rfl, flat_strs xs, ?_⟩
    rw [inV_strs]
    exact k _ F2 H2 (f1.trans f2) S2 (.bl _)⟩
theorem rx_inIT {x : Int} {xs : List Int} {neg : Bool} (ha : RX K ta ρ O (.int x) O1) (hb : RX K tb ρ O1 (.tuple (xs.map .int)) O2) : RX K (tOp (rIn K neg) ta tb) ρ O (.bool (if neg then !decide (x ∈ xs) else decide (x ∈ xs))) O2 := rx_op ha hb fun F H u v Q f r s k => by
  cases r
  cases s with
  | tup q1 q2 q3 =>
    have e := q3.ints
    subst e
    refine ⟨_, _, rfl, .inr (same_t f q1), rfl, flat_ints xs, ?_⟩
    rw [inV_ints]
    exact k _ (.bl _)
theorem rx_inST {x : Str} {xs : List Str} {neg : Bool} (ha : RX K ta ρ O (.str x) O1) (hb : RX K tb ρ O1 (.tuple (xs.map .str)) O2) : RX K (tOp (rIn K neg) ta tb) ρ O (.bool (if neg then !decide (x ∈ xs) else decide (x ∈ xs))) O2 := rx_op ha hb fun F H u v Q f r s k => by
  cases r
  cases s with
  | tup q1 q2 q3 =>
    have e := q3.strs
    subst e
    refine ⟨_, _, rfl, .inr (same_t f q1), rfl, flat_strs xs, ?_⟩
    rw [inV_strs]
    exact k _ (.bl _)

/-! ### slices -/
theorem ro_none : RO K tNoPart ρ O none O := ⟨fun _ _ _ _ _ _ Q E S k => k _ _ (Same.refl _) S⟩
theorem ro_some {i : Int} (h : RX K ta ρ O (.int i) O1) : RO K (tPart ta) ρ O (some i) O1 := ⟨fun _ _ _ _ _ _ Q E S k => h.go E S fun x F1 H1 f1 E1 S1 r1 => by
  cases r1
  exact ⟨i, rfl, k _ _ f1 S1⟩⟩
def cutL {α : Type} (xs : List α) (lo hi : Option Int) : List α := (xs.drop (HT.sIx xs.length 0 lo)).take (HT.sIx xs.length xs.length hi - HT.sIx xs.length 0 lo)
theorem cutL_map {α β : Type} (f : α → β) (xs : List α) (lo hi : Option Int) : (cutL xs lo hi).map f = cutL (xs.map f) lo hi := by
  unfold cutL
  rw [List.map_take, List.map_drop, List.length_map]
theorem RpAll.cut {K : Fg} {F : Hp} {vs : List V} {ds : List PyData} (r : RpAll K F vs ds) (lo hi : Option Int) : RpAll K F (cutV vs lo hi) (cutL ds lo hi) := by
  unfold cutV cutL
  rw [r.length]
  exact (r.drop _).take _
theorem rxo_slice {ds : List PyData} {tl th : TO} {lo hi : Option Int} (ha : RXs K ta ρ O ds O1) (hl : RO K tl ρ O1 lo O1) (hh : RO K th ρ O1 hi O1) : RXo K (tSl (rSlL K) ta tl th) ρ O (cutL ds lo hi) O1 := ⟨fun _ _ _ _ _ _ Q E S k =>
  ha.go E S fun a F1 H1 f1 E1 S1 r1 => hl.go E1 S1 fun F2 H2 f2 E2 S2 => hh.go E2 S2 fun F3 H3 f3 E3 S3 => by
    obtain ⟨vs, q1, q2, q3⟩ := r1 F3 H3 (f2.trans f3) S3
    exact ⟨a, vs, rfl, q1, fun p hp => k p F3 _ ((f1.trans f2).trans f3) (S3.mine hp (Nat.le_trans (cutV_length _ _ _) q2) (q3.cut lo hi))⟩⟩
/-- .. its bounds reckoned with changes -/
theorem rxo_sliceF {ds : List PyData} {tl th : TO} {lo hi : Option Int} (ha : RX K ta ρ O (.list ds) O1) (hl : RO K tl ρ O1 lo O2) (hh : RO K th ρ O2 hi O3) : RXo K (tSl (rSlL K) ta tl th) ρ O (cutL ds lo hi) O3 := ⟨fun _ _ _ _ _ _ Q E S k =>
  ha.go E S fun x F1 H1 f1 E1 S1 r1 => hl.go E1 S1 fun F2 H2 f2 E2 S2 => hh.go E2 S2 fun F3 H3 f3 E3 S3 => by
    have r1' := r1.up (f2.trans f3)
    cases r1' with
    | lst q1 q2 q3 => exact ⟨_, _, rfl, S3.fh.seq q1, fun p hp => k p F3 _ ((f1.trans f2).trans f3) (S3.mine hp (Nat.le_trans (cutV_length _ _ _) q2) (q3.cut lo hi))⟩⟩
theorem rxo_rev {ds : List PyData} (ha : RXs K ta ρ O ds O1) : RXo K (tRevL K ta) ρ O ds.reverse O1 := ⟨fun _ _ _ _ _ _ Q E S k =>
  ha.go E S fun a F1 H1 f1 E1 S1 r1 => by
    obtain ⟨vs, q1, q2, q3⟩ := r1 F1 H1 (Same.refl _) S1
    exact ⟨a, vs, rfl, q1, fun p hp => k p F1 _ f1 (S1.mine hp (by rw [List.length_reverse]; exact q2) q3.reverse)⟩⟩
theorem cutV_whole {α : Type} (xs : List α) {lo hi : Option Int} (h : HT.sIx xs.length 0 lo = 0 ∧ HT.sIx xs.length xs.length hi = xs.length) : cutL xs lo hi = xs := by
  unfold cutL
  rw [h.1, h.2]
  simp
theorem rx_sliceT {ds : List PyData} {tl th : TO} {lo hi : Option Int} (ha : RX K ta ρ O (.tuple ds) O1) (hl : RO K tl ρ O1 lo O2) (hh : RO K th ρ O2 hi O3) : RX K (tSl (rSlA K) ta tl th) ρ O (.tuple (cutL ds lo hi)) O3 := ⟨fun _ _ _ _ _ _ Q E S k =>
  ha.go E S fun x F1 H1 f1 E1 S1 r1 => hl.go E1 S1 fun F2 H2 f2 E2 S2 => hh.go E2 S2 fun F3 H3 f3 E3 S3 => by
    have r1' := r1.up (f2.trans f3)
    cases r1' with
    | @tup _ xs _ q1 q2 q3 =>
      refine ⟨_, _, rfl, same_t S3.fh q1, fun hw => ?_, fun _ p hp => ?_⟩
      · rw [cutV_whole ds (by rw [← q3.length]; exact hw)] at k
        exact k _ F3 _ ((f1.trans f2).trans f3) S3 (.tup q1 q2 q3)
      · have f4 := same_upd (o := .tup (cutV xs lo hi)) (S3.nof hp)
        exact k _ _ _ (((f1.trans f2).trans f3).trans f4) (S3.put hp) (.tup (SqT.of upd_same) (Nat.le_trans (cutV_length _ _ _) q2) ((q3.cut lo hi).up f4))⟩

/-! ### list(), tuple(), + -/
abbrev rListOf (K : Fg) : List V → Hp → VK → Prop := fun xs H Q => ∃ p ys, xs = [.ref p] ∧ (SqL K H p ys ∨ SqT K H p ys) ∧ ∀ l, H l = none → Q (.ref l) (upd H l (.lst ys))
theorem rxo_list {ds : List PyData} (ha : RXs K ta ρ O ds O1) : RXo K (tCB (rListOf K) (tCons ta tNil)) ρ O ds O1 := ⟨fun _ _ _ _ _ _ Q E S k =>
  ha.go E S fun a F1 H1 f1 E1 S1 r1 => by
    obtain ⟨vs, q1, q2, q3⟩ := r1 F1 H1 (Same.refl _) S1
    exact ⟨a, vs, rfl, .inl q1, fun p hp => k p F1 _ f1 (S1.mine hp q2 q3)⟩⟩
theorem rxo_listT {ds : List PyData} (ha : RX K ta ρ O (.tuple ds) O1) : RXo K (tCB (rListOf K) (tCons ta tNil)) ρ O ds O1 := ⟨fun _ _ _ _ _ _ Q E S k =>
  ha.go E S fun x F1 H1 f1 E1 S1 r1 => by
    cases r1 with
    | tup q1 q2 q3 => exact ⟨_, _, rfl, .inr (same_t S1.fh q1), fun p hp => k p F1 _ f1 (S1.mine hp q2 q3)⟩⟩
abbrev rTupleOf (K : Fg) : List V → Hp → VK → Prop := fun xs H Q => ∃ p ys, xs = [.ref p] ∧ ((SqL K H p ys ∧ ∀ l, H l = none → Q (.ref l) (upd H l (.tup ys))) ∨ (SqT K H p ys ∧ Q (.ref p) H))
theorem rx_tuple {ds : List PyData} (ha : RXs K ta ρ O ds O1) : RX K (tCB (rTupleOf K) (tCons ta tNil)) ρ O (.tuple ds) O1 := ⟨fun _ _ _ _ _ _ Q E S k =>
  ha.go E S fun a F1 H1 f1 E1 S1 r1 => by
    obtain ⟨vs, q1, q2, q3⟩ := r1 F1 H1 (Same.refl _) S1
    refine ⟨a, vs, rfl, .inl ⟨q1, fun p hp => ?_⟩⟩
    have f2 := same_upd (o := .tup vs) (S1.nof hp)
    exact k _ _ _ (f1.trans f2) (S1.put hp) (.tup (SqT.of upd_same) q2 (q3.up f2))⟩
/-- lists of any making -/
def rCatR (K : Fg) : R2 := fun x y H Q => ∃ l b xs zs, x = .ref l ∧ y = .ref b ∧ SqL K H l xs ∧ SqL K H b zs ∧ xs.length + zs.length ≤ sizeLine ∧ ∀ p, H p = none → Q (.ref p) (upd H p (.lst (xs ++ zs)))
theorem op_catR {X : Cx} : OpR X (binaryOp .Add) (rCatR X.K) := by
  intro pins s σ H x y v u Q I rx ry h
  obtain ⟨l, b, xs, zs, rfl, rfl, hH, hB, hz, q⟩ := h
  cases rx
  cases ry
  obtain ⟨its, r, ⟨⟨cls, dd, data, sl⟩, n, ho, hc, hd, hx⟩, z⟩ := I.list hH
  obtain ⟨its2, r2, ⟨⟨cls2, dd2, data2, sl2⟩, n2, ho2, hc2, hd2, hx2⟩, z2⟩ := I.list hB
  have hl := r.length
  have hl2 := r2.length
  simp only at hc hd hx hc2 hd2 hx2
  subst hc hx hc2 hx2
  have e : its.toArray ++ its2.toArray = (its ++ its2).toArray := by simp
  refine concat_meets ⟨_, ho, rfl⟩ ⟨_, ho2, rfl⟩ noFill_list_add seq_list_add PySem.F.slot_list_add PySem.F.entry_list_add (PySem.F.args_list_add_2 _ _)
    (PyProof.Rows.list_addW l b its.toArray its2.toArray n n2 dd dd2 sl sl2 (by rw [List.size_toArray, List.size_toArray]; omega)) ⟨ho, ho2, ?_⟩
  rw [e]
  exact ⟨.ref _, _, I.lnew (t' := s.toks) (r.append r2) (by rw [List.length_append]; omega), rfl, q _ I.fresh⟩
theorem rxo_cat {ds es : List PyData} (ha : RXs K ta ρ O ds O1) (hb : RXs K tb ρ O1 es O1) (hz : ds.length + es.length ≤ sizeLine) : RXo K (tOp (rCatR K) ta tb) ρ O (ds ++ es) O1 := ⟨fun _ _ _ _ _ _ Q E S k =>
  ha.go E S fun a F1 H1 f1 E1 S1 r1 => hb.go E1 S1 fun b F2 H2 f2 E2 S2 r2 => by
    obtain ⟨vs, q1, q2, q3⟩ := r1 F2 H2 f2 S2
    obtain ⟨ws, p1, p2, p3⟩ := r2 F2 H2 (Same.refl _) S2
    have e1 := q3.length
    have e2 := p3.length
    exact ⟨a, b, vs, ws, rfl, rfl, q1, p1, by omega, fun p hp => k p F2 _ (f1.trans f2) (S2.mine hp (by rw [List.length_append]; omega) (q3.append p3))⟩⟩
theorem rxo_catF {ds es : List PyData} (ha : RX K ta ρ O (.list ds) O1) (hb : RX K tb ρ O1 (.list es) O2) (hz : ds.length + es.length ≤ sizeLine) : RXo K (tOp (rCatR K) ta tb) ρ O (ds ++ es) O2 := ⟨fun _ _ _ _ _ _ Q E S k =>
  ha.go E S fun x F1 H1 f1 E1 S1 r1 => hb.go E1 S1 fun y F2 H2 f2 E2 S2 r2 => by
    have r1' := r1.up f2
    cases r1' with
    | lst q1 q2 q3 =>
      cases r2 with
      | lst p1 p2 p3 =>
        have e1 := q3.length
        have e2 := p3.length
        exact ⟨_, _, _, _, rfl, rfl, S2.fh.seq q1, S2.fh.seq p1, by omega, fun p hp => k p F2 _ (f1.trans f2) (S2.mine hp (by rw [List.length_append]; omega) (q3.append p3))⟩⟩
theorem rx_catT {ds es : List PyData} (ha : RX K ta ρ O (.tuple ds) O1) (hb : RX K tb ρ O1 (.tuple es) O2) (hz : ds.length + es.length ≤ sizeLine) : RX K (tOp (rCatA K) ta tb) ρ O (.tuple (ds ++ es)) O2 := ⟨fun _ _ _ _ _ _ Q E S k =>
  ha.go E S fun x F1 H1 f1 E1 S1 r1 => hb.go E1 S1 fun y F2 H2 f2 E2 S2 r2 => by
    have r1' := r1.up f2
    cases r1' with
    | @tup _ xs _ q1 q2 q3 =>
      cases r2 with
      | @tup _ ys _ p1 p2 p3 =>
        have e1 := q3.length
        have e2 := p3.length
        refine ⟨_, _, _, _, rfl, rfl, same_t S2.fh q1, same_t S2.fh p1, by omega, fun e => ?_, fun _ e => ?_, fun _ _ p hp => ?_⟩
        · subst e
          cases q3
          exact k _ F2 _ (f1.trans f2) S2 (.tup p1 p2 p3)
        · subst e
          cases p3
          rw [List.append_nil] at k
          exact k _ F2 _ (f1.trans f2) S2 (.tup q1 q2 q3)
        · have f3 := same_upd (o := .tup (xs ++ ys)) (S2.nof hp)
          exact k _ _ _ ((f1.trans f2).trans f3) (S2.put hp) (.tup (SqT.of upd_same) (by rw [List.length_append]; omega) ((q3.append p3).up f3))⟩
/-- list * int, the list just made -/
theorem rxo_rep {ds : List PyData} {i : Int} (ha : RXo K ta ρ O ds O1) (hb : ∀ p, RX K tb ρ (⟨p, true, ds⟩ :: O1) (.int i) (⟨p, true, ds⟩ :: O1)) (hz : ds.length * i.toNat ≤ sizeLine) (hi : -(2 ^ 63) ≤ i ∧ i < 2 ^ 63) :
    RXo K (tOp rRep ta tb) ρ O (List.replicate i.toNat ds).flatten O1 := ⟨fun _ _ _ _ _ _ Q E S k =>
  ha.go E S fun l F1 H1 f1 E1 S1 => (hb l).go E1 S1 fun y F2 H2 f2 E2 S2 r2 => by
    cases r2
    obtain ⟨_, _, _, vs, g4, g5, g6⟩ := S2.get (j := 0) rfl
    have g4 : H2 l = some (.lst vs) := g4
    have e1 : vs.length = ds.length := RpAll.length g6
    have S3 : Hx K _ _ _ F2 O1 H2 := ⟨S2.f0, S2.fh, S2.keep, S2.live, S2.new, fun p hp => S2.own p (List.mem_cons_of_mem _ hp), (List.nodup_cons.mp S2.nd).2⟩
    exact ⟨l, i, vs, rfl, rfl, g4, hi.1, hi.2, by rw [e1]; exact hz, fun p hp => k p F2 _ (f1.trans f2) (S3.mine hp (by simp only [List.length_flatten, List.map_replicate, List.sum_replicate_nat]; rw [e1, Nat.mul_comm]; exact hz) (RpAll.rep g6 _))⟩⟩
end
end TL

namespace TL
open PySem L2
open Enc
theorem Hx.drop {K : Fg} {F0 H0 F H : Hp} {D0 : List Addr} {O : Os} (S : Hx K F0 H0 D0 F O H) (j : Nat) : Hx K F0 H0 D0 F (O.eraseIdx j) H :=
  ⟨S.f0, S.fh, S.keep, S.live, S.new, fun p hp => S.own p (List.mem_of_mem_eraseIdx hp), S.nd.sublist ((List.eraseIdx_sublist O j).map OE.a)⟩
/-- a thing that is made and not looked at again -/
theorem Hx.junk {K : Fg} {F0 H0 F H : Hp} {D0 : List Addr} {O : Os} (S : Hx K F0 H0 D0 F O H) {p : Addr} {o : HO} (h : H p = none) : Hx K F0 H0 D0 F O (upd H p o) := by
  refine ⟨S.f0, S.fh.trans (same_upd h), fun a u e n => ?_, fun a u e => ?_, S.new, fun q hq => ?_, S.nd⟩
  · have := S.keep a u e n
    rw [upd_ne (ne_of_none this h)]
    exact this
  · obtain ⟨u', e'⟩ := S.live a u e
    exact ⟨u', by rw [upd_ne (ne_of_none e' h)]; exact e'⟩
  · obtain ⟨h1, h2, h3, h4⟩ := S.own q hq
    obtain ⟨u, h5⟩ := h4.live
    exact ⟨h1, h2, h3, h4.at (upd_ne (ne_of_none h5 h))⟩
section
variable {K : Fg} {ta tb tc : TE} {ρ : List Sl} {O O1 O2 O3 : Os} {t : TA} {tt tu : TT}
/-! ### tests, truth values -/
theorem rt_val {b : Bool} (h : RX K ta ρ O (.bool b) O1) : RT K (tTest ta) ρ O b O1 := ⟨fun _ _ _ _ _ _ Q E S k => h.go E S fun x F1 H1 f1 E1 S1 r1 => by
  cases r1
  exact ⟨b, rfl, k F1 H1 f1 S1⟩⟩
theorem rt_b {b : Bool} (h : RX K ta ρ O (.bool b) O1) : RT K (tB ta) ρ O b O1 := ⟨fun _ _ _ _ _ _ Q E S k => h.go E S fun x F1 H1 f1 E1 S1 r1 => by
  cases r1
  exact ⟨b, rfl, k F1 H1 f1 S1⟩⟩
theorem rt_and {a c : Bool} (ha : RT K tt ρ O a O1) (h1 : a = true → RT K tu ρ O1 c O2) (h0 : a = false → c = false ∧ O2 = O1) : RT K (tAnd tt tu) ρ O c O2 := ⟨fun _ _ _ _ _ _ Q E S k => ha.go E S fun F1 H1 f1 E1 S1 => by
  cases a with
  | true =>
    have r := h1 rfl
    exact iteT (r.go E1 S1 fun F2 H2 f2 E2 S2 => k F2 H2 (f1.trans f2) S2)
  | false =>
    obtain ⟨e, e2⟩ := h0 rfl
    subst e
    subst e2
    exact iteF (k F1 H1 f1 S1)⟩
theorem rt_or {a c : Bool} (ha : RT K tt ρ O a O1) (h1 : a = false → RT K tu ρ O1 c O2) (h0 : a = true → c = true ∧ O2 = O1) : RT K (tOr tt tu) ρ O c O2 := ⟨fun _ _ _ _ _ _ Q E S k => ha.go E S fun F1 H1 f1 E1 S1 => by
  cases a with
  | false =>
    have r := h1 rfl
    exact iteF (r.go E1 S1 fun F2 H2 f2 E2 S2 => k F2 H2 (f1.trans f2) S2)
  | true =>
    obtain ⟨e, e2⟩ := h0 rfl
    subst e
    subst e2
    exact iteT (k F1 H1 f1 S1)⟩
theorem rt_and2 {a b : Bool} (ha : RT K tt ρ O a O) (hb : RT K tu ρ O b O) : RT K (tAnd tt tu) ρ O (a && b) O := rt_and ha (fun e => by rw [e]; exact hb) fun e => ⟨by rw [e]; rfl, rfl⟩
theorem rt_or2 {a b : Bool} (ha : RT K tt ρ O a O) (hb : RT K tu ρ O b O) : RT K (tOr tt tu) ρ O (a || b) O := rt_or ha (fun e => by rw [e]; exact hb) fun e => ⟨by rw [e]; rfl, rfl⟩
theorem rt_not {a : Bool} (ha : RT K tt ρ O a O1) : RT K (tNot tt) ρ O (!a) O1 := ⟨fun _ _ _ _ _ _ Q E S k => ha.go E S fun F1 H1 f1 E1 S1 => k F1 H1 f1 S1⟩
theorem rx_and {a c : Bool} (ha : RX K ta ρ O (.bool a) O1) (h1 : a = true → RX K tb ρ O1 (.bool c) O2) (h0 : a = false → c = false ∧ O2 = O1) : RX K (tAndV ta tb) ρ O (.bool c) O2 := ⟨fun _ _ _ _ _ _ Q E S k => ha.go E S fun x F1 H1 f1 E1 S1 r1 => by
  cases r1
  refine ⟨a, rfl, ?_⟩
  cases a with
  | true =>
    have r := h1 rfl
    exact iteT (r.go E1 S1 fun v F2 H2 f2 E2 S2 r2 => k v F2 H2 (f1.trans f2) S2 r2)
  | false =>
    obtain ⟨e, e2⟩ := h0 rfl
    subst e
    subst e2
    exact iteF (k _ F1 H1 f1 S1 (.bl false))⟩
theorem rx_or {a c : Bool} (ha : RX K ta ρ O (.bool a) O1) (h1 : a = false → RX K tb ρ O1 (.bool c) O2) (h0 : a = true → c = true ∧ O2 = O1) : RX K (tOrV ta tb) ρ O (.bool c) O2 := ⟨fun _ _ _ _ _ _ Q E S k => ha.go E S fun x F1 H1 f1 E1 S1 r1 => by
  cases r1
  refine ⟨a, rfl, ?_⟩
  cases a with
  | false =>
    have r := h1 rfl
    exact iteF (r.go E1 S1 fun v F2 H2 f2 E2 S2 r2 => k v F2 H2 (f1.trans f2) S2 r2)
  | true =>
    obtain ⟨e, e2⟩ := h0 rfl
    subst e
    subst e2
    exact iteT (k _ F1 H1 f1 S1 (.bl true))⟩
theorem rx_and2 {a b : Bool} (ha : RX K ta ρ O (.bool a) O) (hb : RX K tb ρ O (.bool b) O) : RX K (tAndV ta tb) ρ O (.bool (a && b)) O := rx_and ha (fun e => by rw [e]; exact hb) fun e => ⟨by rw [e]; rfl, rfl⟩
theorem rx_or2 {a b : Bool} (ha : RX K ta ρ O (.bool a) O) (hb : RX K tb ρ O (.bool b) O) : RX K (tOrV ta tb) ρ O (.bool (a || b)) O := rx_or ha (fun e => by rw [e]; exact hb) fun e => ⟨by rw [e]; rfl, rfl⟩
theorem rx_not {a : Bool} (ha : RX K ta ρ O (.bool a) O1) : RX K (tNotV ta) ρ O (.bool (!a)) O1 := ⟨fun _ _ _ _ _ _ Q E S k => ha.go E S fun x F1 H1 f1 E1 S1 r1 => by
  cases r1
  exact ⟨a, rfl, k _ F1 H1 f1 S1 (.bl _)⟩⟩
theorem rx_if {b : Bool} {d : PyData} (hc : RT K tt ρ O b O1) (h1 : b = true → RX K ta ρ O1 d O2) (h0 : b = false → RX K tb ρ O1 d O2) : RX K (tIf tt ta tb) ρ O d O2 := ⟨fun _ _ _ _ _ _ Q E S k => hc.go E S fun F1 H1 f1 E1 S1 => by
  cases b with
  | true => exact iteT ((h1 rfl).go E1 S1 fun v F2 H2 f2 E2 S2 r2 => k v F2 H2 (f1.trans f2) S2 r2)
  | false => exact iteF ((h0 rfl).go E1 S1 fun v F2 H2 f2 E2 S2 r2 => k v F2 H2 (f1.trans f2) S2 r2)⟩
/-- 0 <= n <= 8: a chain -/
theorem rx_chain {r r' : R2} {d e f : PyData} {a b : Bool} (ha : RX K ta ρ O d O) (hb : RX K tb ρ O e O) (hc : RX K tc ρ O f O)
    (hr : ∀ (F H : Hp) (x y : V) (Q : VK), Rp K F x d → Rp K F y e → Q (.bl a) H → r x y H Q) (hr' : ∀ (F H : Hp) (x y : V) (Q : VK), Rp K F x e → Rp K F y f → Q (.bl b) H → r' x y H Q) : RX K (tChain r r' ta tb tc) ρ O (.bool (a && b)) O := ⟨fun _ _ _ _ _ _ Q E S k =>
  ha.go E S fun x F1 H1 f1 E1 S1 r1 => hb.go E1 S1 fun y F2 H2 f2 E2 S2 r2 => hr F2 H2 x y _ (r1.up f2) r2 ⟨a, rfl, by
    cases a with
    | true => exact iteT (hc.go E2 S2 fun z F3 H3 f3 E3 S3 r3 => hr' F3 H3 y z Q (r2.up f3) r3 (k _ F3 H3 ((f1.trans f2).trans f3) S3 (.bl _)))
    | false => exact iteF (k _ F2 H2 (f1.trans f2) S2 (.bl _))⟩⟩
theorem ch_le {F H : Hp} {i j : Int} {x y : V} {Q : VK} (r : Rp K F x (.int i)) (s : Rp K F y (.int j)) (k : Q (.bl (decide (i ≤ j))) H) : rI0 (fun i j => .bl (decide (i ≤ j))) x y H Q := by
  cases r
  cases s
  exact ⟨i, j, rfl, rfl, k⟩
theorem ch_lt {F H : Hp} {i j : Int} {x y : V} {Q : VK} (r : Rp K F x (.int i)) (s : Rp K F y (.int j)) (k : Q (.bl (decide (i < j))) H) : rI0 (fun i j => .bl (decide (i < j))) x y H Q := by
  cases r
  cases s
  exact ⟨i, j, rfl, rfl, k⟩
theorem rx_chLE {i j l : Int} (ha : RX K ta ρ O (.int i) O) (hb : RX K tb ρ O (.int j) O) (hc : RX K tc ρ O (.int l) O) : RX K (tChain (rI0 fun i j => .bl (decide (i ≤ j))) (rI0 fun i j => .bl (decide (i ≤ j))) ta tb tc) ρ O (.bool (decide (i ≤ j) && decide (j ≤ l))) O :=
  rx_chain ha hb hc (fun _ _ _ _ _ => ch_le) fun _ _ _ _ _ => ch_le
theorem rx_chLtLE {i j l : Int} (ha : RX K ta ρ O (.int i) O) (hb : RX K tb ρ O (.int j) O) (hc : RX K tc ρ O (.int l) O) : RX K (tChain (rI0 fun i j => .bl (decide (i < j))) (rI0 fun i j => .bl (decide (i ≤ j))) ta tb tc) ρ O (.bool (decide (i < j) && decide (j ≤ l))) O :=
  rx_chain ha hb hc (fun _ _ _ _ _ => ch_lt) fun _ _ _ _ _ => ch_le
/-- int(flag), int(n) -/
def b2n (b : Bool) : Int := if b then 1 else 0

/-! ### {..}.get(k, x) over a written dict of ints by texts -/
def dlit (kvs : List (Str × Int)) (k : Str) : Option Int := (kvs.find? fun kv => decide (kv.1 = k)).map (·.2)
theorem pairs_lit : ∀ (kvs : List (Str × Int)) {σ : L2.St} {H : Hp} {Q : List (V × V) → Hp → Prop}, Q (kvs.map fun p => (V.str p.1, V.int p.2)) H → tPairs (kvs.map fun p => (tC (.str p.1), tC (.int p.2))) σ H Q
  | [], _, _, _, h => h
  | (k, v) :: r, σ, H, Q, h => by
    show tC (.str k) σ H fun x H1 => tC (.int v) σ H1 fun y H2 => tPairs (r.map fun p => (tC (.str p.1), tC (.int p.2))) σ H2 fun ps H3 => Q ((x, y) :: ps) H3
    exact pairs_lit r (Q := fun ps H3 => Q ((V.str k, V.int v) :: ps) H3) h
def litV (kvs : List (Str × Int)) : List (Key × V) := kvs.map fun p => (Sum.inr p.1, V.int p.2)
theorem valV_lit {k : Str} : ∀ (kvs : List (Str × Int)), valV (litV kvs) (Sum.inr k : Key) = (dlit kvs k).map V.int
  | [] => rfl
  | (a, v) :: r => by
    have ih := valV_lit (k := k) r
    unfold valV dlit litV at ih ⊢
    rw [List.map_cons, List.find?_cons, List.find?_cons]
    by_cases e : a = k
    · subst e
      simp
    · have e1 : decide ((Sum.inr a : Key) = Sum.inr k) = false := decide_eq_false fun q => e (Sum.inr.inj q)
      have e2 : decide (a = k) = false := decide_eq_false e
      rw [e1, e2]
      exact ih
theorem merge_lit {kvs : List (Str × Int)} (h : mergeK [] (litV kvs) = litV kvs) (k : Str) : valV (mergeK [] (litV kvs)) (Sum.inr k : Key) = (dlit kvs k).map V.int := by rw [h, valV_lit]
theorem upd_over {H : Hp} {p : Addr} {o o' : HO} : upd (upd H p o) p o' = upd H p o' := upd_upd
/-- {..}.get(k, d) -/
theorem rx_lget {kvs : List (Str × Int)} {k : Str} {i : Int} (hl : kvs.length ≤ 15) (hm : mergeK [] (litV kvs) = litV kvs) (hk : RX K ta ρ O (.str k) O1) (hd : RX K tb ρ O1 (.int i) O2) :
    RX K (tDGet2 (tDisp (kvs.map fun p => (tC (.str p.1), tC (.int p.2)))) ta tb) ρ O (.int ((dlit kvs k).getD i)) O2 := ⟨fun _ _ _ _ _ _ Q E S kk => by
  intro p hp
  refine pairs_lit kvs ⟨upd_same, litV kvs, ?_, ?_, ?_⟩
  · unfold litV; rw [List.map_map]; rfl
  · unfold litV; rw [List.length_map]; exact hl
  · rw [upd_upd, hm]
    have f0 := same_upd (o := .dK (litV kvs)) (S.nof hp)
    refine ⟨p, rfl, .inl ⟨_, .inl upd_same⟩, hk.go (E.up f0) (S.put (o := .dK (litV kvs)) hp) fun y F1 H1 f1 E1 S1 r1 => hd.go E1 S1 fun z F2 H2 f2 E2 S2 r2 => ?_⟩
    cases r1
    cases r2
    have hp2 : H2 p = some (.dK (litV kvs)) := S2.fh _ _ (f2 _ _ (f1 _ _ upd_same))
    refine ⟨_, DGet.k (k := Sum.inr k) hp2, ?_⟩
    rw [valV_lit]
    have e : (((dlit kvs k).map V.int).getD (V.int i)) = V.int ((dlit kvs k).getD i) := by cases dlit kvs k <;> rfl
    rw [e]
    exact kk _ F2 H2 ((f0.trans f1).trans f2) S2 (.int _)⟩

/-! ### calls of the text's defs -/
/-- R ds d: called with the data ds the def hands back d -/
def SpP (K : Fg) (R : List PyData → PyData → Prop) : Sp := fun vs H Q _ => ∃ F ds d, RpAll K F vs ds ∧ Same F H ∧ R ds d ∧ ∀ v F' H', Stp [] F H F' H' → Rp K F' v d → Q v H'
/-- .. a new list of the data es -/
def SpN (K : Fg) (R : List PyData → List PyData → Prop) : Sp := fun vs H Q _ => ∃ F ds es, RpAll K F vs ds ∧ Same F H ∧ R ds es ∧
  ∀ p F' H' xs, Stp [] F H F' H' → H p = none → F' p = none → H' p = some (.lst xs) → xs.length ≤ sizeLine → RpAll K F' xs es → Q (.ref p) H'
/-- the first argument an own list, of the data c, that is changed to c' -/
def SpPo (K : Fg) (R : List PyData → List PyData → PyData → List PyData → Prop) : Sp := fun vs H Q _ => ∃ F p ws xs c ds d c', vs = .ref p :: ws ∧ RpAll K F ws ds ∧ Same F H ∧ F p = none ∧ H p = some (.lst xs) ∧ xs.length ≤ sizeLine ∧ RpAll K F xs c ∧ R c ds d c' ∧
  ∀ v F' H' ys, Stp [p] F H F' H' → F' p = none → H' p = some (.lst ys) → ys.length ≤ sizeLine → RpAll K F' ys c' → Rp K F' v d → Q v H'
def SpNo (K : Fg) (R : List PyData → List PyData → List PyData → List PyData → Prop) : Sp := fun vs H Q _ => ∃ F p ws xs c ds es c', vs = .ref p :: ws ∧ RpAll K F ws ds ∧ Same F H ∧ F p = none ∧ H p = some (.lst xs) ∧ xs.length ≤ sizeLine ∧ RpAll K F xs c ∧ R c ds es c' ∧
  ∀ q F' H' ys zs, Stp [p] F H F' H' → F' p = none → H' p = some (.lst ys) → ys.length ≤ sizeLine → RpAll K F' ys c' → H q = none → F' q = none → H' q = some (.lst zs) → zs.length ≤ sizeLine → RpAll K F' zs es → Q (.ref q) H'
variable {E0 : XK}
theorem rx_call {R : List PyData → PyData → Prop} {ds : List PyData} {d : PyData} (hR : R ds d) (ha : RA K t ρ O (ds.map .val) O1) : RX K (tCall (SpP K R) [] E0 t) ρ O d O1 := ⟨fun _ _ _ _ _ _ Q E S k => ha.go E S fun vs F1 H1 f1 E1 S1 r1 => by
  rw [List.append_nil]
  exact ⟨F1, ds, d, r1.all, S1.fh, hR, fun v F' H' st r => k v F' H' (f1.trans st.ff) (S1.call st) r⟩⟩
theorem rxo_call {R : List PyData → List PyData → Prop} {ds es : List PyData} (hR : R ds es) (ha : RA K t ρ O (ds.map .val) O1) : RXo K (tCall (SpN K R) [] E0 t) ρ O es O1 := ⟨fun _ _ _ _ _ _ Q E S k => ha.go E S fun vs F1 H1 f1 E1 S1 r1 => by
  rw [List.append_nil]
  refine ⟨F1, ds, es, r1.all, S1.fh, hR, fun p F' H' xs st h1 h2 h3 h4 h5 => k p F' H' (f1.trans st.ff) ?_⟩
  have S2 := S1.call st
  refine ⟨S2.f0, S2.fh, S2.keep, S2.live, S2.new, fun q hq => ?_, ?_⟩
  · rcases List.mem_cons.mp hq with rfl | hq
    · exact ⟨h2, fun _ => S1.noh0 h1, fun z => (Bool.false_ne_true z.symm).elim, xs, h3, h4, h5⟩
    · exact S2.own q hq
  · rw [List.map_cons, List.nodup_cons]
    refine ⟨fun hm => ?_, S2.nd⟩
    obtain ⟨q, hq, e⟩ := List.mem_map.mp hm
    obtain ⟨vs', g4⟩ := S1.ownL hq
    have e' : q.a = p := e
    rw [e', h1] at g4
    cases g4⟩
theorem rx_callo {R : List PyData → List PyData → PyData → List PyData → Prop} {a : Addr} {nw : Bool} {j : Nat} {c c' ds : List PyData} {d : PyData} (ha : RA K t ρ O (.adr a :: ds.map .val) O1) (hj : O1[j]? = some ⟨a, nw, c⟩) (hR : R c ds d c') :
    RX K (tCall (SpPo K R) [] E0 t) ρ O d (O1.set j ⟨a, nw, c'⟩) := ⟨fun _ _ _ _ _ _ Q E S k => ha.go E S fun vs F1 H1 f1 E1 S1 r1 => by
  rw [List.append_nil]
  obtain ⟨g1, g2, g3, xs, g4, g5, g6⟩ := S1.get hj
  cases r1 with
  | adr r1 =>
    exact ⟨F1, a, _, xs, c, ds, d, c', rfl, r1.all, S1.fh, g1, g4, g5, g6, hR, fun v F' H' ys st h1 h2 h3 h4 r => k v F' H' (f1.trans st.ff) (S1.call1 hj st h2 h3 h4) r⟩⟩
theorem rxo_callo {R : List PyData → List PyData → List PyData → List PyData → Prop} {a : Addr} {nw : Bool} {j : Nat} {c c' ds es : List PyData} (ha : RA K t ρ O (.adr a :: ds.map .val) O1) (hj : O1[j]? = some ⟨a, nw, c⟩) (hR : R c ds es c') :
    RXo K (tCall (SpNo K R) [] E0 t) ρ O es (O1.set j ⟨a, nw, c'⟩) := ⟨fun _ _ _ _ _ _ Q E S k => ha.go E S fun vs F1 H1 f1 E1 S1 r1 => by
  rw [List.append_nil]
  obtain ⟨g1, g2, g3, xs, g4, g5, g6⟩ := S1.get hj
  cases r1 with
  | adr r1 =>
    refine ⟨F1, a, _, xs, c, ds, es, c', rfl, r1.all, S1.fh, g1, g4, g5, g6, hR, fun q F' H' ys zs st h1 h2 h3 h4 n1 n2 n3 n4 n5 => k q F' H' (f1.trans st.ff) ?_⟩
    have S2 := S1.call1 hj st h2 h3 h4
    refine ⟨S2.f0, S2.fh, S2.keep, S2.live, S2.new, fun w hw => ?_, ?_⟩
    · rcases List.mem_cons.mp hw with rfl | hw
      · exact ⟨n2, fun _ => S1.noh0 n1, fun z => (Bool.false_ne_true z.symm).elim, zs, n3, n4, n5⟩
      · exact S2.own w hw
    · rw [List.map_cons, List.nodup_cons]
      refine ⟨fun hm => ?_, S2.nd⟩
      have e : (O1.set j ⟨a, nw, c'⟩).map OE.a = O1.map OE.a := by
        rw [List.map_set]
        apply List.ext_getElem?
        intro i
        by_cases e : j = i
        · subst e
          have hj' : j < O1.length := (List.getElem?_eq_some_iff.mp hj).1
          rw [List.getElem?_set_self (by simpa using hj'), List.getElem?_map, hj]; rfl
        · rw [List.getElem?_set_ne e]
      rw [e] at hm
      obtain ⟨w, hw, e'⟩ := List.mem_map.mp hm
      obtain ⟨vs', k4⟩ := S1.ownL hw
      have e2 : w.a = q := e'
      rw [e2, n1] at k4
      cases k4⟩

/-! ### targets -/
theorem rg_name {i : Nat} {d : PyData} : RG K (gName i) d ρ (ρ.set i (.val d)) [i] := ⟨fun σ F H v Q E r f k => k _ (E.setv r i) fun vs h => wipe_set _ (h i (by simp))⟩
inductive RGs (K : Fg) : TGs → List PyData → List Sl → List Sl → List Nat → Prop
  | nil {ρ : List Sl} : RGs K gNil [] ρ ρ []
  | cons {g : TG} {gs : TGs} {d : PyData} {ds : List PyData} {ρ ρ1 ρ2 : List Sl} {ts us : List Nat} : RG K g d ρ ρ1 ts → RGs K gs ds ρ1 ρ2 us → RGs K (gCons g gs) (d :: ds) ρ ρ2 (ts ++ us)
theorem RGs.run {g : TGs} {ds : List PyData} {ρ ρ' : List Sl} {ts : List Nat} (h : RGs K g ds ρ ρ' ts) : ∀ (σ : L2.St) (F H : Hp) (vs : List V) (Q : L2.St → Hp → Prop), EnvR K F σ ρ → RpAll K F vs ds → Same F H →
    (∀ σ', EnvR K F σ' ρ' → (∀ ws : List Nat, (∀ t ∈ ts, t ∈ ws) → L2.wipe σ' ws = L2.wipe σ ws) → Q σ' H) → g vs σ H Q := by
  induction h with
  | nil =>
    intro σ F H vs Q E r f k
    cases r
    exact ⟨rfl, k σ E fun _ _ => rfl⟩
  | cons h1 _ ih =>
    intro σ F H vs Q E r f k
    cases r with
    | cons r1 r2 =>
      refine ⟨_, _, rfl, h1.run σ F H _ _ E r1 f fun σ1 E1 w1 => ih σ1 F H _ Q E1 r2 f fun σ2 E2 w2 => k σ2 E2 fun ws hw => ?_⟩
      rw [w2 ws fun t ht => hw t (List.mem_append_right _ ht), w1 ws fun t ht => hw t (List.mem_append_left _ ht)]
theorem rg_tup {gs : TGs} {n : Nat} {ds : List PyData} {ρ ρ' : List Sl} {ts : List Nat} (h : RGs K gs ds ρ ρ' ts) (hn : ds.length = n := by rfl) : RG K (gTup K n gs) (.tuple ds) ρ ρ' ts := ⟨fun σ F H v Q E r f k => by
  cases r with
  | tup q1 q2 q3 => exact ⟨_, _, rfl, same_t f q1, by rw [q3.length, hn], h.run σ F H _ Q E q3 f k⟩⟩
end
end TL

namespace TL
open PySem L2
open Enc
/-! ### what loops walk -/
section
variable {K : Fg} {ta tb tc : TE} {ρ : List Sl} {O O1 O2 O3 : Os} {t : TA} {ys : List PyData}
theorem ri_list (h : RX K ta ρ O (.list ys) O1) : RI K (iList K ta) ρ O ys O1 := ⟨fun _ _ _ _ _ _ R E S k => h.go E S fun x F1 H1 f1 E1 S1 r1 => by
  cases r1 with
  | @lst a xs _ q1 q2 q3 =>
    refine ⟨a, rfl, ⟨xs, S1.fh.seq q1⟩, k _ F1 H1 f1 S1 ⟨by rw [← q3.length]; exact q2, fun _ _ _ F O H i hi f S => ?_, fun _ _ _ F O H f S => ?_, fun _ _ _ F O H i x H' hi f S y => ?_⟩⟩
    · rw [← q3.length] at hi
      exact ⟨xs, xs[i], (f.trans S.fh).seq q1, by simp [hi]⟩
    · exact ⟨xs, (f.trans S.fh).seq q1, by rw [q3.length]; exact Nat.le_refl _⟩
    · obtain ⟨e, y⟩ := y
      subst e
      obtain ⟨d, e, r⟩ := (q3.up f).getV (y xs ((f.trans S.fh).seq q1))
      exact ⟨F, d, Same.refl _, S, e, r⟩⟩
theorem ri_tup (h : RX K ta ρ O (.tuple ys) O1) : RI K (iTup K ta) ρ O ys O1 := ⟨fun _ _ _ _ _ _ R E S k => h.go E S fun x F1 H1 f1 E1 S1 r1 => by
  cases r1 with
  | @tup a xs _ q1 q2 q3 =>
    refine ⟨a, rfl, ⟨xs, same_t S1.fh q1⟩, k _ F1 H1 f1 S1 ⟨by rw [← q3.length]; exact q2, fun _ _ _ F O H i hi f S => ?_, fun _ _ _ F O H f S => ?_, fun _ _ _ F O H i x H' hi f S y => ?_⟩⟩
    · rw [← q3.length] at hi
      exact ⟨xs, xs[i], same_t (f.trans S.fh) q1, by simp [hi]⟩
    · exact ⟨xs, same_t (f.trans S.fh) q1, by rw [q3.length]; exact Nat.le_refl _⟩
    · obtain ⟨e, y⟩ := y
      subst e
      obtain ⟨d, e, r⟩ := (q3.up f).getV (y xs (same_t (f.trans S.fh) q1))
      exact ⟨F, d, Same.refl _, S, e, r⟩⟩
/-- lo, lo + 1, .. n of them -/
def rngL (lo : Int) (n : Nat) : List Int := (List.range n).map fun i => lo + (i : Nat)
theorem rngL_length (lo : Int) (n : Nat) : (rngL lo n).length = n := by unfold rngL; simp
theorem walk_rng {F1 : Hp} (lo : Int) (n : Nat) (hn : n ≤ sizeLine) : WalkD K (Itr lo n) ((rngL lo n).map .int) F1 := by
  have hl : ((rngL lo n).map PyData.int).length = n := by rw [List.length_map, rngL_length]
  refine ⟨by rw [hl]; exact hn, fun _ _ _ F O H i hi f S => ?_, fun _ _ _ F O H f S => ?_, fun _ _ _ F O H i x H' hi f S y => ?_⟩
  · rw [hl] at hi; exact hi
  · show n ≤ _; rw [hl]; exact Nat.le_refl _
  · obtain ⟨e, y⟩ := y
    subst e
    subst y
    rw [hl] at hi
    exact ⟨F, .int (lo + i), Same.refl _, S, by unfold rngL; simp [hi], .int _⟩
def rngO (n : Int) : Option (List Int) := if -4611686018427387904 ≤ n ∧ n ≤ 16777216 then some (rngL 0 n.toNat) else none
def rng2O (a b : Int) : Option (List Int) := if -4611686018427387904 ≤ a ∧ a ≤ 16777216 ∧ -4611686018427387904 ≤ b ∧ b - a ≤ 16777216 ∧ b ≤ 16777216 then some (rngL a (b - a).toNat) else none
theorem rngO_some {n : Int} {r : List Int} (h : rngO n = some r) : (-4611686018427387904 ≤ n ∧ n ≤ 16777216) ∧ r = rngL 0 n.toNat := by
  unfold rngO at h
  split at h
  · cases h; exact ⟨by assumption, rfl⟩
  · cases h
theorem ri_range {n : Int} {r : List Int} (hr : rngO n = some r) (h : RX K ta ρ O (.int n) O1) : RI K (iRng1 (tCons ta tNil)) ρ O (r.map .int) O1 := ⟨fun _ _ _ _ _ _ R E S k => h.go E S fun x F1 H1 f1 E1 S1 r1 => by
  obtain ⟨⟨h1, h2⟩, rfl⟩ := rngO_some hr
  cases r1
  have hs : sizeLine = 16777216 := sizeLine_eq
  exact ⟨n, rfl, by omega, by omega, k _ F1 H1 f1 S1 (walk_rng 0 n.toNat (by omega))⟩⟩
theorem ri_range2 {a b : Int} {r : List Int} (hr : rng2O a b = some r) (h : RX K ta ρ O (.int a) O1) (h' : RX K tb ρ O1 (.int b) O2) : RI K (iRng2 (tCons ta (tCons tb tNil))) ρ O (r.map .int) O2 := ⟨fun _ _ _ _ _ _ R E S k =>
  h.go E S fun x F1 H1 f1 E1 S1 r1 => h'.go E1 S1 fun y F2 H2 f2 E2 S2 r2 => by
    unfold rng2O at hr
    split at hr
    · rename_i hc
      obtain ⟨c1, c2, c3, c4, c5⟩ := hc
      cases hr
      cases r1
      cases r2
      have hs : sizeLine = 16777216 := sizeLine_eq
      exact ⟨a, b, rfl, ⟨by omega, by omega, by omega, by omega⟩, k _ F2 H2 (f1.trans f2) S2 (walk_rng a (b - a).toNat (by omega))⟩
    · cases hr⟩
/-- range(len(x)) and the like: what is known to be small -/
theorem ri_rangeN {n : Nat} (hn : n ≤ sizeLine) (h : RX K ta ρ O (.int (n : Nat)) O1) : RI K (iRng1 (tCons ta tNil)) ρ O ((rngL 0 n).map .int) O1 := ⟨fun _ _ _ _ _ _ R E S k => h.go E S fun x F1 H1 f1 E1 S1 r1 => by
  cases r1
  have hs : sizeLine = 16777216 := sizeLine_eq
  refine ⟨(n : Nat), rfl, by omega, by omega, k _ F1 H1 f1 S1 ?_⟩
  rw [Int.toNat_natCast]
  exact walk_rng 0 n hn⟩
theorem ri_rangeLen {ds : List PyData} (ha : RXs K ta ρ O ds O1) : RI K (iRng1 (tCons (tCB (rLenQ K) (tCons ta tNil)) tNil)) ρ O ((rngL 0 ds.length).map .int) O1 := ⟨fun _ _ _ _ _ _ R E S k => by
  refine ha.go E S fun a F1 H1 f1 E1 S1 r1 => ?_
  obtain ⟨vs, q1, q2, q3⟩ := r1 F1 H1 (Same.refl _) S1
  have hs : sizeLine = 16777216 := sizeLine_eq
  refine ⟨a, vs, rfl, .inl q1, (vs.length : Nat), rfl, by omega, by omega, k _ F1 H1 f1 S1 ?_⟩
  rw [Int.toNat_natCast, q3.length]
  exact walk_rng 0 _ (by rw [← q3.length]; exact q2)⟩
theorem ri_rangeLenT {ds : List PyData} (ha : RX K ta ρ O (.tuple ds) O1) : RI K (iRng1 (tCons (tCB (rLenQ K) (tCons ta tNil)) tNil)) ρ O ((rngL 0 ds.length).map .int) O1 := ⟨fun _ _ _ _ _ _ R E S k => by
  refine ha.go E S fun x F1 H1 f1 E1 S1 r1 => ?_
  cases r1 with
  | @tup a xs _ q1 q2 q3 =>
    have hs : sizeLine = 16777216 := sizeLine_eq
    refine ⟨a, xs, rfl, .inr (same_t S1.fh q1), (xs.length : Nat), rfl, by omega, by omega, k _ F1 H1 f1 S1 ?_⟩
    rw [Int.toNat_natCast, q3.length]
    exact walk_rng 0 _ (by rw [← q3.length]; exact q2)⟩
/-- a, a + c, .. -/
def rngC (a c : Int) (n : Nat) : List Int := (List.range n).map fun i => a + (i : Nat) * c
theorem walk_rngC {F1 : Hp} (lo c : Int) (n : Nat) (hn : n ≤ sizeLine) : WalkD K (Itc lo c n) ((rngC lo c n).map .int) F1 := by
  have hl : ((rngC lo c n).map PyData.int).length = n := by unfold rngC; simp
  refine ⟨by rw [hl]; exact hn, fun _ _ _ F O H i hi f S => ?_, fun _ _ _ F O H f S => ?_, fun _ _ _ F O H i x H' hi f S y => ?_⟩
  · rw [hl] at hi; exact hi
  · show n ≤ _; rw [hl]; exact Nat.le_refl _
  · obtain ⟨e, y⟩ := y
    subst e
    subst y
    rw [hl] at hi
    exact ⟨F, .int (lo + i * c), Same.refl _, S, by unfold rngC; simp [hi], .int _⟩
def rngDownO (a b : Int) : Option (List Int) := if -16777216 ≤ a ∧ a ≤ 16777216 ∧ -16777216 ≤ b ∧ b ≤ 16777216 ∧ a - b ≤ 16777216 then some (rngC a (-1) (a - b).toNat) else none
/-- range(a, b, -1) -/
theorem ri_rangeDown {a b : Int} {r : List Int} (hr : rngDownO a b = some r) (h : RX K ta ρ O (.int a) O1) (h' : RX K tb ρ O1 (.int b) O2) (h2 : RX K tc ρ O2 (.int (-1)) O3) : RI K (iRng3 (tCons ta (tCons tb (tCons tc tNil)))) ρ O (r.map .int) O3 := ⟨fun _ _ _ _ _ _ R E S k =>
  h.go E S fun x F1 H1 f1 E1 S1 r1 => h'.go E1 S1 fun y F2 H2 f2 E2 S2 r2 => h2.go E2 S2 fun z F3 H3 f3 E3 S3 r3 => by
    unfold rngDownO at hr
    split at hr
    · rename_i hc
      obtain ⟨c1, c2, c3, c4, c5⟩ := hc
      cases hr
      cases r1
      cases r2
      cases r3
      have hs : sizeLine = 16777216 := sizeLine_eq
      exact ⟨a, b, -1, (a - b).toNat, rfl, RgC.neg (by omega) (by omega) (by omega) (by omega), k _ F3 H3 ((f1.trans f2).trans f3) S3 (walk_rngC a (-1) _ (by omega))⟩
    · cases hr⟩
/-- a pair that an iterator makes -/
theorem pair_put {F0 H0 F H : Hp} {D0 : List Addr} {x y : V} {d e : PyData} {T : Addr} (S : Hx K F0 H0 D0 F O H) (hT : H T = none) (r1 : Rp K F x d) (r2 : Rp K F y e) :
    ∃ F', Same F F' ∧ Hx K F0 H0 D0 F' O (upd H T (.tup [x, y])) ∧ Rp K F' (.ref T) (.tuple [d, e]) := by
  have f := same_upd (o := .tup [x, y]) (S.nof hT)
  exact ⟨_, f, S.put hT, .tup (SqT.of upd_same) (by show 2 ≤ sizeLine; decide) (.cons (r1.up f) (.cons (r2.up f) .nil))⟩
def enumD (ys : List PyData) : List PyData := ys.zipIdx.map fun p => .tuple [.int (p.2 : Nat), p.1]
theorem ri_enum (h : RX K ta ρ O (.list ys) O1) : RI K (iEnum K (tCons ta tNil)) ρ O (enumD ys) O1 := ⟨fun _ _ _ _ _ _ R E S k => h.go E S fun x F1 H1 f1 E1 S1 r1 => by
  cases r1 with
  | @lst a xs _ q1 q2 q3 =>
    have hl : (enumD ys).length = ys.length := by unfold enumD; simp
    refine ⟨a, xs, rfl, S1.fh.seq q1, k _ F1 H1 f1 S1 ⟨by rw [hl, ← q3.length]; exact q2, fun _ _ _ F O H i hi f S => ?_, fun _ _ _ F O H f S => ?_, fun _ _ _ F O H i x H' hi f S y => ?_⟩⟩
    · rw [hl, ← q3.length] at hi
      exact ⟨xs, xs[i], (f.trans S.fh).seq q1, by simp [hi]⟩
    · exact ⟨xs, (f.trans S.fh).seq q1, by rw [q3.length, hl]; exact Nat.le_refl _⟩
    · obtain ⟨T, z, rfl, hT, rfl, y⟩ := y
      obtain ⟨d, e, r⟩ := (q3.up f).getV (y xs ((f.trans S.fh).seq q1))
      obtain ⟨F2, f2, S2, r2⟩ := pair_put S hT (.int (i : Nat)) r
      exact ⟨F2, _, f2, S2, by unfold enumD; simp [e], r2⟩⟩
def zipD (ys zs : List PyData) : List PyData := (ys.zip zs).map fun p => .tuple [p.1, p.2]
theorem ri_zip {zs : List PyData} (h : RX K ta ρ O (.list ys) O1) (h' : RX K tb ρ O1 (.list zs) O2) : RI K (iZip K (tCons ta (tCons tb tNil))) ρ O (zipD ys zs) O2 := ⟨fun _ _ _ _ _ _ R E S k =>
  h.go E S fun x F1 H1 f1 E1 S1 r1 => h'.go E1 S1 fun y F2 H2 f2 E2 S2 r2 => by
    have r1' := r1.up f2
    cases r1' with
    | @lst a xs _ q1 q2 q3 =>
      cases r2 with
      | @lst b ws _ p1 p2 p3 =>
        have hl : (zipD ys zs).length = min xs.length ws.length := by unfold zipD; rw [List.length_map, List.length_zip, q3.length, p3.length]
        refine ⟨a, b, xs, ws, rfl, S2.fh.seq q1, S2.fh.seq p1, k _ F2 H2 (f1.trans f2) S2 ⟨by omega, fun _ _ _ F O H i hi f S => ?_, fun _ _ _ F O H f S => ?_, fun _ _ _ F O H i x H' hi f S y => ?_⟩⟩
        · have h1 : i < xs.length := by omega
          have h2 : i < ws.length := by omega
          exact ⟨xs, ws, xs[i], ws[i], (f.trans S.fh).seq q1, (f.trans S.fh).seq p1, by simp [h1], by simp [h2]⟩
        · exact ⟨xs, ws, (f.trans S.fh).seq q1, (f.trans S.fh).seq p1, by omega⟩
        · obtain ⟨T, u, v, rfl, hT, rfl, y1, y2⟩ := y
          obtain ⟨d, e, r⟩ := (q3.up f).getV (y1 xs ((f.trans S.fh).seq q1))
          obtain ⟨d', e', r'⟩ := (p3.up f).getV (y2 ws ((f.trans S.fh).seq p1))
          obtain ⟨F3, f3, S3, r3⟩ := pair_put S hT r r'
          refine ⟨F3, _, f3, S3, ?_, r3⟩
          unfold zipD
          have ez : (ys.zip zs)[i]? = some (d, d') := List.getElem?_zip_eq_some.mpr ⟨e, e'⟩
          rw [List.getElem?_map, ez]
          rfl⟩
/-- a text, sign by sign -/
def signs (z : Str) : List Str := z.cps.toList.map fun c => ⟨#[c]⟩
theorem ri_str {z : Str} (hz : z.length ≤ sizeLine) (h : RX K ta ρ O (.str z) O1) : RI K (iStr ta) ρ O ((signs z).map .str) O1 := ⟨fun _ _ _ _ _ _ R E S k => h.go E S fun x F1 H1 f1 E1 S1 r1 => by
  cases r1
  have hl : ((signs z).map PyData.str).length = z.cps.size := by unfold signs; simp
  refine ⟨z, rfl, k _ F1 H1 f1 S1 ⟨by rw [hl]; exact hz, fun _ _ _ F O H i hi f S => ?_, fun _ _ _ F O H f S => ?_, fun _ _ _ F O H i x H' hi f S y => ?_⟩⟩
  · rw [hl] at hi; exact hi
  · show z.cps.size ≤ _; rw [hl]; exact Nat.le_refl _
  · obtain ⟨e, c, hc, y⟩ := y
    subst e
    subst y
    refine ⟨F, .str ⟨#[c]⟩, Same.refl _, S, ?_, .str _⟩
    unfold signs
    rw [List.map_map, List.getElem?_map, Array.getElem?_toList, hc]
    rfl⟩
end

/-! ### loops in plain data -/
/-- [f x for x in xs if ..], a state handed on; none within: left out -/
def fmS {α β S : Type} (g : α → S → Option (Option β × S)) : List α → S → Option (List β × S)
  | [], s => some ([], s)
  | x :: xs, s => (g x s).bind fun r => (fmS g xs r.2).bind fun q => some (match r.1 with | none => q.1 | some y => y :: q.1, q.2)
def forS {α S : Type} (f : α → S → Option S) : List α → S → Option S
  | [], s => some s
  | x :: xs, s => (f x s).bind fun s' => forS f xs s'
inductive Fl (S R : Type) where
  | nx (s : S)
  | bk (s : S)
  | rt (r : R)
def forF {α S R : Type} (f : α → S → Option (Fl S R)) : List α → S → Option (Fl S R)
  | [], s => some (.nx s)
  | x :: xs, s => (f x s).bind fun r => match r with
    | .nx s' => forF f xs s'
    | .bk s' => some (.nx s')
    | .rt r => some (.rt r)
def whileS {S : Type} (c : S → Option Bool) (f : S → Option S) : Nat → S → Option S
  | 0, _ => none
  | n + 1, s => (c s).bind fun b => if b = true then (f s).bind fun s' => whileS c f n s' else some s
def whileF {S R : Type} (c : S → Option Bool) (f : S → Option (Fl S R)) : Nat → S → Option (Fl S R)
  | 0, _ => none
  | n + 1, s => (c s).bind fun b => if b = true then (f s).bind fun r => match r with
    | .nx s' => whileF c f n s'
    | .bk s' => some (.nx s')
    | .rt r => some (.rt r) else some (.nx s)
theorem bindE {α β : Type} {m : Option α} {f : α → Option β} {r : β} (h : m.bind f = some r) : ∃ x, m = some x ∧ f x = some r := by
  cases m with
  | none => cases h
  | some x => exact ⟨x, rfl, h⟩

/-! ### comprehensions -/
section
variable {K : Fg} {ρ : List Sl} {O : Os}
theorem rxo_lcS {α β S : Type} {eα : α → PyData} {eβ : β → PyData} {wi : TI} {g : TG} {tt : TT} {te : TE} {vs : List Nat} {xs : List α} {Of : S → Os} {s0 s1 : S} {zs : List β} {f : α → S → Option (Option β × S)} (ρx : α → List Sl) (ts : List Nat)
    (hI : RI K wi ρ O (xs.map eα) (Of s0)) (hf : fmS f xs s0 = some (zs, s1)) (hts : ∀ t ∈ ts, t ∈ vs) (hg : ∀ x ∈ xs, RG K g (eα x) (wipeS ρ vs) (ρx x) ts)
    (step : ∀ x ∈ xs, ∀ s o s', f x s = some (o, s') → ∃ b s2, (∀ D acc, RT K tt (ρx x) (⟨D, true, acc⟩ :: Of s) b (⟨D, true, acc⟩ :: Of s2)) ∧
      (b = true → ∃ y, o = some y ∧ ∀ D acc, RX K te (ρx x) (⟨D, true, acc⟩ :: Of s2) (eβ y) (⟨D, true, acc⟩ :: Of s')) ∧ (b = false → o = none ∧ s2 = s')) :
    RXo K (tLc wi g tt te vs) ρ O (zs.map eβ) (Of s1) := ⟨fun F0 H0 D0 σ F H Q E S k => hI.go E S fun J F1 H1 f1 E1 S1 w => by
  intro D hD
  have hl : (xs.map eα).length = xs.length := List.length_map _
  have W : Walk J xs.length (fun H => ∃ F O, Same F1 F ∧ Hx K F0 H0 D0 F O H) (fun i H x H' => ∀ F O, Same F1 F → Hx K F0 H0 D0 F O H → ∃ F' y, Same F F' ∧ Hx K F0 H0 D0 F' O H' ∧ xs[i]? = some y ∧ Rp K F' x (eα y)) := by
    refine ⟨fun i H hi q => ?_, fun H q => ?_, fun i H x H' hi _ y F O f S => ?_⟩
    · obtain ⟨F, O, f, S⟩ := q
      exact w.go F0 H0 D0 F O H i (by rw [hl]; exact hi) f S
    · obtain ⟨F, O, f, S⟩ := q
      have := w.stop F0 H0 D0 F O H f S
      rw [hl] at this
      exact this
    · obtain ⟨F', y', f', S', e, r⟩ := w.yld F0 H0 D0 F O H i x H' (by rw [hl]; exact hi) f S y
      rw [List.getElem?_map] at e
      cases e2 : xs[i]? with
      | none => rw [e2] at e; cases e
      | some z =>
        rw [e2] at e
        have e3 : eα z = y' := Option.some.inj e
        subst e3
        exact ⟨F', z, f', S', rfl, r⟩
  refine lc_it W (fun i H => ∃ s F, ∃ acc : List PyData, ∃ zr, Same F1 F ∧ Hx K F0 H0 D0 F (⟨D, true, acc⟩ :: Of s) H ∧ fmS f (xs.drop i) s = some (zr, s1) ∧ acc ++ zr.map eβ = zs.map eβ ∧ acc.length ≤ i) ⟨s0, F1, [], zs, Same.refl _, S1.mine hD (Nat.zero_le _) .nil, hf, rfl, Nat.le_refl _⟩
    (fun i H _ q => by obtain ⟨s, F, acc, zr, q1, q2, _⟩ := q; exact ⟨F, _, q1, q2⟩) (fun i x H H' hi q y => ?_) (fun H q => ?_)
  · obtain ⟨s, F, acc, zr, q1, q2, q3, q4, q5⟩ := q
    obtain ⟨F2, z, f2, S2, ez, rz⟩ := y F _ q1 q2
    have hm : z ∈ xs := List.mem_of_getElem? ez
    have hi' : xs[i] = z := by
      rw [List.getElem?_eq_getElem hi] at ez
      exact Option.some.inj ez
    rw [List.drop_eq_getElem_cons hi, hi'] at q3
    obtain ⟨⟨o, s'⟩, e1, q3⟩ := bindE q3
    obtain ⟨⟨zr', s1'⟩, e2, q3⟩ := bindE q3
    obtain ⟨b, s2, hb, ht, hn⟩ := step z hm s o s' e1
    have q3 := Option.some.inj q3
    have es : s1' = s1 := congrArg Prod.snd q3
    subst es
    refine (hg z hm).run _ F2 H' x _ ((E1.wipe vs).up (q1.trans f2)) rz S2.fh fun σ' E' wq => ⟨(wq vs hts).trans (wipe_wipe σ vs), (hb D acc).go E' S2 fun F3 H3 f3 E3 S3 => ?_⟩
    cases b with
    | true =>
      obtain ⟨y, eo, hy⟩ := ht rfl
      subst eo
      refine iteT ((hy D acc).go E3 S3 fun v F4 H4 f4 E4 S4 r4 => ?_)
      obtain ⟨g1, g2, g3, us, g4, g5, g6⟩ := S4.get (j := 0) rfl
      have g4' : H4 D = some (.lst us) := g4
      have gl : us.length = acc.length := RpAll.length g6
      have hlt : us.length < sizeLine := by
        have := w.sz
        rw [hl] at this
        omega
      refine ⟨us, g4', hlt, s', F4, acc ++ [eβ y], zr', ((q1.trans f2).trans f3).trans f4, ?_, e2, ?_, ?_⟩
      · exact S4.mut (j := 0) (l := D) (nw := true) (ds := acc) (ds' := acc ++ [eβ y]) rfl (by rw [List.length_append, List.length_singleton]; omega) (RpAll.append g6 (.cons r4 .nil))
      · have ez' : zr = y :: zr' := (congrArg Prod.fst q3).symm
        rw [← q4, ez', List.map_cons, List.append_assoc]
        rfl
      · rw [List.length_append, List.length_singleton]; omega
    | false =>
      obtain ⟨eo, es⟩ := hn rfl
      subst eo
      subst es
      have ez' : zr = zr' := (congrArg Prod.fst q3).symm
      exact iteF ⟨s2, F3, acc, zr', (q1.trans f2).trans f3, S3, e2, by rw [← q4, ez'], by omega⟩
  · obtain ⟨s, F, acc, zr, q1, q2, q3, q4, q5⟩ := q
    rw [List.drop_length] at q3
    have q3' := Option.some.inj q3
    have e1 : zr = [] := (congrArg Prod.fst q3').symm
    have e2 : s = s1 := congrArg Prod.snd q3'
    subst e1
    subst e2
    rw [List.map_nil, List.append_nil] at q4
    rw [← q4] at k
    exact k D F H (f1.trans q1) q2⟩
end
end TL

namespace TL
open PySem L2
open Enc
/-! ### comprehensions, plain -/
def mapO {α β : Type} (f : α → Option β) : List α → Option (List β)
  | [] => some []
  | x :: xs => (f x).bind fun y => (mapO f xs).bind fun ys => some (y :: ys)
def filtO {α β : Type} (p : α → Option Bool) (f : α → Option β) : List α → Option (List β)
  | [] => some []
  | x :: xs => (p x).bind fun b => if b = true then (f x).bind fun y => (filtO p f xs).bind fun ys => some (y :: ys) else filtO p f xs
/-- with a state, all kept -/
def mapS {α β S : Type} (f : α → S → Option (β × S)) : List α → S → Option (List β × S)
  | [], s => some ([], s)
  | x :: xs, s => (f x s).bind fun r => (mapS f xs r.2).bind fun q => some (r.1 :: q.1, q.2)
def filtS {α β S : Type} (p : α → S → Option (Bool × S)) (f : α → S → Option (β × S)) : List α → S → Option (List β × S)
  | [], s => some ([], s)
  | x :: xs, s => (p x s).bind fun b => if b.1 = true then (f x b.2).bind fun r => (filtS p f xs r.2).bind fun q => some (r.1 :: q.1, q.2) else filtS p f xs b.2
section
variable {K : Fg} {ρ : List Sl} {O O1 : Os} {α β S : Type} {eα : α → PyData} {eβ : β → PyData} {wi : TI} {g : TG} {tt : TT} {te : TE} {vs : List Nat} {xs : List α}
theorem mapS_fm {f : α → S → Option (β × S)} : ∀ (xs : List α) (s : S), fmS (fun x s => (f x s).bind fun r => some (some r.1, r.2)) xs s = mapS f xs s
  | [], s => rfl
  | x :: xs, s => by
    unfold fmS mapS
    cases f x s with
    | none => rfl
    | some r =>
      simp only [Option.bind_some]
      rw [mapS_fm xs r.2]
theorem filtS_fm {p : α → S → Option (Bool × S)} {f : α → S → Option (β × S)} : ∀ (xs : List α) (s : S), fmS (fun x s => (p x s).bind fun b => if b.1 = true then (f x b.2).bind fun r => some (some r.1, r.2) else some (none, b.2)) xs s = filtS p f xs s
  | [], s => rfl
  | x :: xs, s => by
    unfold fmS filtS
    cases p x s with
    | none => rfl
    | some b =>
      simp only [Option.bind_some]
      cases b.1 with
      | true =>
        simp only [if_true]
        cases f x b.2 with
        | none => rfl
        | some r =>
          simp only [Option.bind_some]
          rw [filtS_fm xs r.2]
      | false =>
        simp only [Bool.false_eq_true, if_false, Option.bind_some]
        rw [filtS_fm xs b.2]
        cases filtS p f xs b.2 with
        | none => rfl
        | some q => rfl
theorem rt_yes : RT K tYes ρ O true O := ⟨fun _ _ _ _ _ _ Q E S k => k _ _ (Same.refl _) S⟩
theorem rxo_mapS {Of : S → Os} {s0 s1 : S} {zs : List β} {f : α → S → Option (β × S)} (ρx : α → List Sl) (ts : List Nat) (hI : RI K wi ρ O (xs.map eα) (Of s0)) (hf : mapS f xs s0 = some (zs, s1)) (hts : ∀ t ∈ ts, t ∈ vs)
    (hg : ∀ x ∈ xs, RG K g (eα x) (wipeS ρ vs) (ρx x) ts) (he : ∀ x ∈ xs, ∀ s y s', f x s = some (y, s') → ∀ D acc, RX K te (ρx x) (⟨D, true, acc⟩ :: Of s) (eβ y) (⟨D, true, acc⟩ :: Of s')) :
    RXo K (tLc wi g tYes te vs) ρ O (zs.map eβ) (Of s1) :=
  rxo_lcS ρx ts hI ((mapS_fm xs s0).trans hf) hts hg fun x hx s o s' e => by
    obtain ⟨r, e1, e2⟩ := bindE e
    have e2 := Option.some.inj e2
    refine ⟨true, s, fun D acc => rt_yes, fun _ => ⟨r.1, (congrArg Prod.fst e2).symm, fun D acc => ?_⟩, fun q => (Bool.false_ne_true q.symm).elim⟩
    have e3 : r.2 = s' := congrArg Prod.snd e2
    subst e3
    exact he x hx s r.1 r.2 e1 D acc
theorem rxo_filtS {Of : S → Os} {s0 s1 : S} {zs : List β} {p : α → S → Option (Bool × S)} {f : α → S → Option (β × S)} (ρx : α → List Sl) (ts : List Nat) (hI : RI K wi ρ O (xs.map eα) (Of s0)) (hf : filtS p f xs s0 = some (zs, s1)) (hts : ∀ t ∈ ts, t ∈ vs)
    (hg : ∀ x ∈ xs, RG K g (eα x) (wipeS ρ vs) (ρx x) ts) (ht : ∀ x ∈ xs, ∀ s b s', p x s = some (b, s') → ∀ D acc, RT K tt (ρx x) (⟨D, true, acc⟩ :: Of s) b (⟨D, true, acc⟩ :: Of s'))
    (he : ∀ x ∈ xs, ∀ s y s', f x s = some (y, s') → ∀ D acc, RX K te (ρx x) (⟨D, true, acc⟩ :: Of s) (eβ y) (⟨D, true, acc⟩ :: Of s')) :
    RXo K (tLc wi g tt te vs) ρ O (zs.map eβ) (Of s1) :=
  rxo_lcS ρx ts hI ((filtS_fm xs s0).trans hf) hts hg fun x hx s o s' e => by
    obtain ⟨⟨b, s2⟩, e1, e2⟩ := bindE e
    refine ⟨b, s2, ht x hx s b s2 e1, fun q => ?_, fun q => ?_⟩
    · subst q
      have e2 : ((f x s2).bind fun r => some (some r.1, r.2)) = some (o, s') := e2
      obtain ⟨r, e3, e4⟩ := bindE e2
      have e4 := Option.some.inj e4
      have e5 : r.2 = s' := congrArg Prod.snd e4
      subst e5
      exact ⟨r.1, (congrArg Prod.fst e4).symm, he x hx s2 r.1 r.2 e3⟩
    · subst q
      have e2 : (some (none, s2) : Option (Option β × S)) = some (o, s') := e2
      have e2 := Option.some.inj e2
      exact ⟨(congrArg Prod.fst e2).symm, congrArg Prod.snd e2⟩
theorem mapO_S {f : α → Option β} : ∀ (xs : List α), mapS (fun x (_ : Unit) => (f x).bind fun y => some (y, ())) xs () = (mapO f xs).bind fun ys => some (ys, ())
  | [] => rfl
  | x :: xs => by
    unfold mapS mapO
    cases f x with
    | none => rfl
    | some r =>
      simp only [Option.bind_some]
      rw [mapO_S xs]
      cases mapO f xs with
      | none => rfl
      | some ys => rfl
theorem filtO_S {p : α → Option Bool} {f : α → Option β} : ∀ (xs : List α), filtS (fun x (_ : Unit) => (p x).bind fun y => some (y, ())) (fun x (_ : Unit) => (f x).bind fun y => some (y, ())) xs () = (filtO p f xs).bind fun ys => some (ys, ())
  | [] => rfl
  | x :: xs => by
    unfold filtS filtO
    cases p x with
    | none => rfl
    | some b =>
      simp only [Option.bind_some]
      cases b with
      | true =>
        simp only [if_true]
        cases f x with
        | none => rfl
        | some r =>
          simp only [Option.bind_some]
          rw [filtO_S xs]
          cases filtO p f xs with
          | none => rfl
          | some ys => rfl
      | false =>
        simp only [Bool.false_eq_true, if_false]
        rw [filtO_S xs]
theorem rxo_mapO {zs : List β} {f : α → Option β} (ρx : α → List Sl) (ts : List Nat) (hI : RI K wi ρ O (xs.map eα) O1) (hf : mapO f xs = some zs) (hts : ∀ t ∈ ts, t ∈ vs)
    (hg : ∀ x ∈ xs, RG K g (eα x) (wipeS ρ vs) (ρx x) ts) (he : ∀ x ∈ xs, ∀ y, f x = some y → ∀ D acc, RX K te (ρx x) (⟨D, true, acc⟩ :: O1) (eβ y) (⟨D, true, acc⟩ :: O1)) :
    RXo K (tLc wi g tYes te vs) ρ O (zs.map eβ) O1 :=
  rxo_mapS (S := Unit) (Of := fun _ => O1) (s0 := ()) (s1 := ()) (f := fun x (_ : Unit) => (f x).bind fun y => some (y, ())) ρx ts hI (by rw [mapO_S, hf]; rfl) hts hg fun x hx s y s' e D acc => by
    obtain ⟨z, e1, e2⟩ := bindE e
    have e2 := Option.some.inj e2
    have e3 : z = y := congrArg Prod.fst e2
    subst e3
    exact he x hx z e1 D acc
theorem rxo_filtO {zs : List β} {p : α → Option Bool} {f : α → Option β} (ρx : α → List Sl) (ts : List Nat) (hI : RI K wi ρ O (xs.map eα) O1) (hf : filtO p f xs = some zs) (hts : ∀ t ∈ ts, t ∈ vs)
    (hg : ∀ x ∈ xs, RG K g (eα x) (wipeS ρ vs) (ρx x) ts) (ht : ∀ x ∈ xs, ∀ b, p x = some b → ∀ D acc, RT K tt (ρx x) (⟨D, true, acc⟩ :: O1) b (⟨D, true, acc⟩ :: O1))
    (he : ∀ x ∈ xs, ∀ y, f x = some y → ∀ D acc, RX K te (ρx x) (⟨D, true, acc⟩ :: O1) (eβ y) (⟨D, true, acc⟩ :: O1)) :
    RXo K (tLc wi g tt te vs) ρ O (zs.map eβ) O1 :=
  rxo_filtS (S := Unit) (Of := fun _ => O1) (s0 := ()) (s1 := ()) (p := fun x (_ : Unit) => (p x).bind fun y => some (y, ())) (f := fun x (_ : Unit) => (f x).bind fun y => some (y, ())) ρx ts hI (by rw [filtO_S, hf]; rfl) hts hg (fun x hx s y s' e D acc => by
    obtain ⟨z, e1, e2⟩ := bindE e
    have e2 := Option.some.inj e2
    have e3 : z = y := congrArg Prod.fst e2
    subst e3
    exact ht x hx z e1 D acc) fun x hx s y s' e D acc => by
    obtain ⟨z, e1, e2⟩ := bindE e
    have e2 := Option.some.inj e2
    have e3 : z = y := congrArg Prod.fst e2
    subst e3
    exact he x hx z e1 D acc
theorem mapO_some {f : α → β} : ∀ xs : List α, mapO (fun x => some (f x)) xs = some (xs.map f)
  | [] => rfl
  | x :: xs => by unfold mapO; rw [mapO_some xs]; rfl
theorem filtO_some {p : α → Bool} {f : α → β} : ∀ xs : List α, filtO (fun x => some (p x)) (fun x => some (f x)) xs = some ((xs.filter p).map f)
  | [] => rfl
  | x :: xs => by
    unfold filtO
    rw [filtO_some xs, List.filter_cons]
    simp only [Option.bind_some]
    cases p x <;> rfl
theorem rxo_map {f : α → β} (ρx : α → List Sl) (ts : List Nat) (hI : RI K wi ρ O (xs.map eα) O1) (hts : ∀ t ∈ ts, t ∈ vs)
    (hg : ∀ x ∈ xs, RG K g (eα x) (wipeS ρ vs) (ρx x) ts) (he : ∀ x ∈ xs, ∀ D acc, RX K te (ρx x) (⟨D, true, acc⟩ :: O1) (eβ (f x)) (⟨D, true, acc⟩ :: O1)) :
    RXo K (tLc wi g tYes te vs) ρ O ((xs.map f).map eβ) O1 :=
  rxo_mapO (f := fun x => some (f x)) ρx ts hI (mapO_some xs) hts hg fun x hx y e D acc => by
    have e := Option.some.inj e
    subst e
    exact he x hx D acc
theorem rxo_filt {p : α → Bool} {f : α → β} (ρx : α → List Sl) (ts : List Nat) (hI : RI K wi ρ O (xs.map eα) O1) (hts : ∀ t ∈ ts, t ∈ vs)
    (hg : ∀ x ∈ xs, RG K g (eα x) (wipeS ρ vs) (ρx x) ts) (ht : ∀ x ∈ xs, ∀ D acc, RT K tt (ρx x) (⟨D, true, acc⟩ :: O1) (p x) (⟨D, true, acc⟩ :: O1))
    (he : ∀ x ∈ xs, ∀ D acc, RX K te (ρx x) (⟨D, true, acc⟩ :: O1) (eβ (f x)) (⟨D, true, acc⟩ :: O1)) :
    RXo K (tLc wi g tt te vs) ρ O (((xs.filter p).map f).map eβ) O1 :=
  rxo_filtO (p := fun x => some (p x)) (f := fun x => some (f x)) ρx ts hI (filtO_some xs) hts hg (fun x hx y e D acc => by
    have e := Option.some.inj e
    subst e
    exact ht x hx D acc) fun x hx y e D acc => by
    have e := Option.some.inj e
    subst e
    exact he x hx D acc
/-- sources by kinds -/
def enumL (xs : List α) : List (Int × α) := xs.zipIdx.map fun p => ((p.2 : Nat), p.1)
theorem ri_enumT [Enc α] {ta : TE} (h : RX K ta ρ O (.list (xs.map enc)) O1) : RI K (iEnum K (tCons ta tNil)) ρ O ((enumL xs).map enc) O1 := by
  have e : (enumL xs).map enc = enumD (xs.map enc) := by
    unfold enumL enumD
    rw [List.map_map, List.zipIdx_map, List.map_map]
    rfl
  rw [e]
  exact ri_enum h
theorem ri_zipT [Enc α] [Enc β] {ta tb : TE} {ys : List β} {O2 : Os} (h : RX K ta ρ O (.list (xs.map enc)) O1) (h' : RX K tb ρ O1 (.list (ys.map enc)) O2) : RI K (iZip K (tCons ta (tCons tb tNil))) ρ O ((xs.zip ys).map enc) O2 := by
  have e : (xs.zip ys).map enc = zipD (xs.map enc) (ys.map enc) := by
    unfold zipD
    rw [List.zip_map, List.map_map]
    rfl
  rw [e]
  exact ri_zip h h'
end

/-! ### statements -/
theorem sq {t u : TS} {D : Ends} {σ : L2.St} {H : Hp} (h : t { D with nx := u D } σ H) : tSeq t u D σ H := h
section
variable {K : Fg} {ta tb tc te : TE} {ρ ρ' : List Sl} {O O' O1 O2 O3 : Os} {F0 H0 F H : Hp} {D0 : List Addr} {σ : L2.St} {D : Ends} {d : PyData} {ds : List PyData}
theorem st_set {i : Nat} (h : RX K te ρ O d O') (E : EnvR K F σ ρ) (S : Hx K F0 H0 D0 F O H) (k : ∀ σ' F' H', Same F F' → EnvR K F' σ' (ρ.set i (.val d)) → Hx K F0 H0 D0 F' O' H' → D.nx σ' H') : tAsg te (gName i) D σ H :=
  h.go E S fun v F' H' f E' S' r => k _ F' H' f (E'.setv r i) S'
theorem st_setO {i : Nat} (h : RXo K te ρ O ds O') (E : EnvR K F σ ρ) (S : Hx K F0 H0 D0 F O H) (k : ∀ p σ' F' H', Same F F' → EnvR K F' σ' (ρ.set i (.adr p)) → Hx K F0 H0 D0 F' (⟨p, true, ds⟩ :: O') H' → D.nx σ' H') : tAsg te (gName i) D σ H :=
  h.go E S fun p F' H' f E' S' => k p _ F' H' f (E'.seta i) S'
theorem st_unp {g : TG} {ts : List Nat} (h : RX K te ρ O d O') (hg : RG K g d ρ ρ' ts) (E : EnvR K F σ ρ) (S : Hx K F0 H0 D0 F O H) (k : ∀ σ' F' H', Same F F' → EnvR K F' σ' ρ' → Hx K F0 H0 D0 F' O' H' → D.nx σ' H') : tAsg te g D σ H :=
  h.go E S fun v F' H' f E' S' r => hg.run _ F' H' v _ E' r S'.fh fun σ' E2 _ => k σ' F' H' f E2 S'
def setO {α : Type} (xs : List α) (i : Int) (x : α) : Option (List α) := (ixN xs.length i).map fun j => xs.set j x
theorem setO_map {α β : Type} (f : α → β) {xs : List α} {i : Int} {x : α} {r : List α} (h : setO xs i x = some r) : setO (xs.map f) i (f x) = some (r.map f) := by
  unfold setO at h ⊢
  rw [List.length_map]
  cases e : ixN xs.length i with
  | none => rw [e] at h; cases h
  | some j =>
    rw [e] at h
    cases h
    show some ((xs.map f).set j (f x)) = some ((xs.set j x).map f)
    rw [List.map_set]
/-- xs[i] = e, xs an own list -/
theorem st_put {i j : Nat} {a : Addr} {nw : Bool} {n : Int} {ds' : List PyData} (hn : setO ds n d = some ds') (h : RX K te ρ O d O1) (hs : ρ[i]? = some (.adr a)) (hi : RX K ta ρ O1 (.int n) O2) (hj : O2[j]? = some ⟨a, nw, ds⟩) (E : EnvR K F σ ρ) (S : Hx K F0 H0 D0 F O H)
    (k : ∀ F' H', Same F F' → EnvR K F' σ ρ → Hx K F0 H0 D0 F' (O2.set j ⟨a, nw, ds'⟩) H' → D.nx σ H') : tAsg te (gSub (tVar i) ta rSetL) D σ H :=
  h.go E S fun v F1 H1 f1 E1 S1 r1 => ⟨_, E1.adr hs, hi.go E1 S1 fun y F2 H2 f2 E2 S2 r2 => by
    cases r2
    obtain ⟨g1, g2, g3, vs, g4, g5, g6⟩ := S2.get hj
    have g4 : H2 a = some (.lst vs) := g4
    have g6 : RpAll K F2 vs ds := g6
    unfold setO at hn
    cases e : ixN ds.length n with
    | none => rw [e] at hn; cases hn
    | some m =>
      rw [e] at hn
      cases hn
      exact ⟨a, vs, n, m, rfl, rfl, g4, by rw [g6.length]; exact e, k F2 _ (f1.trans f2) E2 (S2.mut hj (by rw [List.length_set]; exact g5) (RpAll.set (r1.up f2) m g6))⟩⟩
def appO {α : Type} (xs : List α) (x : α) : Option (List α) := if xs.length < 16777216 then some (xs ++ [x]) else none
theorem appO_map {α β : Type} (f : α → β) {xs : List α} {x : α} {r : List α} (h : appO xs x = some r) : appO (xs.map f) (f x) = some (r.map f) := by
  unfold appO at h ⊢
  rw [List.length_map]
  split at h
  · rename_i hc
    cases h
    rw [if_pos hc]
    simp
  · cases h
def extO {α : Type} (xs ys : List α) : Option (List α) := if xs.length + ys.length ≤ 16777216 then some (xs ++ ys) else none
theorem extO_map {α β : Type} (f : α → β) {xs ys : List α} {r : List α} (h : extO xs ys = some r) : extO (xs.map f) (ys.map f) = some (r.map f) := by
  unfold extO at h ⊢
  rw [List.length_map, List.length_map]
  split at h
  · rename_i hc
    cases h
    rw [if_pos hc]
    simp
  · cases h
/-- xs.append(e) -/
theorem st_app {i j : Nat} {a : Addr} {nw : Bool} {ds' : List PyData} (hn : appO ds d = some ds') (hs : ρ[i]? = some (.adr a)) (h : RX K te ρ O d O1) (hj0 : ∃ e : List PyData, O[j]? = some ⟨a, nw, e⟩) (hj : O1[j]? = some ⟨a, nw, ds⟩) (E : EnvR K F σ ρ) (S : Hx K F0 H0 D0 F O H)
    (k : ∀ F' H', Same F F' → EnvR K F' σ ρ → Hx K F0 H0 D0 F' (O1.set j ⟨a, nw, ds'⟩) H' → D.nx σ H') : tDrop (tBM K "list" rAppend (tVar i) (tCons te tNil)) D σ H := by
  obtain ⟨e0, hj0⟩ := hj0
  obtain ⟨_, _, _, vs0, g0, _⟩ := S.get hj0
  refine ⟨_, E.adr hs, .inl ⟨rfl, _, .inl (.inl g0)⟩, h.go E S fun v F1 H1 f1 E1 S1 r1 => ?_⟩
  obtain ⟨g1, g2, g3, vs, g4, g5, g6⟩ := S1.get hj
  have g4 : H1 a = some (.lst vs) := g4
  have g6 : RpAll K F1 vs ds := g6
  unfold appO at hn
  split at hn
  · rename_i hc
    cases hn
    have hz : vs.length < sizeLine := by rw [g6.length, sizeLine_eq]; exact hc
    exact ⟨a, vs, v, rfl, rfl, g4, hz, k F1 _ f1 E1 (S1.mut hj (by rw [List.length_append, List.length_singleton]; omega) (g6.append (.cons r1 .nil)))⟩
  · cases hn
theorem list_extendW (l : Addr) (items : Array Value) (n : Nat) (b : Addr) (items2 : Array Value) (n2 : Nat) (dd2 : Option Addr) (sl2 : Array (Option Value)) (hc0 : ¬(!items.isEmpty && Builtin.List.listTooLong (items.size + items2.size)) = true) (hc1 : items.size ≤ sizeLine) (hs2 : items.size + items2.size ≤ sizeLine + 1) :
    Meets (Builtin.«list.extend» ⟨[.ref l, .ref b], []⟩) (fun _ R s => s.heap.get? l = some { cls := .type "list", dict := none, data := .seq items n, slots := #[] } ∧ s.heap.get? b = some { cls := .type "list", dict := dd2, data := .seq items2 n2, slots := sl2 } ∧ R (.ok (.ret Value.none)) { s with heap := s.heap.update l (Obj.mapSeq fun x => x ++ items2), toks := s.toks }) :=
  .of_wp fun prog w A R s h => by
    obtain ⟨hp, g, d, tk, os⟩ := s; obtain ⟨hl, hb, h⟩ := h; have f1 := AutoSeq1.idx_int; have f2 := AutoSeq1.sub_tuple_tuple; have f3 := AutoSeq1.sub_list_list; have f4 := AutoSeq1.sub_tuple_list; have f5 := AutoSeq1.sub_list_tuple;
    have hz' : (items ++ items2).size ≤ sizeLine + 1 := by rw [Array.size_append]; exact hs2
    wp_walk using (wpAny_updateSeq hl rfl (hz := hc1) (_hz' := hz')), wpAny_loadPart' hl, wpAny_loadPart' hb; exact ⟨_, rfl, h⟩
def rExtR (K : Fg) : V → List V → Hp → VK → Prop := fun x vs H Q => ∃ l b xs zs, x = .ref l ∧ vs = [.ref b] ∧ H l = some (.lst xs) ∧ SqL K H b zs ∧ xs.length + zs.length ≤ sizeLine ∧ Q .non (upd H l (.lst (xs ++ zs)))
theorem mt_extR {X : Cx} : MtM X "list.extend" (rExtR X.K) := by
  intro pins s σ H x vs v us Q I rx rv h
  obtain ⟨l, b, xs, zs, rfl, rfl, hH, hB, hz, q⟩ := h
  cases rx
  obtain ⟨u, rfl, ru⟩ := rv.one
  cases ru
  obtain ⟨z, its, n, r, hl, e⟩ := I.lstM hH
  obtain ⟨its2, r2, ⟨⟨cls2, dd2, data2, sl2⟩, n2, e2, hc2, hd2, hx2⟩, z2⟩ := I.list hB
  simp only at hc2 hd2 hx2
  subst hc2 hx2
  have hl2 := r2.length
  have hsz : its.toArray.size + its2.toArray.size ≤ sizeLine := by rw [List.size_toArray, List.size_toArray]; omega
  have hlong : ¬ (!its.toArray.isEmpty && Builtin.List.listTooLong (its.toArray.size + its2.toArray.size)) = true := by
    rw [notLongL hsz, Bool.and_false]
    exact Bool.false_ne_true
  refine call_meets F.slot_list_extend ⟨_, e, rfl⟩ F.entry_list_extend (F.args_list_extend_2 _ _)
    (list_extendW l its.toArray n b its2.toArray n2 dd2 sl2 hlong (by rw [List.size_toArray]; omega) (by omega)) ⟨e, e2, ?_⟩
  refine ⟨.non, _, I.lset (its' := its ++ its2) hH e (by simp) (r.append r2) ?_, rfl, q⟩
  rw [List.length_append]
  omega
/-- xs.extend(e) -/
theorem st_ext {i j : Nat} {a : Addr} {nw : Bool} {es ds' : List PyData} (hn : extO ds es = some ds') (hs : ρ[i]? = some (.adr a)) (h : RX K te ρ O (.list es) O1) (hj0 : ∃ e : List PyData, O[j]? = some ⟨a, nw, e⟩) (hj : O1[j]? = some ⟨a, nw, ds⟩) (E : EnvR K F σ ρ) (S : Hx K F0 H0 D0 F O H)
    (k : ∀ F' H', Same F F' → EnvR K F' σ ρ → Hx K F0 H0 D0 F' (O1.set j ⟨a, nw, ds'⟩) H' → D.nx σ H') : tDrop (tBM K "list" (rExtR K) (tVar i) (tCons te tNil)) D σ H := by
  obtain ⟨e0, hj0⟩ := hj0
  obtain ⟨_, _, _, vs0, g0, _⟩ := S.get hj0
  refine ⟨_, E.adr hs, .inl ⟨rfl, _, .inl (.inl g0)⟩, h.go E S fun v F1 H1 f1 E1 S1 r1 => ?_⟩
  obtain ⟨g1, g2, g3, vs, g4, g5, g6⟩ := S1.get hj
  have g4 : H1 a = some (.lst vs) := g4
  have g6 : RpAll K F1 vs ds := g6
  cases r1 with
  | @lst b zs _ q1 q2 q3 =>
    unfold extO at hn
    split at hn
    · rename_i hc
      cases hn
      have hz : vs.length + zs.length ≤ sizeLine := by rw [g6.length, q3.length, sizeLine_eq]; exact hc
      exact ⟨a, b, vs, zs, rfl, rfl, g4, S1.fh.seq q1, hz, k F1 _ f1 E1 (S1.mut hj (by rw [List.length_append]; omega) (g6.append q3))⟩
    · cases hn
theorem st_expr (h : RX K te ρ O d O') (E : EnvR K F σ ρ) (S : Hx K F0 H0 D0 F O H) (k : ∀ F' H', Same F F' → EnvR K F' σ ρ → Hx K F0 H0 D0 F' O' H' → D.nx σ H') : tDrop te D σ H :=
  h.go E S fun v F' H' f E' S' r => k F' H' f E' S'
theorem st_ret (h : RX K te ρ O d O') (E : EnvR K F σ ρ) (S : Hx K F0 H0 D0 F O H) (k : ∀ v F' H', Same F F' → Hx K F0 H0 D0 F' O' H' → Rp K F' v d → D.rt v H') : tRet te D σ H :=
  h.go E S fun v F' H' f E' S' r => k v F' H' f S' r
theorem st_retO (h : RXo K te ρ O ds O') (E : EnvR K F σ ρ) (S : Hx K F0 H0 D0 F O H) (k : ∀ p F' H', Same F F' → Hx K F0 H0 D0 F' (⟨p, true, ds⟩ :: O') H' → D.rt (.ref p) H') : tRet te D σ H :=
  h.go E S fun v F' H' f E' S' => k v F' H' f S'
/-- return xs, xs an own list -/
theorem st_retA {i : Nat} {a : Addr} (hs : ρ[i]? = some (.adr a)) (E : EnvR K F σ ρ) (k : D.rt (.ref a) H) : tRet (tVar i) D σ H := ⟨_, E.adr hs, k⟩
/-- an own list is frozen -/
theorem frz_at {i j : Nat} {a : Addr} (hs : ρ[i]? = some (.adr a)) (hj : O[j]? = some ⟨a, true, ds⟩) (E : EnvR K F σ ρ) (S : Hx K F0 H0 D0 F O H) :
    ∃ F', Same F F' ∧ EnvR K F' σ (ρ.set i (.val (.list ds))) ∧ Hx K F0 H0 D0 F' (O.eraseIdx j) H := by
  obtain ⟨F', f, S', r⟩ := S.frz hj
  have q := E.adr hs
  have E2 := EnvR.setv (E.up f) r i
  have e : σ.set i (some (.ref a)) = σ := by
    apply List.ext_getElem?
    intro n
    by_cases e : i = n
    · subst e
      rw [List.getElem?_set_self (List.getElem?_eq_some_iff.mp q).1, q]
    · rw [List.getElem?_set_ne e]
  rw [e] at E2
  exact ⟨F', f, E2, S'⟩
theorem st_if {c : TT} {t u : TS} {b : Bool} (hc : RT K c ρ O b O') (E : EnvR K F σ ρ) (S : Hx K F0 H0 D0 F O H) (h1 : b = true → ∀ F' H', Same F F' → EnvR K F' σ ρ → Hx K F0 H0 D0 F' O' H' → t D σ H')
    (h0 : b = false → ∀ F' H', Same F F' → EnvR K F' σ ρ → Hx K F0 H0 D0 F' O' H' → u D σ H') : tIfS c t u D σ H := hc.go E S fun F' H' f E' S' => by
  cases b with
  | true => exact iteT (h1 rfl F' H' f E' S')
  | false => exact iteF (h0 rfl F' H' f E' S')
/-- both ways meet -/
theorem st_ifJ {c : TT} {t u : TS} {b : Bool} (ρ' : List Sl) (O2 : Os) (hc : RT K c ρ O b O') (E : EnvR K F σ ρ) (S : Hx K F0 H0 D0 F O H) (rest : ∀ σ' F' H', Same F F' → EnvR K F' σ' ρ' → Hx K F0 H0 D0 F' O2 H' → D.nx σ' H')
    (h1 : b = true → ∀ (F' H' : Hp), (∀ σ' F' H', Same F F' → EnvR K F' σ' ρ' → Hx K F0 H0 D0 F' O2 H' → D.nx σ' H') → Same F F' → EnvR K F' σ ρ → Hx K F0 H0 D0 F' O' H' → t D σ H')
    (h0 : b = false → ∀ (F' H' : Hp), (∀ σ' F' H', Same F F' → EnvR K F' σ' ρ' → Hx K F0 H0 D0 F' O2 H' → D.nx σ' H') → Same F F' → EnvR K F' σ ρ → Hx K F0 H0 D0 F' O' H' → u D σ H') : tIfS c t u D σ H := hc.go E S fun F' H' f E' S' => by
  cases b with
  | true => exact iteT (h1 rfl F' H' rest f E' S')
  | false => exact iteF (h0 rfl F' H' rest f E' S')
theorem st_aug {i : Nat} {op : Int → Int → Int} {x y : Int} (hx : ρ[i]? = some (.val (.int x))) (h : RX K te ρ O (.int y) O') (E : EnvR K F σ ρ) (S : Hx K F0 H0 D0 F O H) (k : ∀ σ' F' H', Same F F' → EnvR K F' σ' (ρ.set i (.val (.int (op x y)))) → Hx K F0 H0 D0 F' O' H' → D.nx σ' H') :
    tAug i te (ipI op) D σ H := by
  obtain ⟨v, h1, h2⟩ := E.val hx
  cases h2
  refine ⟨_, h1, h.go E S fun w F' H' f E' S' r => ?_⟩
  cases r
  exact ⟨x, y, rfl, rfl, k _ F' H' f (E'.setv (.int _) i) S'⟩
end
end TL

namespace TL
open PySem L2
open Enc
section
variable {K : Fg} {ρ : List Sl} {O : Os} {F0 H0 F H : Hp} {D0 : List Addr} {σ : L2.St} {D : Ends}
theorem walk_of {α : Type} {eα : α → PyData} {J : It} {xs : List α} {F1 : Hp} (w : WalkD K J (xs.map eα) F1) :
    Walk J xs.length (fun H => ∃ F O, Same F1 F ∧ Hx K F0 H0 D0 F O H) (fun i H x H' => ∀ F O, Same F1 F → Hx K F0 H0 D0 F O H → ∃ F' y, Same F F' ∧ Hx K F0 H0 D0 F' O H' ∧ xs[i]? = some y ∧ Rp K F' x (eα y)) := by
  have hl : (xs.map eα).length = xs.length := List.length_map _
  refine ⟨fun i H hi q => ?_, fun H q => ?_, fun i H x H' hi _ y F O f S => ?_⟩
  · obtain ⟨F, O, f, S⟩ := q
    exact w.go F0 H0 D0 F O H i (by rw [hl]; exact hi) f S
  · obtain ⟨F, O, f, S⟩ := q
    have := w.stop F0 H0 D0 F O H f S
    rw [hl] at this
    exact this
  · obtain ⟨F', y', f', S', e, r⟩ := w.yld F0 H0 D0 F O H i x H' (by rw [hl]; exact hi) f S y
    rw [List.getElem?_map] at e
    cases e2 : xs[i]? with
    | none => rw [e2] at e; cases e
    | some z =>
      rw [e2] at e
      have e3 : eα z = y' := Option.some.inj e
      subst e3
      exact ⟨F', z, f', S', rfl, r⟩
/-- a for over data, with ways out -/
theorem st_forF {α S R : Type} {eα : α → PyData} {wi : TI} {g : TG} {tb : TS} {xs : List α} {f : α → S → Option (Fl S R)} {s0 : S} {fl : Fl S R} (ρf : S → List Sl) (Of : S → Os) (E : EnvR K F σ ρ) (S0 : Hx K F0 H0 D0 F O H) (hI : RI K wi ρ O (xs.map eα) (Of s0)) (hf : forF f xs s0 = some fl) (hW : Wk ρ (ρf s0))
    (kn : ∀ s, fl = .nx s → ∀ σ' F' H', Same F F' → EnvR K F' σ' (ρf s) → Hx K F0 H0 D0 F' (Of s) H' → D.nx σ' H')
    (body : ∀ x ∈ xs, ∀ s out, f x s = some out → (∀ r, out = .rt r → fl = .rt r) → ∀ σ1 F1 H1 v, Same F F1 → EnvR K F1 σ1 (ρf s) → Hx K F0 H0 D0 F1 (Of s) H1 → Rp K F1 v (eα x) →
      ∀ (N B : L2.St → Hp → Prop), (∀ s', out = .nx s' → ∀ σ' F' H', Same F1 F' → EnvR K F' σ' (ρf s') → Hx K F0 H0 D0 F' (Of s') H' → N σ' H') →
      (∀ s', out = .bk s' → ∀ σ' F' H', Same F1 F' → EnvR K F' σ' (ρf s') → Hx K F0 H0 D0 F' (Of s') H' → B σ' H') → g v σ1 H1 fun σ2 H2 => tb { D with nx := N, ct := N, bk := B } σ2 H2) :
    tFor wi g tb D σ H := hI.go E S0 fun J F1 H1 f1 E1 S1 w => by
  refine for_it (walk_of w) (fun i σ H => ∃ s F2, Same F1 F2 ∧ EnvR K F2 σ (ρf s) ∧ Hx K F0 H0 D0 F2 (Of s) H ∧ forF f (xs.drop i) s = some fl) ⟨s0, F1, Same.refl _, E1.weak hW, S1, hf⟩
    (fun i σ H _ q => by obtain ⟨s, F2, q1, q2, q3, _⟩ := q; exact ⟨F2, _, q1, q3⟩) (fun i x σ H H' hi q y => ?_) (fun σ H q => ?_)
  · obtain ⟨s, F2, q1, q2, q3, q4⟩ := q
    obtain ⟨F3, z, f3, S3, ez, rz⟩ := y F2 _ q1 q3
    have hm : z ∈ xs := List.mem_of_getElem? ez
    have hi' : xs[i] = z := by
      rw [List.getElem?_eq_getElem hi] at ez
      exact Option.some.inj ez
    rw [List.drop_eq_getElem_cons hi, hi'] at q4
    obtain ⟨out, e1, q4⟩ := bindE q4
    refine body z hm s out e1 (fun r eo => ?_) σ F3 H' x ((f1.trans q1).trans f3) (q2.up f3) S3 rz _ _ (fun s' eo σ' F' H' ff E' S' => ?_) (fun s' eo σ' F' H' ff E' S' => ?_)
    · subst eo
      have q4 : (some (.rt r) : Option (Fl S R)) = some fl := q4
      exact (Option.some.inj q4).symm
    · subst eo
      exact ⟨s', F', (q1.trans f3).trans ff, E', S', q4⟩
    · subst eo
      have q4 : (some (.nx s') : Option (Fl S R)) = some fl := q4
      exact kn s' (Option.some.inj q4).symm σ' F' H' (((f1.trans q1).trans f3).trans ff) E' S'
  · obtain ⟨s, F2, q1, q2, q3, q4⟩ := q
    rw [List.drop_length] at q4
    exact kn s (Option.some.inj q4).symm σ F2 H (f1.trans q1) q2 q3
/-- .. without -/
theorem st_forS {α S : Type} {eα : α → PyData} {wi : TI} {g : TG} {tb : TS} {xs : List α} {f : α → S → Option S} {s0 s1 : S} (ρf : S → List Sl) (Of : S → Os) (E : EnvR K F σ ρ) (S0 : Hx K F0 H0 D0 F O H) (hI : RI K wi ρ O (xs.map eα) (Of s0)) (hf : forS f xs s0 = some s1) (hW : Wk ρ (ρf s0))
    (kn : ∀ σ' F' H', Same F F' → EnvR K F' σ' (ρf s1) → Hx K F0 H0 D0 F' (Of s1) H' → D.nx σ' H')
    (body : ∀ x ∈ xs, ∀ s s', f x s = some s' → ∀ σ1 F1 H1 v, Same F F1 → EnvR K F1 σ1 (ρf s) → Hx K F0 H0 D0 F1 (Of s) H1 → Rp K F1 v (eα x) →
      ∀ (N B : L2.St → Hp → Prop), (∀ σ' F' H', Same F1 F' → EnvR K F' σ' (ρf s') → Hx K F0 H0 D0 F' (Of s') H' → N σ' H') → g v σ1 H1 fun σ2 H2 => tb { D with nx := N, ct := N, bk := B } σ2 H2) :
    tFor wi g tb D σ H := by
  have e : ∀ (ys : List α) (s : S), forF (R := Empty) (fun x s => (f x s).bind fun s' => some (.nx s')) ys s = (forS f ys s).bind fun s' => some (.nx s') := by
    intro ys
    induction ys with
    | nil => intro s; rfl
    | cons y ys ih =>
      intro s
      unfold forF forS
      cases f y s with
      | none => rfl
      | some s' => exact ih s'
  refine st_forF (R := Empty) (fl := .nx s1) (f := fun x s => (f x s).bind fun s' => some (.nx s')) ρf Of E S0 hI (by rw [e, hf]; rfl) hW (fun s eq => ?_) fun x hx s out ho _ σ1 F1 H1 v g1 g2 g3 g4 N B hN hB => ?_
  · cases eq
    exact kn
  · obtain ⟨s', e1, e2⟩ := bindE ho
    exact body x hx s s' e1 σ1 F1 H1 v g1 g2 g3 g4 N B (hN s' (Option.some.inj e2).symm)
theorem st_whileF {S R : Type} {tc : TT} {tb : TS} {c : S → Option Bool} {f : S → Option (Fl S R)} {n : Nat} {s0 : S} {fl : Fl S R} (ρf : S → List Sl) (Of : S → Os) (E : EnvR K F σ ρ) (S0 : Hx K F0 H0 D0 F (Of s0) H) (hf : whileF c f n s0 = some fl) (ht : ∀ s b, c s = some b → RT K tc (ρf s) (Of s) b (Of s)) (hW : Wk ρ (ρf s0))
    (kn : ∀ s, fl = .nx s → ∀ σ' F' H', Same F F' → EnvR K F' σ' (ρf s) → Hx K F0 H0 D0 F' (Of s) H' → D.nx σ' H')
    (body : ∀ s out, c s = some true → f s = some out → (∀ r, out = .rt r → fl = .rt r) → ∀ σ1 F1 H1, Same F F1 → EnvR K F1 σ1 (ρf s) → Hx K F0 H0 D0 F1 (Of s) H1 →
      ∀ (N B : L2.St → Hp → Prop), (∀ s', out = .nx s' → ∀ σ' F' H', Same F1 F' → EnvR K F' σ' (ρf s') → Hx K F0 H0 D0 F' (Of s') H' → N σ' H') →
      (∀ s', out = .bk s' → ∀ σ' F' H', Same F1 F' → EnvR K F' σ' (ρf s') → Hx K F0 H0 D0 F' (Of s') H' → B σ' H') → tb { D with nx := N, ct := N, bk := B } σ1 H1) :
    tWhile tc tb D σ H := by
  refine ⟨fun m σ H => ∃ s F2, Same F F2 ∧ EnvR K F2 σ (ρf s) ∧ Hx K F0 H0 D0 F2 (Of s) H ∧ whileF c f m s = some fl, ⟨n, s0, F, Same.refl _, E.weak hW, S0, hf⟩, ?_⟩
  rintro m σ H ⟨s, F2, q1, q2, q3, q4⟩
  cases m with
  | zero => cases q4
  | succ m =>
    obtain ⟨b, e1, q4⟩ := bindE q4
    refine (ht s b e1).go q2 q3 fun F3 H3 f3 E3 S3 => ?_
    cases b with
    | false =>
      have q4 : (some (.nx s) : Option (Fl S R)) = some fl := q4
      exact iteF (kn s (Option.some.inj q4).symm σ F3 H3 (q1.trans f3) E3 S3)
    | true =>
      have q4 : ((f s).bind fun r => match r with
        | .nx s' => whileF c f m s'
        | .bk s' => some (.nx s')
        | .rt r => some (.rt r)) = some fl := q4
      obtain ⟨out, e2, q4⟩ := bindE q4
      refine iteT ⟨fun σ' H' => ∃ s' F4, Same F F4 ∧ EnvR K F4 σ' (ρf s') ∧ Hx K F0 H0 D0 F4 (Of s') H' ∧ whileF c f m s' = some fl, fun σ' H' q => ⟨m, Nat.lt_succ_self m, q⟩, ?_⟩
      refine body s out e1 e2 (fun r eo => ?_) σ F3 H3 (q1.trans f3) E3 S3 _ _ (fun s' eo σ' F' H' ff E' S' => ?_) (fun s' eo σ' F' H' ff E' S' => ?_)
      · subst eo
        have q4 : (some (.rt r) : Option (Fl S R)) = some fl := q4
        exact (Option.some.inj q4).symm
      · subst eo
        exact ⟨s', F', (q1.trans f3).trans ff, E', S', q4⟩
      · subst eo
        have q4 : (some (.nx s') : Option (Fl S R)) = some fl := q4
        exact kn s' (Option.some.inj q4).symm σ' F' H' ((q1.trans f3).trans ff) E' S'
theorem st_whileS {S : Type} {tc : TT} {tb : TS} {c : S → Option Bool} {f : S → Option S} {n : Nat} {s0 s1 : S} (ρf : S → List Sl) (Of : S → Os) (E : EnvR K F σ ρ) (S0 : Hx K F0 H0 D0 F (Of s0) H) (hf : whileS c f n s0 = some s1) (ht : ∀ s b, c s = some b → RT K tc (ρf s) (Of s) b (Of s)) (hW : Wk ρ (ρf s0))
    (kn : ∀ σ' F' H', Same F F' → EnvR K F' σ' (ρf s1) → Hx K F0 H0 D0 F' (Of s1) H' → D.nx σ' H')
    (body : ∀ s s', c s = some true → f s = some s' → ∀ σ1 F1 H1, Same F F1 → EnvR K F1 σ1 (ρf s) → Hx K F0 H0 D0 F1 (Of s) H1 →
      ∀ (N B : L2.St → Hp → Prop), (∀ σ' F' H', Same F1 F' → EnvR K F' σ' (ρf s') → Hx K F0 H0 D0 F' (Of s') H' → N σ' H') → tb { D with nx := N, ct := N, bk := B } σ1 H1) :
    tWhile tc tb D σ H := by
  have e : ∀ (n : Nat) (s : S), whileF (R := Empty) c (fun s => (f s).bind fun s' => some (.nx s')) n s = (whileS c f n s).bind fun s' => some (.nx s') := by
    intro n
    induction n with
    | zero => intro s; rfl
    | succ n ih =>
      intro s
      unfold whileF whileS
      cases c s with
      | none => rfl
      | some b =>
        cases b with
        | false => rfl
        | true =>
          simp only [Option.bind_some, if_true]
          cases f s with
          | none => rfl
          | some s' => exact ih s'
  refine st_whileF (R := Empty) (fl := .nx s1) (f := fun s => (f s).bind fun s' => some (.nx s')) ρf Of E S0 (by rw [e, hf]; rfl) ht hW (fun s eq => ?_) fun s out hc ho _ σ1 F1 H1 g1 g2 g3 N B hN hB => ?_
  · cases eq
    exact kn
  · obtain ⟨s', e1, e2⟩ := bindE ho
    exact body s s' hc e1 σ1 F1 H1 g1 g2 g3 N B (hN s' (Option.some.inj e2).symm)
end

/-! ### defs -/
section
variable {P : Program} {w : World} {K : Fg} {mg : Str → Option Value} {base : Heap}
/-- a def that is there and keeps its promise -/
def Cal (P : Program) (w : World) (K : Fg) (mg : Str → Option Value) (base : Heap) (k : Nat) (x : Str) (ps : List Str) (sp : Sp) : Prop :=
  ∃ f fd, FnOk P w K mg base CX0 k f fd ps sp ∧ mg x = some (.ref f) ∧ PySem.W.keepIn K (.ref f) = true ∧ Binds K fd ps []
/-- a def that is there -/
def Dfn (K : Fg) (mg : Str → Option Value) (x : Str) (st : Stmt) (ps : List Str) : Prop := ∃ f fd, Fun K x x st f fd ∧ mg x = some (.ref f) ∧ Binds K fd ps []
theorem Dfn.cal {x : Str} {st : Stmt} {N ps : List Str} {k : Nat} {sp : Sp} (h : Dfn K mg x st ps) (S : FnScope N ps (defScope st)) (len : ∀ vs H Q E, sp vs H Q E → vs.length = ps.length)
    (hbody : ∀ (f : Addr) (cdv : Value) (A : Around) (outer : List Env) (s : Shared) (H : Hp) (vs : List V) (Q : VK) (E : XK), Room k (A.deeper (PyProof.Rows.envOfC x (defScope st) s.heap.objs.size f cdv)) → sp vs H Q E →
      ∃ t, PSs (cxOf CX0 P w K mg base N x (defScope st) f cdv A outer s H E).nox (defBody st) t ∧ t { nx := fun _ H' => Q .non H', rt := Q } (start N vs) H) : Cal P w K mg base (k + 1) x ps sp := by
  obtain ⟨f, fd, F, hm, b⟩ := h
  exact ⟨f, fd, F.ok S len fun cdv A outer s H vs Q E hr hs => hbody f cdv A outer s H vs Q E hr hs, hm, F.kp, b⟩
theorem Cal.mono {j k : Nat} {x : Str} {ps : List Str} {sp : Sp} (h : Cal P w K mg base j x ps sp) (hk : j ≤ k) : Cal P w K mg base k x ps sp := by
  obtain ⟨f, fd, F, r⟩ := h
  exact ⟨f, fd, F.mono hk, r⟩
theorem Cal.imp {k : Nat} {x : Str} {ps : List Str} {sp sp' : Sp} (h : Cal P w K mg base k x ps sp) (hi : ∀ vs H Q E, sp' vs H Q E → sp vs H Q E) : Cal P w K mg base k x ps sp' := by
  obtain ⟨f, fd, F, r⟩ := h
  exact ⟨f, fd, F.imp hi, r⟩
theorem pe_cal {X : Cx} {j k : Nat} {x : Str} {ps : List Str} {sp : Sp} {p pos : Pos} {e : Expr} {es : List Expr} {t : TA} (C : Cal X.prog X.w X.K X.mg X.base j x ps sp) (hr : Room k X.A) (ha : PA X (e :: es) t) (hjk : j ≤ k := by decide) (hg : Gl X x := by rfl) (hdb : (x == ("__debug__" : Str)) = false := by decide)
    (he : starEach (e :: es) X.env = (false, eval e X.env) :: starEach es X.env := by rfl) (hpl : (backTo pos (starEach es X.env)).any (·.1) = false := by rfl) :
    PE X (.Call (.Name x p) (e :: es) [] pos) (tCall sp [] L2.E0 t) := by
  obtain ⟨f, fd, F, hm, kp, b⟩ := C
  exact pe_call F (hr.mono hjk) hg hm kp b .nil pass0 ha hdb he hpl
/-- the entry -/
theorem sp_len {R : List PyData → PyData → Prop} {n : Nat} (h : ∀ ds d, R ds d → ds.length = n) : ∀ vs H Q E, SpP K R vs H Q E → vs.length = n := fun vs H Q E ⟨F, ds, d, r, _, hR, _⟩ => r.length.trans (h ds d hR)
theorem sn_len {R : List PyData → List PyData → Prop} {n : Nat} (h : ∀ ds d, R ds d → ds.length = n) : ∀ vs H Q E, SpN K R vs H Q E → vs.length = n := fun vs H Q E ⟨F, ds, d, r, _, hR, _⟩ => r.length.trans (h ds d hR)
theorem spo_len {R : List PyData → List PyData → PyData → List PyData → Prop} {n : Nat} (h : ∀ c ds d c', R c ds d c' → ds.length + 1 = n) : ∀ vs H Q E, SpPo K R vs H Q E → vs.length = n := fun vs H Q E ⟨F, p, ws, xs, c, ds, d, c', e, r, _, _, _, _, _, hR, _⟩ => by
  subst e
  rw [List.length_cons, r.length]
  exact h c ds d c' hR
theorem sno_len {R : List PyData → List PyData → List PyData → List PyData → Prop} {n : Nat} (h : ∀ c ds d c', R c ds d c' → ds.length + 1 = n) : ∀ vs H Q E, SpNo K R vs H Q E → vs.length = n := fun vs H Q E ⟨F, p, ws, xs, c, ds, d, c', e, r, _, _, _, _, _, hR, _⟩ => by
  subst e
  rw [List.length_cons, r.length]
  exact h c ds d c' hR
theorem AsR.of_all {F : Hp} : ∀ {vs : List V} {ds : List PyData}, RpAll K F vs ds → AsR K F vs (ds.map .val)
  | _, _, .nil => .nil
  | _, _, .cons r t => .val r (AsR.of_all t)
end
end TL

namespace TL
open PySem L2
open Enc
def modO (i j : Int) : Option Int := if 0 < j then some (i % j) else none
def fdivO (i j : Int) : Option Int := if 0 < j ∧ j < 1073741824 then some (i / j) else none
def mulO (i j : Int) : Option Int := if (-18446744073709551616 < i ∧ i < 18446744073709551616) ∨ (-18446744073709551616 < j ∧ j < 18446744073709551616) then some (i * j) else none
def shlO (i j : Int) : Option Int := if 0 ≤ j ∧ j ≤ 1000000 ∧ -18446744073709551616 < i ∧ i < 18446744073709551616 then some (i * 2 ^ j.toNat) else none
def shrO (i j : Int) : Option Int := if 0 ≤ j then some (i / 2 ^ j.toNat) else none
def powO (i j : Int) : Option Int := if 0 ≤ j ∧ j ≤ 1000000 ∧ -18446744073709551616 < i ∧ i < 18446744073709551616 then some (i ^ j.toNat) else none
def repO {α : Type} (xs : List α) (i : Int) : Option (List α) := if xs.length * i.toNat ≤ 16777216 ∧ -9223372036854775808 ≤ i ∧ i < 9223372036854775808 then some (List.replicate i.toNat xs).flatten else none
def eqO {α : Type} [Enc α] [DecidableEq α] [EqD α] (x y : α) : Option Bool := if EqD.ok x = true ∧ EqD.ok y = true then some (decide (x = y)) else none
/-- kinds without texts -/
class EqT (α : Type) [Enc α] [DecidableEq α] [EqD α] : Prop where
  ok : ∀ x : α, EqD.ok x = true
instance : EqT Int := ⟨fun _ => rfl⟩
instance : EqT Bool := ⟨fun _ => rfl⟩
instance : EqT (Option Int) := ⟨fun _ => rfl⟩
instance {α : Type} [Enc α] [DecidableEq α] [EqD α] [EqT α] : EqT (List α) := ⟨fun x => List.all_eq_true.mpr fun y _ => EqT.ok y⟩
instance {α : Type} [Enc α] [DecidableEq α] [EqD α] [EqT α] : EqT (Tp α) := ⟨fun x => List.all_eq_true.mpr fun y _ => EqT.ok y⟩
instance {α β : Type} [Enc α] [DecidableEq α] [EqD α] [EqT α] [Enc β] [DecidableEq β] [EqD β] [EqT β] : EqT (α × β) := ⟨fun x => by
  show (EqD.ok x.1 && EqD.ok x.2) = true
  rw [EqT.ok, EqT.ok]; rfl⟩
section
variable {K : Fg} {ta tb te : TE} {ρ : List Sl} {O O1 O2 : Os} {i j r : Int}
theorem rx_as {α : Type} [Enc α] {x y : α} {O' : Os} (e : x = y) (h : RX K ta ρ O (enc x) O') : RX K ta ρ O (enc y) O' := e ▸ h
theorem rxo_as {α : Type} {f : α → PyData} {x y : List α} {O' : Os} (e : x = y) (h : RXo K ta ρ O (x.map f) O') : RXo K ta ρ O (y.map f) O' := e ▸ h
theorem rx_modO (h : modO i j = some r) (ha : RX K ta ρ O (.int i) O1) (hb : RX K tb ρ O1 (.int j) O2) : RX K (tOp (rI (fun _ j => 0 < j) fun i j => .int (i % j)) ta tb) ρ O (.int r) O2 := by
  unfold modO at h
  split at h
  · rename_i hc; cases h; exact rx_mod ha hb hc
  · cases h
theorem rx_fdivO (h : fdivO i j = some r) (ha : RX K ta ρ O (.int i) O1) (hb : RX K tb ρ O1 (.int j) O2) : RX K (tOp (rI CDiv fun i j => .int (i / j)) ta tb) ρ O (.int r) O2 := by
  unfold fdivO at h
  split at h
  · rename_i hc; cases h; exact rx_fdiv ha hb hc
  · cases h
theorem rx_mulO (h : mulO i j = some r) (ha : RX K ta ρ O (.int i) O1) (hb : RX K tb ρ O1 (.int j) O2) : RX K (tOp (rI CMul fun i j => .int (i * j)) ta tb) ρ O (.int r) O2 := by
  unfold mulO at h
  split at h
  · rename_i hc; cases h; exact rx_mul ha hb hc
  · cases h
theorem cpow_of {i j : Int} (h : 0 ≤ j ∧ j ≤ 1000000 ∧ -18446744073709551616 < i ∧ i < 18446744073709551616) : CPow i j := ⟨h.1, h.2.1, by
  have h1 := h.2.2.1
  have h2 := h.2.2.2
  omega⟩
theorem rx_shlO (h : shlO i j = some r) (ha : RX K ta ρ O (.int i) O1) (hb : RX K tb ρ O1 (.int j) O2) : RX K (tOp (rI CPow fun i j => .int (i * 2 ^ j.toNat)) ta tb) ρ O (.int r) O2 := by
  unfold shlO at h
  split at h
  · rename_i hc; cases h; exact rx_shl ha hb (cpow_of hc)
  · cases h
theorem rx_powO (h : powO i j = some r) (ha : RX K ta ρ O (.int i) O1) (hb : RX K tb ρ O1 (.int j) O2) : RX K (tOp (rI CPow fun i j => .int (i ^ j.toNat)) ta tb) ρ O (.int r) O2 := by
  unfold powO at h
  split at h
  · rename_i hc; cases h; exact rx_pow ha hb (cpow_of hc)
  · cases h
theorem rx_shrO (h : shrO i j = some r) (ha : RX K ta ρ O (.int i) O1) (hb : RX K tb ρ O1 (.int j) O2) : RX K (tOp (rI (fun _ j => 0 ≤ j) fun i j => .int (i / 2 ^ j.toNat)) ta tb) ρ O (.int r) O2 := by
  unfold shrO at h
  split at h
  · rename_i hc; cases h; exact rx_shr ha hb hc
  · cases h
theorem ext_len {α : Type} {xs ys zs : List α} (h : extO xs ys = some zs) : xs.length + ys.length ≤ sizeLine ∧ zs = xs ++ ys := by
  unfold extO at h
  split at h
  · rename_i hc; cases h; rw [sizeLine_eq]; exact ⟨hc, rfl⟩
  · cases h
theorem rxo_catO {α : Type} {f : α → PyData} {xs ys zs : List α} (h : extO xs ys = some zs) (ha : RXs K ta ρ O (xs.map f) O1) (hb : RXs K tb ρ O1 (ys.map f) O1) : RXo K (tOp (rCatR K) ta tb) ρ O (zs.map f) O1 := by
  obtain ⟨h1, rfl⟩ := ext_len h
  rw [List.map_append]
  exact rxo_cat ha hb (by rw [List.length_map, List.length_map]; exact h1)
theorem rxo_catOF {α : Type} {f : α → PyData} {xs ys zs : List α} (h : extO xs ys = some zs) (ha : RX K ta ρ O (.list (xs.map f)) O1) (hb : RX K tb ρ O1 (.list (ys.map f)) O2) : RXo K (tOp (rCatR K) ta tb) ρ O (zs.map f) O2 := by
  obtain ⟨h1, rfl⟩ := ext_len h
  rw [List.map_append]
  exact rxo_catF ha hb (by rw [List.length_map, List.length_map]; exact h1)
theorem rx_catTO {α : Type} {f : α → PyData} {xs ys zs : List α} (h : extO xs ys = some zs) (ha : RX K ta ρ O (.tuple (xs.map f)) O1) (hb : RX K tb ρ O1 (.tuple (ys.map f)) O2) : RX K (tOp (rCatA K) ta tb) ρ O (.tuple (zs.map f)) O2 := by
  obtain ⟨h1, rfl⟩ := ext_len h
  rw [List.map_append]
  exact rx_catT ha hb (by rw [List.length_map, List.length_map]; exact h1)
theorem rxo_repO {α : Type} {f : α → PyData} {xs zs : List α} (h : repO xs i = some zs) (ha : RXo K ta ρ O (xs.map f) O1) (hb : ∀ p, RX K tb ρ (⟨p, true, xs.map f⟩ :: O1) (.int i) (⟨p, true, xs.map f⟩ :: O1)) : RXo K (tOp rRep ta tb) ρ O (zs.map f) O1 := by
  unfold repO at h
  split at h
  · rename_i hc
    cases h
    have e : (List.replicate i.toNat xs).flatten.map f = (List.replicate i.toNat (xs.map f)).flatten := by rw [List.map_flatten, List.map_replicate]
    rw [e]
    exact rxo_rep ha hb (by rw [List.length_map, sizeLine_eq]; exact hc.1) ⟨by omega, by omega⟩
  · cases h
theorem rxo_sliceM {α : Type} {f : α → PyData} {xs : List α} {tl th : TO} {lo hi : Option Int} (ha : RXs K ta ρ O (xs.map f) O1) (hl : RO K tl ρ O1 lo O1) (hh : RO K th ρ O1 hi O1) : RXo K (tSl (rSlL K) ta tl th) ρ O ((cutL xs lo hi).map f) O1 := by
  rw [cutL_map]
  exact rxo_slice ha hl hh
theorem rxo_sliceFM {α : Type} {f : α → PyData} {xs : List α} {tl th : TO} {lo hi : Option Int} {O3 : Os} (ha : RX K ta ρ O (.list (xs.map f)) O1) (hl : RO K tl ρ O1 lo O2) (hh : RO K th ρ O2 hi O3) : RXo K (tSl (rSlL K) ta tl th) ρ O ((cutL xs lo hi).map f) O3 := by
  rw [cutL_map]
  exact rxo_sliceF ha hl hh
theorem rx_sliceTM {α : Type} {f : α → PyData} {xs : List α} {tl th : TO} {lo hi : Option Int} {O3 : Os} (ha : RX K ta ρ O (.tuple (xs.map f)) O1) (hl : RO K tl ρ O1 lo O2) (hh : RO K th ρ O2 hi O3) : RX K (tSl (rSlA K) ta tl th) ρ O (.tuple ((cutL xs lo hi).map f)) O3 := by
  rw [cutL_map]
  exact rx_sliceT ha hl hh
theorem rxo_revM {α : Type} {f : α → PyData} {xs : List α} (ha : RXs K ta ρ O (xs.map f) O1) : RXo K (tRevL K ta) ρ O (xs.reverse.map f) O1 := by
  rw [List.map_reverse]
  exact rxo_rev ha
theorem rx_eqO {α : Type} [Enc α] [DecidableEq α] [EqD α] {x y : α} {b : Bool} (h : eqO x y = some b) (ha : RXh K ta ρ O (enc x) O1) (hb : RXh K tb ρ O1 (enc y) O1) (hd : EqD.dp α ≤ 64 := by decide) : RX K (tOp (rEqD K) ta tb) ρ O (.bool b) O1 := by
  unfold eqO at h
  split at h
  · rename_i hc; cases h; exact rx_eqD ha hb hd hc.1 hc.2
  · cases h
theorem rx_neO {α : Type} [Enc α] [DecidableEq α] [EqD α] {x y : α} {b : Bool} (h : eqO x y = some b) (ha : RXh K ta ρ O (enc x) O1) (hb : RXh K tb ρ O1 (enc y) O1) (hd : EqD.dp α ≤ 64 := by decide) : RX K (tOp (rNeD K) ta tb) ρ O (.bool (!b)) O1 := by
  unfold eqO at h
  split at h
  · rename_i hc; cases h; exact rx_neD ha hb hd hc.1 hc.2
  · cases h
theorem rx_eqT {α : Type} [Enc α] [DecidableEq α] [EqD α] [EqT α] {x y : α} (ha : RXh K ta ρ O (enc x) O1) (hb : RXh K tb ρ O1 (enc y) O1) (hd : EqD.dp α ≤ 64 := by decide) : RX K (tOp (rEqD K) ta tb) ρ O (.bool (decide (x = y))) O1 :=
  rx_eqD ha hb hd (EqT.ok x) (EqT.ok y)
theorem rx_neT {α : Type} [Enc α] [DecidableEq α] [EqD α] [EqT α] {x y : α} (ha : RXh K ta ρ O (enc x) O1) (hb : RXh K tb ρ O1 (enc y) O1) (hd : EqD.dp α ≤ 64 := by decide) : RX K (tOp (rNeD K) ta tb) ρ O (.bool (!decide (x = y))) O1 :=
  rx_neD ha hb hd (EqT.ok x) (EqT.ok y)
theorem len_nat {α : Type} {f : α → PyData} {xs : List α} (ha : RXs K ta ρ O (xs.map f) O1) : RX K (tCB (rLenQ K) (tCons ta tNil)) ρ O (.int (xs.length : Nat)) O1 := by
  have := rx_len ha
  rw [List.length_map] at this
  exact this
theorem len_natT {α : Type} {f : α → PyData} {xs : List α} (ha : RX K ta ρ O (.tuple (xs.map f)) O1) : RX K (tCB (rLenQ K) (tCons ta tNil)) ρ O (.int (xs.length : Nat)) O1 := by
  have := rx_lenT ha
  rw [List.length_map] at this
  exact this
theorem ri_rangeLenM {α : Type} {f : α → PyData} {xs : List α} (ha : RXs K ta ρ O (xs.map f) O1) : RI K (iRng1 (tCons (tCB (rLenQ K) (tCons ta tNil)) tNil)) ρ O ((rngL 0 xs.length).map .int) O1 := by
  have := ri_rangeLen ha
  rw [List.length_map] at this
  exact this
theorem ri_rangeLenTM {α : Type} {f : α → PyData} {xs : List α} (ha : RX K ta ρ O (.tuple (xs.map f)) O1) : RI K (iRng1 (tCons (tCB (rLenQ K) (tCons ta tNil)) tNil)) ρ O ((rngL 0 xs.length).map .int) O1 := by
  have := ri_rangeLenT ha
  rw [List.length_map] at this
  exact this
/-- int(flag) -/
abbrev rInt1 : List V → Hp → VK → Prop := fun xs H Q => (∃ i, xs = [.int i] ∧ Q (.int i) H) ∨ ∃ b, xs = [.bl b] ∧ Q (.int (if b then 1 else 0)) H
end
/-- what comes behind a loop that may return -/
def flK {S R γ : Type} : Fl S R → (S → γ) → (R → γ) → γ
  | .nx s, f, _ => f s
  | .bk s, f, _ => f s
  | .rt r, _, g => g r
theorem letE {α β : Type} {x : α} {f : α → Option β} {r : β} (h : (some x).bind f = some r) : ∃ y, x = y ∧ f y = some r := ⟨x, rfl, h⟩
end TL
namespace TL
open PySem L2
open Enc
section
variable {K : Fg} {ta tb te : TE} {ρ : List Sl} {O O1 O2 : Os} {i j r : Int}
theorem rx_intB {b : Bool} (ha : RX K ta ρ O (.bool b) O1) : RX K (tCB rInt1 (tCons ta tNil)) ρ O (.int (b2n b)) O1 := rx_cb1 ha fun F H x Q f r k => by
  cases r
  exact .inr ⟨b, rfl, k _ (.int _)⟩
theorem rx_intI (ha : RX K ta ρ O (.int i) O1) : RX K (tCB rInt1 (tCons ta tNil)) ρ O (.int i) O1 := rx_cb1 ha fun F H x Q f r k => by
  cases r
  exact .inl ⟨i, rfl, k _ (.int _)⟩
def strI (i : Int) : Str := (toString i : String)
def strO (i : Int) : Option Str := if i.natAbs.log2 < 1920 then some (strI i) else none
theorem rx_strO {z : Str} (h : strO i = some z) (ha : RX K ta ρ O (.int i) O1) : RX K (tCB (fun xs H Q => ∃ i, xs = [.int i] ∧ i.natAbs.log2 < 1920 ∧ Q (.str (toString i)) H) (tCons ta tNil)) ρ O (.str z) O1 := rx_cb1 ha fun F H x Q f r k => by
  cases r
  unfold strO at h
  split at h
  · rename_i hc; cases h; exact ⟨i, rfl, hc, k _ (.str _)⟩
  · cases h
end
end TL

namespace TL
open PySem L2
theorem nxt {D : Ends} {σ : L2.St} {H : Hp} (h : D.nx σ H) : tNext D σ H := h
theorem nxD {f : L2.St → Hp → Prop} {a : VK} {b c : L2.St → Hp → Prop} {σ : L2.St} {H : Hp} (h : f σ H) : Ends.nx ⟨f, a, b, c⟩ σ H := h
/-- turns a while may take -/
def FUEL : Nat := 1000000
/-- calls of itself -/
def RF : Nat := 60
section
variable {X : Cx} (K : Fg)
theorem k_ix_list (hK : X.K = K := by rfl) : IxR X (rIxL K) := by subst hK; exact ix_list
theorem k_ix_tup (hK : X.K = K := by rfl) : IxR X (rIxT K) := by subst hK; exact ix_tup
theorem k_sum (hc : X.calm = true) (hK : X.K = K := by rfl) : CallR X (.builtin "sum") (rSum K) := by subst hK; exact cr_sum hc
theorem k_all (hc : X.calm = true) (hK : X.K = K := by rfl) : CallR X (.builtin "all") (rAll K) := by subst hK; exact cr_all hc
theorem k_any (hc : X.calm = true) (hK : X.K = K := by rfl) : CallR X (.builtin "any") (rAny K) := by subst hK; exact cr_any hc
theorem k_min (hc : X.calm = true) (hK : X.K = K := by rfl) : CallR X (.builtin "min") (rMin K) := by subst hK; exact cr_min hc
theorem k_max (hc : X.calm = true) (hK : X.K = K := by rfl) : CallR X (.builtin "max") (rMax K) := by subst hK; exact cr_max hc
theorem k_sorted (hK : X.K = K := by rfl) : CallR X (.builtin "sorted") (rSorted K) := by subst hK; exact cr_sorted
theorem k_eqD (hu : X.A.units + 64 < cLine) (hK : X.K = K := by rfl) : OpR X (compareOp .Eq) (rEqD K) := by subst hK; exact op_eqD hu
theorem k_neD (hu : X.A.units + 64 < cLine) (hK : X.K = K := by rfl) : OpR X (compareOp .NotEq) (rNeD K) := by subst hK; exact op_neD hu
theorem k_in_seq (hK : X.K = K := by rfl) : OpR X (compareOp .In) (rIn K false) := by subst hK; exact op_in_seq
theorem k_notIn_seq (hK : X.K = K := by rfl) : OpR X (compareOp .NotIn) (rIn K true) := by subst hK; exact op_notIn_seq
theorem k_catA (hK : X.K = K := by rfl) : OpR X (binaryOp .Add) (rCatA K) := by subst hK; exact op_catA
theorem k_catR (hK : X.K = K := by rfl) : OpR X (binaryOp .Add) (rCatR K) := by subst hK; exact op_catR
theorem k_sl_list (hK : X.K = K := by rfl) : L2.SlR X (rSlL K) := by subst hK; exact sl_list
theorem k_sl_tupA (hK : X.K = K := by rfl) : L2.SlR X (rSlA K) := by subst hK; exact sl_tupA
theorem k_len_seq (hK : X.K = K := by rfl) : CallR X (.builtin "len") (rLenQ K) := by subst hK; exact call_len_seq
theorem k_list_of (hK : X.K = K := by rfl) : CallR X (.type "list") (fun xs H Q => ∃ p ys, xs = [.ref p] ∧ (SqL K H p ys ∨ SqT K H p ys) ∧ ∀ l, H l = none → Q (.ref l) (upd H l (.lst ys))) := by subst hK; exact call_list_of
theorem k_tuple_of (hK : X.K = K := by rfl) : CallR X (.type "tuple") (fun xs H Q => ∃ p ys, xs = [.ref p] ∧ ((SqL K H p ys ∧ ∀ l, H l = none → Q (.ref l) (upd H l (.tup ys))) ∨ (SqT K H p ys ∧ Q (.ref p) H))) := by subst hK; exact call_tuple_of
theorem k_revL {e : Expr} {te : TE} {k : Nat} {p1 p2 p3 pos : Pos} (he : PE X e te) (hK : X.K = K := by rfl) : PE X (.Subscript e (.Slice none none (some (.UnaryOp .USub (.Constant (.int 1) k p1) p2)) p3) pos) (tRevL K te) := by subst hK; exact pe_revL he
theorem k_pi_list {tg l : Expr} {tl : TE} (hl : PE X l tl) (hK : X.K = K := by rfl) : PI X tg l (iList K tl) := by subst hK; exact pi_list hl
theorem k_pi_tup {tg l : Expr} {tl : TE} (hl : PE X l tl) (hK : X.K = K := by rfl) : PI X tg l (iTup K tl) := by subst hK; exact pi_tup hl
theorem k_pi_enum {e : Expr} {ta : TA} {p pos tpos : Pos} {elts : List Expr} {kk : Nat} (hg : Gl X "enumerate") (hm : X.mg "enumerate" = none) (ha : PA X [e] ta) (hs : starEach [e] X.env = [(false, eval e X.env)] := by rfl) (hK : X.K = K := by rfl) :
    PI X (.Tuple elts kk tpos) (.Call (.Name "enumerate" p) [e] [] pos) (iEnum K ta) := by subst hK; exact pi_enum hg hm ha hs
theorem k_pi_zip {e e2 : Expr} {ta : TA} {p pos tpos : Pos} {elts : List Expr} {kk : Nat} (hg : Gl X "zip") (hm : X.mg "zip" = none) (ha : PA X [e, e2] ta)
    (hs : starEach [e, e2] X.env = (false, eval e X.env) :: starEach [e2] X.env := by rfl) (hpl : (backTo pos (starEach [e2] X.env)).any (·.1) = false := by rfl) (hK : X.K = K := by rfl) :
    PI X (.Tuple elts kk tpos) (.Call (.Name "zip" p) [e, e2] [] pos) (iZip K ta) := by subst hK; exact pi_zip hg hm ha hs hpl
end
end TL

/-! TLk: lists of own lists, as _law_pots makes them -/
namespace TL
open PySem L2
open Enc
def potsL (ns : List Int) : List Int := if ns.length = 0 then [0] else cutL ns none (some 63)
/-- called with a list of whole numbers: a new list of new lists [n, 0] -/
def SpPots (K : Fg) : Sp := fun vs H Q _ => ∃ F ns, RpAll K F vs [.list (ns.map .int)] ∧ Same F H ∧ ∀ (L : Addr) (ps : List Addr) (H' : Hp), Same H H' → H L = none → L ∉ ps → (∀ p ∈ ps, H p = none) → ps.Nodup → ps.length = (potsL ns).length →
  H' L = some (.lst (ps.map .ref)) → (∀ (i : Nat) (p : Addr) (c : Int), ps[i]? = some p → (potsL ns)[i]? = some c → H' p = some (.lst [.int c, .int 0])) → Q (.ref L) H'
theorem spots_len {K : Fg} : ∀ vs H Q E, SpPots K vs H Q E → vs.length = 1 := fun vs H Q E ⟨F, ns, r, _⟩ => r.length
theorem Hx.same {K : Fg} {F0 H0 F H : Hp} {O : Os} (S : Hx K F0 H0 [] F O H) : Same H0 H := fun a o e => S.keep a o e (by simp)
theorem pots_one {σ : L2.St} {H : Hp} {Q : VK} (k : ∀ (L : Addr) (ps : List Addr) (H' : Hp), Same H H' → H L = none → L ∉ ps → (∀ p ∈ ps, H p = none) → ps.Nodup → ps.length = 1 → H' L = some (.lst (ps.map .ref)) →
    (∀ (i : Nat) (p : Addr) (c : Int), ps[i]? = some p → [(0 : Int)][i]? = some c → H' p = some (.lst [.int c, .int 0])) → Q (.ref L) H') :
    tLst (tCons (tLst (tCons (tC (.int 0)) (tCons (tC (.int 0)) tNil))) tNil) σ H Q := by
  refine ⟨by show (2 : Nat) ≤ sizeLine; decide, fun p hp => ⟨by show (1 : Nat) ≤ sizeLine; decide, fun L hL => ?_⟩⟩
  have hne : L ≠ p := fun e => by
    subst e
    rw [upd_same] at hL
    cases hL
  have hL' : H L = none := by
    rw [upd_ne hne] at hL
    exact hL
  refine k L [p] _ ((same_upd hp).trans (same_upd hL)) hL' (by simpa using hne) (by simpa using hp) (by simp) rfl upd_same fun i q c h1 h2 => ?_
  cases i with
  | zero =>
    cases h1
    cases h2
    rw [upd_ne (Ne.symm hne), upd_same]
  | succ i => cases h1
theorem EnvR.length {K : Fg} {F : Hp} {σ : L2.St} {ρ : List Sl} (h : EnvR K F σ ρ) : σ.length = ρ.length := by
  induction h with
  | nil => rfl
  | cons _ _ ih => rw [List.length_cons, List.length_cons, ih]
theorem wipe_len (σ : L2.St) : ∀ vs : List Nat, (L2.wipe σ vs).length = σ.length := fun vs => wipe_length σ vs
theorem get_snoc {α : Type} {xs : List α} {x y : α} {i : Nat} (h : (xs ++ [x])[i]? = some y) : xs[i]? = some y ∨ (i = xs.length ∧ y = x) := by
  rw [List.getElem?_append] at h
  split at h
  · exact .inl h
  · rename_i hlt
    cases e : i - xs.length with
    | zero =>
      rw [e] at h
      exact .inr ⟨by omega, (Option.some.inj h).symm⟩
    | succ n => rw [e] at h; simp at h
theorem ite_true_of {A B : Prop} (h : A) : (if true = true then A else B) := by rw [if_pos rfl]; exact h
theorem pots_lc {K : Fg} {ρ : List Sl} {te : TE} {cs : List Int} {j : Nat} {vs : List Nat} {F H : Hp} {σ : L2.St} {Q : VK} (hj : j ∈ vs) (hl : j < ρ.length) (ha : RX K te ρ [] (.list (cs.map .int)) []) (E : EnvR K F σ ρ) (hF : Same F H)
    (k : ∀ (L : Addr) (ps : List Addr) (H' : Hp), Same H H' → H L = none → L ∉ ps → (∀ p ∈ ps, H p = none) → ps.Nodup → ps.length = cs.length → H' L = some (.lst (ps.map .ref)) →
      (∀ (i : Nat) (p : Addr) (c : Int), ps[i]? = some p → cs[i]? = some c → H' p = some (.lst [.int c, .int 0])) → Q (.ref L) H') :
    tLc (iList K te) (gName j) tYes (tLst (tCons (tVar j) (tCons (tC (.int 0)) tNil))) vs σ H Q := ha.go E (Hx.start hF) fun x F1 H1 f1 E1 S1 r1 => by
  cases r1 with
  | @lst a xs _ q1 q2 q3 =>
  have hx := RpAll.ints q3
  subst hx
  refine ⟨a, rfl, ⟨_, S1.fh.seq q1⟩, fun D hD => ?_⟩
  have hD0 : H D = none := S1.noh0 hD
  have hσ : j < (L2.wipe σ vs).length := by rw [wipe_len, E1.length]; exact hl
  refine lc_it (walk_list (K := K) (a := a) (xs := cs.map V.int)) (fun i H2 => ∃ ps : List Addr, Same H1 H2 ∧ H2 D = some (.lst (ps.map .ref)) ∧ ps.length = i ∧ D ∉ ps ∧ (∀ p ∈ ps, H1 p = none) ∧ ps.Nodup ∧
    ∀ (i : Nat) (p : Addr) (c : Int), ps[i]? = some p → cs[i]? = some c → H2 p = some (.lst [.int c, .int 0])) ⟨[], same_upd hD, upd_same, rfl, by simp, by simp, by simp, fun i p c e => by simp at e⟩
    (fun i H2 _ q => by obtain ⟨ps, q1', _⟩ := q; exact (S1.fh.trans q1').seq q1) (fun i x H2 H3 hi q y => ?_) (fun H2 q => ?_)
  · obtain ⟨ps, p1, p2, p3, p4, p5, p6, p7⟩ := q
    obtain ⟨e, y⟩ := y
    subst e
    have hi' : i < cs.length := by simpa using hi
    have hx : x = V.int cs[i] := by
      rw [List.getElem?_map, List.getElem?_eq_getElem hi'] at y
      exact (Option.some.inj y).symm
    subst hx
    refine ⟨wipe_set (i := j) (L2.wipe σ vs) hj |>.trans (wipe_wipe σ vs), ?_⟩
    unfold tYes
    refine ite_true_of ?_
    refine ⟨_, List.getElem?_set_self hσ, by show (2 : Nat) ≤ sizeLine; decide, fun p hp => ?_⟩
    have hpD : D ≠ p := ne_of_none p2 hp
    have hpn : p ∉ ps := fun hm => by
      obtain ⟨n, hn, en⟩ := List.mem_iff_getElem.mp hm
      have := p7 n p (cs[n]'(by omega)) (by rw [List.getElem?_eq_getElem hn, en]) (List.getElem?_eq_getElem _)
      rw [hp] at this
      cases this
    have hp1 : H1 p = none := p1.free hp
    refine ⟨ps.map .ref, by rw [upd_ne hpD]; exact p2, ?_, ps ++ [p], ?_, ?_, by rw [List.length_append, List.length_singleton, p3], ?_, ?_, ?_, ?_⟩
    · rw [List.length_map] at q2 ⊢; omega
    · intro b o hb
      have hbD : b ≠ D := ne_of_none hb hD
      rw [upd_ne hbD, upd_ne (ne_of_none hb hp1)]
      exact p1 _ _ hb
    · rw [List.map_append]; exact upd_same
    · rw [List.mem_append, List.mem_singleton]
      rintro (h | h)
      · exact p4 h
      · exact hpD h
    · intro b hb
      rcases List.mem_append.mp hb with h | h
      · exact p5 b h
      · rw [List.mem_singleton.mp h]; exact hp1
    · rw [List.nodup_append]
      refine ⟨p6, by simp, fun b hb c hc e => ?_⟩
      rw [List.mem_singleton] at hc
      subst hc
      subst e
      exact hpn hb
    · intro n b c h1 h2
      rcases get_snoc h1 with h | ⟨h, hb⟩
      · have hbm : b ∈ ps := List.mem_of_getElem? h
        have e1 : b ≠ D := fun e => p4 (e ▸ hbm)
        have e2 : b ≠ p := fun e => hpn (e ▸ hbm)
        rw [upd_ne e1, upd_ne e2]
        exact p7 n b c h h2
      · subst hb
        have en : n = i := h.trans p3
        subst en
        rw [List.getElem?_eq_getElem hi'] at h2
        cases h2
        rw [upd_ne (Ne.symm hpD), upd_same]
  · obtain ⟨ps, p1, p2, p3, p4, p5, p6, p7⟩ := q
    refine k D ps H2 (S1.same.trans p1) hD0 p4 (fun p hp => S1.noh0 (p5 p hp)) p6 (by simpa using p3) p2 p7
def potsOs : List Addr → List Int → Os
  | p :: ps, c :: cs => ⟨p, true, [PyData.int c, .int 0]⟩ :: potsOs ps cs
  | _, _ => []
theorem potsOs_mem : ∀ {ps : List Addr} {cs : List Int} {q : OE}, q ∈ potsOs ps cs → ∃ (i : Nat) (p : Addr) (c : Int), ps[i]? = some p ∧ cs[i]? = some c ∧ q = ⟨p, true, [PyData.int c, .int 0]⟩
  | [], _, _, h => by simp [potsOs] at h
  | p :: ps, [], _, h => by simp [potsOs] at h
  | p :: ps, c :: cs, q, h => by
    rcases List.mem_cons.mp h with e | h
    · exact ⟨0, p, c, rfl, rfl, e⟩
    · obtain ⟨i, p', c', h1, h2, h3⟩ := potsOs_mem h
      exact ⟨i + 1, p', c', by simpa using h1, by simpa using h2, h3⟩
theorem potsOs_map : ∀ {ps : List Addr} {cs : List Int}, ps.length = cs.length → (potsOs ps cs).map OE.a = ps
  | [], [], _ => rfl
  | [], _ :: _, h => by simp at h
  | _ :: _, [], h => by simp at h
  | p :: ps, c :: cs, h => by
    unfold potsOs
    rw [List.map_cons, potsOs_map (by simpa using h)]
theorem Hx.pots {K : Fg} {F0 H0 F H H' : Hp} {D0 : List Addr} {O : Os} (S : Hx K F0 H0 D0 F O H) {L : Addr} {ps : List Addr} {cs : List Int} (h : Same H H') (hL : H L = none) (hn : L ∉ ps) (hp : ∀ p ∈ ps, H p = none) (nd : ps.Nodup) (hl : ps.length = cs.length)
    (hH : H' L = some (.lst (ps.map .ref))) (hc : ∀ (i : Nat) (p : Addr) (c : Int), ps[i]? = some p → cs[i]? = some c → H' p = some (.lst [.int c, .int 0])) : Hx K F0 H0 D0 (upd F L (.lst (ps.map .ref))) (potsOs ps cs ++ O) H' := by
  have hFL := S.nof hL
  have fu : Same F (upd F L (.lst (ps.map .ref))) := same_upd hFL
  refine ⟨S.f0.trans fu, fun a u e => ?_, fun a u e n => h _ _ (S.keep a u e n), fun a u e => ?_, fun a u e n => ?_, fun q hq => ?_, ?_⟩
  · by_cases ha : a = L
    · subst ha
      rw [upd_same] at e
      cases e
      exact hH
    · rw [upd_ne ha] at e
      exact h _ _ (S.fh _ _ e)
  · obtain ⟨u', e'⟩ := S.live a u e
    exact ⟨u', h _ _ e'⟩
  · obtain ⟨u', e'⟩ := S.live a u e
    rw [upd_ne (ne_of_none e' hL)]
    exact S.new a u e n
  · rcases List.mem_append.mp hq with hq | hq
    · obtain ⟨i, p, c, h1, h2, rfl⟩ := potsOs_mem hq
      have hm : p ∈ ps := List.mem_of_getElem? h1
      have hpn := hp p hm
      refine ⟨?_, fun _ => S.noh0 hpn, fun z => (Bool.false_ne_true z.symm).elim, _, hc i p c h1 h2, by show (2 : Nat) ≤ sizeLine; decide, .cons (.int c) (.cons (.int 0) .nil)⟩
      show upd F L _ p = none
      rw [upd_ne (fun e : p = L => hn (by rw [← e]; exact hm))]
      exact S.nof hpn
    · obtain ⟨h1, h2, h3, h40⟩ := S.own q hq
      obtain ⟨u, h4⟩ := h40.live
      refine ⟨?_, h2, h3, (h40.at ((h _ _ h4).trans h4.symm)).up fu⟩
      rw [upd_ne (ne_of_none h4 hL)]
      exact h1
  · rw [List.map_append, potsOs_map hl, List.nodup_append]
    refine ⟨nd, S.nd, fun a ha b hb e => ?_⟩
    obtain ⟨q, hq, eq⟩ := List.mem_map.mp hb
    obtain ⟨vs, h4⟩ := S.ownL hq
    rw [eq, ← e, hp a ha] at h4
    cases h4
theorem Hx.sub {K : Fg} {F0 H0 F H : Hp} {D0 : List Addr} {O O' : Os} (S : Hx K F0 H0 D0 F O H) (h : O'.Sublist O) : Hx K F0 H0 D0 F O' H :=
  ⟨S.f0, S.fh, S.keep, S.live, S.new, fun p hp => S.own p (h.subset hp), S.nd.sublist (h.map OE.a)⟩
theorem drop_cons {α : Type} {xs : List α} {i : Nat} (h : i < xs.length) : xs.drop i = xs[i] :: xs.drop (i + 1) := List.drop_eq_getElem_cons h
/-- for pot in _law_pots(..) -/
theorem st_forP {K : Fg} {ρ : List Sl} {F0 H0 F H : Hp} {D0 : List Addr} {O : Os} {σ : L2.St} {D : Ends} {R : Type} {te : TE} {j : Nat} {tb : TS} {ns : List Int} {f : Int → Unit → Option (Fl Unit R)} {fl : Fl Unit R} {E0 : XK} (ρ1 : List Sl)
    (E : EnvR K F σ ρ) (S0 : Hx K F0 H0 D0 F O H) (ha : RX K te ρ O (.list (ns.map .int)) O) (hf : forF f (potsL ns) () = some fl) (hW : Wk ρ ρ1)
    (kn : ∀ s, fl = .nx s → ∀ σ' F' H', Same F F' → EnvR K F' σ' ρ1 → Hx K F0 H0 D0 F' O H' → D.nx σ' H')
    (body : ∀ c out, f c () = some out → (∀ r, out = .rt r → fl = .rt r) → ∀ σ1 F1 H1 p Or, Same F F1 → EnvR K F1 σ1 (ρ1.set j (.adr p)) → Hx K F0 H0 D0 F1 (⟨p, true, ([c, 0] : List Int).map enc⟩ :: Or) H1 →
      ∀ (N B : L2.St → Hp → Prop), (∀ s, out = .nx s → ∀ σ' F' H', Same F1 F' → EnvR K F' σ' ρ1 → Hx K F0 H0 D0 F' Or H' → N σ' H') → (∀ s, out = .bk s → ∀ σ' F' H', Same F1 F' → EnvR K F' σ' ρ1 → Hx K F0 H0 D0 F' Or H' → B σ' H') → tb { D with nx := N, ct := N, bk := B } σ1 H1) :
    tFor (iList K (tCall (SpPots K) [] E0 (tCons te tNil))) (gName j) tb D σ H := by
  refine ha.go E S0 fun x F1 H1 f1 E1 S1 r1 => ?_
  refine ⟨F1, ns, .cons r1 .nil, S1.fh, fun L ps H2 g1 g2 g3 g4 g5 g6 g7 g8 => ?_⟩
  have S2 := S1.pots g1 g2 g3 g4 g5 g6 g7 g8
  have fu : Same F1 (upd F1 L (.lst (ps.map .ref))) := same_upd (S1.nof g2)
  refine ⟨L, rfl, ⟨_, SqL.of g7⟩, ?_⟩
  have hlen : (ps.map V.ref).length = ps.length := List.length_map _
  refine for_it (walk_list (K := K) (a := L) (xs := ps.map V.ref)) (fun i σ H => ∃ F2, Same F F2 ∧ F2 L = some (.lst (ps.map .ref)) ∧ EnvR K F2 σ ρ1 ∧ Hx K F0 H0 D0 F2 (potsOs (ps.drop i) ((potsL ns).drop i) ++ O) H ∧ forF f ((potsL ns).drop i) () = some fl)
    ⟨_, f1.trans fu, upd_same, (E1.up fu).weak hW, S2, hf⟩ (fun i σ H _ q => by obtain ⟨F2, _, q2, _, q4, _⟩ := q; exact SqL.of (q4.fh _ _ q2)) (fun i x σ H H' hi q y => ?_) (fun σ H q => ?_)
  · obtain ⟨F2, q1, q2, q3, q4, q5⟩ := q
    obtain ⟨e, y⟩ := y
    subst e
    rw [hlen] at hi
    have hi2 : i < (potsL ns).length := by omega
    have hx : x = V.ref ps[i] := by
      rw [List.getElem?_map, List.getElem?_eq_getElem hi] at y
      exact (Option.some.inj y).symm
    subst hx
    rw [drop_cons hi2] at q4 q5
    rw [drop_cons hi] at q4
    obtain ⟨out, e1, q5⟩ := bindE q5
    refine body _ out e1 (fun r eo => ?_) _ F2 H' ps[i] (potsOs (ps.drop (i + 1)) ((potsL ns).drop (i + 1)) ++ O) q1 (q3.seta j) q4 _ _ (fun s eo σ' F' H2 ff E' S' => ?_) (fun s eo σ' F' H2 ff E' S' => ?_)
    · subst eo
      exact (Option.some.inj q5).symm
    · subst eo
      exact ⟨F', q1.trans ff, ff _ _ q2, E', S', q5⟩
    · subst eo
      exact kn s (Option.some.inj q5).symm σ' F' H2 (q1.trans ff) E' (S'.sub (List.sublist_append_right _ _))
  · obtain ⟨F2, q1, q2, q3, q4, q5⟩ := q
    rw [hlen, List.drop_length] at q4
    rw [hlen, g6, List.drop_length] at q5
    exact kn () (Option.some.inj q5).symm σ F2 H q1 q3 q4
end TL

/-! TLl: isinstance; likeness of data, as the laws' _law_same and _law_alike reckon it -/
namespace TL
open PySem L2
open Enc
open RZ
def tyN : PyData → String
  | .none => "NoneType"
  | .bool _ => "bool"
  | .int _ => "int"
  | .str _ => "str"
  | .list _ => "list"
  | .tuple _ => "tuple"
  | .dict _ => "dict"
theorem seqL_ty {K : Fg} {H : Hp} {a : Addr} {xs : List V} (h : SqL K H a xs) : TyX K H (.ref a) (.type "list") := by
  rcases h with (h | ⟨o, h⟩) | ⟨o, its, n, h1, h2, _⟩
  · exact .base (.lst h)
  · exact .base (.frz h)
  · exact .kList h1 h2
theorem seqT_ty {K : Fg} {H : Hp} {a : Addr} {xs : List V} (h : SqT K H a xs) : TyX K H (.ref a) (.type "tuple") := by
  rcases h with (h | ⟨o, h⟩) | ⟨o, its, n, h1, h2, _⟩
  · exact .base (.tup h)
  · exact .fTuple h
  · exact .kTuple h1 h2
theorem Rp.ty {K : Fg} {H : Hp} {v : V} {d : PyData} (h : Rp K H v d) : TyX K H v (.type (tyN d)) := by
  cases h with
  | non => exact .base .non
  | bl b => exact .base (.bl b)
  | int i => exact .base (.int i)
  | str x => exact .base (.str x)
  | lst h _ _ => exact seqL_ty h
  | tup h _ _ => exact seqT_ty h
section
variable {K : Fg} {ta tb te : TE} {ρ : List Sl} {O O1 O2 : Os} {d : PyData}
theorem rx_isi {c : String} {r : Bool} (ha : RX K ta ρ O d O1) (h : kitB (tyN d) c = some r) : RX K (tCB (rIsi K) (tCons ta (tCons (tC (.ty c)) tNil))) ρ O (.bool r) O1 := ⟨fun _ _ _ _ _ _ Q E S k => ha.go E S fun x F1 H1 f1 E1 S1 r1 =>
  ⟨x, .ty c, _, _, r, rfl, .ty c, (r1.up S1.fh).ty, kit_ty h, k _ F1 H1 f1 S1 (.bl r)⟩⟩
theorem rx_isiT2 {c c' : String} {r r' : Bool} (ha : RX K ta ρ O d O1) (h : kitB (tyN d) c = some r) (h' : kitB (tyN d) c' = some r') :
    RX K (tCB (rIsiT K) (tCons ta (tCons (tTup (tCons (tC (.ty c)) (tCons (tC (.ty c')) tNil))) tNil))) ρ O (.bool (r || r')) O1 := ⟨fun _ _ _ _ _ _ Q E S k => ha.go E S fun x F1 H1 f1 E1 S1 r1 => by
  refine ⟨by show (2 : Nat) ≤ sizeLine; decide, fun T hT => ?_⟩
  have S2 := S1.junk (o := .tup [.ty c, .ty c']) hT
  refine ⟨x, T, [.ty c, .ty c'], _, [.type c, .type c'], r || r', rfl, upd_same, .cons (.ty c) (.cons (.ty c') .nil), (r1.up S2.fh).ty, kitAny_cons (kit_ty h) (fun e => kitAny_cons (kit_ty h') (fun e' => ?_) fun e' => ?_) (fun e => by rw [e]; rfl), k _ F1 _ f1 S2 (.bl _)⟩
  · rw [e, e']; exact kitAny_nil
  · rw [e, e']; rfl⟩
theorem kit_at {d : PyData} {t c : String} {r : Bool} (ht : tyN d = t) (h : kitB t c = some r) : kitB (tyN d) c = some r := by rw [ht]; exact h
theorem k_isi {X : Cx} (K : Fg) (hK : X.K = K := by rfl) : CallR X (.builtin "isinstance") (rIsi K) := by subst hK; exact call_isi
theorem k_isiT {X : Cx} (K : Fg) (hK : X.K = K := by rfl) : CallR X (.builtin "isinstance") (rIsiT K) := by subst hK; exact call_isiT
theorem k_pi_zipA {X : Cx} (K : Fg) {e e2 : Expr} {ta : TA} {p pos tpos : Pos} {elts : List Expr} {kk : Nat} (hg : Gl X "zip") (hm : X.mg "zip" = none) (ha : PA X [e, e2] ta)
    (hs : starEach [e, e2] X.env = (false, eval e X.env) :: starEach [e2] X.env := by rfl) (hpl : (backTo pos (starEach [e2] X.env)).any (·.1) = false := by rfl) (hK : X.K = K := by rfl) :
    PI X (.Tuple elts kk tpos) (.Call (.Name "zip" p) [e, e2] [] pos) (iZipA K ta) := by subst hK; exact pi_zipA hg hm ha hs hpl
theorem pe_tyn {X : Cx} {x : Str} {c : String} {pos : Pos} (hg : Gl X x) (hm : X.mg x = none) (hv : bootBuiltins x = some (.type c)) (hn : x ≠ "__name__" := by decide) (hd : (x == ("__debug__" : Str)) = false := by decide) : PE X (.Name x pos) (tC (.ty c)) :=
  pe_bltn hg hm hv (show RelV (.ty c) (.type c) from rfl) hn hd
theorem ri_zipAL {ys zs : List PyData} (h : RX K ta ρ O (.list ys) O1) (h' : RX K tb ρ O1 (.list zs) O2) : RI K (iZipA K (tCons ta (tCons tb tNil))) ρ O (zipD ys zs) O2 := ⟨fun F0 H0 D0 σ F H R E S k =>
  (ri_zip h h').run F0 H0 D0 σ F H R E S k |> fun g => by
    refine h.go E S fun x F1 H1 f1 E1 S1 r1 => h'.go E1 S1 fun y F2 H2 f2 E2 S2 r2 => ?_
    have r1' := r1.up f2
    cases r1' with
    | @lst a xs _ q1 q2 q3 =>
      cases r2 with
      | @lst b ws _ p1 p2 p3 =>
        refine ⟨a, b, xs, ws, rfl, .inl ⟨S2.fh.seq q1, S2.fh.seq p1, ?_⟩⟩
        have hl : (zipD ys zs).length = min xs.length ws.length := by unfold zipD; rw [List.length_map, List.length_zip, q3.length, p3.length]
        refine k _ F2 H2 (f1.trans f2) S2 ⟨by omega, fun _ _ _ F O H i hi f S => ?_, fun _ _ _ F O H f S => ?_, fun _ _ _ F O H i x H' hi f S y => ?_⟩
        · have h1 : i < xs.length := by omega
          have h2 : i < ws.length := by omega
          exact ⟨xs, ws, xs[i], ws[i], (f.trans S.fh).seq q1, (f.trans S.fh).seq p1, by simp [h1], by simp [h2]⟩
        · exact ⟨xs, ws, (f.trans S.fh).seq q1, (f.trans S.fh).seq p1, by omega⟩
        · obtain ⟨T, u, v, rfl, hT, rfl, y1, y2⟩ := y
          obtain ⟨d, e, r⟩ := (q3.up f).getV (y1 xs ((f.trans S.fh).seq q1))
          obtain ⟨d', e', r'⟩ := (p3.up f).getV (y2 ws ((f.trans S.fh).seq p1))
          obtain ⟨F3, f3, S3, r3⟩ := pair_put S hT r r'
          refine ⟨F3, _, f3, S3, ?_, r3⟩
          unfold zipD
          have ez : (ys.zip zs)[i]? = some (d, d') := List.getElem?_zip_eq_some.mpr ⟨e, e'⟩
          rw [List.getElem?_map, ez]
          rfl⟩
theorem ri_zipAT {ys zs : List PyData} (h : RX K ta ρ O (.tuple ys) O1) (h' : RX K tb ρ O1 (.tuple zs) O2) : RI K (iZipA K (tCons ta (tCons tb tNil))) ρ O (zipD ys zs) O2 := ⟨fun F0 H0 D0 σ F H R E S k => by
    refine h.go E S fun x F1 H1 f1 E1 S1 r1 => h'.go E1 S1 fun y F2 H2 f2 E2 S2 r2 => ?_
    have r1' := r1.up f2
    cases r1' with
    | @tup a xs _ q1 q2 q3 =>
      cases r2 with
      | @tup b ws _ p1 p2 p3 =>
        refine ⟨a, b, xs, ws, rfl, .inr ⟨same_t S2.fh q1, same_t S2.fh p1, ?_⟩⟩
        have hl : (zipD ys zs).length = min xs.length ws.length := by unfold zipD; rw [List.length_map, List.length_zip, q3.length, p3.length]
        refine k _ F2 H2 (f1.trans f2) S2 ⟨by omega, fun _ _ _ F O H i hi f S => ?_, fun _ _ _ F O H f S => ?_, fun _ _ _ F O H i x H' hi f S y => ?_⟩
        · have h1 : i < xs.length := by omega
          have h2 : i < ws.length := by omega
          exact ⟨xs, ws, xs[i], ws[i], same_t (f.trans S.fh) q1, same_t (f.trans S.fh) p1, by simp [h1], by simp [h2]⟩
        · exact ⟨xs, ws, same_t (f.trans S.fh) q1, same_t (f.trans S.fh) p1, by omega⟩
        · obtain ⟨T, u, v, rfl, hT, rfl, y1, y2⟩ := y
          obtain ⟨d, e, r⟩ := (q3.up f).getV (y1 xs (same_t (f.trans S.fh) q1))
          obtain ⟨d', e', r'⟩ := (p3.up f).getV (y2 ws (same_t (f.trans S.fh) p1))
          obtain ⟨F3, f3, S3, r3⟩ := pair_put S hT r r'
          refine ⟨F3, _, f3, S3, ?_, r3⟩
          unfold zipD
          have ez : (ys.zip zs)[i]? = some (d, d') := List.getElem?_zip_eq_some.mpr ⟨e, e'⟩
          rw [List.getElem?_map, ez]
          rfl⟩
end

/-! ### likeness -/
mutual
inductive Sim : Nat → PyData → PyData → Bool → Prop
  | int {n : Nat} (i j : Int) : Sim n (.int i) (.int j) (decide (i = j))
  | bool {n : Nat} (i j : Bool) : Sim n (.bool i) (.bool j) (decide (i = j))
  | str {n : Nat} (i j : Str) : Sim n (.str i) (.str j) (decide (i = j))
  | list {n : Nat} {xs ys : List PyData} {b : Bool} (h : SimAll n xs ys b) : Sim (n + 1) (.list xs) (.list ys) (decide (xs.length = ys.length) && b)
  | tuple {n : Nat} {xs ys : List PyData} {b : Bool} (h : SimAll n xs ys b) : Sim (n + 1) (.tuple xs) (.tuple ys) (decide (xs.length = ys.length) && b)
inductive SimAll : Nat → List PyData → List PyData → Bool → Prop
  | nil {n : Nat} (ys : List PyData) : SimAll n [] ys true
  | nil' {n : Nat} (xs : List PyData) : SimAll n xs [] true
  | cons {n : Nat} {x y : PyData} {xs ys : List PyData} {b c : Bool} (h : Sim n x y b) (t : SimAll n xs ys c) : SimAll n (x :: xs) (y :: ys) (b && c)
end
mutual
theorem Sim.mono {n m : Nat} {x y : PyData} {b : Bool} (h : Sim n x y b) (e : n ≤ m) : Sim m x y b := by
  cases h with
  | int i j => exact .int i j
  | bool i j => exact .bool i j
  | str i j => exact .str i j
  | list h =>
    cases m with
    | zero => omega
    | succ m => exact .list (SimAll.mono h (by omega))
  | tuple h =>
    cases m with
    | zero => omega
    | succ m => exact .tuple (SimAll.mono h (by omega))
theorem SimAll.mono {n m : Nat} {xs ys : List PyData} {b : Bool} (h : SimAll n xs ys b) (e : n ≤ m) : SimAll m xs ys b := by
  cases h with
  | nil ys => exact .nil ys
  | nil' xs => exact .nil' xs
  | cons h t => exact .cons (Sim.mono h e) (SimAll.mono t e)
end
class SimT (α : Type) [Enc α] [DecidableEq α] where
  dp : Nat
  ok : ∀ x y : α, Sim dp (enc x) (enc y) (decide (x = y))
instance : SimT Int := ⟨0, fun x y => .int x y⟩
instance : SimT Bool := ⟨0, fun x y => .bool x y⟩
instance : SimT Str := ⟨0, fun x y => .str x y⟩
theorem simAll_map {α : Type} [Enc α] [DecidableEq α] [s : SimT α] : ∀ xs ys : List α, ∃ b, SimAll (SimT.dp α) (xs.map enc) (ys.map enc) b ∧ (decide (xs.length = ys.length) && b) = decide (xs = ys)
  | [], ys => ⟨true, .nil _, by cases ys <;> simp⟩
  | x :: xs, [] => ⟨true, .nil' _, by simp⟩
  | x :: xs, y :: ys => by
    obtain ⟨b, h, e⟩ := simAll_map xs ys
    refine ⟨_, .cons (SimT.ok x y) h, ?_⟩
    have e1 : decide (x :: xs = y :: ys) = (decide (x = y) && decide (xs = ys)) := by simp
    rw [e1, ← e]
    have e2 : decide ((x :: xs).length = (y :: ys).length) = decide (xs.length = ys.length) := by simp
    rw [e2]
    cases decide (x = y) <;> cases decide (xs.length = ys.length) <;> cases b <;> rfl
instance {α : Type} [Enc α] [DecidableEq α] [SimT α] : SimT (List α) := ⟨SimT.dp α + 1, fun xs ys => by
  obtain ⟨b, h, e⟩ := simAll_map xs ys
  have := Sim.list h
  rw [List.length_map, List.length_map, e] at this
  exact this⟩
instance {α : Type} [Enc α] [DecidableEq α] [SimT α] : SimT (Tp α) := ⟨SimT.dp α + 1, fun xs ys => by
  obtain ⟨xs⟩ := xs
  obtain ⟨ys⟩ := ys
  obtain ⟨b, h, e⟩ := simAll_map xs ys
  have := Sim.tuple h
  rw [List.length_map, List.length_map, e] at this
  have e2 : decide (Tp.mk xs = Tp.mk ys) = decide (xs = ys) := by simp
  rw [e2]
  exact this⟩
instance {α β : Type} [Enc α] [DecidableEq α] [SimT α] [Enc β] [DecidableEq β] [SimT β] : SimT (α × β) := ⟨SimT.dp α + SimT.dp β + 1, fun x y => by
  obtain ⟨a, b⟩ := x
  obtain ⟨c, d⟩ := y
  have := Sim.tuple (.cons ((SimT.ok a c).mono (Nat.le_add_right _ _)) (.cons ((SimT.ok b d).mono (Nat.le_add_left _ _)) (.nil [])))
  have e2 : decide ((a, b) = (c, d)) = (decide ([enc a, enc b].length = [enc c, enc d].length) && (decide (a = c) && (decide (b = d) && true))) := by simp [Bool.decide_and]
  rw [e2]
  exact this⟩
instance {α β γ : Type} [Enc α] [DecidableEq α] [SimT α] [Enc β] [DecidableEq β] [SimT β] [Enc γ] [DecidableEq γ] [SimT γ] : SimT (T3 α β γ) := ⟨SimT.dp α + SimT.dp β + SimT.dp γ + 1, fun x y => by
  obtain ⟨a, b, c⟩ := x
  obtain ⟨a', b', c'⟩ := y
  have := Sim.tuple (.cons ((SimT.ok a a').mono (by omega : SimT.dp α ≤ SimT.dp α + SimT.dp β + SimT.dp γ)) (.cons ((SimT.ok b b').mono (by omega)) (.cons ((SimT.ok c c').mono (by omega)) (.nil []))))
  have e2 : decide (T3.mk a b c = T3.mk a' b' c') = (decide ([enc a, enc b, enc c].length = [enc a', enc b', enc c'].length) && (decide (a = a') && (decide (b = b') && (decide (c = c') && true)))) := by simp [Bool.decide_and]
  rw [e2]
  exact this⟩
instance {α β γ δ : Type} [Enc α] [DecidableEq α] [SimT α] [Enc β] [DecidableEq β] [SimT β] [Enc γ] [DecidableEq γ] [SimT γ] [Enc δ] [DecidableEq δ] [SimT δ] : SimT (T4 α β γ δ) := ⟨SimT.dp α + SimT.dp β + SimT.dp γ + SimT.dp δ + 1, fun x y => by
  obtain ⟨a, b, c, d⟩ := x
  obtain ⟨a', b', c', d'⟩ := y
  have := Sim.tuple (.cons ((SimT.ok a a').mono (by omega : SimT.dp α ≤ SimT.dp α + SimT.dp β + SimT.dp γ + SimT.dp δ)) (.cons ((SimT.ok b b').mono (by omega)) (.cons ((SimT.ok c c').mono (by omega)) (.cons ((SimT.ok d d').mono (by omega)) (.nil [])))))
  have e2 : decide (T4.mk a b c d = T4.mk a' b' c' d') = (decide ([enc a, enc b, enc c, enc d].length = [enc a', enc b', enc c', enc d'].length) && (decide (a = a') && (decide (b = b') && (decide (c = c') && (decide (d = d') && true))))) := by simp [Bool.decide_and]
  rw [e2]
  exact this⟩
def SimR (n : Nat) : List PyData → PyData → Prop := fun ds d => ∃ x y b, ds = [x, y] ∧ Sim n x y b ∧ d = .bool b
theorem SimAll.all {n : Nat} {xs ys : List PyData} {b : Bool} (h : SimAll n xs ys b) : ∃ zs : List (PyData × PyData × Bool), zs.map (fun t => PyData.tuple [t.1, t.2.1]) = zipD xs ys ∧ (∀ t ∈ zs, Sim n t.1 t.2.1 t.2.2) ∧ (zs.map (·.2.2)).all id = b := by
  induction xs generalizing ys b with
  | nil => cases h; exact ⟨[], rfl, fun t e => by simp at e, rfl⟩; exact ⟨[], rfl, fun t e => by simp at e, rfl⟩
  | cons x xs ih =>
    cases h with
    | nil' => exact ⟨[], rfl, fun t e => by simp at e, rfl⟩
    | @cons _ _ y _ ys b c h t =>
      obtain ⟨zs, h1, h2, h3⟩ := ih t
      refine ⟨(x, y, b) :: zs, ?_, fun t ht => ?_, by rw [List.map_cons, List.all_cons, h3]; rfl⟩
      · rw [List.map_cons, h1]; rfl
      · rcases List.mem_cons.mp ht with e | ht
        · subst e; exact h
        · exact h2 t ht
theorem Cal.never {P : Program} {w : World} {K : Fg} {mg : Str → Option Value} {base : Heap} {x : Str} {st : Stmt} {N ps : List Str} (h : Dfn K mg x st ps) (S : FnScope N ps (defScope st)) : Cal P w K mg base 1 x ps (fun _ _ _ _ => False) :=
  h.cal S (fun _ _ _ _ h => h.elim) fun _ _ _ _ _ _ _ _ _ _ h => h.elim
end TL

namespace TL
open PySem L2
open Enc
/-! ### tuples of own lists -/
theorem perm_erase {α : Type} : ∀ (l : List α) (j : Nat) (x : α), l[j]? = some x → l.Perm (x :: l.eraseIdx j)
  | [], j, x, h => by simp at h
  | y :: l, 0, x, h => by
    simp at h
    subst h
    exact List.Perm.refl _
  | y :: l, j + 1, x, h => by
    rw [List.eraseIdx_cons_succ]
    exact ((perm_erase l j x (by simpa using h)).cons y).trans (List.Perm.swap x y _)
def towOs (ps : List Addr) (ess : List (List PyData)) : Os := List.zipWith (fun p (es : List PyData) => ⟨p, true, es⟩) ps ess
inductive Tow (O : Os) : List Addr → List (List PyData) → Prop
  | nil : Tow O [] []
  | cons (j : Nat) {p : Addr} {nw : Bool} {es : List PyData} {ps : List Addr} {ess : List (List PyData)} (h : O[j]? = some ⟨p, nw, es⟩) : Tow O ps ess → Tow O (p :: ps) (es :: ess)
section
variable {K : Fg} {F0 H0 F H F' H' : Hp} {D0 : List Addr} {O O' O1 O2 : Os} {ρ : List Sl} {σ : L2.St} {ps : List Addr} {ess : List (List PyData)}
theorem EnvR.tow {i : Nat} (h : EnvR K F σ ρ) (e : ρ[i]? = some (.tow ps)) : ∃ t, σ[i]? = some (some (.ref t)) ∧ SqT K F t (ps.map .ref) := by
  obtain ⟨s, h1, t, rfl, h2⟩ := h.at e
  exact ⟨t, h1, h2⟩
theorem Tow.rp (S : Hx K F0 H0 D0 F O H) (t : Tow O ps ess) : RpAll K H (ps.map .ref) (ess.map .list) := by
  induction t with
  | nil => exact .nil
  | cons j h _ ih =>
    obtain ⟨_, _, _, vs, h4, h5, h6⟩ := S.get h
    exact .cons (.lst (SqL.of h4) h5 (h6.up S.fh)) ih
theorem Tow.lens (t : Tow O ps ess) : ps.length = ess.length := by
  induction t with
  | nil => rfl
  | cons j h _ ih => rw [List.length_cons, List.length_cons, ih]
theorem Hx.perm (S : Hx K F0 H0 D0 F O H) (h : O.Perm O') : Hx K F0 H0 D0 F O' H :=
  ⟨S.f0, S.fh, S.keep, S.live, S.new, fun p hp => S.own p (h.mem_iff.mpr hp), (h.map OE.a).nodup_iff.mp S.nd⟩
/-- a part of the own lists apart -/
theorem Hx.fr {X : Os} (S : Hx K F0 H0 D0 F (O ++ X) H) : ∃ H1 D1, Hx K F H1 D1 F O H ∧ ∀ F' O' H', Hx K F H1 D1 F' O' H' → Hx K F0 H0 D0 F' (O' ++ X) H' := by
  let nwA (a : Addr) : Bool := O.any fun e => e.nw && decide (e.a = a)
  let H1 : Hp := fun a => if nwA a = true then none else H a
  let D1 : List Addr := (O.filter fun e => !e.nw).map OE.a
  have h1s : ∀ a o, H1 a = some o → H a = some o := fun a o e => by
    show H a = some o
    have e : (if nwA a = true then none else H a) = some o := e
    split at e
    · cases e
    · exact e
  have h1of : ∀ a o, H a = some o → (∀ e ∈ O, e.a = a → e.nw = false) → H1 a = some o := fun a o e n => by
    show (if nwA a = true then none else H a) = some o
    rw [if_neg]
    · exact e
    · intro q
      obtain ⟨x, hx, q⟩ := List.any_eq_true.mp q
      rw [Bool.and_eq_true, decide_eq_true_eq] at q
      rw [n x hx q.2] at q
      exact Bool.false_ne_true q.1
  have inO : ∀ e ∈ O, e ∈ O ++ X := fun e h => List.mem_append_left _ h
  have inX : ∀ e ∈ X, e ∈ O ++ X := fun e h => List.mem_append_right _ h
  have dj : ∀ e ∈ O, ∀ x ∈ X, e.a ≠ x.a := fun e he x hx q => by
    have := S.nd
    rw [List.map_append, List.nodup_append] at this
    exact this.2.2 e.a (List.mem_map.mpr ⟨e, he, rfl⟩) x.a (List.mem_map.mpr ⟨x, hx, rfl⟩) q
  have d1 : ∀ a, a ∈ D1 → ∃ e ∈ O, e.a = a ∧ e.nw = false := fun a h => by
    obtain ⟨e, he, rfl⟩ := List.mem_map.mp h
    rw [List.mem_filter] at he
    exact ⟨e, he.1, rfl, by simpa using he.2⟩
  -- what stood at the entry is in H1
  have old : ∀ a o, H0 a = some o → ∀ e ∈ O, e.a = a → e.nw = false := fun a o e x hx q => by
    cases hw : x.nw with
    | false => rfl
    | true =>
      have := (S.own x (inO x hx)).2.1 hw
      rw [q, e] at this
      cases this
  refine ⟨H1, D1, ⟨Same.refl _, S.fh, fun a o e _ => h1s a o e, fun a o e => ⟨o, h1s a o e⟩, fun _ _ _ e => e, fun p hp => ?_, ?_⟩, fun F' O' H' S2 => ?_⟩
  · obtain ⟨g1, g2, g3, g4⟩ := S.own p (inO p hp)
    refine ⟨g1, fun hw => ?_, fun hw => List.mem_map.mpr ⟨p, List.mem_filter.mpr ⟨hp, by rw [hw]; rfl⟩, rfl⟩, g4⟩
    show (if nwA p.a = true then none else H p.a) = none
    rw [if_pos]
    exact List.any_eq_true.mpr ⟨p, hp, by rw [hw]; simp⟩
  · have := S.nd
    rw [List.map_append, List.nodup_append] at this
    exact this.1
  · refine ⟨S.f0.trans S2.f0, S2.fh, fun a o e n => ?_, fun a o e => ?_, fun a o e n => ?_, fun p hp => ?_, ?_⟩
    · refine S2.keep a o (h1of a o (S.keep a o e n) (old a o e)) fun hd => ?_
      obtain ⟨x, hx, q, hw⟩ := d1 a hd
      exact n (q ▸ (S.own x (inO x hx)).2.2.1 hw)
    · obtain ⟨o', e'⟩ := S.live a o e
      exact S2.live a o' (h1of a o' e' (old a o e))
    · obtain ⟨o', e'⟩ := S.live a o e
      exact S2.new a o' (h1of a o' e' (old a o e)) (S.new a o e n)
    · rcases List.mem_append.mp hp with hp | hp
      · obtain ⟨g1, g2, g3, g4⟩ := S2.own p hp
        refine ⟨g1, fun hw => ?_, fun hw => ?_, g4⟩
        · have g2 := g2 hw
          cases e : H0 p.a with
          | none => rfl
          | some o =>
            obtain ⟨o', e'⟩ := S.live p.a o e
            rw [h1of p.a o' e' (old p.a o e)] at g2
            cases g2
        · obtain ⟨x, hx, q, hw'⟩ := d1 _ (g3 hw)
          exact q ▸ (S.own x (inO x hx)).2.2.1 hw'
      · obtain ⟨g1, g2, g3, g40⟩ := S.own p (inX p hp)
        obtain ⟨u, g4⟩ := g40.live
        have n : ∀ e ∈ O, e.a = p.a → e.nw = false := fun e he q => (dj e he p hp q).elim
        have k1 := h1of p.a _ g4 n
        refine ⟨S2.new _ _ k1 g1, g2, g3, (g40.at ((S2.keep _ _ k1 fun hd => ?_).trans g4.symm)).up S2.f0⟩
        obtain ⟨x, hx, q, _⟩ := d1 _ hd
        exact dj x hx p hp q
    · rw [List.map_append, List.nodup_append]
      have := S.nd
      rw [List.map_append, List.nodup_append] at this
      refine ⟨S2.nd, this.2.1, fun a ha b hb q => ?_⟩
      subst q
      obtain ⟨e, he, rfl⟩ := List.mem_map.mp ha
      obtain ⟨x, hx, q⟩ := List.mem_map.mp hb
      obtain ⟨g1, g2, g3, g40⟩ := S.own x (inX x hx)
      obtain ⟨u, g4⟩ := g40.live
      have n : ∀ e ∈ O, e.a = x.a → e.nw = false := fun e he q => (dj e he x hx q).elim
      have k1 := h1of x.a _ g4 n
      obtain ⟨k2, k3, k4, _⟩ := S2.own e he
      cases hw : e.nw with
      | true =>
        have := k3 hw
        rw [← q, k1] at this
        cases this
      | false =>
        obtain ⟨y, hy, q2, _⟩ := d1 _ (k4 hw)
        exact dj y hy x hx (q2.trans q.symm)
/-- arguments that are own lists, each by itself -/
structure RAo (K : Fg) (t : TA) (ρ : List Sl) (O : Os) (ess : List (List PyData)) (O' : Os) : Prop where
  run : ∀ (F0 H0 : Hp) (D0 : List Addr) (σ : L2.St) (F H : Hp) (Q : List V → Hp → Prop), EnvR K F σ ρ → Hx K F0 H0 D0 F O H →
    (∀ ps F' H', Same F F' → ps.length = ess.length → Hx K F0 H0 D0 F' (towOs ps ess ++ O') H' → Q (ps.map .ref) H') → t σ H Q
theorem rao_nil : RAo K tNil ρ O [] O := ⟨fun _ _ _ _ _ _ Q E S k => k [] _ _ (Same.refl _) rfl S⟩
theorem rao_cons {te : TE} {t : TA} {es : List PyData} (h : RXo K te ρ O es O1) (ht : RAo K t ρ O1 ess O2) : RAo K (tCons te t) ρ O (es :: ess) O2 := ⟨fun _ _ _ _ _ _ Q E S k =>
  h.go E S fun p F1 H1 f1 E1 S1 => by
    obtain ⟨H1', D1, Sf, back⟩ := Hx.fr (X := [⟨p, true, es⟩]) (S1.perm (List.perm_append_singleton (⟨p, true, es⟩ : OE) O1).symm)
    refine ht.run _ _ _ _ _ _ _ E1 Sf fun ps F2 H2 f2 hl S2 => k (p :: ps) F2 H2 (f1.trans f2) (by rw [List.length_cons, List.length_cons, hl]) ?_
    exact (back _ _ _ S2).perm (List.perm_append_singleton _ _)⟩
theorem rxo_own {i j : Nat} {p : Addr} {ds : List PyData} (hs : ρ[i]? = some (.adr p)) (ho : O[j]? = some ⟨p, true, ds⟩) : RXo K (tVar i) ρ O ds (O.eraseIdx j) := ⟨fun _ _ _ _ _ _ Q E S k => by
  exact ⟨_, E.adr hs, k p _ _ (Same.refl _) (S.perm (perm_erase _ _ _ ho))⟩⟩
theorem st_retT {t : TA} {D : Ends} (h : RAo K t ρ O ess O') (E : EnvR K F σ ρ) (S : Hx K F0 H0 D0 F O H)
    (k : ∀ (T : Addr) (ps : List Addr) (F' H' : Hp), Same F F' → ps.length = ess.length → SqT K F' T (ps.map .ref) → Hx K F0 H0 D0 F' (towOs ps ess ++ O') H' → D.rt (.ref T) H') (hz : ess.length ≤ 1000 := by exact Nat.le_of_ble_eq_true rfl) : tRet (tTup t) D σ H :=
  h.run _ _ _ _ _ _ _ E S fun ps F1 H1 f1 hl S1 => by
    refine ⟨by rw [List.length_map, hl]; exact Nat.le_trans hz (by decide), fun T hT => ?_⟩
    exact k T ps _ _ (f1.trans (same_upd (S1.nof hT))) hl (SqT.of upd_same) (S1.put hT)
/-- what a def promises that hands back a tuple of new lists -/
def SpT (K : Fg) (R : List PyData → List (List PyData) → Prop) : Sp := fun vs H Q _ => ∃ F ds ess, RpAll K F vs ds ∧ Same F H ∧ R ds ess ∧
  ∀ (T : Addr) (ps : List Addr) (F' H' : Hp), Stp [] F H F' H' → SqT K F' T (ps.map .ref) → ps.length = ess.length → ps.Nodup → (∀ (i : Nat) p es, ps[i]? = some p → ess[i]? = some es → H p = none ∧ F' p = none ∧ ∃ xs, H' p = some (.lst xs) ∧ xs.length ≤ sizeLine ∧ RpAll K F' xs es) → Q (.ref T) H'
theorem st_len {R : List PyData → List (List PyData) → Prop} {n : Nat} (h : ∀ ds d, R ds d → ds.length = n) : ∀ vs H Q E, SpT K R vs H Q E → vs.length = n := fun vs H Q E ⟨F, ds, d, r, _, hR, _⟩ => r.length.trans (h ds d hR)
theorem tow_map (hl : ps.length = ess.length) : (towOs ps ess).map OE.a = ps := by
  unfold towOs
  induction ps generalizing ess with
  | nil => rfl
  | cons p ps ih =>
    cases ess with
    | nil => cases hl
    | cons e ess => rw [List.zipWith_cons_cons, List.map_cons, ih (by simpa using hl)]
theorem tow_get {i : Nat} {p : Addr} {es : List PyData} (h : ps[i]? = some p) (h' : ess[i]? = some es) : (towOs ps ess)[i]? = some ⟨p, true, es⟩ := by
  unfold towOs
  rw [List.getElem?_zipWith, h, h']
theorem tow_of {e : OE} (h : e ∈ towOs ps ess) : ∃ (i : Nat) (es : List PyData), ps[i]? = some e.a ∧ ess[i]? = some es ∧ e.nw = true ∧ e.ds = .l es := by
  obtain ⟨i, q⟩ := List.mem_iff_getElem?.mp h
  unfold towOs at q
  rw [List.getElem?_zipWith] at q
  split at q
  · rename_i a b h1 h2
    cases q
    exact ⟨i, b, h1, h2, rfl, rfl⟩
  · cases q
/-- the end of such a def -/
theorem Hx.outT (S : Hx K F0 H0 D0 F (towOs ps ess ++ O) H) (hl : ps.length = ess.length) : ps.Nodup ∧ ∀ (i : Nat) p es, ps[i]? = some p → ess[i]? = some es → H0 p = none ∧ F p = none ∧ ∃ xs, H p = some (.lst xs) ∧ xs.length ≤ sizeLine ∧ RpAll K F xs es := by
  refine ⟨?_, fun i p es h h' => ?_⟩
  · have := S.nd
    rw [List.map_append, List.nodup_append, tow_map hl] at this
    exact this.1
  · obtain ⟨g1, g2, g3, g4⟩ := S.own _ (List.mem_append_left _ (List.mem_of_getElem? (tow_get h h')))
    exact ⟨g2 rfl, g1, g4⟩
/-- new own lists behind a call -/
theorem Hx.inT (S : Hx K F0 H0 D0 F O H) (st : Stp [] F H F' H') (hl : ps.length = ess.length) (nd : ps.Nodup) (h : ∀ (i : Nat) p es, ps[i]? = some p → ess[i]? = some es → H p = none ∧ F' p = none ∧ ∃ xs, H' p = some (.lst xs) ∧ xs.length ≤ sizeLine ∧ RpAll K F' xs es) :
    Hx K F0 H0 D0 F' (towOs ps ess ++ O) H' := by
  have S2 := S.call st
  refine ⟨S2.f0, S2.fh, S2.keep, S2.live, S2.new, fun e he => ?_, ?_⟩
  · rcases List.mem_append.mp he with he | he
    · obtain ⟨i, es, q1, q2, q3, q4⟩ := tow_of he
      obtain ⟨g1, g2, g3⟩ := h i _ _ q1 q2
      exact ⟨g2, fun _ => S.noh0 g1, (fun z => by rw [q3] at z; cases z), by rw [q4]; exact g3⟩
    · exact S2.own e he
  · rw [List.map_append, List.nodup_append, tow_map hl]
    refine ⟨nd, S2.nd, fun a ha b hb q => ?_⟩
    subst q
    obtain ⟨e, he, rfl⟩ := List.mem_map.mp hb
    obtain ⟨vs, g4⟩ := S.ownL he
    obtain ⟨i, q⟩ := List.mem_iff_getElem?.mp ha
    have hi : i < ess.length := by rw [← hl]; exact (List.getElem?_eq_some_iff.mp q).1
    obtain ⟨g1, _⟩ := h i _ _ q (List.getElem?_eq_getElem hi)
    rw [g1] at g4
    cases g4
variable {t : TA} {D : Ends} {R : List PyData → List (List PyData) → Prop} {ds : List PyData} {E0 : XK}
theorem st_setT {i : Nat} (hR : R ds ess) (ha : RA K t ρ O (ds.map .val) O1) (E : EnvR K F σ ρ) (S : Hx K F0 H0 D0 F O H)
    (k : ∀ (ps : List Addr) (σ' : L2.St) (F' H' : Hp), ps.length = ess.length → Same F F' → EnvR K F' σ' (ρ.set i (.tow ps)) → Hx K F0 H0 D0 F' (towOs ps ess ++ O1) H' → D.nx σ' H') : tAsg (tCall (SpT K R) [] E0 t) (gName i) D σ H :=
  ha.go E S fun vs F1 H1 f1 E1 S1 r1 => by
    show SpT K R (vs ++ []) H1 _ E0
    rw [List.append_nil]
    exact ⟨F1, ds, ess, r1.all, S1.fh, hR, fun T ps F' H' st q hl nd h => k ps _ F' H' hl (f1.trans st.ff) (EnvR.set (s := some (.ref T)) (r := .tow ps) ⟨T, rfl, q⟩ i (E1.up st.ff)) (S1.inT st hl nd h)⟩
theorem st_retCT (hR : R ds ess) (ha : RA K t ρ O (ds.map .val) O1) (E : EnvR K F σ ρ) (S : Hx K F0 H0 D0 F O H)
    (k : ∀ (T : Addr) (ps : List Addr) (F' H' : Hp), Same F F' → ps.length = ess.length → SqT K F' T (ps.map .ref) → Hx K F0 H0 D0 F' (towOs ps ess ++ O1) H' → D.rt (.ref T) H') : tRet (tCall (SpT K R) [] E0 t) D σ H :=
  ha.go E S fun vs F1 H1 f1 E1 S1 r1 => by
    show SpT K R (vs ++ []) H1 _ E0
    rw [List.append_nil]
    exact ⟨F1, ds, ess, r1.all, S1.fh, hR, fun T ps F' H' st q hl nd h => k T ps F' H' (f1.trans st.ff) hl q (S1.inT st hl nd h)⟩
theorem Hx.frzT (S : Hx K F0 H0 D0 F (towOs ps ess ++ O) H) (hl : ps.length = ess.length) : ∃ F', Same F F' ∧ Hx K F0 H0 D0 F' O H ∧ RpAll K F' (ps.map .ref) (ess.map .list) := by
  induction ps generalizing ess F with
  | nil =>
    cases ess with
    | nil => exact ⟨F, Same.refl _, S, .nil⟩
    | cons e ess => cases hl
  | cons p ps ih =>
    cases ess with
    | nil => cases hl
    | cons e ess =>
      obtain ⟨F1, f1, S1, r1⟩ := S.frz (j := 0) (l := p) (ds := e) rfl
      obtain ⟨F2, f2, S2, r2⟩ := ih (ess := ess) S1 (by simpa using hl)
      exact ⟨F2, f1.trans f2, S2, .cons (r1.up f2) r2⟩
theorem SpT.toP {R' : List PyData → PyData → Prop} (hi : ∀ ds d, R' ds d → ∃ ess, R ds ess ∧ d = .tuple (ess.map .list) ∧ ess.length ≤ 1000) : ∀ vs H Q E, SpP K R' vs H Q E → SpT K R vs H Q E := fun vs H Q E ⟨F, ds, d, r, fh, hR, k⟩ => by
  obtain ⟨ess, hR2, rfl, hz⟩ := hi ds d hR
  refine ⟨F, ds, ess, r, fh, hR2, fun T ps F' H' st q hl nd h => ?_⟩
  have S := (Hx.start (K := K) fh).inT st hl nd h
  obtain ⟨F2, f2, S2, r2⟩ := S.frzT hl
  exact k _ F2 H' S2.stp (.tup (same_t f2 q) (by rw [List.length_map, hl]; exact Nat.le_trans hz (by decide)) r2)
/-! ### how such a tuple is read -/
theorem rxh_tow {i : Nat} (hs : ρ[i]? = some (.tow ps)) (ht : Tow O ps ess) (hz : ess.length ≤ 1000 := by exact Nat.le_of_ble_eq_true rfl) : RXh K (tVar i) ρ O (.tuple (ess.map .list)) O := ⟨fun _ _ _ _ _ _ Q E S k => by
  obtain ⟨T, h1, h2⟩ := E.tow hs
  refine ⟨_, h1, k _ _ _ (Same.refl _) S fun F2 H2 f2 S2 => .tup (same_t (f2.trans S2.fh) h2) ?_ (ht.rp S2)⟩
  rw [List.length_map, ht.lens]
  exact Nat.le_trans hz (by decide)⟩
theorem rxs_tow {i j n : Nat} {p : Addr} {nw : Bool} {es : List PyData} (hs : ρ[i]? = some (.tow ps)) (hp : L2.atI (ps.map V.ref) (n : Int) = some (.ref p)) (ho : O[j]? = some ⟨p, nw, es⟩) : RXs K (tOp (rIxT K) (tVar i) (tC (.int n))) ρ O es O := ⟨fun _ _ _ _ _ _ Q E S k => by
  obtain ⟨T, h1, h2⟩ := E.tow hs
  refine ⟨_, h1, T, _, (n : Int), _, rfl, rfl, same_t S.fh h2, hp, k p _ _ (Same.refl _) S fun F2 H2 f2 S2 => ?_⟩
  obtain ⟨_, _, _, vs, h4, h5, h6⟩ := S2.get ho
  exact ⟨vs, SqL.of h4, h5, h6⟩⟩
variable {ta tb : TE}
theorem rx_isiH {c : String} {r : Bool} {d : PyData} (ha : RXh K ta ρ O d O1) (h : kitB (tyN d) c = some r) : RX K (tCB (rIsi K) (tCons ta (tCons (tC (.ty c)) tNil))) ρ O (.bool r) O1 := ⟨fun _ _ _ _ _ _ Q E S k => ha.go E S fun x F1 H1 f1 E1 S1 r1 =>
  ⟨x, .ty c, _, _, r, rfl, .ty c, (r1 F1 H1 (Same.refl _) S1).ty, kit_ty h, k _ F1 H1 f1 S1 (.bl r)⟩⟩
/-- a call that reads its two arguments, by the whole heap -/
theorem rx_callH {R : List PyData → PyData → Prop} {d e : PyData} {b : Bool} (hR : R [d, e] (.bool b)) (ha : RXh K ta ρ O d O1) (hb : RXh K tb ρ O1 e O1) : RX K (tCall (SpP K R) [] E0 (tCons ta (tCons tb tNil))) ρ O (.bool b) O1 := ⟨fun _ _ _ _ _ _ Q E S k =>
  ha.go E S fun x F1 H1 f1 E1 S1 r1 => hb.go E1 S1 fun y F2 H2 f2 E2 S2 r2 => by
    refine ⟨H2, [d, e], .bool b, .cons (r1 F2 H2 f2 S2) (.cons (r2 F2 H2 (Same.refl _) S2) .nil), Same.refl _, hR, fun v F' H' st r => ?_⟩
    have keep : Same H2 H' := fun a o q => st.keep a o q (by simp)
    cases r
    exact k _ F2 H' (f1.trans f2) (S2.call ⟨Same.refl _, S2.fh.trans keep, st.keep, st.live, fun _ _ _ q => q⟩) (.bl b)⟩
/-- an own list behind the others is moved to the front -/
theorem tow_move (A : Os) (p : Addr) (es : List PyData) (B : Os) : (A ++ ⟨p, true, es⟩ :: B).Perm (⟨p, true, es⟩ :: (A ++ B)) := List.perm_middle
/-- for part in t: .., which changes the part -/
theorem st_forT {i j : Nat} {tb : TS} {g : List PyData → List PyData} (ρ1 : List Sl) (hs : ρ[i]? = some (.tow ps)) (hl : ps.length = ess.length) (E : EnvR K F σ ρ) (S : Hx K F0 H0 D0 F (towOs ps ess ++ O) H) (hW : Wk ρ ρ1)
    (kn : ∀ σ' F' H', Same F F' → EnvR K F' σ' ρ1 → Hx K F0 H0 D0 F' (towOs ps (ess.map g) ++ O) H' → D.nx σ' H')
    (body : ∀ es ∈ ess, ∀ σ1 F1 H1 p Or, Same F F1 → EnvR K F1 σ1 (ρ1.set j (.adr p)) → Hx K F0 H0 D0 F1 (⟨p, true, es⟩ :: Or) H1 →
      ∀ (N B : L2.St → Hp → Prop), (∀ σ' F' H', Same F1 F' → EnvR K F' σ' ρ1 → Hx K F0 H0 D0 F' (⟨p, true, g es⟩ :: Or) H' → N σ' H') → tb { D with nx := N, ct := N, bk := B } σ1 H1) :
    tFor (iTup K (tVar i)) (gName j) tb D σ H := by
  obtain ⟨T, h1, h2⟩ := E.tow hs
  refine ⟨_, h1, T, rfl, ⟨_, same_t S.fh h2⟩, ?_⟩
  have hlen : (ps.map V.ref).length = ps.length := List.length_map _
  refine for_it (walk_tup (K := K) (a := T) (xs := ps.map V.ref)) (fun n σ H => ∃ F2, Same F F2 ∧ EnvR K F2 σ ρ1 ∧ Hx K F0 H0 D0 F2 (towOs (ps.take n) ((ess.map g).take n) ++ (towOs (ps.drop n) (ess.drop n) ++ O)) H)
    ⟨F, Same.refl _, E.weak hW, S⟩ (fun n σ H _ q => by obtain ⟨F2, q1, _, q4⟩ := q; exact same_t (q1.trans q4.fh) h2) (fun n x σ H H' hn q y => ?_) (fun σ H q => ?_)
  · obtain ⟨F2, q1, q3, q4⟩ := q
    obtain ⟨e, y⟩ := y
    subst e
    rw [hlen] at hn
    have hn2 : n < ess.length := by omega
    have hx : x = V.ref ps[n] := by
      rw [List.getElem?_map, List.getElem?_eq_getElem hn] at y
      exact (Option.some.inj y).symm
    subst hx
    rw [drop_cons hn2, drop_cons hn] at q4
    have q4 := q4.perm (tow_move _ _ _ _)
    refine body _ (List.getElem_mem hn2) _ F2 H' ps[n] _ q1 (q3.seta j) q4 _ _ (fun σ' F' H2 ff E' S' => ⟨F', q1.trans ff, E', ?_⟩)
    have S' := S'.perm (tow_move _ _ _ _).symm
    have t1 : towOs (ps.take (n + 1)) ((ess.map g).take (n + 1)) = towOs (ps.take n) ((ess.map g).take n) ++ [⟨ps[n], true, g ess[n]⟩] := by
      unfold towOs
      have hn3 : n < (ess.map g).length := by rw [List.length_map]; exact hn2
      rw [List.take_succ_eq_append_getElem hn, List.take_succ_eq_append_getElem hn3, List.zipWith_append (by rw [List.length_take, List.length_take, List.length_map, hl]), List.getElem_map]
      rfl
    rw [t1, List.append_assoc]
    exact S'
  · obtain ⟨F2, q1, q3, q4⟩ := q
    rw [hlen, List.take_length, hl, List.drop_length] at q4
    have e : (ess.map g).take ess.length = ess.map g := List.take_of_length_le (by rw [List.length_map]; exact Nat.le_refl _)
    have e2 : ps.drop ess.length = [] := by rw [← hl, List.drop_length]
    rw [e, e2] at q4
    exact kn σ F2 H q1 q3 q4
/-- .. is frozen -/
theorem frz_tow {i : Nat} (hs : ρ[i]? = some (.tow ps)) (hl : ps.length = ess.length) (E : EnvR K F σ ρ) (S : Hx K F0 H0 D0 F (towOs ps ess ++ O) H) (hz : ess.length ≤ 1000 := by exact Nat.le_of_ble_eq_true rfl) :
    ∃ F', Same F F' ∧ EnvR K F' σ (ρ.set i (.val (.tuple (ess.map .list)))) ∧ Hx K F0 H0 D0 F' O H := by
  obtain ⟨T, h1, h2⟩ := E.tow hs
  obtain ⟨F', f, S', r⟩ := S.frzT hl
  have E2 := EnvR.setv (E.up f) (v := .ref T) (.tup (same_t f h2) (by rw [List.length_map, hl]; exact Nat.le_trans hz (by decide)) r) i
  have e : σ.set i (some (.ref T)) = σ := by
    apply List.ext_getElem?
    intro n
    by_cases e : i = n
    · subst e
      rw [List.getElem?_set_self (List.getElem?_eq_some_iff.mp h1).1, h1]
    · rw [List.getElem?_set_ne e]
  rw [e] at E2
  exact ⟨F', f, E2, S'⟩
theorem len3 {α β : Type} {ps : List α} {a b c : β} (h : ps.length = [a, b, c].length) : ∃ p q r, ps = [p, q, r] := by
  match ps, h with
  | [p, q, r], _ => exact ⟨p, q, r, rfl⟩
/-- the slots as the whole heap shows them -/
inductive Vw (O : Os) : List Sl → List Sl → Prop
  | nil : Vw O [] []
  | same {r : Sl} {ρ ρ' : List Sl} (h : (∃ d, r = .val d) ∨ r = .un) : Vw O ρ ρ' → Vw O (r :: ρ) (r :: ρ')
  | adr (j : Nat) {a : Addr} {nw : Bool} {ds : List PyData} {ρ ρ' : List Sl} (h : O[j]? = some ⟨a, nw, ds⟩) : Vw O ρ ρ' → Vw O (.adr a :: ρ) (.val (.list ds) :: ρ')
  | tow {ps : List Addr} {ess : List (List PyData)} {ρ ρ' : List Sl} (h : Tow O ps ess) (hz : ess.length ≤ 1000) : Vw O ρ ρ' → Vw O (.tow ps :: ρ) (.val (.tuple (ess.map .list)) :: ρ')
theorem EnvR.whole {ρ' : List Sl} (w : Vw O ρ ρ') (S : Hx K F0 H0 D0 F O H) : ∀ {σ : L2.St}, EnvR K F σ ρ → EnvR K H σ ρ' := by
  induction w with
  | nil => intro σ E; cases E; exact .nil
  | same h _ ih =>
    intro σ E
    cases E with
    | cons r t => exact .cons (r.up S.fh) (ih t)
  | adr j h _ ih =>
    intro σ E
    cases E with
    | cons r t =>
      obtain ⟨_, _, _, vs, h4, h5, h6⟩ := S.get h
      exact .cons ⟨_, r, .lst (SqL.of h4) h5 (h6.up S.fh)⟩ (ih t)
  | tow h hz _ ih =>
    intro σ E
    cases E with
    | cons r t =>
      obtain ⟨T, h1, h2⟩ := r
      exact .cons ⟨_, h1, .tup (same_t S.fh h2) (by rw [List.length_map, h.lens]; exact Nat.le_trans hz (by decide)) (h.rp S)⟩ (ih t)
/-- a truth that is reckoned from what stands -/
theorem rx_whole {ρ' : List Sl} {b : Bool} (w : Vw O ρ ρ') (h : RX K ta ρ' [] (.bool b) []) : RX K ta ρ O (.bool b) O := ⟨fun _ _ _ _ F H Q E S k => by
  refine h.run _ _ _ _ _ _ Q (E.whole w S) (Hx.start (Same.refl H)) fun v F' H' f S' r => ?_
  have st := S'.stp
  have keep : Same H H' := fun a o q => st.keep a o q (by simp)
  cases r
  exact k _ F H' (Same.refl _) (S.call ⟨Same.refl _, S.fh.trans keep, st.keep, st.live, fun _ _ _ q => q⟩) (.bl b)⟩
end
end TL
namespace TL
open PySem L2
/-- a module's own number, text -/
theorem pe_gint {X : Cx} {x : Str} {i : Int} {pos : Pos} (h : ∃ t, X.mg x = some (.int i t)) (hg : Gl X x := by rfl) (hd : (x == ("__debug__" : Str)) = false := by decide) : PE X (.Name x pos) (tC (.int i)) := by
  obtain ⟨t, e⟩ := h
  exact pe_glob hg e ⟨t, rfl⟩ hd
theorem pe_gstr {X : Cx} {x z : Str} {pos : Pos} (h : ∃ t, X.mg x = some (.str z t)) (hg : Gl X x := by rfl) (hd : (x == ("__debug__" : Str)) = false := by decide) : PE X (.Name x pos) (tC (.str z)) := by
  obtain ⟨t, e⟩ := h
  exact pe_glob hg e ⟨t, rfl⟩ hd
end TL

namespace TL
open PySem PySem.Spec PyProof.Rows L2
open Enc
/-! ### zip of a list and a tuple -/
/-- the list at a, the tuple at b, as they stand at each turn -/
def ItMix (K : Fg) (a b : Addr) : It :=
  ⟨fun i H => ∃ (xs ys : List V) (x y : V), (SqL K H a xs ∧ SqT K H b ys) ∧ xs[i]? = some x ∧ ys[i]? = some y,
    fun i H v H' => ∃ T x y, (v = .ref T ∧ H T = none ∧ H' = upd H T (.tup [x, y])) ∧ (∀ xs, SqL K H a xs → xs[i]? = some x) ∧ ∀ ys, SqT K H b ys → ys[i]? = some y,
    fun i H => ∃ xs ys : List V, (SqL K H a xs ∧ SqT K H b ys) ∧ i ≤ xs.length ∧ i ≤ ys.length ∧ (xs.length = i ∨ ys.length = i)⟩
theorem sep_mix {z TI TO i1 i2 a b : Addr} (D : ZipApart z TI TO i1 i2 a b) : ZipSep2 z TI TO i1 i2 [i1, a] [i2, b] :=
  { TIz := D.TIz, TOz := D.TOz, TITO := D.TITO, TIi1 := D.TIi1, TIi2 := D.TIi2, mem1 := by simp, mem2 := by simp
    zf1 := fun q => by rcases (by simpa using q : z = i1 ∨ z = a) with e | e; exact D.i1z e.symm; exact D.l1z e.symm
    Tf1 := fun q => by rcases (by simpa using q : TO = i1 ∨ TO = a) with e | e; exact D.TOi1 e; exact D.l1TO e.symm
    zf2 := fun q => by rcases (by simpa using q : z = i2 ∨ z = b) with e | e; exact D.i2z e.symm; exact D.l2z e.symm
    Tf2 := fun q => by rcases (by simpa using q : TO = i2 ∨ TO = b) with e | e; exact D.TOi2 e; exact D.l2TO e.symm
    sep1_2 := fun q => by rcases (by simpa using q : i1 = i2 ∨ i1 = b) with e | e; exact D.i12 e; exact D.l2i1 e.symm
    sep2_1 := fun q => by rcases (by simpa using q : i2 = i1 ∨ i2 = a) with e | e; exact D.i12 e.symm; exact D.l1i2 e.symm }
def mixSt (z TI TO i1 i2 a b : Addr) (i : Nat) (h : Heap) : Prop := (IsZip h z TI TO .none ∧ IsPair h TI (.ref i1) (.ref i2)) ∧ (∃ x y, IsPair h TO x y) ∧ h.IsListIter i1 a i ∧ h.IsTupleIter i2 b i
theorem five {z TI TO i1 i2 c : Addr} (h : c ∈ [z, TI, TO, i1, i2]) : c = z ∨ c = TI ∨ c = TO ∨ c = i1 ∨ c = i2 := by simpa using h
theorem out5 {z TI TO i1 i2 c : Addr} (h : c ∉ [z, TI, TO, i1, i2]) : c ≠ z ∧ c ≠ TO ∧ c ≠ i1 ∧ c ≠ i2 :=
  ⟨fun e => h (by simp [e]), fun e => h (by simp [e]), fun e => h (by simp [e]), fun e => h (by simp [e])⟩
theorem turn_mix {P : Program} {w : World} {K : Fg} {elts : List Expr} {kk : Nat} {tpos : Pos} {a b z TI TO i1 i2 : Addr} (D : ZipApart z TI TO i1 i2 a b) :
    Turn P w K (.Tuple elts kk tpos) (ItMix K a b) [z, TI, TO, i1, i2] z (mixSt z TI TO i1 i2 a b) := by
  have sep := sep_mix D
  refine ⟨by simp, fun i h st c hc => ?_, fun i h h' st k => ?_, ?_, ?_, fun A i s Q E st q => wpAny_pyIter_zip st.1.1 q⟩
  · obtain ⟨⟨q1, q2⟩, ⟨x, y, q3⟩, ⟨o1, e1, _, d1⟩, o2, e2, _, d2⟩ := st
    rcases five hc with rfl | rfl | rfl | rfl | rfl
    · exact ⟨_, q1, fun v => nofun⟩
    · exact ⟨_, q2, fun v => nofun⟩
    · exact ⟨_, q3, fun v => nofun⟩
    · exact ⟨_, e1, fun v e => nomatch d1.symm.trans e⟩
    · exact ⟨_, e2, fun v e => nomatch d2.symm.trans e⟩
  · obtain ⟨⟨q1, q2⟩, ⟨x, y, q3⟩, q4, q5⟩ := st
    exact ⟨⟨k z (by simp) _ q1, k TI (by simp) _ q2⟩, ⟨x, y, k TO (by simp) _ q3⟩, q4.at fun o => k i1 (by simp) o, q5.at fun o => k i2 (by simp) o⟩
  · rintro X rfl rfl rfl hc i pins s σ H E I hf st ⟨xs, ys, x, y, ⟨hqx, hqy⟩, hx, hy⟩
    obtain ⟨⟨q1, q2⟩, ⟨x0, y0, q3⟩, q4, q5⟩ := st
    obtain ⟨its, rv, p, _⟩ := I.list hqx
    obtain ⟨its2, rv2, p2, _⟩ := I.tuple hqy
    obtain ⟨u, hu, ru⟩ := rv.get hx
    obtain ⟨u2, hu2, ru2⟩ := rv2.get hy
    have zlt : z < s.heap.objs.size := Heap.lt_size q1
    have hh : X.A.in1.handled = none := I.ok.hd hc
    refine wpAny_pyNext_zipD2_item sep (Draws.list hh i1 a D.l1i1 its.toArray) (Draws.tuple hh i2 b D.l2i2 its2.toArray) q1 q2 q3 ⟨q4, p.isList⟩ ⟨q5, p2⟩ (by simpa using (List.getElem?_eq_some_iff.mp hu).1) (by simpa using (List.getElem?_eq_some_iff.mp hu2).1) fun x1 x2 h' tk e1 e2 z' TO' n1 n2 hT hsz hk => ?_
    have ex1 : x1 = u := Option.some.inj (e1.symm.trans (by simpa using hu))
    have ex2 : x2 = u2 := Option.some.inj (e2.symm.trans (by simpa using hu2))
    subst ex1
    subst ex2
    refine ⟨_, rfl, wpAny_letOwnedTupleGo_zip (s := { s with heap := h', toks := tk }) z' fun h2 z2 sb => ?_⟩
    have hT2 : h2.get? s.heap.objs.size = some { cls := .type "tuple", data := .seq #[x1, x2] } := (sb.2 _ (Nat.ne_of_gt zlt)).trans hT
    have new : ObjOk X.prog X.w (upd H s.heap.objs.size (.tup [x, y])) h2 s.heap.objs.size (.tup [x, y]) := ⟨by show 2 ≤ sizeLine; decide, [x1, x2], .cons ru (.cons ru2 .nil), ⟨_, hT2, rfl, _, rfl⟩⟩
    have I1 : Inv X pins σ (upd H s.heap.objs.size (.tup [x, y])) { s with heap := h2, toks := tk } := I.turnedNew (t' := tk) (ch := [z, TI, TO, i1, i2]) (fun c o hb q => by
      obtain ⟨c1, c2, c3, c4⟩ := out5 hb
      exact (sb.2 c c1).trans (hk c o c1 c2 c3 c4 q)) hf (Nat.le_refl _) new
    refine ⟨.ref s.heap.objs.size, _, I1, rfl, ⟨_, x, y, ⟨rfl, I.hok.fresh (Nat.le_refl _), rfl⟩, fun l hl => by rw [I.list_inj hl hqx]; exact hx, fun l hl => by rw [I.tuple_inj hl hqy]; exact hy⟩, ⟨⟨z2, ?_⟩, ⟨x1, x2, ?_⟩, ?_, ?_⟩, fun c hcm => ?_⟩
    · exact (sb.2 TI D.TIz).trans (hk TI _ D.TIz D.TITO D.TIi1 D.TIi2 q2)
    · exact (sb.2 TO D.TOz).trans TO'
    · exact n1.1.at fun o q => (sb.2 i1 D.i1z).trans q
    · exact n2.1.at fun o q => (sb.2 i2 D.i2z).trans q
    · have hlt : c < s.heap.objs.size := by
        rcases five hcm with rfl | rfl | rfl | rfl | rfl
        · exact zlt
        · exact Heap.lt_size q2
        · exact Heap.lt_size q3
        · obtain ⟨_, e, _⟩ := q4; exact Heap.lt_size e
        · obtain ⟨_, e, _⟩ := q5; exact Heap.lt_size e
      rw [upd_ne (Nat.ne_of_lt hlt)]
      exact (hf c hcm).1
  · rintro X rfl rfl rfl hc i pins s σ H E I hf st ⟨xs, ys, ⟨hqx, hqy⟩, l1, l2, hend⟩
    obtain ⟨⟨q1, q2⟩, ⟨x0, y0, q3⟩, q4, q5⟩ := st
    obtain ⟨its, rv, p, _⟩ := I.list hqx
    obtain ⟨its2, rv2, p2, _⟩ := I.tuple hqy
    have e1 := rv.length
    have e2 := rv2.length
    have hh : X.A.in1.handled = none := I.ok.hd hc
    refine wpAny_pyNext_zipD2_end sep (Draws.list hh i1 a D.l1i1 its.toArray) (Draws.tuple hh i2 b D.l2i2 its2.toArray) q1 q2 q3 ⟨q4, p.isList⟩ ⟨q5, p2⟩ (by simp; omega) (by simp; omega) (by simp; omega) fun h' tk hk => ?_
    refine ⟨rfl, I.turnedL (t' := tk) (ch := [z, TI, TO, i1, i2]) (fun c o hb q => ?_) hf⟩
    obtain ⟨c1, c2, c3, c4⟩ := out5 hb
    exact hk c o c1 c2 c3 c4 q
def iMix (K : Fg) (ta : TA) : TI := fun σ H R => ta σ H fun vs H1 => ∃ a b xs ys, vs = [.ref a, .ref b] ∧ (SqL K H1 a xs ∧ SqT K H1 b ys) ∧ R (ItMix K a b) H1
theorem k_pi_mix {X : Cx} (K : Fg) {e e2 : Expr} {ta : TA} {p pos tpos : Pos} {elts : List Expr} {kk : Nat} (hg : Gl X "zip") (hm : X.mg "zip" = none) (ha : PA X [e, e2] ta)
    (hs : starEach [e, e2] X.env = (false, eval e X.env) :: starEach [e2] X.env := by rfl) (hpl : (backTo pos (starEach [e2] X.env)).any (·.1) = false := by rfl) (hK : X.K = K := by rfl) :
    PI X (.Tuple elts kk tpos) (.Call (.Name "zip" p) [e, e2] [] pos) (iMix K ta) := by
  subst hK
  refine ⟨fun pins s σ H R I h => ?_⟩
  refine Call_ (ld_blt I hg hm PyProof.Rows.boot_zip (PyProof.Rows.callWith_type1 (thn (ha.run pos pins s σ H _ I h) fun us s1 ⟨vs, H1, I1, r1, q1⟩ => ?_) hs hpl))
  obtain ⟨a, b, xs, ys, ex, ⟨hqx, hqy⟩, q⟩ := q1
  subst ex
  cases r1 with
  | cons r rr =>
   cases rr with
   | cons r' rr =>
    cases rr
    cases r
    cases r'
    obtain ⟨its, rv, p1, _⟩ := I1.list hqx
    obtain ⟨its2, rv2, p2, _⟩ := I1.tuple hqy
    have lt1 := p1.lt
    obtain ⟨o2, ho2, p3⟩ := id p2
    have lt2 := Heap.lt_size ho2
    refine zip_begins2 (begins_list a its.toArray) (begins_tuple b its2.toArray) p1.isList p2 fun h' hz hTI hTO g1 g2 hsz hk => wpAny_pyIter_zip hz ?_
    have I2 : Inv X pins σ H1 { s1 with heap := h' } := I1.kept (t' := s1.toks) hk
    refine ⟨s1.heap.objs.size + 4, [s1.heap.objs.size + 4, s1.heap.objs.size + 2, s1.heap.objs.size + 3, s1.heap.objs.size, s1.heap.objs.size + 1], _, _, H1, rfl, I2, turn_mix (PySem.W.ktu_apart s1.heap.objs.size a b lt1 lt2), ⟨⟨hz, hTI⟩, ⟨_, _, hTO⟩, ⟨_, g1, rfl, rfl⟩, ⟨_, g2, rfl, rfl⟩⟩, fun c hcm => ?_, q⟩
    have hle : s1.heap.objs.size ≤ c := by
      rcases five hcm with rfl | rfl | rfl | rfl | rfl
      · exact Nat.le_add_right _ _
      · exact Nat.le_add_right _ _
      · exact Nat.le_add_right _ _
      · exact Nat.le_refl _
      · exact Nat.le_add_right _ _
    exact I1.fpOk hle (I1.hok.fresh hle)
section
variable {K : Fg} {ta tb : TE} {ρ : List Sl} {O O1 O2 : Os}
theorem ri_mix {ys zs : List PyData} (h : RX K ta ρ O (.list ys) O1) (h' : RX K tb ρ O1 (.tuple zs) O2) : RI K (iMix K (tCons ta (tCons tb tNil))) ρ O (zipD ys zs) O2 := ⟨fun F0 H0 D0 σ F H R E S k => by
    refine h.go E S fun x F1 H1 f1 E1 S1 r1 => h'.go E1 S1 fun y F2 H2 f2 E2 S2 r2 => ?_
    have r1' := r1.up f2
    cases r1' with
    | @lst a xs _ q1 q2 q3 =>
     cases r2 with
     | @tup b ws _ p1 p2 p3 =>
      have s1 : ∀ {G0 J0 : Hp} {D1 : List Addr} {F : Hp} {O : Os} {H : Hp}, Same F2 F → Hx K G0 J0 D1 F O H → SqL K H a xs ∧ SqT K H b ws := fun f S => ⟨(f.trans S.fh).seq q1, same_t (f.trans S.fh) p1⟩
      refine ⟨a, b, xs, ws, rfl, s1 (Same.refl _) S2, ?_⟩
      have hl : (zipD ys zs).length = min xs.length ws.length := by unfold zipD; rw [List.length_map, List.length_zip, q3.length, p3.length]
      refine k _ F2 H2 (f1.trans f2) S2 ⟨by omega, fun _ _ _ F O H i hi f S => ?_, fun _ _ _ F O H f S => ⟨xs, ws, s1 f S, by omega, by omega, by omega⟩, fun _ _ _ F O H i x H' hi f S y => ?_⟩
      · have h1 : i < xs.length := by omega
        have h2 : i < ws.length := by omega
        exact ⟨xs, ws, xs[i], ws[i], s1 f S, by simp [h1], by simp [h2]⟩
      · obtain ⟨T, u, v, ⟨eu, hT, eT⟩, y1, y2⟩ := y
        subst eu
        subst eT
        obtain ⟨d, e, r⟩ := (q3.up f).getV (y1 xs (s1 f S).1)
        obtain ⟨d', e', r'⟩ := (p3.up f).getV (y2 ws (s1 f S).2)
        obtain ⟨F3, f3, S3, r3⟩ := pair_put S hT r r'
        refine ⟨F3, _, f3, S3, ?_, r3⟩
        unfold zipD
        have ez : (ys.zip zs)[i]? = some (d, d') := List.getElem?_zip_eq_some.mpr ⟨e, e'⟩
        rw [List.getElem?_map, ez]
        rfl⟩
theorem ri_mixM {α β : Type} [Enc α] [Enc β] {xs : List α} {ys : List β} (h : RX K ta ρ O (.list (xs.map enc)) O1) (h' : RX K tb ρ O1 (.tuple (ys.map enc)) O2) : RI K (iMix K (tCons ta (tCons tb tNil))) ρ O ((xs.zip ys).map enc) O2 := by
  have e : (xs.zip ys).map enc = zipD (xs.map enc) (ys.map enc) := by
    unfold zipD
    rw [List.zip_map, List.map_map]
    rfl
  rw [e]
  exact ri_mix h h'
end
end TL

namespace TL
open PySem L2
open Enc
/-! ### texts -/
def catSO (x y : Str) : Option Str := if x.length + y.length ≤ 16777216 then some (x ++ y) else none
def cutSO (z : Str) (lo hi : Option Int) : Option Str := if z.length ≤ 16777216 then some (cutS z lo hi) else none
def lenO (z : Str) : Option Int := if z.length ≤ 16777216 then some (z.length : Int) else none
def intO (z : Str) : Option Int := if z.length ≤ 640 then intText? z else none
/-- // by what lies below 2 ^ 200 -/
def fdivWO (i j : Int) : Option Int := if 0 < j ∧ j < 1606938044258990275541962092341162602522202993782792835301376 then some (i / j) else none
section
variable {K : Fg} {ta tb tc : TE} {ρ : List Sl} {O O1 O2 O3 : Os} {x y z : Str} {i j r : Int}
theorem rx_catS {s : Str} (h : catSO x y = some s) (ha : RX K ta ρ O (.str x) O1) (hb : RX K tb ρ O1 (.str y) O2) :
    RX K (tOp (fun x y H Q => ∃ i j, x = .str i ∧ y = .str j ∧ i.length + j.length ≤ sizeLine ∧ Q (.str (i ++ j)) H) ta tb) ρ O (.str s) O2 := rx_op ha hb fun F H u v Q _ ru rv k => by
  cases ru
  cases rv
  unfold catSO at h
  split at h
  · rename_i hc
    cases h
    exact ⟨x, y, rfl, rfl, by rw [sizeLine_eq]; exact hc, k _ (.str _)⟩
  · cases h
theorem rx_cutS {s : Str} {tl th : TO} {lo hi : Option Int} (h : cutSO z lo hi = some s) (ha : RX K ta ρ O (.str z) O1) (hl : RO K tl ρ O1 lo O2) (hh : RO K th ρ O2 hi O3) : RX K (tSl rSlS ta tl th) ρ O (.str s) O3 := ⟨fun _ _ _ _ _ _ Q E S k =>
  ha.go E S fun u F1 H1 f1 E1 S1 r1 => hl.go E1 S1 fun F2 H2 f2 E2 S2 => hh.go E2 S2 fun F3 H3 f3 E3 S3 => by
    cases r1
    unfold cutSO at h
    split at h
    · rename_i hc
      cases h
      exact ⟨z, rfl, by rw [sizeLine_eq]; exact hc, k _ F3 H3 ((f1.trans f2).trans f3) S3 (.str _)⟩
    · cases h⟩
theorem rx_find (ha : RX K ta ρ O (.str x) O1) (hb : RX K tb ρ O1 (.str y) O2) : RX K (tM1 (fun x xs H Q => ∃ a b, x = .str a ∧ xs = [.str b] ∧ Q (.int (Txt.find a b)) H) ta tb) ρ O (.int (Txt.find x y)) O2 := ⟨fun _ _ _ _ _ _ Q E S k =>
  ha.go E S fun u F1 H1 f1 E1 S1 r1 => by
    cases r1
    exact ⟨⟨x, rfl⟩, hb.go E1 S1 fun v F2 H2 f2 E2 S2 r2 => by
      cases r2
      exact ⟨x, y, rfl, rfl, k _ F2 H2 (f1.trans f2) S2 (.int _)⟩⟩⟩
theorem rx_lenO (h : lenO z = some r) (ha : RX K ta ρ O (.str z) O1) : RX K (tCB (fun xs H Q => ∃ z, xs = [.str z] ∧ z.length ≤ sizeLine ∧ Q (.int (z.length : Int)) H) (tCons ta tNil)) ρ O (.int r) O1 := by
  unfold lenO at h
  split at h
  · rename_i hc
    cases h
    exact rx_lenS ha (by rw [sizeLine_eq]; exact hc)
  · cases h
theorem rx_intO (h : intO z = some r) (ha : RX K ta ρ O (.str z) O1) : RX K (tCB (fun xs H Q => ∃ a n, xs = [.str a] ∧ PySem.intText? a = some n ∧ a.length ≤ 640 ∧ Q (.int n) H) (tCons ta tNil)) ρ O (.int r) O1 := rx_cb1 ha fun F H x Q f rx k => by
  cases rx
  unfold intO at h
  split at h
  · rename_i hc
    exact ⟨z, r, rfl, h, hc, k _ (.int _)⟩
  · cases h
theorem rx_fdivWO (h : fdivWO i j = some r) (ha : RX K ta ρ O (.int i) O1) (hb : RX K tb ρ O1 (.int j) O2) : RX K (tOp (rI CDivW fun i j => .int (i / j)) ta tb) ρ O (.int r) O2 := by
  unfold fdivWO at h
  split at h
  · rename_i hc
    cases h
    refine rx_iiC (C := CDivW) (fun _ => .int _) (wide_div (b := 200) hc.1 ?_ (by decide) (by decide)) ha hb
    have e : (2 : Nat) ^ 200 = 1606938044258990275541962092341162602522202993782792835301376 := by decide
    rw [e]
    omega
  · cases h
/-- sorted of whole numbers -/
def sortI (ns : List Int) : List Int := ns.mergeSort fun a b => decide (a ≤ b)
theorem sortI_of {ns ns' : List Int} (p : ns'.Perm ns) (s : ns'.Pairwise (· ≤ ·)) : ns' = sortI ns := by
  have p2 : ns'.Perm (sortI ns) := p.trans (List.mergeSort_perm _ _).symm
  refine p2.eq_of_pairwise (le := (· ≤ ·)) (fun a b _ _ h1 h2 => Int.le_antisymm h1 h2) s ?_
  exact (List.pairwise_mergeSort (le := fun a b : Int => decide (a ≤ b)) (fun a b c h1 h2 => by simp at *; omega) (fun a b => by simp; omega) ns).imp fun h => by simpa using h
theorem rxo_sorted {ns : List Int} (ha : RXs K ta ρ O (ns.map .int) O1) : RXo K (tCB (rSortedI K) (tCons ta tNil)) ρ O ((sortI ns).map .int) O1 := ⟨fun _ _ _ _ _ _ Q E S k =>
  ha.go E S fun a F1 H1 f1 E1 S1 r1 => by
    obtain ⟨vs, q1, q2, q3⟩ := r1 F1 H1 (Same.refl _) S1
    have hv := q3.ints
    refine ⟨a, ns, rfl, by rw [← hv]; exact q1, fun ns' p hp hs hn => ?_⟩
    have e := sortI_of hp hs
    subst e
    refine k p F1 _ f1 (S1.mine hn ?_ (RpAll.of_ints _))
    rw [List.length_map, hp.length_eq]
    have := q3.length
    rw [List.length_map] at this
    omega⟩
theorem k_sortedI {X : Cx} (K : Fg) (hK : X.K = K := by rfl) : CallR X (.builtin "sorted") (rSortedI K) := by subst hK; exact cr_sortedI
end
end TL

namespace TL
open PySem L2
open Enc
section
variable {K : Fg} {ta tb tc : TE} {ρ : List Sl} {O O1 O2 O3 : Os} {F0 H0 F H : Hp} {D0 : List Addr} {σ : L2.St}
/-! ### items of what may be a list or a tuple -/
theorem rx_ixA {ds : List PyData} {i : Int} {d : PyData} (h : L2.atI ds i = some d) (ha : RX K ta ρ O (.list ds) O1) (hb : RX K tb ρ O1 (.int i) O2) : RX K (tOp (rIx K) ta tb) ρ O d O2 := ⟨fun _ _ _ _ _ _ Q E S k =>
  ha.go E S fun x F1 H1 f1 E1 S1 r1 => hb.go E1 S1 fun y F2 H2 f2 E2 S2 r2 => by
    cases r2
    have r1' := r1.up f2
    cases r1' with
    | lst q1 q2 q3 =>
      obtain ⟨v, e, r⟩ := q3.atI h
      exact .inl ⟨_, _, i, v, rfl, rfl, S2.fh.seq q1, e, k v F2 H2 (f1.trans f2) S2 r⟩⟩
theorem rx_ixAT {ds : List PyData} {i : Int} {d : PyData} (h : L2.atI ds i = some d) (ha : RX K ta ρ O (.tuple ds) O1) (hb : RX K tb ρ O1 (.int i) O2) : RX K (tOp (rIx K) ta tb) ρ O d O2 := ⟨fun _ _ _ _ _ _ Q E S k =>
  ha.go E S fun x F1 H1 f1 E1 S1 r1 => hb.go E1 S1 fun y F2 H2 f2 E2 S2 r2 => by
    cases r2
    have r1' := r1.up f2
    cases r1' with
    | tup q1 q2 q3 =>
      obtain ⟨v, e, r⟩ := q3.atI h
      exact .inr (.inl ⟨_, _, i, v, rfl, rfl, same_t S2.fh q1, e, k v F2 H2 (f1.trans f2) S2 r⟩)⟩
theorem k_ix_seq {X : Cx} (K : Fg) (hK : X.K = K := by rfl) : IxR X (rIx K) := by subst hK; exact ix_seq
theorem rx_noN {d : PyData} (hn : d ≠ .none) (ha : RX K ta ρ O d O1) : RX K (tIsN ta) ρ O (.bool false) O1 := ⟨fun _ _ _ _ _ _ Q E S k => ha.go E S fun x F1 H1 f1 E1 S1 r1 => by
  have e : decide (x = V.non) = false := decide_eq_false fun q => by
    subst q
    cases r1
    exact hn rfl
  show Q (.bl (decide (x = V.non))) H1
  rw [e]
  exact k _ F1 H1 f1 S1 (.bl false)⟩
/-- a loop that ends where something is not so -/
theorem forF_all {α : Type} (g : α → Bool) : ∀ xs : List α, forF (S := Unit) (R := Bool) (fun x _ => some (if g x = true then .nx () else .rt false)) xs () = some (if xs.all g = true then .nx () else .rt false)
  | [] => rfl
  | x :: xs => by
    unfold forF
    simp only [Option.bind_some]
    by_cases h : g x = true
    · rw [if_pos h]
      simp only
      rw [forF_all g xs, List.all_cons, h, Bool.true_and]
    · rw [if_neg h]
      simp only
      rw [if_neg]
      rw [List.all_cons]
      intro q
      rw [Bool.and_eq_true] at q
      exact h q.1
def simG (zs : List (PyData × PyData × Bool)) (k : Int) : Bool := match zs[k.toNat]? with
  | some t => t.2.2
  | none => true
theorem simG_all (zs : List (PyData × PyData × Bool)) : (rngL 0 zs.length).all (simG zs) = (zs.map (·.2.2)).all id := by
  rw [Bool.eq_iff_iff, List.all_eq_true, List.all_eq_true]
  constructor
  · intro h b hb
    obtain ⟨t, ht, rfl⟩ := List.mem_map.mp hb
    obtain ⟨i, hi⟩ := List.mem_iff_getElem?.mp ht
    have hl := (List.getElem?_eq_some_iff.mp hi).1
    have := h (i : Int) (by unfold rngL; exact List.mem_map.mpr ⟨i, List.mem_range.mpr hl, by simp⟩)
    unfold simG at this
    rw [Int.toNat_natCast, hi] at this
    exact this
  · intro h k _
    unfold simG
    cases e : zs[k.toNat]? with
    | none => rfl
    | some t => exact h t.2.2 (List.mem_map.mpr ⟨t, List.mem_of_getElem? e, rfl⟩)
theorem zip_len {xs ys : List PyData} {zs : List (PyData × PyData × Bool)} (z1 : zipD xs ys = zs.map fun t => PyData.tuple [t.1, t.2.1]) (hl : xs.length = ys.length) : zs.length = ys.length := by
  have := congrArg List.length z1
  unfold zipD at this
  rw [List.length_map, List.length_map, List.length_zip, hl, Nat.min_self] at this
  exact this.symm
theorem zip_at {xs ys : List PyData} {zs : List (PyData × PyData × Bool)} (z1 : zipD xs ys = zs.map fun t => PyData.tuple [t.1, t.2.1]) (hl : xs.length = ys.length) {k : Int} (hk : k ∈ rngL 0 ys.length) :
    ∃ t, t ∈ zs ∧ simG zs k = t.2.2 ∧ L2.atI xs k = some t.1 ∧ L2.atI ys k = some t.2.1 := by
  unfold rngL at hk
  obtain ⟨i, hi, rfl⟩ := List.mem_map.mp hk
  rw [List.mem_range] at hi
  have hz : i < zs.length := by rw [zip_len z1 hl]; exact hi
  have hx : i < xs.length := by omega
  have e : (zs.map fun t => PyData.tuple [t.1, t.2.1])[i]? = some (.tuple [zs[i].1, zs[i].2.1]) := by rw [List.getElem?_map, List.getElem?_eq_getElem hz]; rfl
  rw [← z1] at e
  unfold zipD at e
  have ez : (xs.zip ys)[i]? = some (xs[i], ys[i]) := List.getElem?_zip_eq_some.mpr ⟨List.getElem?_eq_getElem hx, List.getElem?_eq_getElem hi⟩
  rw [List.getElem?_map, ez] at e
  have e := Option.some.inj e
  injection e with e
  injection e with e1 e2
  injection e2 with e2 _
  refine ⟨zs[i], List.getElem_mem hz, ?_, ?_, ?_⟩
  · unfold simG
    rw [show (0 + (i : Int)).toNat = i by omega, List.getElem?_eq_getElem hz]
  · unfold L2.atI ixN
    rw [if_pos (by omega), if_pos (by omega)]
    simp only [Option.bind_some]
    rw [show (0 + (i : Int)).toNat = i by omega, List.getElem?_eq_getElem hx]
    exact congrArg some e1
  · unfold L2.atI ixN
    rw [if_pos (by omega), if_pos (by omega)]
    simp only [Option.bind_some]
    rw [show (0 + (i : Int)).toNat = i by omega, List.getElem?_eq_getElem hi]
    exact congrArg some e2
/-! ### a written dict of texts by texts -/
def dlitS (kvs : List (Str × Str)) (k : Str) : Option Str := (kvs.find? fun kv => decide (kv.1 = k)).map (·.2)
theorem valV_litS {k : Str} : ∀ (kvs : List (Str × Str)), valV (litS kvs) (Sum.inr k : Key) = (dlitS kvs k).map V.str
  | [] => rfl
  | (a, v) :: r => by
    have ih := valV_litS (k := k) r
    unfold valV dlitS litS at ih ⊢
    rw [List.map_cons, List.find?_cons, List.find?_cons]
    by_cases e : a = k
    · subst e
      simp
    · have e1 : decide ((Sum.inr a : Key) = Sum.inr k) = false := decide_eq_false fun q => e (Sum.inr.inj q)
      have e2 : decide (a = k) = false := decide_eq_false e
      rw [e1, e2]
      exact ih
theorem pairs_litS : ∀ (kvs : List (Str × Str)) {σ : L2.St} {H : Hp} {Q : List (V × V) → Hp → Prop}, Q (kvs.map fun p => (V.str p.1, V.str p.2)) H → tPairs (kvs.map fun p => (tC (.str p.1), tC (.str p.2))) σ H Q
  | [], _, _, _, h => h
  | (k, v) :: r, σ, H, Q, h => by
    show tC (.str k) σ H fun x H1 => tC (.str v) σ H1 fun y H2 => tPairs (r.map fun p => (tC (.str p.1), tC (.str p.2))) σ H2 fun ps H3 => Q ((x, y) :: ps) H3
    exact pairs_litS r (Q := fun ps H3 => Q ((V.str k, V.str v) :: ps) H3) h
variable {D : Ends}
theorem st_setD {i : Nat} {kvs : List (Str × Str)} (hl : kvs.length ≤ 15) (hm : mergeK [] (litS kvs) = litS kvs) (E : EnvR K F σ ρ) (S : Hx K F0 H0 D0 F O H)
    (k : ∀ σ' F' H', Same F F' → EnvR K F' σ' (ρ.set i (.dic kvs)) → Hx K F0 H0 D0 F' O H' → D.nx σ' H') : tAsg (tDisp (kvs.map fun p => (tC (.str p.1), tC (.str p.2)))) (gName i) D σ H := by
  intro p hp
  refine pairs_litS kvs ⟨upd_same, litS kvs, ?_, ?_, ?_⟩
  · unfold litS; rw [List.map_map]; rfl
  · unfold litS; rw [List.length_map]; exact hl
  · rw [upd_upd, hm]
    have f0 := same_upd (o := .dK (litS kvs)) (S.nof hp)
    exact k _ _ _ f0 (EnvR.set (s := some (.ref p)) (r := .dic kvs) ⟨p, rfl, upd_same⟩ i (E.up f0)) (S.put (o := .dK (litS kvs)) hp)
theorem rx_dget {i : Nat} {kvs : List (Str × Str)} {k v : Str} (h : dlitS kvs k = some v) (hs : ρ[i]? = some (.dic kvs)) (hk : RX K tb ρ O (.str k) O1) : RX K (tDGet (tVar i) tb) ρ O (.str v) O1 := ⟨fun _ _ _ _ _ _ Q E S kk => by
  obtain ⟨s, h1, t, rfl, h2⟩ := E.at hs
  refine ⟨_, h1, hk.go E S fun y F1 H1 f1 E1 S1 r1 => ?_⟩
  cases r1
  have hd : H1 t = some (.dK (litS kvs)) := S1.fh _ _ (f1 _ _ h2)
  refine ⟨t, .str v, rfl, ?_, kk _ F1 H1 f1 S1 (.str v)⟩
  have q := DGet.k (k := Sum.inr k) hd
  rw [valV_litS, h] at q
  exact q⟩
/-! ### tuple(range(n)), list(range(n)) -/
theorem rg_rng {n : Int} (h : 0 ≤ n) : rgV 0 n = (rngL 0 n.toNat).map V.int := by
  unfold rgV rngL
  rw [List.map_map, Int.sub_zero]
  rfl
theorem rngO_ok {n : Int} {r : List Int} (h : rngO n = some r) : RgOk 0 n ∧ rgV 0 n = r.map V.int ∧ r.length ≤ 16777216 := by
  obtain ⟨⟨h1, h2⟩, rfl⟩ := rngO_some h
  refine ⟨⟨by omega, by omega, by omega, by omega, by omega⟩, ?_, by rw [rngL_length]; omega⟩
  unfold rgV rngL
  rw [List.map_map, Int.sub_zero]
  rfl
theorem rx_tupRg {n : Int} {r : List Int} (h : rngO n = some r) (ha : RX K ta ρ O (.int n) O1) : RX K (tTupRg (tRg1 ta)) ρ O (.tuple (r.map .int)) O1 := ⟨fun _ _ _ _ _ _ Q E S k => ha.go E S fun x F1 H1 f1 E1 S1 r1 => by
  cases r1
  obtain ⟨h1, h2, h3⟩ := rngO_ok h
  refine ⟨n, rfl, h1, fun q hq => ?_⟩
  rw [h2]
  have f2 := same_upd (o := .tup (r.map V.int)) (S1.nof hq)
  exact k _ _ _ (f1.trans f2) (S1.put hq) (.tup (SqT.of upd_same) (by rw [List.length_map, sizeLine_eq]; exact h3) (RpAll.of_ints r))⟩
theorem rxo_listRg {n : Int} {r : List Int} (h : rngO n = some r) (ha : RX K ta ρ O (.int n) O1) : RXo K (tLstRg (tRg1 ta)) ρ O (r.map .int) O1 := ⟨fun _ _ _ _ _ _ Q E S k => ha.go E S fun x F1 H1 f1 E1 S1 r1 => by
  cases r1
  obtain ⟨h1, h2, h3⟩ := rngO_ok h
  refine ⟨n, rfl, h1, fun q hq => ?_⟩
  rw [h2]
  exact k q F1 _ f1 (S1.mine hq (by rw [List.length_map, sizeLine_eq]; exact h3) (RpAll.of_ints r))⟩
end
end TL

namespace TL
open PySem L2
open Enc
section
variable {K : Fg} {F0 H0 F H : Hp} {D0 : List Addr} {O : Os} {ρ : List Sl} {σ : L2.St} {D : Ends}
/-- a loop in which an own list is made anew each turn -/
theorem st_forSA {α S : Type} {eα : α → PyData} {wi : TI} {g : TG} {tb : TS} {xs : List α} {f : α → S → Option S} {s0 s1 : S} (ρf : S → Addr → List Sl) (Of : S → Addr → Os) (a0 : Addr) (E : EnvR K F σ ρ) (S0 : Hx K F0 H0 D0 F O H) (hI : RI K wi ρ O (xs.map eα) (Of s0 a0)) (hf : forS f xs s0 = some s1) (hW : Wk ρ (ρf s0 a0))
    (kn : ∀ a σ' F' H', Same F F' → EnvR K F' σ' (ρf s1 a) → Hx K F0 H0 D0 F' (Of s1 a) H' → D.nx σ' H')
    (body : ∀ x ∈ xs, ∀ s s' a, f x s = some s' → ∀ σ1 F1 H1 v, Same F F1 → EnvR K F1 σ1 (ρf s a) → Hx K F0 H0 D0 F1 (Of s a) H1 → Rp K F1 v (eα x) →
      ∀ (N B : L2.St → Hp → Prop), (∀ a' σ' F' H', Same F1 F' → EnvR K F' σ' (ρf s' a') → Hx K F0 H0 D0 F' (Of s' a') H' → N σ' H') → g v σ1 H1 fun σ2 H2 => tb { D with nx := N, ct := N, bk := B } σ2 H2) :
    tFor wi g tb D σ H := hI.go E S0 fun J F1 H1 f1 E1 S1 w => by
  refine for_it (walk_of w) (fun i σ H => ∃ s a F2, Same F1 F2 ∧ EnvR K F2 σ (ρf s a) ∧ Hx K F0 H0 D0 F2 (Of s a) H ∧ forS f (xs.drop i) s = some s1) ⟨s0, a0, F1, Same.refl _, E1.weak hW, S1, hf⟩
    (fun i σ H _ q => by obtain ⟨s, a, F2, q1, q2, q3, _⟩ := q; exact ⟨F2, _, q1, q3⟩) (fun i x σ H H' hi q y => ?_) (fun σ H q => ?_)
  · obtain ⟨s, a, F2, q1, q2, q3, q4⟩ := q
    obtain ⟨F3, z, f3, S3, ez, rz⟩ := y F2 _ q1 q3
    have hm : z ∈ xs := List.mem_of_getElem? ez
    have hi' : xs[i] = z := (List.getElem?_eq_some_iff.mp ez).2
    rw [List.drop_eq_getElem_cons hi, hi'] at q4
    unfold forS at q4
    obtain ⟨s', e1, e2⟩ := bindE q4
    exact body z hm s s' a e1 σ F3 H' x (f1.trans (q1.trans f3)) (q2.up f3) S3 rz _ _ fun a' σ' F' H2 ff E' S' => ⟨s', a', F', (q1.trans f3).trans ff, E', S', e2⟩
  · obtain ⟨s, a, F2, q1, q2, q3, q4⟩ := q
    rw [List.drop_length] at q4
    obtain rfl := Option.some.inj q4
    exact kn a σ F2 H (f1.trans q1) q2 q3
/-- xs.clear(), xs an own list -/
theorem st_clear {i j : Nat} {a : Addr} {nw : Bool} {ds : List PyData} (hs : ρ[i]? = some (.adr a)) (hj : O[j]? = some ⟨a, nw, ds⟩) (E : EnvR K F σ ρ) (S : Hx K F0 H0 D0 F O H)
    (k : ∀ F' H', Same F F' → EnvR K F' σ ρ → Hx K F0 H0 D0 F' (O.set j ⟨a, nw, .l []⟩) H' → D.nx σ H') : tDrop (tBM0 K "list" rClear (tVar i)) D σ H := by
  obtain ⟨g1, g2, g3, vs, g4, g5, g6⟩ := S.get hj
  have g4 : H a = some (.lst vs) := g4
  exact ⟨_, E.adr hs, .inl ⟨rfl, _, .inl (.inl g4)⟩, a, vs, rfl, rfl, g4, k F _ (Same.refl _) E (S.mut hj (Nat.zero_le _) .nil)⟩
/-! ### a second own list, read only -/
theorem Hx.start2 {p q : Addr} {vs ws : List V} {ds es : List PyData} (h : Same F H) (n : F p = none) (hp : H p = some (.lst vs)) (hz : vs.length ≤ sizeLine) (r : RpAll K F vs ds) (n' : F q = none) (hq : H q = some (.lst ws)) (hz' : ws.length ≤ sizeLine) (r' : RpAll K F ws es) (ne : p ≠ q) :
    Hx K F H [p, q] F [⟨p, false, ds⟩, ⟨q, false, es⟩] H := by
  refine ⟨Same.refl _, h, fun _ _ e _ => e, fun _ o e => ⟨o, e⟩, fun _ _ _ e => e, fun u hu => ?_, by simp [ne]⟩
  rcases List.mem_cons.mp hu with rfl | hu
  · exact ⟨n, fun z => (Bool.false_ne_true z).elim, fun _ => by simp, vs, hp, hz, r⟩
  · have e : u = ⟨q, false, es⟩ := by simpa using hu
    subst e
    exact ⟨n', fun z => (Bool.false_ne_true z).elim, fun _ => by simp, ws, hq, hz', r'⟩
theorem Hx.call2 {F' H' : Hp} (S : Hx K F0 H0 D0 F O H) {j k : Nat} {l m : Addr} {nw nw' : Bool} {ds ds' es : List PyData} {vs ws : List V} (h : O[j]? = some ⟨l, nw, ds⟩) (h' : O[k]? = some ⟨m, nw', es⟩) (q : Stp [l, m] F H F' H')
    (hl : H' l = some (.lst vs)) (hz : vs.length ≤ sizeLine) (r : RpAll K F' vs ds') (hm : H' m = some (.lst ws)) (hz' : ws.length ≤ sizeLine) (r' : RpAll K F' ws es) : Hx K F0 H0 D0 F' (O.set j ⟨l, nw, ds'⟩) H' := by
  obtain ⟨h1, h2, h3, vs0, h4, h5, h6⟩ := S.get h
  obtain ⟨k1, k2, k3, ws0, k4, k5, k6⟩ := S.get h'
  have mine : ∀ a o, H0 a = some o → a ∉ D0 → a ≠ l ∧ a ≠ m := fun a o e n => by
    constructor
    · intro z
      rw [z] at e n
      cases nw with
      | true => rw [h2 rfl] at e; cases e
      | false => exact n (h3 rfl)
    · intro z
      rw [z] at e n
      cases nw' with
      | true => rw [k2 rfl] at e; cases e
      | false => exact n (k3 rfl)
  refine ⟨S.f0.trans q.ff, q.fh, fun a u e n => ?_, fun a u e => ?_, fun a u e n => ?_, fun p hp => ?_, ?_⟩
  · have := mine a u e n
    exact q.keep _ _ (S.keep a u e n) (by simp [this.1, this.2])
  · obtain ⟨u', e'⟩ := S.live a u e
    exact q.live _ _ e'
  · obtain ⟨u', e'⟩ := S.live a u e
    exact q.new _ _ e' (S.new a u e n)
  · obtain ⟨i, hi⟩ := List.mem_iff_getElem?.mp hp
    by_cases e : j = i
    · subst e
      have hj : j < O.length := (List.getElem?_eq_some_iff.mp h).1
      rw [List.getElem?_set_self hj] at hi
      cases hi
      exact ⟨q.new _ _ h4 h1, h2, h3, vs, hl, hz, r⟩
    · rw [List.getElem?_set_ne e] at hi
      obtain ⟨g1, g2, g3, g40⟩ := S.getD hi
      obtain ⟨u1, g4⟩ := g40.live
      have ne : p.a ≠ l := fun z => e (nodup_at S.nd (x := l) (by rw [List.getElem?_map, h]; rfl) (by rw [List.getElem?_map, hi]; simp [z]))
      by_cases em : k = i
      · subst em
        rw [h'] at hi
        have hi := Option.some.inj hi
        subst hi
        exact ⟨q.new _ _ k4 k1, g2, g3, ws, hm, hz', r'⟩
      · have ne2 : p.a ≠ m := fun z => em (nodup_at S.nd (x := m) (by rw [List.getElem?_map, h']; rfl) (by rw [List.getElem?_map, hi]; simp [z]))
        exact ⟨q.new _ _ g4 g1, g2, g3, (g40.at ((q.keep _ _ g4 (by simp [ne, ne2])).trans g4.symm)).up q.ff⟩
  · have e : (O.set j ⟨l, nw, ds'⟩).map OE.a = O.map OE.a := by
      rw [List.map_set]
      apply List.ext_getElem?
      intro i
      by_cases e : j = i
      · subst e
        have hj : j < O.length := (List.getElem?_eq_some_iff.mp h).1
        rw [List.getElem?_set_self (by simpa using hj), List.getElem?_map, h]; rfl
      · rw [List.getElem?_set_ne e]
    rw [e]
    exact S.nd
def SpQ (K : Fg) (R : List Sl → Addr → Addr → List PyData → List PyData → PyData → List PyData → Prop) : Sp := fun vs H Q _ => ∃ F as p q xs ys c e d c', (AsR K F vs as ∧ Same F H) ∧ (F p = none ∧ H p = some (.lst xs) ∧ xs.length ≤ sizeLine ∧ RpAll K F xs c) ∧ (F q = none ∧ H q = some (.lst ys) ∧ ys.length ≤ sizeLine ∧ RpAll K F ys e) ∧ p ≠ q ∧ R as p q c e d c' ∧
  ∀ v F' H' xs' ys', Stp [p, q] F H F' H' → (F' p = none ∧ H' p = some (.lst xs') ∧ xs'.length ≤ sizeLine ∧ RpAll K F' xs' c') → (F' q = none ∧ H' q = some (.lst ys') ∧ ys'.length ≤ sizeLine ∧ RpAll K F' ys' e) → Rp K F' v d → Q v H'
theorem sq_len {R : List Sl → Addr → Addr → List PyData → List PyData → PyData → List PyData → Prop} {n : Nat} (h : ∀ as p q c e d c', R as p q c e d c' → as.length = n) : ∀ vs H Q E, SpQ K R vs H Q E → vs.length = n := fun vs H Q E ⟨F, as, p, q, xs, ys, c, e, d, c', ⟨r, _⟩, _, _, _, hR, _⟩ => r.length.trans (h _ _ _ _ _ _ _ hR)
variable {t : TA} {E0 : XK} {O1 : Os}
theorem rx_callq {R : List Sl → Addr → Addr → List PyData → List PyData → PyData → List PyData → Prop} {as : List Sl} {p q : Addr} {nw nw' : Bool} {j k : Nat} {c e c' : List PyData} {d : PyData} (ha : RA K t ρ O as O1) (hj : O1[j]? = some ⟨p, nw, c⟩) (hk : O1[k]? = some ⟨q, nw', e⟩) (hjk : j ≠ k) (hR : R as p q c e d c') :
    RX K (tCall (SpQ K R) [] E0 t) ρ O d (O1.set j ⟨p, nw, c'⟩) := ⟨fun _ _ _ _ _ _ Q E S kk => ha.go E S fun vs F1 H1 f1 E1 S1 r1 => by
  show SpQ K R (vs ++ []) H1 _ E0
  rw [List.append_nil]
  obtain ⟨g1, g2, g3, xs, g4, g5, g6⟩ := S1.get hj
  obtain ⟨k1, k2, k3, ys, k4, k5, k6⟩ := S1.get hk
  have ne : p ≠ q := fun z => hjk (nodup_at S1.nd (x := p) (by rw [List.getElem?_map, hj]; rfl) (by rw [List.getElem?_map, hk, z]; rfl))
  exact ⟨F1, as, p, q, xs, ys, c, e, d, c', ⟨r1, S1.fh⟩, ⟨g1, g4, g5, g6⟩, ⟨k1, k4, k5, k6⟩, ne, hR, fun v F' H' xs' ys' st hp hq r => kk v F' H' (f1.trans st.ff) (S1.call2 hj hk st hp.2.1 hp.2.2.1 hp.2.2.2 hq.2.1 hq.2.2.1 hq.2.2.2) r⟩⟩
end
end TL

namespace TL
open PySem L2
open Enc
/-! ### None in a list of numbers and Nones -/
def oV : Option Int → V
  | none => .non
  | some i => .int i
theorem RpAll.opts {K : Fg} {F : Hp} : ∀ {vs : List V} {ns : List (Option Int)}, RpAll K F vs (ns.map enc) → vs = ns.map oV
  | _, [], h => by cases h; rfl
  | _, none :: ns, h => by
    cases h with
    | cons r t => cases r; rw [RpAll.opts t]; rfl
  | _, some i :: ns, h => by
    cases h with
    | cons r t => cases r; rw [RpAll.opts t]; rfl
theorem inV_opts (xs : List (Option Int)) : inV .non (xs.map oV) = decide (none ∈ xs) := by
  induction xs with
  | nil => rfl
  | cons a xs ih =>
    show (eqV (oV a) .non || inV .non (xs.map oV)) = _
    rw [ih]
    cases a with
    | none => simp [oV, eqV]
    | some i => simp [oV, eqV]
theorem flat_opts (xs : List (Option Int)) : (xs.map oV).all flatV = true := by
  rw [List.all_eq_true]
  intro v hv
  obtain ⟨o, _, rfl⟩ := List.mem_map.mp hv
  cases o <;> rfl
section
variable {K : Fg} {ta tb : TE} {ρ : List Sl} {O O1 O2 : Os}
theorem rx_inN {xs : List (Option Int)} {neg : Bool} (ha : RX K ta ρ O .none O1) (hb : RXs K tb ρ O1 (xs.map enc) O2) : RX K (tOp (rIn K neg) ta tb) ρ O (.bool (if neg then !decide (none ∈ xs) else decide (none ∈ xs))) O2 := ⟨fun _ _ _ _ _ _ Q E S k =>
  ha.go E S fun v F1 H1 f1 E1 S1 r1 => hb.go E1 S1 fun a F2 H2 f2 E2 S2 r2 => by
    cases r1
    obtain ⟨vs, q1, q2, q3⟩ := r2 F2 H2 (Same.refl _) S2
    have e := q3.opts
    subst e
    refine ⟨a, _, rfl, .inl q1, rfl, flat_opts xs, ?_⟩
    rw [inV_opts]
    exact k _ F2 H2 (f1.trans f2) S2 (.bl _)⟩
end
end TL

namespace TL
open PySem L2
open Enc
/-! ### likeness, None too -/
mutual
inductive SiN : Nat → PyData → PyData → Bool → Prop
  | int {n : Nat} (i j : Int) : SiN n (.int i) (.int j) (decide (i = j))
  | bool {n : Nat} (i j : Bool) : SiN n (.bool i) (.bool j) (decide (i = j))
  | str {n : Nat} (i j : Str) : SiN n (.str i) (.str j) (decide (i = j))
  | non {n : Nat} : SiN n .none .none true
  | ni {n : Nat} (j : Int) : SiN n .none (.int j) false
  | iN {n : Nat} (i : Int) : SiN n (.int i) .none false
  | list {n : Nat} {xs ys : List PyData} {b : Bool} (h : SiNAll n xs ys b) : SiN (n + 1) (.list xs) (.list ys) (decide (xs.length = ys.length) && b)
  | tuple {n : Nat} {xs ys : List PyData} {b : Bool} (h : SiNAll n xs ys b) : SiN (n + 1) (.tuple xs) (.tuple ys) (decide (xs.length = ys.length) && b)
inductive SiNAll : Nat → List PyData → List PyData → Bool → Prop
  | nil {n : Nat} (ys : List PyData) : SiNAll n [] ys true
  | nil' {n : Nat} (xs : List PyData) : SiNAll n xs [] true
  | cons {n : Nat} {x y : PyData} {xs ys : List PyData} {b c : Bool} (h : SiN n x y b) (t : SiNAll n xs ys c) : SiNAll n (x :: xs) (y :: ys) (b && c)
end
mutual
theorem SiN.mono {n m : Nat} {x y : PyData} {b : Bool} (h : SiN n x y b) (e : n ≤ m) : SiN m x y b := by
  cases h with
  | int i j => exact .int i j
  | bool i j => exact .bool i j
  | str i j => exact .str i j
  | non => exact .non
  | ni j => exact .ni j
  | iN i => exact .iN i
  | list h =>
    cases m with
    | zero => omega
    | succ m => exact .list (SiNAll.mono h (by omega))
  | tuple h =>
    cases m with
    | zero => omega
    | succ m => exact .tuple (SiNAll.mono h (by omega))
theorem SiNAll.mono {n m : Nat} {xs ys : List PyData} {b : Bool} (h : SiNAll n xs ys b) (e : n ≤ m) : SiNAll m xs ys b := by
  cases h with
  | nil ys => exact .nil ys
  | nil' xs => exact .nil' xs
  | cons h t => exact .cons (SiN.mono h e) (SiNAll.mono t e)
end
class SiNT (α : Type) [Enc α] [DecidableEq α] where
  dp : Nat
  ok : ∀ x y : α, SiN dp (enc x) (enc y) (decide (x = y))
instance : SiNT Int := ⟨0, fun x y => .int x y⟩
instance : SiNT Bool := ⟨0, fun x y => .bool x y⟩
instance : SiNT Str := ⟨0, fun x y => .str x y⟩
instance : SiNT (Option Int) := ⟨0, fun x y => by
  cases x <;> cases y
  · exact .non
  · exact .ni _
  · exact .iN _
  · rename_i i j
    have e : decide (some i = some j) = decide (i = j) := by simp
    rw [e]
    exact .int i j⟩
theorem siNAll_map {α : Type} [Enc α] [DecidableEq α] [s : SiNT α] : ∀ xs ys : List α, ∃ b, SiNAll (SiNT.dp α) (xs.map enc) (ys.map enc) b ∧ (decide (xs.length = ys.length) && b) = decide (xs = ys)
  | [], ys => ⟨true, .nil _, by cases ys <;> simp⟩
  | x :: xs, [] => ⟨true, .nil' _, by simp⟩
  | x :: xs, y :: ys => by
    obtain ⟨b, h, e⟩ := siNAll_map xs ys
    refine ⟨_, .cons (SiNT.ok x y) h, ?_⟩
    have e1 : decide (x :: xs = y :: ys) = (decide (x = y) && decide (xs = ys)) := by simp
    rw [e1, ← e]
    have e2 : decide ((x :: xs).length = (y :: ys).length) = decide (xs.length = ys.length) := by simp
    rw [e2]
    cases decide (x = y) <;> cases decide (xs.length = ys.length) <;> cases b <;> rfl
instance {α : Type} [Enc α] [DecidableEq α] [SiNT α] : SiNT (List α) := ⟨SiNT.dp α + 1, fun xs ys => by
  obtain ⟨b, h, e⟩ := siNAll_map xs ys
  have := SiN.list h
  rw [List.length_map, List.length_map, e] at this
  exact this⟩
instance {α : Type} [Enc α] [DecidableEq α] [SiNT α] : SiNT (Tp α) := ⟨SiNT.dp α + 1, fun xs ys => by
  obtain ⟨xs⟩ := xs
  obtain ⟨ys⟩ := ys
  obtain ⟨b, h, e⟩ := siNAll_map xs ys
  have := SiN.tuple h
  rw [List.length_map, List.length_map, e] at this
  have e2 : decide (Tp.mk xs = Tp.mk ys) = decide (xs = ys) := by simp
  rw [e2]
  exact this⟩
instance {α β : Type} [Enc α] [DecidableEq α] [SiNT α] [Enc β] [DecidableEq β] [SiNT β] : SiNT (α × β) := ⟨SiNT.dp α + SiNT.dp β + 1, fun x y => by
  obtain ⟨a, b⟩ := x
  obtain ⟨c, d⟩ := y
  have := SiN.tuple (.cons ((SiNT.ok a c).mono (Nat.le_add_right _ _)) (.cons ((SiNT.ok b d).mono (Nat.le_add_left _ _)) (.nil [])))
  have e2 : decide ((a, b) = (c, d)) = (decide ([enc a, enc b].length = [enc c, enc d].length) && (decide (a = c) && (decide (b = d) && true))) := by simp [Bool.decide_and]
  rw [e2]
  exact this⟩
instance {α β γ : Type} [Enc α] [DecidableEq α] [SiNT α] [Enc β] [DecidableEq β] [SiNT β] [Enc γ] [DecidableEq γ] [SiNT γ] : SiNT (T3 α β γ) := ⟨SiNT.dp α + SiNT.dp β + SiNT.dp γ + 1, fun x y => by
  obtain ⟨a, b, c⟩ := x
  obtain ⟨a', b', c'⟩ := y
  have := SiN.tuple (.cons ((SiNT.ok a a').mono (by omega : SiNT.dp α ≤ SiNT.dp α + SiNT.dp β + SiNT.dp γ)) (.cons ((SiNT.ok b b').mono (by omega)) (.cons ((SiNT.ok c c').mono (by omega)) (.nil []))))
  have e2 : decide (T3.mk a b c = T3.mk a' b' c') = (decide ([enc a, enc b, enc c].length = [enc a', enc b', enc c'].length) && (decide (a = a') && (decide (b = b') && (decide (c = c') && true)))) := by simp [Bool.decide_and]
  rw [e2]
  exact this⟩
instance {α β γ δ : Type} [Enc α] [DecidableEq α] [SiNT α] [Enc β] [DecidableEq β] [SiNT β] [Enc γ] [DecidableEq γ] [SiNT γ] [Enc δ] [DecidableEq δ] [SiNT δ] : SiNT (T4 α β γ δ) := ⟨SiNT.dp α + SiNT.dp β + SiNT.dp γ + SiNT.dp δ + 1, fun x y => by
  obtain ⟨a, b, c, d⟩ := x
  obtain ⟨a', b', c', d'⟩ := y
  have := SiN.tuple (.cons ((SiNT.ok a a').mono (by omega : SiNT.dp α ≤ SiNT.dp α + SiNT.dp β + SiNT.dp γ + SiNT.dp δ)) (.cons ((SiNT.ok b b').mono (by omega)) (.cons ((SiNT.ok c c').mono (by omega)) (.cons ((SiNT.ok d d').mono (by omega)) (.nil [])))))
  have e2 : decide (T4.mk a b c d = T4.mk a' b' c' d') = (decide ([enc a, enc b, enc c, enc d].length = [enc a', enc b', enc c', enc d'].length) && (decide (a = a') && (decide (b = b') && (decide (c = c') && (decide (d = d') && true))))) := by simp [Bool.decide_and]
  rw [e2]
  exact this⟩
def SiNR (n : Nat) : List PyData → PyData → Prop := fun ds d => ∃ x y b, ds = [x, y] ∧ SiN n x y b ∧ d = .bool b
theorem SiNAll.all {n : Nat} {xs ys : List PyData} {b : Bool} (h : SiNAll n xs ys b) : ∃ zs : List (PyData × PyData × Bool), zs.map (fun t => PyData.tuple [t.1, t.2.1]) = zipD xs ys ∧ (∀ t ∈ zs, SiN n t.1 t.2.1 t.2.2) ∧ (zs.map (·.2.2)).all id = b := by
  induction xs generalizing ys b with
  | nil => cases h; exact ⟨[], rfl, fun t e => by simp at e, rfl⟩; exact ⟨[], rfl, fun t e => by simp at e, rfl⟩
  | cons x xs ih =>
    cases h with
    | nil' => exact ⟨[], rfl, fun t e => by simp at e, rfl⟩
    | @cons _ _ y _ ys b c h t =>
      obtain ⟨zs, h1, h2, h3⟩ := ih t
      refine ⟨(x, y, b) :: zs, ?_, fun t ht => ?_, by rw [List.map_cons, List.all_cons, h3]; rfl⟩
      · rw [List.map_cons, h1]; rfl
      · rcases List.mem_cons.mp ht with e | ht
        · subst e; exact h
        · exact h2 t ht
/-! ### what is told as one of two tuples -/
inductive Ans where
  | a1 (s : Str)
  | a3 (s : Str) (t : Tp Int) (n : Option Int)
  deriving DecidableEq
def Ans.en : Ans → PyData
  | .a1 s => .tuple [.str s]
  | .a3 s t n => .tuple [.str s, enc t, enc n]
@[reducible] instance : Enc Ans := ⟨Ans.en⟩
instance : SiNT Ans := ⟨SiNT.dp (Tp Int) + SiNT.dp (Tp Int) + 1, fun x y => by
  cases x <;> cases y
  · rename_i s s'
    have := SiN.tuple (n := SiNT.dp (Tp Int) + SiNT.dp (Tp Int)) (.cons (.str s s') (.nil []))
    have e : decide (Ans.a1 s = Ans.a1 s') = (decide ([PyData.str s].length = [PyData.str s'].length) && (decide (s = s') && true)) := by simp
    rw [e]; exact this
  · exact SiN.tuple (n := SiNT.dp (Tp Int) + SiNT.dp (Tp Int)) (xs := [_]) (ys := [_, _, _]) (.cons (.str _ _) (.nil _))
  · exact SiN.tuple (n := SiNT.dp (Tp Int) + SiNT.dp (Tp Int)) (xs := [_, _, _]) (ys := [_]) (.cons (.str _ _) (.nil' _))
  · rename_i s t n s' t' n'
    have := SiN.tuple (n := SiNT.dp (Tp Int) + SiNT.dp (Tp Int)) (.cons (.str s s') (.cons ((SiNT.ok t t').mono (by omega)) (.cons ((SiNT.ok n n').mono (Nat.zero_le _)) (.nil []))))
    have e : decide (Ans.a3 s t n = Ans.a3 s' t' n') = (decide ([PyData.str s, enc t, enc n].length = [PyData.str s', enc t', enc n'].length) && (decide (s = s') && (decide (t = t') && (decide (n = n') && true)))) := by simp [Bool.decide_and]
    rw [e]; exact this⟩
def Ans.ok : Ans → Bool
  | .a1 s => EqD.ok s
  | .a3 s _ _ => EqD.ok s
instance : EqD Ans := ⟨Ans.ok, fun x y => by
  cases x <;> cases y
  · rename_i s s'
    have := EqD.eqv (Tp.mk [s]) (Tp.mk [s'])
    have e : decide (Ans.a1 s = Ans.a1 s') = decide (Tp.mk [s] = Tp.mk [s']) := by simp
    rw [e]; exact this
  · simp [enc, Ans.en, PyData.eqv, PyData.eqvAll]
  · simp [enc, Ans.en, PyData.eqv, PyData.eqvAll]
  · rename_i s t n s' t' n'
    have := EqD.eqv (T3.mk s t n) (T3.mk s' t' n')
    have e : decide (Ans.a3 s t n = Ans.a3 s' t' n') = decide (T3.mk s t n = T3.mk s' t' n') := by simp
    rw [e]; exact this, EqD.dp (Tp Str) + EqD.dp (T3 Str (Tp Int) (Option Int)), fun x => by
  cases x with
  | a1 s => exact Nat.le_trans (EqD.dep (Tp.mk [s])) (Nat.le_add_right _ _)
  | a3 s t n => exact Nat.le_trans (EqD.dep (T3.mk s t n)) (Nat.le_add_left _ _), fun x h => by
  cases x with
  | a1 s => exact EqD.lay (Tp.mk [s]) (by have h : EqD.ok s = true := h; show ([s].all EqD.ok) = true; simp [h])
  | a3 s t n => exact EqD.lay (T3.mk s t n) (by have h : EqD.ok s = true := h; show (EqD.ok s && (EqD.ok t && EqD.ok n)) = true; rw [h, EqT.ok t, EqT.ok n]; rfl)⟩
end TL

namespace TL
open PySem PySem.Spec PyProof.Rows L2
open Enc
/-! ### zip of a list with a list or a tuple -/
/-- two lists, as they stand at each turn -/
def ItLL (K : Fg) (a b : Addr) : It :=
  ⟨fun i H => ∃ (xs ys : List V) (x y : V), (SqL K H a xs ∧ SqL K H b ys) ∧ xs[i]? = some x ∧ ys[i]? = some y,
    fun i H v H' => ∃ T x y, (v = .ref T ∧ H T = none ∧ H' = upd H T (.tup [x, y])) ∧ (∀ xs, SqL K H a xs → xs[i]? = some x) ∧ ∀ ys, SqL K H b ys → ys[i]? = some y,
    fun i H => ∃ xs ys : List V, (SqL K H a xs ∧ SqL K H b ys) ∧ i ≤ xs.length ∧ i ≤ ys.length ∧ (xs.length = i ∨ ys.length = i)⟩
def llSt (z TI TO i1 i2 a b : Addr) (i : Nat) (h : Heap) : Prop := (IsZip h z TI TO .none ∧ IsPair h TI (.ref i1) (.ref i2)) ∧ (∃ x y, IsPair h TO x y) ∧ h.IsListIter i1 a i ∧ h.IsListIter i2 b i
theorem turn_ll {P : Program} {w : World} {K : Fg} {elts : List Expr} {kk : Nat} {tpos : Pos} {a b z TI TO i1 i2 : Addr} (D : ZipApart z TI TO i1 i2 a b) :
    Turn P w K (.Tuple elts kk tpos) (ItLL K a b) [z, TI, TO, i1, i2] z (llSt z TI TO i1 i2 a b) := by
  have sep := sep_mix D
  refine ⟨by simp, fun i h st c hc => ?_, fun i h h' st k => ?_, ?_, ?_, fun A i s Q E st q => wpAny_pyIter_zip st.1.1 q⟩
  · obtain ⟨⟨q1, q2⟩, ⟨x, y, q3⟩, ⟨o1, e1, _, d1⟩, o2, e2, _, d2⟩ := st
    rcases five hc with rfl | rfl | rfl | rfl | rfl
    · exact ⟨_, q1, fun v => nofun⟩
    · exact ⟨_, q2, fun v => nofun⟩
    · exact ⟨_, q3, fun v => nofun⟩
    · exact ⟨_, e1, fun v e => nomatch d1.symm.trans e⟩
    · exact ⟨_, e2, fun v e => nomatch d2.symm.trans e⟩
  · obtain ⟨⟨q1, q2⟩, ⟨x, y, q3⟩, q4, q5⟩ := st
    exact ⟨⟨k z (by simp) _ q1, k TI (by simp) _ q2⟩, ⟨x, y, k TO (by simp) _ q3⟩, q4.at fun o => k i1 (by simp) o, q5.at fun o => k i2 (by simp) o⟩
  · rintro X rfl rfl rfl hc i pins s σ H E I hf st ⟨xs, ys, x, y, ⟨hqx, hqy⟩, hx, hy⟩
    obtain ⟨⟨q1, q2⟩, ⟨x0, y0, q3⟩, q4, q5⟩ := st
    obtain ⟨its, rv, p, _⟩ := I.list hqx
    obtain ⟨its2, rv2, p2, _⟩ := I.list hqy
    obtain ⟨u, hu, ru⟩ := rv.get hx
    obtain ⟨u2, hu2, ru2⟩ := rv2.get hy
    have zlt : z < s.heap.objs.size := Heap.lt_size q1
    have hh : X.A.in1.handled = none := I.ok.hd hc
    refine wpAny_pyNext_zipD2_item sep (Draws.list hh i1 a D.l1i1 its.toArray) (Draws.list hh i2 b D.l2i2 its2.toArray) q1 q2 q3 ⟨q4, p.isList⟩ ⟨q5, p2.isList⟩ (by simpa using (List.getElem?_eq_some_iff.mp hu).1) (by simpa using (List.getElem?_eq_some_iff.mp hu2).1) fun x1 x2 h' tk e1 e2 z' TO' n1 n2 hT hsz hk => ?_
    have ex1 : x1 = u := Option.some.inj (e1.symm.trans (by simpa using hu))
    have ex2 : x2 = u2 := Option.some.inj (e2.symm.trans (by simpa using hu2))
    subst ex1
    subst ex2
    refine ⟨_, rfl, wpAny_letOwnedTupleGo_zip (s := { s with heap := h', toks := tk }) z' fun h2 z2 sb => ?_⟩
    have hT2 : h2.get? s.heap.objs.size = some { cls := .type "tuple", data := .seq #[x1, x2] } := (sb.2 _ (Nat.ne_of_gt zlt)).trans hT
    have new : ObjOk X.prog X.w (upd H s.heap.objs.size (.tup [x, y])) h2 s.heap.objs.size (.tup [x, y]) := ⟨by show 2 ≤ sizeLine; decide, [x1, x2], .cons ru (.cons ru2 .nil), ⟨_, hT2, rfl, _, rfl⟩⟩
    have I1 : Inv X pins σ (upd H s.heap.objs.size (.tup [x, y])) { s with heap := h2, toks := tk } := I.turnedNew (t' := tk) (ch := [z, TI, TO, i1, i2]) (fun c o hb q => by
      obtain ⟨c1, c2, c3, c4⟩ := out5 hb
      exact (sb.2 c c1).trans (hk c o c1 c2 c3 c4 q)) hf (Nat.le_refl _) new
    refine ⟨.ref s.heap.objs.size, _, I1, rfl, ⟨_, x, y, ⟨rfl, I.hok.fresh (Nat.le_refl _), rfl⟩, fun l hl => by rw [I.list_inj hl hqx]; exact hx, fun l hl => by rw [I.list_inj hl hqy]; exact hy⟩, ⟨⟨z2, ?_⟩, ⟨x1, x2, ?_⟩, ?_, ?_⟩, fun c hcm => ?_⟩
    · exact (sb.2 TI D.TIz).trans (hk TI _ D.TIz D.TITO D.TIi1 D.TIi2 q2)
    · exact (sb.2 TO D.TOz).trans TO'
    · exact n1.1.at fun o q => (sb.2 i1 D.i1z).trans q
    · exact n2.1.at fun o q => (sb.2 i2 D.i2z).trans q
    · have hlt : c < s.heap.objs.size := by
        rcases five hcm with rfl | rfl | rfl | rfl | rfl
        · exact zlt
        · exact Heap.lt_size q2
        · exact Heap.lt_size q3
        · obtain ⟨_, e, _⟩ := q4; exact Heap.lt_size e
        · obtain ⟨_, e, _⟩ := q5; exact Heap.lt_size e
      rw [upd_ne (Nat.ne_of_lt hlt)]
      exact (hf c hcm).1
  · rintro X rfl rfl rfl hc i pins s σ H E I hf st ⟨xs, ys, ⟨hqx, hqy⟩, l1, l2, hend⟩
    obtain ⟨⟨q1, q2⟩, ⟨x0, y0, q3⟩, q4, q5⟩ := st
    obtain ⟨its, rv, p, _⟩ := I.list hqx
    obtain ⟨its2, rv2, p2, _⟩ := I.list hqy
    have e1 := rv.length
    have e2 := rv2.length
    have hh : X.A.in1.handled = none := I.ok.hd hc
    refine wpAny_pyNext_zipD2_end sep (Draws.list hh i1 a D.l1i1 its.toArray) (Draws.list hh i2 b D.l2i2 its2.toArray) q1 q2 q3 ⟨q4, p.isList⟩ ⟨q5, p2.isList⟩ (by simp; omega) (by simp; omega) (by simp; omega) fun h' tk hk => ?_
    refine ⟨rfl, I.turnedL (t' := tk) (ch := [z, TI, TO, i1, i2]) (fun c o hb q => ?_) hf⟩
    obtain ⟨c1, c2, c3, c4⟩ := out5 hb
    exact hk c o c1 c2 c3 c4 q
def iAny (K : Fg) (ta : TA) : TI := fun σ H R => ta σ H fun vs H1 => ∃ a b xs ys, vs = [.ref a, .ref b] ∧ (((SqL K H1 a xs ∧ SqT K H1 b ys) ∧ R (ItMix K a b) H1) ∨ ((SqL K H1 a xs ∧ SqL K H1 b ys) ∧ R (ItLL K a b) H1))
theorem k_pi_any {X : Cx} (K : Fg) {e e2 : Expr} {ta : TA} {p pos tpos : Pos} {elts : List Expr} {kk : Nat} (hg : Gl X "zip") (hm : X.mg "zip" = none) (ha : PA X [e, e2] ta)
    (hs : starEach [e, e2] X.env = (false, eval e X.env) :: starEach [e2] X.env := by rfl) (hpl : (backTo pos (starEach [e2] X.env)).any (·.1) = false := by rfl) (hK : X.K = K := by rfl) :
    PI X (.Tuple elts kk tpos) (.Call (.Name "zip" p) [e, e2] [] pos) (iAny K ta) := by
  subst hK
  refine ⟨fun pins s σ H R I h => ?_⟩
  refine Call_ (ld_blt I hg hm PyProof.Rows.boot_zip (PyProof.Rows.callWith_type1 (thn (ha.run pos pins s σ H _ I h) fun us s1 ⟨vs, H1, I1, r1, q1⟩ => ?_) hs hpl))
  obtain ⟨a, b, xs, ys, ex, q1⟩ := q1
  subst ex
  cases r1 with
  | cons r rr =>
   cases rr with
   | cons r' rr =>
    cases rr
    cases r
    cases r'
    rcases q1 with ⟨⟨hqx, hqy⟩, q⟩ | ⟨⟨hqx, hqy⟩, q⟩
    · obtain ⟨its, rv, p1, _⟩ := I1.list hqx
      obtain ⟨its2, rv2, p2, _⟩ := I1.tuple hqy
      have lt1 := p1.lt
      obtain ⟨o2, ho2, p3⟩ := id p2
      have lt2 := Heap.lt_size ho2
      refine zip_begins2 (begins_list a its.toArray) (begins_tuple b its2.toArray) p1.isList p2 fun h' hz hTI hTO g1 g2 hsz hk => wpAny_pyIter_zip hz ?_
      have I2 : Inv X pins σ H1 { s1 with heap := h' } := I1.kept (t' := s1.toks) hk
      refine ⟨s1.heap.objs.size + 4, [s1.heap.objs.size + 4, s1.heap.objs.size + 2, s1.heap.objs.size + 3, s1.heap.objs.size, s1.heap.objs.size + 1], _, _, H1, rfl, I2, turn_mix (PySem.W.ktu_apart s1.heap.objs.size a b lt1 lt2), ⟨⟨hz, hTI⟩, ⟨_, _, hTO⟩, ⟨_, g1, rfl, rfl⟩, ⟨_, g2, rfl, rfl⟩⟩, fun c hcm => ?_, q⟩
      have hle : s1.heap.objs.size ≤ c := by
        rcases five hcm with rfl | rfl | rfl | rfl | rfl
        · exact Nat.le_add_right _ _
        · exact Nat.le_add_right _ _
        · exact Nat.le_add_right _ _
        · exact Nat.le_refl _
        · exact Nat.le_add_right _ _
      exact I1.fpOk hle (I1.hok.fresh hle)
    · obtain ⟨its, rv, p1, _⟩ := I1.list hqx
      obtain ⟨its2, rv2, p2, _⟩ := I1.list hqy
      have lt1 := p1.lt
      have lt2 := p2.lt
      refine zip_begins2 (begins_list a its.toArray) (begins_list b its2.toArray) p1.isList p2.isList fun h' hz hTI hTO g1 g2 hsz hk => wpAny_pyIter_zip hz ?_
      have I2 : Inv X pins σ H1 { s1 with heap := h' } := I1.kept (t' := s1.toks) hk
      refine ⟨s1.heap.objs.size + 4, [s1.heap.objs.size + 4, s1.heap.objs.size + 2, s1.heap.objs.size + 3, s1.heap.objs.size, s1.heap.objs.size + 1], _, _, H1, rfl, I2, turn_ll (PySem.W.ktu_apart s1.heap.objs.size a b lt1 lt2), ⟨⟨hz, hTI⟩, ⟨_, _, hTO⟩, ⟨_, g1, rfl, rfl⟩, ⟨_, g2, rfl, rfl⟩⟩, fun c hcm => ?_, q⟩
      have hle : s1.heap.objs.size ≤ c := by
        rcases five hcm with rfl | rfl | rfl | rfl | rfl
        · exact Nat.le_add_right _ _
        · exact Nat.le_add_right _ _
        · exact Nat.le_add_right _ _
        · exact Nat.le_refl _
        · exact Nat.le_add_right _ _
      exact I1.fpOk hle (I1.hok.fresh hle)
section
variable {K : Fg} {ta tb : TE} {ρ : List Sl} {O O1 O2 : Os}
theorem ri_anyT {ys zs : List PyData} (h : RX K ta ρ O (.list ys) O1) (h' : RX K tb ρ O1 (.tuple zs) O2) : RI K (iAny K (tCons ta (tCons tb tNil))) ρ O (zipD ys zs) O2 := ⟨fun F0 H0 D0 σ F H R E S k => by
    refine h.go E S fun x F1 H1 f1 E1 S1 r1 => h'.go E1 S1 fun y F2 H2 f2 E2 S2 r2 => ?_
    have r1' := r1.up f2
    cases r1' with
    | @lst a xs _ q1 q2 q3 =>
     cases r2 with
     | @tup b ws _ p1 p2 p3 =>
      have s1 : ∀ {G0 J0 : Hp} {D1 : List Addr} {F : Hp} {O : Os} {H : Hp}, Same F2 F → Hx K G0 J0 D1 F O H → SqL K H a xs ∧ SqT K H b ws := fun f S => ⟨(f.trans S.fh).seq q1, same_t (f.trans S.fh) p1⟩
      refine ⟨a, b, xs, ws, rfl, .inl ⟨s1 (Same.refl _) S2, ?_⟩⟩
      have hl : (zipD ys zs).length = min xs.length ws.length := by unfold zipD; rw [List.length_map, List.length_zip, q3.length, p3.length]
      refine k _ F2 H2 (f1.trans f2) S2 ⟨by omega, fun _ _ _ F O H i hi f S => ?_, fun _ _ _ F O H f S => ⟨xs, ws, s1 f S, by omega, by omega, by omega⟩, fun _ _ _ F O H i x H' hi f S y => ?_⟩
      · have h1 : i < xs.length := by omega
        have h2 : i < ws.length := by omega
        exact ⟨xs, ws, xs[i], ws[i], s1 f S, by simp [h1], by simp [h2]⟩
      · obtain ⟨T, u, v, ⟨eu, hT, eT⟩, y1, y2⟩ := y
        subst eu
        subst eT
        obtain ⟨d, e, r⟩ := (q3.up f).getV (y1 xs (s1 f S).1)
        obtain ⟨d', e', r'⟩ := (p3.up f).getV (y2 ws (s1 f S).2)
        obtain ⟨F3, f3, S3, r3⟩ := pair_put S hT r r'
        refine ⟨F3, _, f3, S3, ?_, r3⟩
        unfold zipD
        have ez : (ys.zip zs)[i]? = some (d, d') := List.getElem?_zip_eq_some.mpr ⟨e, e'⟩
        rw [List.getElem?_map, ez]
        rfl⟩
theorem ri_anyL {ys zs : List PyData} (h : RX K ta ρ O (.list ys) O1) (h' : RX K tb ρ O1 (.list zs) O2) : RI K (iAny K (tCons ta (tCons tb tNil))) ρ O (zipD ys zs) O2 := ⟨fun F0 H0 D0 σ F H R E S k => by
    refine h.go E S fun x F1 H1 f1 E1 S1 r1 => h'.go E1 S1 fun y F2 H2 f2 E2 S2 r2 => ?_
    have r1' := r1.up f2
    cases r1' with
    | @lst a xs _ q1 q2 q3 =>
     cases r2 with
     | @lst b ws _ p1 p2 p3 =>
      have s1 : ∀ {G0 J0 : Hp} {D1 : List Addr} {F : Hp} {O : Os} {H : Hp}, Same F2 F → Hx K G0 J0 D1 F O H → SqL K H a xs ∧ SqL K H b ws := fun f S => ⟨(f.trans S.fh).seq q1, (f.trans S.fh).seq p1⟩
      refine ⟨a, b, xs, ws, rfl, .inr ⟨s1 (Same.refl _) S2, ?_⟩⟩
      have hl : (zipD ys zs).length = min xs.length ws.length := by unfold zipD; rw [List.length_map, List.length_zip, q3.length, p3.length]
      refine k _ F2 H2 (f1.trans f2) S2 ⟨by omega, fun _ _ _ F O H i hi f S => ?_, fun _ _ _ F O H f S => ⟨xs, ws, s1 f S, by omega, by omega, by omega⟩, fun _ _ _ F O H i x H' hi f S y => ?_⟩
      · have h1 : i < xs.length := by omega
        have h2 : i < ws.length := by omega
        exact ⟨xs, ws, xs[i], ws[i], s1 f S, by simp [h1], by simp [h2]⟩
      · obtain ⟨T, u, v, ⟨eu, hT, eT⟩, y1, y2⟩ := y
        subst eu
        subst eT
        obtain ⟨d, e, r⟩ := (q3.up f).getV (y1 xs (s1 f S).1)
        obtain ⟨d', e', r'⟩ := (p3.up f).getV (y2 ws (s1 f S).2)
        obtain ⟨F3, f3, S3, r3⟩ := pair_put S hT r r'
        refine ⟨F3, _, f3, S3, ?_, r3⟩
        unfold zipD
        have ez : (ys.zip zs)[i]? = some (d, d') := List.getElem?_zip_eq_some.mpr ⟨e, e'⟩
        rw [List.getElem?_map, ez]
        rfl⟩
/-! ### a list or a tuple -/
structure Sq (α : Type) where
  t : Bool
  l : List α
def Sq.en {α : Type} [Enc α] : Sq α → PyData
  | ⟨true, l⟩ => .tuple (l.map enc)
  | ⟨false, l⟩ => .list (l.map enc)
@[reducible] instance {α : Type} [Enc α] : Enc (Sq α) := ⟨Sq.en⟩
theorem ri_any {α β : Type} [Enc α] [Enc β] {xs : List α} {ys : Sq β} (h : RX K ta ρ O (.list (xs.map enc)) O1) (h' : RX K tb ρ O1 (enc ys) O2) : RI K (iAny K (tCons ta (tCons tb tNil))) ρ O ((xs.zip ys.l).map enc) O2 := by
  have e : (xs.zip ys.l).map enc = zipD (xs.map enc) (ys.l.map enc) := by
    unfold zipD
    rw [List.zip_map, List.map_map]
    rfl
  rw [e]
  obtain ⟨t, l⟩ := ys
  cases t with
  | true => exact ri_anyT h h'
  | false => exact ri_anyL h h'
theorem rx_lenQ {α : Type} [Enc α] {s : Sq α} (ha : RX K ta ρ O (enc s) O1) : RX K (tCB (rLenQ K) (tCons ta tNil)) ρ O (.int (s.l.length : Nat)) O1 := by
  obtain ⟨t, l⟩ := s
  have e : ((l.map enc).length : Nat) = l.length := List.length_map _
  cases t with
  | true => have := rx_lenT (ds := l.map enc) ha; rw [e] at this; exact this
  | false => have := rx_len (RX.s (ds := l.map enc) ha); rw [e] at this; exact this
theorem rx_ixQ {α : Type} [Enc α] {s : Sq α} {i : Int} {x : α} (h : L2.atI s.l i = some x) (ha : RX K ta ρ O (enc s) O1) (hb : RX K tb ρ O1 (.int i) O2) : RX K (tOp (rIx K) ta tb) ρ O (enc x) O2 := by
  obtain ⟨t, l⟩ := s
  cases t with
  | true => exact rx_ixAT (ds := l.map enc) (atI_map enc h) ha hb
  | false => exact rx_ixA (ds := l.map enc) (atI_map enc h) ha hb
end
end TL

namespace TL
open PySem L2
open Enc
section
variable {K : Fg} {ta tb : TE} {ρ : List Sl} {O O1 O2 : Os}
theorem rx_count {ns : List Int} {i : Int} (ha : RXs K ta ρ O (ns.map .int) O1) (hb : RX K tb ρ O1 (.int i) O1) : RX K (tBM K "list" (rCntI K) ta (tCons tb tNil)) ρ O (.int (ns.count i : Nat)) O1 := ⟨fun _ _ _ _ _ _ Q E S k =>
  ha.go E S fun a F1 H1 f1 E1 S1 r1 => by
    obtain ⟨vs1, p1, _, _⟩ := r1 F1 H1 (Same.refl _) S1
    refine ⟨.inl ⟨rfl, _, p1⟩, hb.go E1 S1 fun y F2 H2 f2 E2 S2 r2 => ?_⟩
    cases r2
    obtain ⟨vs, q1, q2, q3⟩ := r1 F2 H2 f2 S2
    exact ⟨a, ns, i, rfl, rfl, by rw [← q3.ints]; exact q1, k _ F2 H2 (f1.trans f2) S2 (.int _)⟩⟩
theorem k_lcount {X : Cx} (K : Fg) (hK : X.K = K := by rfl) : MtR X "list.count" (rCntI K) := by subst hK; exact mt_lcount
end
end TL

namespace TL
open PySem L2
open Enc
/-! ### lists of own lists -/
def lolOs {α : Type} [Enc α] (ps : List Addr) (xs : List (List α)) : Os := towOs ps (xs.map fun r => r.map enc)
section
variable {K : Fg} {F0 H0 F H F' H' : Hp} {D0 : List Addr} {O O' O1 O2 X : Os} {ρ : List Sl} {σ : L2.St} {ps : List Addr} {ess : List (List PyData)}
theorem EnvR.lol {i : Nat} (h : EnvR K F σ ρ) (e : ρ[i]? = some (.lol ps)) : ∃ t, σ[i]? = some (some (.ref t)) ∧ SqL K F t (ps.map .ref) ∧ ps.length ≤ sizeLine := by
  obtain ⟨s, h1, t, rfl, h2⟩ := h.at e
  exact ⟨t, h1, h2⟩
/-- what stands besides stays -/
theorem Hx.fr2 (S : Hx K F0 H0 D0 F O H) : ∃ H1 D1, Hx K F H1 D1 F O H ∧ (∀ a o, H a = some o → (∀ e ∈ O, e.a ≠ a) → H1 a = some o ∧ a ∉ D1) ∧ ∀ F' O' H', Hx K F H1 D1 F' O' H' → Hx K F0 H0 D0 F' O' H' := by
  let nwA (a : Addr) : Bool := O.any fun e => e.nw && decide (e.a = a)
  let H1 : Hp := fun a => if nwA a = true then none else H a
  let D1 : List Addr := (O.filter fun e => !e.nw).map OE.a
  have h1s : ∀ a o, H1 a = some o → H a = some o := fun a o e => by
    show H a = some o
    have e : (if nwA a = true then none else H a) = some o := e
    split at e
    · cases e
    · exact e
  have h1of : ∀ a o, H a = some o → (∀ e ∈ O, e.a = a → e.nw = false) → H1 a = some o := fun a o e n => by
    show (if nwA a = true then none else H a) = some o
    rw [if_neg]
    · exact e
    · intro q
      obtain ⟨x, hx, q⟩ := List.any_eq_true.mp q
      rw [Bool.and_eq_true, decide_eq_true_eq] at q
      rw [n x hx q.2] at q
      exact Bool.false_ne_true q.1
  have d1 : ∀ a, a ∈ D1 → ∃ e ∈ O, e.a = a ∧ e.nw = false := fun a h => by
    obtain ⟨e, he, rfl⟩ := List.mem_map.mp h
    rw [List.mem_filter] at he
    exact ⟨e, he.1, rfl, by simpa using he.2⟩
  have old : ∀ a o, H0 a = some o → ∀ e ∈ O, e.a = a → e.nw = false := fun a o e x hx q => by
    cases hw : x.nw with
    | false => rfl
    | true =>
      have := (S.own x hx).2.1 hw
      rw [q, e] at this
      cases this
  refine ⟨H1, D1, ⟨Same.refl _, S.fh, fun a o e _ => h1s a o e, fun a o e => ⟨o, h1s a o e⟩, fun _ _ _ e => e, fun p hp => ?_, S.nd⟩, fun a o e n => ⟨h1of a o e fun x hx q => (n x hx q).elim, fun hd => ?_⟩, fun F' O' H' S2 => ?_⟩
  · obtain ⟨g1, g2, g3, g4⟩ := S.own p hp
    refine ⟨g1, fun hw => ?_, fun hw => List.mem_map.mpr ⟨p, List.mem_filter.mpr ⟨hp, by rw [hw]; rfl⟩, rfl⟩, g4⟩
    show (if nwA p.a = true then none else H p.a) = none
    rw [if_pos]
    exact List.any_eq_true.mpr ⟨p, hp, by rw [hw]; simp⟩
  · obtain ⟨x, hx, q, _⟩ := d1 a hd
    exact n x hx q
  · refine ⟨S.f0.trans S2.f0, S2.fh, fun a o e n => ?_, fun a o e => ?_, fun a o e n => ?_, fun p hp => ?_, S2.nd⟩
    · refine S2.keep a o (h1of a o (S.keep a o e n) (old a o e)) fun hd => ?_
      obtain ⟨x, hx, q, hw⟩ := d1 a hd
      exact n (q ▸ (S.own x hx).2.2.1 hw)
    · obtain ⟨o', e'⟩ := S.live a o e
      exact S2.live a o' (h1of a o' e' (old a o e))
    · obtain ⟨o', e'⟩ := S.live a o e
      exact S2.new a o' (h1of a o' e' (old a o e)) (S.new a o e n)
    · obtain ⟨g1, g2, g3, g4⟩ := S2.own p hp
      refine ⟨g1, fun hw => ?_, fun hw => ?_, g4⟩
      · have g2 := g2 hw
        cases e : H0 p.a with
        | none => rfl
        | some o =>
          obtain ⟨o', e'⟩ := S.live p.a o e
          rw [h1of p.a o' e' (old p.a o e)] at g2
          cases g2
      · obtain ⟨x, hx, q, hw'⟩ := d1 _ (g3 hw)
        exact q ▸ (S.own x hx).2.2.1 hw'
/-- a thing besides is changed -/
theorem Hx.hold (S : Hx K F0 H0 D0 F O H) {p : Addr} {o : HO} (hF : F p = none) (h0 : H0 p = none) (hO : ∀ e ∈ O, e.a ≠ p) : Hx K F0 H0 D0 F O (upd H p o) := by
  refine ⟨S.f0, fun a u e => ?_, fun a u e n => ?_, fun a u e => ?_, S.new, fun q hq => ?_, S.nd⟩
  · rw [upd_ne (ne_of_none e hF)]
    exact S.fh _ _ e
  · rw [upd_ne (ne_of_none e h0)]
    exact S.keep a u e n
  · obtain ⟨u', e'⟩ := S.live a u e
    exact ⟨u', by rw [upd_ne (ne_of_none e h0)]; exact e'⟩
  · obtain ⟨g1, g2, g3, g4⟩ := S.own q hq
    exact ⟨g1, g2, g3, g4.at (upd_ne (hO q hq))⟩
/-- .. is frozen -/
theorem Hx.pin (S : Hx K F0 H0 D0 F O H) {p : Addr} {o : HO} (hF : F p = none) (h0 : H0 p = none) (hO : ∀ e ∈ O, e.a ≠ p) (hp : H p = some o) : Hx K F0 H0 D0 (upd F p o) O H := by
  refine ⟨S.f0.trans (same_upd hF), fun a u e => ?_, S.keep, S.live, fun a u e n => ?_, fun q hq => ?_, S.nd⟩
  · unfold upd at e
    split at e
    · rename_i z
      subst z
      cases e
      exact hp
    · exact S.fh _ _ e
  · rw [upd_ne (ne_of_none e h0)]
    exact S.new a u e n
  · obtain ⟨g1, g2, g3, g4⟩ := S.own q hq
    exact ⟨by rw [upd_ne (hO q hq)]; exact g1, g2, g3, g4.up (same_upd hF)⟩
/-- [.. for x in ..], each a new list -/
theorem lol_run {α β : Type} {eα : α → PyData} {eβ : β → List PyData} {wi : TI} {g : TG} {te : TE} {vs : List Nat} {xs : List α} {ys : List β} {f : α → Option β} (ρx : α → List Sl) (ts : List Nat) (hI : RI K wi ρ O (xs.map eα) O1)
    (hf : mapO f xs = some ys) (hts : ∀ t ∈ ts, t ∈ vs) (hg : ∀ x ∈ xs, RG K g (eα x) (wipeS ρ vs) (ρx x) ts) (he : ∀ x ∈ xs, ∀ y, f x = some y → ∀ O, RXo K te (ρx x) O (eβ y) O) (E : EnvR K F σ ρ) (S : Hx K F0 H0 D0 F O H) {Q : VK}
    (k : ∀ T ps F' H', Same F F' → ps.length = ys.length → SqL K F' T (ps.map .ref) → ps.length ≤ sizeLine → Hx K F0 H0 D0 F' (O1 ++ towOs ps (ys.map eβ)) H' → Q (.ref T) H') : tLc wi g tYes te vs σ H Q := hI.go E S fun J F1 H1 f1 E1 S1 w => by
  intro D hD
  have hl : (xs.map eα).length = xs.length := List.length_map _
  have W : Walk J xs.length (fun H => ∃ F0 H0 D0 F O, Same F1 F ∧ Hx K F0 H0 D0 F O H) (fun i H x H' => ∀ F0 H0 D0 F O, Same F1 F → Hx K F0 H0 D0 F O H → ∃ F' y, Same F F' ∧ Hx K F0 H0 D0 F' O H' ∧ xs[i]? = some y ∧ Rp K F' x (eα y)) := by
    refine ⟨fun i H hi q => ?_, fun H q => ?_, fun i H x H' hi _ y F0 H0 D0 F O f S => ?_⟩
    · obtain ⟨F0, H0, D0, F, O, f, S⟩ := q
      exact w.go F0 H0 D0 F O H i (by rw [hl]; exact hi) f S
    · obtain ⟨F0, H0, D0, F, O, f, S⟩ := q
      have := w.stop F0 H0 D0 F O H f S
      rw [hl] at this
      exact this
    · obtain ⟨F', y', f', S', e, r⟩ := w.yld F0 H0 D0 F O H i x H' (by rw [hl]; exact hi) f S y
      rw [List.getElem?_map] at e
      cases e2 : xs[i]? with
      | none => rw [e2] at e; cases e
      | some z =>
        rw [e2] at e
        have e3 : eα z = y' := Option.some.inj e
        subst e3
        exact ⟨F', z, f', S', rfl, r⟩
  have hsz : xs.length ≤ sizeLine := by have := w.sz; rw [hl] at this; exact this
  have h0D := S1.noh0 hD
  refine lc_it W (fun i H => ∃ F ps acc zr, Same F1 F ∧ Hx K F0 H0 D0 F (O1 ++ towOs ps (acc.map eβ)) H ∧ H D = some (.lst (ps.map .ref)) ∧ F D = none ∧ (∀ e ∈ O1 ++ towOs ps (acc.map eβ), e.a ≠ D) ∧ mapO f (xs.drop i) = some zr ∧ acc ++ zr = ys ∧ ps.length = acc.length ∧ acc.length = i)
    ⟨F1, [], [], ys, Same.refl _, by show Hx K F0 H0 D0 F1 (O1 ++ []) _; rw [List.append_nil]; exact S1.junk hD, upd_same, S1.nof hD, fun e he q => ?_, hf, rfl, rfl, rfl⟩
    (fun i H _ q => by obtain ⟨F, ps, acc, zr, q1, q2, _⟩ := q; exact ⟨_, _, _, F, _, q1, q2⟩) (fun i x H H' hi q y => ?_) (fun H q => ?_)
  · have he : e ∈ O1 := by simpa [towOs] using he
    obtain ⟨vs, g4⟩ := S1.ownL he
    rw [q, hD] at g4
    cases g4
  · obtain ⟨F, ps, acc, zr, q1, q2, q3, q4, q5, q6, q7, q8, q9⟩ := q
    obtain ⟨Ha, Da, Sf, kp, back⟩ := q2.fr2
    obtain ⟨ka, kb⟩ := kp D _ q3 q5
    obtain ⟨F2, z, f2, S2, ez, rz⟩ := y _ _ _ F _ q1 Sf
    have d2 := S2.keep D _ ka kb
    have n2 := S2.new D _ ka q4
    have S2 := back _ _ _ S2
    have hm : z ∈ xs := List.mem_of_getElem? ez
    have hi' : xs[i] = z := by
      rw [List.getElem?_eq_getElem hi] at ez
      exact Option.some.inj ez
    rw [List.drop_eq_getElem_cons hi, hi'] at q6
    obtain ⟨v, e1, q6⟩ := bindE q6
    obtain ⟨zr', e2, q6⟩ := bindE q6
    obtain rfl := Option.some.inj q6
    refine (hg z hm).run _ F2 H' x _ ((E1.wipe vs).up (q1.trans f2)) rz S2.fh fun σ' E' wq => ⟨(wq vs hts).trans (wipe_wipe σ vs), ?_⟩
    unfold tYes
    simp only [if_true]
    obtain ⟨Hb, Db, Sg, kq, bock⟩ := S2.fr2
    obtain ⟨kc, kd⟩ := kq D _ d2 q5
    refine (he z hm v e1 _).go E' Sg fun p F3 H3 f3 E3 S3 => ?_
    have d3 := S3.keep D _ kc kd
    have n3 := S3.new D _ kc n2
    have hp : p ≠ D := by
      intro e
      have := (S3.own ⟨p, true, eβ v⟩ (List.mem_cons_self ..)).2.1 rfl
      have this : Hb p = none := this
      rw [e, kc] at this
      cases this
    have S3 := bock _ _ _ S3
    have t1 : towOs (ps ++ [p]) ((acc ++ [v]).map eβ) = towOs ps (acc.map eβ) ++ [⟨p, true, eβ v⟩] := by
      unfold towOs
      rw [List.map_append, List.zipWith_append (by rw [List.length_map]; exact q8)]
      rfl
    have S3 := S3.perm (List.perm_append_singleton (⟨p, true, eβ v⟩ : OE) _).symm
    rw [List.append_assoc, ← t1] at S3
    have hO : ∀ e ∈ O1 ++ towOs (ps ++ [p]) ((acc ++ [v]).map eβ), e.a ≠ D := fun e he => by
      rw [t1, ← List.append_assoc] at he
      rcases List.mem_append.mp he with he | he
      · exact q5 e he
      · rw [List.mem_singleton] at he
        subst he
        exact hp
    refine ⟨_, d3, by rw [List.length_map]; omega, F3, ps ++ [p], acc ++ [v], zr', (q1.trans f2).trans f3, S3.hold n3 h0D hO, ?_, n3, hO, e2, by rw [← q7]; simp, by simp [q8], by simp [q9]⟩
    rw [upd_same, List.map_append]
    rfl
  · obtain ⟨F, ps, acc, zr, q1, q2, q3, q4, q5, q6, q7, q8, q9⟩ := q
    rw [List.drop_length] at q6
    have q6 : (some [] : Option (List β)) = some zr := q6
    obtain rfl := Option.some.inj q6
    rw [List.append_nil] at q7
    subst q7
    exact k D ps _ H ((f1.trans q1).trans (same_upd q4)) q8 (SqL.of upd_same) (by omega) (q2.pin q4 h0D q5 q3)
variable {D : Ends}
theorem st_setL {α β : Type} {eα : α → PyData} [Enc β] {wi : TI} {g : TG} {te : TE} {vs : List Nat} {xs : List α} {ys : List (List β)} {f : α → Option (List β)} {i : Nat} (ρx : α → List Sl) (ts : List Nat) (hI : RI K wi ρ O (xs.map eα) O1)
    (hf : mapO f xs = some ys) (hts : ∀ t ∈ ts, t ∈ vs) (hg : ∀ x ∈ xs, RG K g (eα x) (wipeS ρ vs) (ρx x) ts) (he : ∀ x ∈ xs, ∀ y, f x = some y → ∀ O, RXo K te (ρx x) O (y.map enc) O) (E : EnvR K F σ ρ) (S : Hx K F0 H0 D0 F O H)
    (k : ∀ ps σ' F' H', ps.length = ys.length → Same F F' → EnvR K F' σ' (ρ.set i (.lol ps)) → Hx K F0 H0 D0 F' (O1 ++ lolOs ps ys) H' → D.nx σ' H') : tAsg (tLc wi g tYes te vs) (gName i) D σ H :=
  lol_run (eβ := fun y : List β => y.map enc) ρx ts hI hf hts hg he E S fun T ps F' H' f hl q hz S' => k ps _ F' H' hl f (EnvR.set (s := some (.ref T)) (r := .lol ps) ⟨T, rfl, q, hz⟩ i (E.up f)) S'
/-- what a def promises that hands back a list of new lists -/
def SpL (K : Fg) (R : List PyData → List (List PyData) → Prop) : Sp := fun vs H Q _ => ∃ F ds ess, RpAll K F vs ds ∧ Same F H ∧ R ds ess ∧
  ∀ (T : Addr) (ps : List Addr) (F' H' : Hp), Stp [] F H F' H' → SqL K F' T (ps.map .ref) → ps.length ≤ sizeLine → ps.length = ess.length → ps.Nodup → (∀ (i : Nat) p es, ps[i]? = some p → ess[i]? = some es → H p = none ∧ F' p = none ∧ ∃ xs, H' p = some (.lst xs) ∧ xs.length ≤ sizeLine ∧ RpAll K F' xs es) → Q (.ref T) H'
theorem lst_len {R : List PyData → List (List PyData) → Prop} {n : Nat} (h : ∀ ds d, R ds d → ds.length = n) : ∀ vs H Q E, SpL K R vs H Q E → vs.length = n := fun vs H Q E ⟨F, ds, d, r, _, hR, _⟩ => r.length.trans (h ds d hR)
theorem st_retL {α β : Type} {eα : α → PyData} {eβ : β → List PyData} {wi : TI} {g : TG} {te : TE} {vs : List Nat} {xs : List α} {ys : List β} {f : α → Option β} (ρx : α → List Sl) (ts : List Nat) (hI : RI K wi ρ O (xs.map eα) O1)
    (hf : mapO f xs = some ys) (hts : ∀ t ∈ ts, t ∈ vs) (hg : ∀ x ∈ xs, RG K g (eα x) (wipeS ρ vs) (ρx x) ts) (he : ∀ x ∈ xs, ∀ y, f x = some y → ∀ O, RXo K te (ρx x) O (eβ y) O) (E : EnvR K F σ ρ) (S : Hx K F0 H0 D0 F O H)
    (k : ∀ T ps F' H', Same F F' → ps.length = (ys.map eβ).length → SqL K F' T (ps.map .ref) → ps.length ≤ sizeLine → Hx K F0 H0 D0 F' (towOs ps (ys.map eβ) ++ O1) H' → D.rt (.ref T) H') : tRet (tLc wi g tYes te vs) D σ H :=
  lol_run ρx ts hI hf hts hg he E S fun T ps F' H' f hl q hz S' => k T ps F' H' f (by rw [List.length_map]; exact hl) q hz (S'.perm List.perm_append_comm)
variable {t : TA} {R : List PyData → List (List PyData) → Prop} {ds : List PyData} {E0 : XK}
theorem st_setCL {β : Type} [Enc β] {ys : List (List β)} {i : Nat} (hR : R ds (ys.map fun y => y.map enc)) (ha : RA K t ρ O (ds.map .val) O1) (E : EnvR K F σ ρ) (S : Hx K F0 H0 D0 F O H)
    (k : ∀ (ps : List Addr) (σ' : L2.St) (F' H' : Hp), ps.length = ys.length → Same F F' → EnvR K F' σ' (ρ.set i (.lol ps)) → Hx K F0 H0 D0 F' (O1 ++ lolOs ps ys) H' → D.nx σ' H') : tAsg (tCall (SpL K R) [] E0 t) (gName i) D σ H :=
  ha.go E S fun vs F1 H1 f1 E1 S1 r1 => by
    show SpL K R (vs ++ []) H1 _ E0
    rw [List.append_nil]
    exact ⟨F1, ds, _, r1.all, S1.fh, hR, fun T ps F' H' st q hz hl nd h => k ps _ F' H' (by rw [hl, List.length_map]) (f1.trans st.ff) (EnvR.set (s := some (.ref T)) (r := .lol ps) ⟨T, rfl, q, hz⟩ i (E1.up st.ff)) ((S1.inT st hl nd h).perm List.perm_append_comm)⟩
theorem SpL.toP {R' : List PyData → PyData → Prop} (hi : ∀ ds d, R' ds d → ∃ ess, R ds ess ∧ d = .list (ess.map .list)) : ∀ vs H Q E, SpP K R' vs H Q E → SpL K R vs H Q E := fun vs H Q E ⟨F, ds, d, r, fh, hR, k⟩ => by
  obtain ⟨ess, hR2, rfl⟩ := hi ds d hR
  refine ⟨F, ds, ess, r, fh, hR2, fun T ps F' H' st q hz hl nd h => ?_⟩
  have S := (Hx.start (K := K) fh).inT st hl nd h
  obtain ⟨F2, f2, S2, r2⟩ := S.frzT hl
  exact k _ F2 H' S2.stp (.lst (f2.seq q) (by rw [List.length_map]; exact hz) r2)
/-! ### how such a list is read, changed -/
theorem tow_all (hl : ps.length = ess.length) (h : ∀ (i : Nat) p es, ps[i]? = some p → ess[i]? = some es → ∃ j : Nat, O[j]? = some ⟨p, true, es⟩) : Tow O ps ess := by
  induction ps generalizing ess with
  | nil =>
    cases ess with
    | nil => exact .nil
    | cons e ess => cases hl
  | cons p ps ih =>
    cases ess with
    | nil => cases hl
    | cons e ess =>
      obtain ⟨j, hj⟩ := h 0 p e rfl rfl
      exact .cons j hj (ih (by simpa using hl) fun i q es h1 h2 => h (i + 1) q es (by simpa using h1) (by simpa using h2))
theorem tow_end (hl : ps.length = ess.length) : Tow (X ++ towOs ps ess) ps ess := tow_all hl fun i p es h1 h2 => ⟨X.length + i, by rw [List.getElem?_append_right (by omega), Nat.add_sub_cancel_left]; exact tow_get h1 h2⟩
theorem enc_lol {β : Type} [Enc β] (xs : List (List β)) : (enc xs : PyData) = .list ((xs.map fun r => r.map enc).map .list) := by
  show PyData.list (xs.map enc) = _
  rw [List.map_map]; rfl
theorem rxh_lol {β : Type} [Enc β] {xs : List (List β)} {i : Nat} (hs : ρ[i]? = some (.lol ps)) (hl : ps.length = xs.length) : RXh K (tVar i) ρ (X ++ lolOs ps xs) (enc xs) (X ++ lolOs ps xs) := ⟨fun _ _ _ _ _ _ Q E S k => by
  obtain ⟨T, h1, h2, h3⟩ := E.lol hs
  refine ⟨_, h1, k _ _ _ (Same.refl _) S fun F2 H2 f2 S2 => ?_⟩
  rw [enc_lol]
  exact .lst ((f2.trans S2.fh).seq h2) (by rw [List.length_map]; exact h3) ((tow_end (by rw [List.length_map]; exact hl)).rp S2)⟩
/-- .. is frozen -/
theorem frz_lol {β : Type} [Enc β] {xs : List (List β)} {i : Nat} (hs : ρ[i]? = some (.lol ps)) (hl : ps.length = xs.length) (E : EnvR K F σ ρ) (S : Hx K F0 H0 D0 F (X ++ lolOs ps xs) H) :
    ∃ F', Same F F' ∧ EnvR K F' σ (ρ.set i (.val (enc xs))) ∧ Hx K F0 H0 D0 F' X H := by
  obtain ⟨T, h1, h2, h3⟩ := E.lol hs
  obtain ⟨F', f, S', r⟩ := (S.perm List.perm_append_comm).frzT (by rw [List.length_map]; exact hl)
  have E2 := EnvR.setv (E.up f) (v := .ref T) (.lst (f.seq h2) (by rw [List.length_map]; exact h3) r) i
  have e : σ.set i (some (.ref T)) = σ := by
    apply List.ext_getElem?
    intro n
    by_cases e : i = n
    · subst e
      rw [List.getElem?_set_self (List.getElem?_eq_some_iff.mp h1).1, h1]
    · rw [List.getElem?_set_ne e]
  rw [e, ← enc_lol] at E2
  exact ⟨F', f, E2, S'⟩
def lolO {α : Type} (n : Nat) (xs : List (List α)) (i : Int) (x : α) : Option (List (List α)) := if xs.length = n then (ixN xs.length i).bind fun j => (xs[j]?).bind fun r => (appO r x).bind fun r' => some (xs.set j r') else none
def lolL {α : Type} (n : Nat) (xs : List (List α)) : Option (List (List α)) := if xs.length = n then some xs else none
theorem lolL_of {α : Type} {n : Nat} {xs r : List (List α)} (h : lolL n xs = some r) : xs.length = n ∧ xs = r := by
  unfold lolL at h
  split at h
  · exact ⟨by assumption, Option.some.inj h⟩
  · cases h
/-- found[k].append(e) -/
theorem st_lolApp {β : Type} [Enc β] {xs ys : List (List β)} {x : β} {i N : Nat} {tk te : TE} {n : Int} (hl : ps.length = N) (hn : lolO N xs n x = some ys) (hs : ρ[i]? = some (.lol ps)) (hk : RX K tk ρ (X ++ lolOs ps xs) (.int n) (X ++ lolOs ps xs))
    (h : RX K te ρ (X ++ lolOs ps xs) (enc x) (X ++ lolOs ps xs)) (E : EnvR K F σ ρ) (S : Hx K F0 H0 D0 F (X ++ lolOs ps xs) H) (k : ∀ F' H', Same F F' → EnvR K F' σ ρ → Hx K F0 H0 D0 F' (X ++ lolOs ps ys) H' → D.nx σ H') :
    tDrop (tBM K "list" rAppend (tOp (rIxL K) (tVar i) tk) (tCons te tNil)) D σ H := by
  unfold lolO at hn
  split at hn
  · rename_i hN
    obtain ⟨m, e1, hn⟩ := bindE hn
    obtain ⟨r, e2, hn⟩ := bindE hn
    obtain ⟨r', e3, hn⟩ := bindE hn
    obtain rfl := Option.some.inj hn
    have hm : m < xs.length := (List.getElem?_eq_some_iff.mp e2).1
    obtain ⟨T, h1, h2, h3⟩ := E.lol hs
    obtain ⟨p, hp⟩ : ∃ p, ps[m]? = some p := ⟨_, List.getElem?_eq_getElem (by omega)⟩
    have hj : ∀ (O : Os), O = X ++ lolOs ps xs → O[X.length + m]? = some ⟨p, true, r.map enc⟩ := fun O e => by
      rw [e, List.getElem?_append_right (by omega), Nat.add_sub_cancel_left]
      exact tow_get hp (by rw [List.getElem?_map, e2]; rfl)
    refine ⟨_, h1, hk.go E S fun y F1 H1 f1 E1 S1 r1 => ?_⟩
    cases r1
    refine ⟨T, ps.map .ref, n, .ref p, rfl, rfl, (f1.trans S1.fh).seq h2, ?_, ?_⟩
    · unfold L2.atI
      rw [List.length_map, show ps.length = xs.length by omega, e1]
      show (ps.map V.ref)[m]? = _
      rw [List.getElem?_map, hp]; rfl
    · obtain ⟨_, _, _, vs0, g0, _⟩ := S1.get (hj _ rfl)
      refine ⟨.inl ⟨rfl, _, .inl (.inl g0)⟩, h.go E1 S1 fun v F2 H2 f2 E2 S2 r2 => ?_⟩
      obtain ⟨g1, g2, g3, vs, g4, g5, g6⟩ := S2.get (hj _ rfl)
      have g4 : H2 p = some (.lst vs) := g4
      have g6 : RpAll K F2 vs (r.map enc) := g6
      have e3 := appO_map enc e3
      unfold appO at e3
      split at e3
      · rename_i hc
        have e3 := Option.some.inj e3
        have hz : vs.length < sizeLine := by rw [g6.length, sizeLine_eq]; exact hc
        have S3 := S2.mut (hj _ rfl) (vs := vs ++ [v]) (ds' := r'.map enc) (by rw [List.length_append, List.length_singleton]; omega) (by rw [← e3]; exact g6.append (.cons r2 .nil))
        have eO : (X ++ lolOs ps xs).set (X.length + m) ⟨p, true, r'.map enc⟩ = X ++ lolOs ps (xs.set m r') := by
          apply List.ext_getElem?
          intro j
          by_cases q : X.length + m = j
          · subst q
            rw [List.getElem?_set_self (by have := hj _ rfl; exact (List.getElem?_eq_some_iff.mp this).1), List.getElem?_append_right (by omega), Nat.add_sub_cancel_left]
            exact (tow_get hp (by rw [List.getElem?_map, List.getElem?_set_self hm]; rfl)).symm
          · rw [List.getElem?_set_ne q]
            rcases Nat.lt_or_ge j X.length with hx | hx
            · rw [List.getElem?_append_left hx, List.getElem?_append_left hx]
            · rw [List.getElem?_append_right hx, List.getElem?_append_right hx]
              unfold lolOs towOs
              rw [List.getElem?_zipWith, List.getElem?_zipWith, List.getElem?_map, List.getElem?_map, List.getElem?_set_ne (by omega)]
        rw [eO] at S3
        exact ⟨_, vs, v, rfl, rfl, g4, hz, k F2 _ (f1.trans f2) E2 S3⟩
      · cases e3
  · cases hn
end
/-! ### is True, is not True -/
def tIsB (c : Bool) (ta : TE) : TE := fun σ H Q => ta σ H fun x H1 => ∃ b, x = .bl b ∧ Q (.bl (b == c)) H1
def tNotB (c : Bool) (ta : TE) : TE := fun σ H Q => ta σ H fun x H1 => ∃ b, x = .bl b ∧ Q (.bl (b != c)) H1
section
open PyProof.Rows
variable {X : Cx} {a : Expr} {ta : TE}
theorem pc_isB {c : Bool} {j pos'} (ha : PE X a ta) : PC X .Is a (.Constant (.bool c) j pos') (tIsB c ta) := by
  refine ⟨fun pins s σ H Q I h => ?_⟩
  refine thn (ha.run pins s σ H _ I h) fun v s1 ⟨x, H1, I1, r1, b, e, q1⟩ => ?_
  subst e
  cases r1
  exact Constant_bool (is_bool ⟨.bl _, H1, I1, rfl, q1⟩)
theorem pc_notB {c : Bool} {j pos'} (ha : PE X a ta) : PC X .IsNot a (.Constant (.bool c) j pos') (tNotB c ta) := by
  refine ⟨fun pins s σ H Q I h => ?_⟩
  refine thn (ha.run pins s σ H _ I h) fun v s1 ⟨x, H1, I1, r1, b, e, q1⟩ => ?_
  subst e
  cases r1
  exact Constant_bool (isnot_bool ⟨.bl _, H1, I1, rfl, q1⟩)
end
section
variable {K : Fg} {ta : TE} {ρ : List Sl} {O O1 : Os}
theorem rx_isB {b c : Bool} (ha : RX K ta ρ O (.bool b) O1) : RX K (tIsB c ta) ρ O (.bool (b == c)) O1 := ⟨fun _ _ _ _ _ _ Q E S k => ha.go E S fun x F1 H1 f1 E1 S1 r1 => by
  cases r1
  exact ⟨b, rfl, k _ F1 H1 f1 S1 (.bl _)⟩⟩
theorem rx_notB {b c : Bool} (ha : RX K ta ρ O (.bool b) O1) : RX K (tNotB c ta) ρ O (.bool (b != c)) O1 := ⟨fun _ _ _ _ _ _ Q E S k => ha.go E S fun x F1 H1 f1 E1 S1 r1 => by
  cases r1
  exact ⟨b, rfl, k _ F1 H1 f1 S1 (.bl _)⟩⟩
end
end TL
namespace TL
open PySem L2
open Enc
theorem rx_some {K : Fg} {t : TE} {ρ : List Sl} {O O1 : Os} {o : Option Int} {v : Int} (h : o = some v) (ha : RX K t ρ O (enc o) O1) : RX K t ρ O (.int v) O1 := by
  subst h
  exact ha
end TL
namespace L2
open PySem
/-- a built-in type's method, within a comprehension, too -/
theorem pe_bmK (K : TL.Fg) {X : Cx} {T name id : String} {r : V → List V → Hp → VK → Prop} {o e : Expr} {es : List Expr} {to : TE} {t : TA} {apos cpos : Pos} (pa : PlainAttrs T) (slot : Slot T name id) (hty : typeOf (.builtin id) = pure (.type "method_descriptor")) (hm : MtR X id r) (ho : PE X o to) (ha : PA X (e :: es) t)
    (hK : X.K = K := by rfl)
    (hbase : attributeBase o name X.env (eval o X.env) = eval o X.env := by rfl)
    (hfew : ((backTo cpos (starEach (e :: es) X.env)).all (fun x => !x.1) && (backToKw cpos (keywordEach [] X.env)).all (fun x => x.1.isSome)
      && decide ((e :: es).length + ([] : List Keyword).length + (if ([] : List Keyword).isEmpty then 0 else 1) < 30)) = true := by rfl)
    (hline : (apos.endLine == cpos.line) = true := by rfl) (hs : starEach (e :: es) X.env = (false, eval e X.env) :: starEach es X.env := by rfl) (hplain : (backTo cpos (starEach es X.env)).any (·.1) = false := by rfl) :
    PE X (.Call (.Attribute o name apos) (e :: es) [] cpos) (tBM K T r to t) := by
  subst hK
  exact pe_bm pa slot hty hm ho ha hbase hfew hline hs hplain
end L2
namespace TL
open PySem L2
theorem pe_cal0 {X : Cx} {j k : Nat} {x : Str} {ps : List Str} {sp : Sp} {p pos : Pos} (C : Cal X.prog X.w X.K X.mg X.base j x ps sp) (hr : Room k X.A) (hjk : j ≤ k := by decide) (hg : Gl X x := by rfl) (hdb : (x == ("__debug__" : Str)) = false := by decide) :
    PE X (.Call (.Name x p) [] [] pos) (tCall sp [] L2.E0 tNil) := by
  obtain ⟨f, fd, F, hm, kp, b⟩ := C
  exact pe_call0 F (hr.mono hjk) hg hm kp b .nil pass0 hdb
end TL
namespace TL
open PySem L2
instance {α β γ : Type} [Enc α] [DecidableEq α] [EqD α] [EqT α] [Enc β] [DecidableEq β] [EqD β] [EqT β] [Enc γ] [DecidableEq γ] [EqD γ] [EqT γ] : EqT (T3 α β γ) := ⟨fun x => by
  show (EqD.ok x.a && (EqD.ok x.b && EqD.ok x.c)) = true
  rw [EqT.ok, EqT.ok, EqT.ok]; rfl⟩
end TL
namespace TL
open PySem L2
open Enc
theorem rx_opt {α : Type} [Enc α] {K : Fg} {t : TE} {ρ : List Sl} {O O1 : Os} {x : α} (h : RX K t ρ O (enc x) O1) : RX K t ρ O (enc (some x : Option α)) O1 := h
end TL
namespace TL
open PySem L2
section
variable {K : Fg} {te : TE} {t : TA} {ρ : List Sl} {O O1 : Os} {E0 : XK}
/-- a list just made is the one that is changed -/
theorem rx_callqN {R : List Sl → Addr → Addr → List PyData → List PyData → PyData → List PyData → Prop} {as : List Sl} {q : Addr} {nw' : Bool} {k : Nat} {c e c' : List PyData} {d : PyData} (h : RXo K te ρ O c O1) (ha : ∀ p, RA K t ρ (⟨p, true, c⟩ :: O1) as (⟨p, true, c⟩ :: O1))
    (hk : O1[k]? = some ⟨q, nw', e⟩) (hR : ∀ p, R (.adr p :: as) p q c e d c') : RX K (tCall (SpQ K R) [] E0 (tCons te t)) ρ O d O1 := ⟨fun _ _ _ _ _ _ Q E S kk => h.go E S fun p F0 H0 f0 E0 S0 => (ha p).go E0 S0 fun vs F1 H1 f1 E1 S1 r1 => by
  show SpQ K R (.ref p :: vs ++ []) H1 _ _
  rw [List.append_nil]
  have hj : (⟨p, true, c⟩ :: O1)[0]? = some ⟨p, true, c⟩ := rfl
  have hk' : (⟨p, true, c⟩ :: O1)[k + 1]? = some ⟨q, nw', e⟩ := hk
  obtain ⟨g1, g2, g3, xs, g4, g5, g6⟩ := S1.get hj
  obtain ⟨k1, k2, k3, ys, k4, k5, k6⟩ := S1.get hk'
  have ne : p ≠ q := fun z => absurd (nodup_at S1.nd (x := p) (i := 0) (j := k + 1) rfl (by rw [List.getElem?_map, hk', z]; rfl)) (by omega)
  exact ⟨F1, _, p, q, xs, ys, c, e, d, c', ⟨.adr r1, S1.fh⟩, ⟨g1, g4, g5, g6⟩, ⟨k1, k4, k5, k6⟩, ne, hR p, fun v F' H' xs' ys' st hp hq r => kk v F' H' ((f0.trans f1).trans st.ff) ((S1.call2 hj hk' st hp.2.1 hp.2.2.1 hp.2.2.2 hq.2.1 hq.2.2.1 hq.2.2.2).drop 0) r⟩⟩
theorem rx_calloN {O2 : Os} {R : List PyData → List PyData → PyData → List PyData → Prop} {c c' ds : List PyData} {d : PyData} (h : RXo K te ρ O c O1) (ha : ∀ p, RA K t ρ (⟨p, true, c⟩ :: O1) (ds.map .val) (⟨p, true, c⟩ :: O2)) (hR : R c ds d c') : RX K (tCall (SpPo K R) [] E0 (tCons te t)) ρ O d O2 :=
  ⟨fun _ _ _ _ _ _ Q E S kk => h.go E S fun p F0 H0 f0 E0 S0 => (ha p).go E0 S0 fun vs F1 H1 f1 E1 S1 r1 => by
  show SpPo K R (.ref p :: vs ++ []) H1 _ _
  rw [List.append_nil]
  have hj : (⟨p, true, c⟩ :: O2)[0]? = some ⟨p, true, c⟩ := rfl
  obtain ⟨g1, g2, g3, xs, g4, g5, g6⟩ := S1.get hj
  exact ⟨F1, p, _, xs, c, ds, d, c', rfl, r1.all, S1.fh, g1, g4, g5, g6, hR, fun v F' H' ys st h1 h2 h3 h4 r => kk v F' H' ((f0.trans f1).trans st.ff) ((S1.call1 hj st h2 h3 h4).drop 0) r⟩⟩
end
end TL

namespace TL
open PySem PySem.Spec PyProof.Rows L2
open Enc
/-! ### zip of a tuple and a list -/
/-- the tuple at a, the list at b, as they stand at each turn -/
def ItMxi (K : Fg) (a b : Addr) : It :=
  ⟨fun i H => ∃ (xs ys : List V) (x y : V), (SqT K H a xs ∧ SqL K H b ys) ∧ xs[i]? = some x ∧ ys[i]? = some y,
    fun i H v H' => ∃ T x y, (v = .ref T ∧ H T = none ∧ H' = upd H T (.tup [x, y])) ∧ (∀ xs, SqT K H a xs → xs[i]? = some x) ∧ ∀ ys, SqL K H b ys → ys[i]? = some y,
    fun i H => ∃ xs ys : List V, (SqT K H a xs ∧ SqL K H b ys) ∧ i ≤ xs.length ∧ i ≤ ys.length ∧ (xs.length = i ∨ ys.length = i)⟩
def mxiSt (z TI TO i1 i2 a b : Addr) (i : Nat) (h : Heap) : Prop := (IsZip h z TI TO .none ∧ IsPair h TI (.ref i1) (.ref i2)) ∧ (∃ x y, IsPair h TO x y) ∧ h.IsTupleIter i1 a i ∧ h.IsListIter i2 b i
theorem turn_mxi {P : Program} {w : World} {K : Fg} {elts : List Expr} {kk : Nat} {tpos : Pos} {a b z TI TO i1 i2 : Addr} (D : ZipApart z TI TO i1 i2 a b) :
    Turn P w K (.Tuple elts kk tpos) (ItMxi K a b) [z, TI, TO, i1, i2] z (mxiSt z TI TO i1 i2 a b) := by
  have sep := sep_mix D
  refine ⟨by simp, fun i h st c hc => ?_, fun i h h' st k => ?_, ?_, ?_, fun A i s Q E st q => wpAny_pyIter_zip st.1.1 q⟩
  · obtain ⟨⟨q1, q2⟩, ⟨x, y, q3⟩, ⟨o1, e1, _, d1⟩, o2, e2, _, d2⟩ := st
    rcases five hc with rfl | rfl | rfl | rfl | rfl
    · exact ⟨_, q1, fun v => nofun⟩
    · exact ⟨_, q2, fun v => nofun⟩
    · exact ⟨_, q3, fun v => nofun⟩
    · exact ⟨_, e1, fun v e => nomatch d1.symm.trans e⟩
    · exact ⟨_, e2, fun v e => nomatch d2.symm.trans e⟩
  · obtain ⟨⟨q1, q2⟩, ⟨x, y, q3⟩, q4, q5⟩ := st
    exact ⟨⟨k z (by simp) _ q1, k TI (by simp) _ q2⟩, ⟨x, y, k TO (by simp) _ q3⟩, q4.at fun o => k i1 (by simp) o, q5.at fun o => k i2 (by simp) o⟩
  · rintro X rfl rfl rfl hc i pins s σ H E I hf st ⟨xs, ys, x, y, ⟨hqx, hqy⟩, hx, hy⟩
    obtain ⟨⟨q1, q2⟩, ⟨x0, y0, q3⟩, q4, q5⟩ := st
    obtain ⟨its, rv, p, _⟩ := I.tuple hqx
    obtain ⟨its2, rv2, p2, _⟩ := I.list hqy
    obtain ⟨u, hu, ru⟩ := rv.get hx
    obtain ⟨u2, hu2, ru2⟩ := rv2.get hy
    have zlt : z < s.heap.objs.size := Heap.lt_size q1
    have hh : X.A.in1.handled = none := I.ok.hd hc
    refine wpAny_pyNext_zipD2_item sep (Draws.tuple hh i1 a D.l1i1 its.toArray) (Draws.list hh i2 b D.l2i2 its2.toArray) q1 q2 q3 ⟨q4, p⟩ ⟨q5, p2.isList⟩ (by simpa using (List.getElem?_eq_some_iff.mp hu).1) (by simpa using (List.getElem?_eq_some_iff.mp hu2).1) fun x1 x2 h' tk e1 e2 z' TO' n1 n2 hT hsz hk => ?_
    have ex1 : x1 = u := Option.some.inj (e1.symm.trans (by simpa using hu))
    have ex2 : x2 = u2 := Option.some.inj (e2.symm.trans (by simpa using hu2))
    subst ex1
    subst ex2
    refine ⟨_, rfl, wpAny_letOwnedTupleGo_zip (s := { s with heap := h', toks := tk }) z' fun h2 z2 sb => ?_⟩
    have hT2 : h2.get? s.heap.objs.size = some { cls := .type "tuple", data := .seq #[x1, x2] } := (sb.2 _ (Nat.ne_of_gt zlt)).trans hT
    have new : ObjOk X.prog X.w (upd H s.heap.objs.size (.tup [x, y])) h2 s.heap.objs.size (.tup [x, y]) := ⟨by show 2 ≤ sizeLine; decide, [x1, x2], .cons ru (.cons ru2 .nil), ⟨_, hT2, rfl, _, rfl⟩⟩
    have I1 : Inv X pins σ (upd H s.heap.objs.size (.tup [x, y])) { s with heap := h2, toks := tk } := I.turnedNew (t' := tk) (ch := [z, TI, TO, i1, i2]) (fun c o hb q => by
      obtain ⟨c1, c2, c3, c4⟩ := out5 hb
      exact (sb.2 c c1).trans (hk c o c1 c2 c3 c4 q)) hf (Nat.le_refl _) new
    refine ⟨.ref s.heap.objs.size, _, I1, rfl, ⟨_, x, y, ⟨rfl, I.hok.fresh (Nat.le_refl _), rfl⟩, fun l hl => by rw [I.tuple_inj hl hqx]; exact hx, fun l hl => by rw [I.list_inj hl hqy]; exact hy⟩, ⟨⟨z2, ?_⟩, ⟨x1, x2, ?_⟩, ?_, ?_⟩, fun c hcm => ?_⟩
    · exact (sb.2 TI D.TIz).trans (hk TI _ D.TIz D.TITO D.TIi1 D.TIi2 q2)
    · exact (sb.2 TO D.TOz).trans TO'
    · exact n1.1.at fun o q => (sb.2 i1 D.i1z).trans q
    · exact n2.1.at fun o q => (sb.2 i2 D.i2z).trans q
    · have hlt : c < s.heap.objs.size := by
        rcases five hcm with rfl | rfl | rfl | rfl | rfl
        · exact zlt
        · exact Heap.lt_size q2
        · exact Heap.lt_size q3
        · obtain ⟨_, e, _⟩ := q4; exact Heap.lt_size e
        · obtain ⟨_, e, _⟩ := q5; exact Heap.lt_size e
      rw [upd_ne (Nat.ne_of_lt hlt)]
      exact (hf c hcm).1
  · rintro X rfl rfl rfl hc i pins s σ H E I hf st ⟨xs, ys, ⟨hqx, hqy⟩, l1, l2, hend⟩
    obtain ⟨⟨q1, q2⟩, ⟨x0, y0, q3⟩, q4, q5⟩ := st
    obtain ⟨its, rv, p, _⟩ := I.tuple hqx
    obtain ⟨its2, rv2, p2, _⟩ := I.list hqy
    have e1 := rv.length
    have e2 := rv2.length
    have hh : X.A.in1.handled = none := I.ok.hd hc
    refine wpAny_pyNext_zipD2_end sep (Draws.tuple hh i1 a D.l1i1 its.toArray) (Draws.list hh i2 b D.l2i2 its2.toArray) q1 q2 q3 ⟨q4, p⟩ ⟨q5, p2.isList⟩ (by simp; omega) (by simp; omega) (by simp; omega) fun h' tk hk => ?_
    refine ⟨rfl, I.turnedL (t' := tk) (ch := [z, TI, TO, i1, i2]) (fun c o hb q => ?_) hf⟩
    obtain ⟨c1, c2, c3, c4⟩ := out5 hb
    exact hk c o c1 c2 c3 c4 q
def iMxi (K : Fg) (ta : TA) : TI := fun σ H R => ta σ H fun vs H1 => ∃ a b xs ys, vs = [.ref a, .ref b] ∧ (SqT K H1 a xs ∧ SqL K H1 b ys) ∧ R (ItMxi K a b) H1
theorem k_pi_mxi {X : Cx} (K : Fg) {e e2 : Expr} {ta : TA} {p pos tpos : Pos} {elts : List Expr} {kk : Nat} (hg : Gl X "zip") (hm : X.mg "zip" = none) (ha : PA X [e, e2] ta)
    (hs : starEach [e, e2] X.env = (false, eval e X.env) :: starEach [e2] X.env := by rfl) (hpl : (backTo pos (starEach [e2] X.env)).any (·.1) = false := by rfl) (hK : X.K = K := by rfl) :
    PI X (.Tuple elts kk tpos) (.Call (.Name "zip" p) [e, e2] [] pos) (iMxi K ta) := by
  subst hK
  refine ⟨fun pins s σ H R I h => ?_⟩
  refine Call_ (ld_blt I hg hm PyProof.Rows.boot_zip (PyProof.Rows.callWith_type1 (thn (ha.run pos pins s σ H _ I h) fun us s1 ⟨vs, H1, I1, r1, q1⟩ => ?_) hs hpl))
  obtain ⟨a, b, xs, ys, ex, ⟨hqx, hqy⟩, q⟩ := q1
  subst ex
  cases r1 with
  | cons r rr =>
   cases rr with
   | cons r' rr =>
    cases rr
    cases r
    cases r'
    obtain ⟨its, rv, p1, _⟩ := I1.tuple hqx
    obtain ⟨its2, rv2, p2, _⟩ := I1.list hqy
    obtain ⟨o2, ho2, p3⟩ := id p1
    have lt1 := Heap.lt_size ho2
    have lt2 := p2.lt
    refine zip_begins2 (begins_tuple a its.toArray) (begins_list b its2.toArray) p1 p2.isList fun h' hz hTI hTO g1 g2 hsz hk => wpAny_pyIter_zip hz ?_
    have I2 : Inv X pins σ H1 { s1 with heap := h' } := I1.kept (t' := s1.toks) hk
    refine ⟨s1.heap.objs.size + 4, [s1.heap.objs.size + 4, s1.heap.objs.size + 2, s1.heap.objs.size + 3, s1.heap.objs.size, s1.heap.objs.size + 1], _, _, H1, rfl, I2, turn_mxi (PySem.W.ktu_apart s1.heap.objs.size a b lt1 lt2), ⟨⟨hz, hTI⟩, ⟨_, _, hTO⟩, ⟨_, g1, rfl, rfl⟩, ⟨_, g2, rfl, rfl⟩⟩, fun c hcm => ?_, q⟩
    have hle : s1.heap.objs.size ≤ c := by
      rcases five hcm with rfl | rfl | rfl | rfl | rfl
      · exact Nat.le_add_right _ _
      · exact Nat.le_add_right _ _
      · exact Nat.le_add_right _ _
      · exact Nat.le_refl _
      · exact Nat.le_add_right _ _
    exact I1.fpOk hle (I1.hok.fresh hle)
section
variable {K : Fg} {ta tb : TE} {ρ : List Sl} {O O1 O2 : Os}
theorem ri_mxi {ys zs : List PyData} (h : RX K ta ρ O (.tuple ys) O1) (h' : RX K tb ρ O1 (.list zs) O2) : RI K (iMxi K (tCons ta (tCons tb tNil))) ρ O (zipD ys zs) O2 := ⟨fun F0 H0 D0 σ F H R E S k => by
    refine h.go E S fun x F1 H1 f1 E1 S1 r1 => h'.go E1 S1 fun y F2 H2 f2 E2 S2 r2 => ?_
    have r1' := r1.up f2
    cases r1' with
    | @tup a xs _ q1 q2 q3 =>
     cases r2 with
     | @lst b ws _ p1 p2 p3 =>
      have s1 : ∀ {G0 J0 : Hp} {D1 : List Addr} {F : Hp} {O : Os} {H : Hp}, Same F2 F → Hx K G0 J0 D1 F O H → SqT K H a xs ∧ SqL K H b ws := fun f S => ⟨same_t (f.trans S.fh) q1, (f.trans S.fh).seq p1⟩
      refine ⟨a, b, xs, ws, rfl, s1 (Same.refl _) S2, ?_⟩
      have hl : (zipD ys zs).length = min xs.length ws.length := by unfold zipD; rw [List.length_map, List.length_zip, q3.length, p3.length]
      refine k _ F2 H2 (f1.trans f2) S2 ⟨by omega, fun _ _ _ F O H i hi f S => ?_, fun _ _ _ F O H f S => ⟨xs, ws, s1 f S, by omega, by omega, by omega⟩, fun _ _ _ F O H i x H' hi f S y => ?_⟩
      · have h1 : i < xs.length := by omega
        have h2 : i < ws.length := by omega
        exact ⟨xs, ws, xs[i], ws[i], s1 f S, by simp [h1], by simp [h2]⟩
      · obtain ⟨T, u, v, ⟨eu, hT, eT⟩, y1, y2⟩ := y
        subst eu
        subst eT
        obtain ⟨d, e, r⟩ := (q3.up f).getV (y1 xs (s1 f S).1)
        obtain ⟨d', e', r'⟩ := (p3.up f).getV (y2 ws (s1 f S).2)
        obtain ⟨F3, f3, S3, r3⟩ := pair_put S hT r r'
        refine ⟨F3, _, f3, S3, ?_, r3⟩
        unfold zipD
        have ez : (ys.zip zs)[i]? = some (d, d') := List.getElem?_zip_eq_some.mpr ⟨e, e'⟩
        rw [List.getElem?_map, ez]
        rfl⟩
theorem ri_mxiM {α β : Type} [Enc α] [Enc β] {xs : List α} {ys : List β} (h : RX K ta ρ O (.tuple (xs.map enc)) O1) (h' : RX K tb ρ O1 (.list (ys.map enc)) O2) : RI K (iMxi K (tCons ta (tCons tb tNil))) ρ O ((xs.zip ys).map enc) O2 := by
  have e : (xs.zip ys).map enc = zipD (xs.map enc) (ys.map enc) := by
    unfold zipD
    rw [List.zip_map, List.map_map]
    rfl
  rw [e]
  exact ri_mxi h h'
end
end TL
namespace PySem
open PyProof.Rows
section
variable {prog : Program} {w : World} {A : Around} {E : Value → Shared → Prop} {s : Shared} {l : Addr} {xs : Array (Int × Tok)}
theorem sum_intTupG {Q : Value → Shared → Prop} (hh : A.handled = none) (hl : s.heap.IsTuple l (intItems xs))
    (h : ∀ h' tk t', (∀ b o, s.heap.get? b = some o → h'.get? b = some o) → Q (.int (preSum (numAt xs) xs.size) t') { s with heap := h', toks := tk }) :
    wpAny (model prog w) A (call (.builtin "sum") [.ref l]) Q E s := by
  have hlt : l < s.heap.objs.size := by obtain ⟨o, e, _⟩ := hl; exact Heap.lt_size e
  refine call_sum_walkG (wpAny_pyIter_tuple hl ?_)
  refine ⟨_, [s.heap.objs.size, l], [_], _, _, _, numAt xs, rfl, Walks.tuple (A := A.in1) hh _ l (Nat.ne_of_lt hlt) (intItems xs), ⟨⟨_, Heap.get?_push_size _ rfl, rfl, rfl⟩, hl.push _⟩, fun c hc => ?_, fun _ _ => intItems_at, fun h' tk t' hk => ?_⟩
  · show c < (s.heap.push _).objs.size
    rw [Heap.size_push]
    rcases List.mem_cons.mp hc with rfl | hc
    · exact Nat.lt_succ_self _
    · rcases List.mem_cons.mp hc with rfl | hc
      · exact Nat.lt_succ_of_lt hlt
      · cases hc
  · have := h h' tk t' fun b o e => hk b o (fun hm => by
      rcases List.mem_cons.mp hm with e1 | hm
      · have := Heap.lt_size e; rw [e1] at this; exact Nat.lt_irrefl _ this
      · cases hm) (Heap.get?_push_of_some _ e)
    simpa [intItems] using this
end
end PySem
namespace L2
open PySem PyProof.Rows
section
variable {prog : Program} {w : World} {A : Around} {E : Value → Shared → Prop} {s : Shared} {l : Addr} {its : List Value} {ns : List Int} {Q : Value → Shared → Prop}
theorem sum_rawT (hh : A.handled = none) (hl : s.heap.IsTuple l its.toArray) (hi : IntsAre its ns)
    (h : ∀ h' tk t', (∀ b o, s.heap.get? b = some o → h'.get? b = some o) → Q (.int ns.sum t') { s with heap := h', toks := tk }) : wpAny (model prog w) A (call (.builtin "sum") [.ref l]) Q E s := by
  obtain ⟨xs, e⟩ := hi.allInts.items
  have hn : numsOf (intItems xs).toList = ns := by rw [← e]; exact hi.numsOf
  rw [nums_intItems] at hn
  rw [e] at hl
  refine PySem.sum_intTupG hh hl fun h' tk t' hk => ?_
  have := h h' tk t' hk
  rw [preSum_eq, List.take_of_length_le (by simp), hn]; exact this
end
def rSumT (K : PySem.W.Frag) : List V → Hp → VK → Prop := fun vs H Q => ∃ (a : Addr) (ns : List Int), vs = [V.ref a] ∧ SqT K H a (ns.map V.int) ∧ Q (.int ns.sum) H
theorem cr_sumT {X : Cx} (hc : X.calm = true) : CallR X (.builtin "sum") (rSumT X.K) := by
  intro pins s σ H vs us Q I r h
  obtain ⟨a, ns, rfl, hs, q⟩ := h
  obtain ⟨its, rv, hl, _⟩ := I.tuple hs
  rw [Vals.ref1 r]
  exact sum_rawT (I.ok.hd hc) hl rv.ints fun h' tk t' hk => ⟨.int _, H, I.kept hk, ⟨_, rfl⟩, q⟩
end L2
namespace TL
open PySem L2
open Enc
theorem k_sumT {X : Cx} (K : Fg) (hc : X.calm = true) (hK : X.K = K := by rfl) : CallR X (.builtin "sum") (rSumT K) := by subst hK; exact cr_sumT hc
section
variable {K : Fg} {ta tb tc : TE} {ρ : List Sl} {O O1 O2 : Os} {F0 H0 F H : Hp} {D0 : List Addr} {σ : L2.St}
theorem rx_sumT {ns : List Int} (ha : RX K ta ρ O (.tuple (ns.map .int)) O1) : RX K (tCB (rSumT K) (tCons ta tNil)) ρ O (.int ns.sum) O1 := ⟨fun _ _ _ _ _ _ Q E S k => ha.go E S fun x F1 H1 f1 E1 S1 r1 => by
  cases r1 with
  | tup q1 q2 q3 =>
    have e := q3.ints
    subst e
    exact ⟨_, ns, rfl, same_t S1.fh q1, k _ F1 H1 f1 S1 (.int _)⟩⟩
/-! ### a written dict of reckoned ints by texts -/
inductive RPs (K : Fg) (ρ : List Sl) (O : Os) : List (TE × TE) → List (Str × Int) → Prop
  | nil : RPs K ρ O [] []
  | cons {x : Str} {i : Int} {tv : TE} {trs : List (TE × TE)} {kvs : List (Str × Int)} : RX K tv ρ O (.int i) O → RPs K ρ O trs kvs → RPs K ρ O ((tC (.str x), tv) :: trs) ((x, i) :: kvs)
theorem RPs.run {trs : List (TE × TE)} {kvs : List (Str × Int)} (h : RPs K ρ O trs kvs) : ∀ {F0 H0 : Hp} {D0 : List Addr} {F H : Hp} {Q : List (V × V) → Hp → Prop}, EnvR K F σ ρ → Hx K F0 H0 D0 F O H →
    (∀ F' H', Same F F' → Hx K F0 H0 D0 F' O H' → Q (kvs.map fun p => (V.str p.1, V.int p.2)) H') → tPairs trs σ H Q := by
  induction h with
  | nil => intro F0 H0 D0 F H Q E S k; exact k F H (Same.refl _) S
  | @cons x i tv trs kvs h1 _ ih =>
    intro F0 H0 D0 F H Q E S k
    show tC (.str x) σ H fun y H1 => tv σ H1 fun z H2 => tPairs trs σ H2 fun ps H3 => Q ((y, z) :: ps) H3
    refine h1.go E S fun v F1 H1 f1 E1 S1 r1 => ?_
    cases r1
    exact ih E1 S1 fun F2 H2 f2 S2 => k F2 H2 (f1.trans f2) S2
theorem merge_go (kvs : List (Str × Int)) : ∀ acc : List (Str × Int), ((acc ++ kvs).map (·.1)).Nodup → mergeK (litV acc) (litV kvs) = litV (acc ++ kvs) := by
  induction kvs with
  | nil => intro acc _; rw [List.append_nil]; rfl
  | cons p kvs ih =>
    intro acc h
    have e : putK (litV acc) (Sum.inr p.1 : Key) (V.int p.2) = litV (acc ++ [p]) := by
      unfold putK
      rw [if_neg]
      · unfold litV; rw [List.map_append]; rfl
      · intro z
        obtain ⟨q, hq, e⟩ := List.any_eq_true.mp z
        obtain ⟨a, ha, rfl⟩ := List.mem_map.mp hq
        have e : (Sum.inr a.1 : Key) = Sum.inr p.1 := of_decide_eq_true e
        have e : a.1 = p.1 := Sum.inr.inj e
        rw [List.map_append, List.nodup_append] at h
        exact h.2.2 a.1 (List.mem_map.mpr ⟨a, ha, rfl⟩) p.1 (by simp) e
    show mergeK (putK (litV acc) (Sum.inr p.1 : Key) (V.int p.2)) (litV kvs) = _
    rw [e, ih (acc ++ [p]) (by rw [List.append_assoc]; exact h), List.append_assoc]
    rfl
theorem EnvR.dii {i : Nat} {kvs : List (Str × Int)} (h : EnvR K F σ ρ) (e : ρ[i]? = some (.dii kvs)) : ∃ t, σ[i]? = some (some (.ref t)) ∧ F t = some (.dK (litI kvs)) := by
  obtain ⟨s, h1, t, rfl, h2⟩ := h.at e
  exact ⟨t, h1, h2⟩
variable {D : Ends}
theorem st_setDI {i : Nat} {trs : List (TE × TE)} {kvs : List (Str × Int)} (h : RPs K ρ O trs kvs) (hl : kvs.length ≤ 15) (hm : (kvs.map (·.1)).Nodup) (E : EnvR K F σ ρ) (S : Hx K F0 H0 D0 F O H)
    (k : ∀ σ' F' H', Same F F' → EnvR K F' σ' (ρ.set i (.dii kvs)) → Hx K F0 H0 D0 F' O H' → D.nx σ' H') : tAsg (tDisp trs) (gName i) D σ H := by
  intro p hp
  have hF := S.nof hp
  have h0 := S.noh0 hp
  have hO : ∀ e ∈ O, e.a ≠ p := fun e he q => by
    obtain ⟨vs, g4⟩ := S.ownL he
    rw [q, hp] at g4
    cases g4
  obtain ⟨H1, D1, Sf, kp, back⟩ := (S.junk (o := .dK []) hp).fr2
  obtain ⟨ka, kb⟩ := kp p _ upd_same hO
  refine h.run E Sf fun F2 H2 f2 S2 => ?_
  have d2 := S2.keep p _ ka kb
  have n2 := S2.new p _ ka hF
  have S2 := back _ _ _ S2
  refine ⟨d2, litI kvs, ?_, ?_, ?_⟩
  · unfold litI; rw [List.map_map]; rfl
  · unfold litI; rw [List.length_map]; exact hl
  · have e : mergeK [] (litI kvs) = litI kvs := merge_go kvs [] hm
    rw [e]
    have S3 := (S2.hold (o := .dK (litI kvs)) n2 h0 hO).pin n2 h0 hO upd_same
    have f3 := same_upd (o := .dK (litI kvs)) n2
    exact k _ _ _ (f2.trans f3) (EnvR.set (s := some (.ref p)) (r := .dii kvs) ⟨p, rfl, upd_same⟩ i (E.up (f2.trans f3))) S3
/-- d.get(k, x) -/
theorem rx_dii {i : Nat} {kvs : List (Str × Int)} {x : Str} {d : Int} (hs : ρ[i]? = some (.dii kvs)) (hk : RX K tb ρ O (.str x) O1) (hd : RX K tc ρ O1 (.int d) O2) : RX K (tDGet2 (tVar i) tb tc) ρ O (.int ((dlit kvs x).getD d)) O2 := ⟨fun _ _ _ _ _ _ Q E S kk => by
  obtain ⟨t, h1, h2⟩ := E.dii hs
  refine ⟨_, h1, t, rfl, .inl ⟨_, .inl (S.fh _ _ h2)⟩, hk.go E S fun y F1 H1 f1 E1 S1 r1 => hd.go E1 S1 fun z F2 H2 f2 E2 S2 r2 => ?_⟩
  cases r1
  cases r2
  have hp2 : H2 t = some (.dK (litV kvs)) := S2.fh _ _ (f2 _ _ (f1 _ _ h2))
  refine ⟨_, DGet.k (k := Sum.inr x) hp2, ?_⟩
  rw [valV_lit]
  have e : (((dlit kvs x).map V.int).getD (V.int d)) = V.int ((dlit kvs x).getD d) := by cases dlit kvs x <;> rfl
  rw [e]
  exact kk _ F2 H2 (f1.trans f2) S2 (.int _)⟩
end
end TL

namespace TL
open PySem L2
open Enc
/-! ### answers of bears, read -/
def ansHd : Ans → Str
  | .a1 s => s
  | .a3 s _ _ => s
def ansT : Ans → Option (Tp Int)
  | .a1 _ => none
  | .a3 _ t _ => some t
def ansN : Ans → Option (Option Int)
  | .a1 _ => none
  | .a3 _ _ n => some n
def ansLen : Ans → Int
  | .a1 _ => 1
  | .a3 _ _ _ => 3
section
variable {K : Fg} {ta : TE} {ρ : List Sl} {O O1 : Os}
theorem rx_ans0 {a : Ans} (h : RX K ta ρ O (enc a) O1) : RX K (tOp (rIxT K) ta (tC (.int 0))) ρ O (.str (ansHd a)) O1 := by
  cases a with
  | a1 s => exact rx_ixT (ds := [.str s]) rfl h rx_int
  | a3 s t n => exact rx_ixT (ds := [.str s, enc t, enc n]) rfl h rx_int
theorem rx_ans1 {a : Ans} {t : Tp Int} (e : ansT a = some t) (h : RX K ta ρ O (enc a) O1) : RX K (tOp (rIxT K) ta (tC (.int 1))) ρ O (enc t) O1 := by
  cases a with
  | a1 s => cases e
  | a3 s t' n =>
    cases e
    exact rx_ixT (ds := [.str s, enc t, enc n]) rfl h rx_int
theorem rx_ans2 {a : Ans} {n : Option Int} (e : ansN a = some n) (h : RX K ta ρ O (enc a) O1) : RX K (tOp (rIxT K) ta (tC (.int 2))) ρ O (enc n) O1 := by
  cases a with
  | a1 s => cases e
  | a3 s t' n' =>
    cases e
    exact rx_ixT (ds := [.str s, enc t', enc n]) rfl h rx_int
theorem rx_ansLen {a : Ans} (h : RX K ta ρ O (enc a) O1) : RX K (tCB (rLenQ K) (tCons ta tNil)) ρ O (.int (ansLen a)) O1 := by
  cases a with
  | a1 s => exact rx_lenT (ds := [.str s]) h
  | a3 s t n => exact rx_lenT (ds := [.str s, enc t, enc n]) h
theorem rx_isiA {a : Ans} {c : String} {r : Bool} (ha : RX K ta ρ O (enc a) O1) (h : kitB "tuple" c = some r) : RX K (tCB (rIsi K) (tCons ta (tCons (tC (.ty c)) tNil))) ρ O (.bool r) O1 := by
  cases a with
  | a1 s => exact rx_isi ha (kit_at (t := "tuple") rfl h)
  | a3 s t n => exact rx_isi ha (kit_at (t := "tuple") rfl h)
end
instance : EqD (Option (Tp Int)) := ⟨fun _ => true, fun x y => by
  cases x with
  | none =>
    cases y with
    | none => simp [enc, encO, PyData.eqv]
    | some b => simp [enc, encO, PyData.eqv]
  | some a =>
    cases y with
    | none => simp [enc, encO, PyData.eqv]
    | some b =>
      show PyData.eqv (enc a) (enc b) = _
      rw [EqD.eqv]
      exact decide_eq_decide.mpr ⟨fun h => congrArg some h, fun h => Option.some.inj h⟩, EqD.dp (Tp Int), fun x => by
  cases x with
  | none => exact Nat.zero_le _
  | some a => exact EqD.dep a, fun x _ => by
  cases x with
  | none => rfl
  | some a => exact EqD.lay a (EqT.ok a)⟩
instance : EqT (Option (Tp Int)) := ⟨fun _ => rfl⟩
/-! ### an own list is walked within a comprehension -/
section
variable {K : Fg} {ρ : List Sl} {O : Os} {α β : Type} {eα : α → PyData} {eβ : β → PyData} {g : TG} {tt : TT} {te : TE} {vs : List Nat} {xs : List α}
theorem rxo_filtW {i j : Nat} {a : Addr} {nw : Bool} {p : α → Option Bool} {f : α → Option β} {zs : List β} (ρx : α → List Sl) (ts : List Nat) (hs : ρ[i]? = some (.adr a)) (ho : O[j]? = some ⟨a, nw, xs.map eα⟩) (hf : filtO p f xs = some zs) (hts : ∀ t ∈ ts, t ∈ vs)
    (hg : ∀ x ∈ xs, RG K g (eα x) (wipeS ρ vs) (ρx x) ts) (ht : ∀ x ∈ xs, ∀ b, p x = some b → ∀ D acc, RT K tt (ρx x) (⟨D, true, acc⟩ :: O) b (⟨D, true, acc⟩ :: O))
    (he : ∀ x ∈ xs, ∀ y, f x = some y → ∀ D acc, RX K te (ρx x) (⟨D, true, acc⟩ :: O) (eβ y) (⟨D, true, acc⟩ :: O)) : RXo K (tLc (iList K (tVar i)) g tt te vs) ρ O (zs.map eβ) O := ⟨fun F0 H0 D0 σ F1 H1 Q E1 S1 k => by
  have ha := E1.adr hs
  obtain ⟨_, _, _, us0, k4, k5, k6⟩ := S1.get ho
  refine ⟨_, ha, a, rfl, ⟨us0, SqL.of k4⟩, ?_⟩
  have hlx : us0.length = xs.length := by
    have k6 : RpAll K F1 us0 (xs.map eα) := k6
    rw [k6.length, List.length_map]
  intro D hD
  have W : Walk (Itl K a) xs.length (fun H => ∃ F, ∃ acc : List PyData, Same F1 F ∧ Hx K F0 H0 D0 F (⟨D, true, acc⟩ :: O) H) (fun i H x H' => H' = H ∧ ∀ F, ∀ acc : List PyData, Same F1 F → Hx K F0 H0 D0 F (⟨D, true, acc⟩ :: O) H → ∃ y, xs[i]? = some y ∧ Rp K F x (eα y)) := by
    have own : ∀ {F : Hp} {acc : List PyData} {H : Hp}, Hx K F0 H0 D0 F (⟨D, true, acc⟩ :: O) H → ∃ us, SqL K H a us ∧ RpAll K F us (xs.map eα) := fun {F acc H} S => by
      obtain ⟨_, _, _, us, g4, _, g6⟩ := S.get (j := j + 1) ho
      exact ⟨us, SqL.of g4, g6⟩
    refine ⟨fun i H hi q => ?_, fun H q => ?_, fun i H x H' hi _ y => ?_⟩
    · obtain ⟨F, acc, f, S⟩ := q
      obtain ⟨us, h1, h2⟩ := own S
      have hu : i < us.length := by rw [h2.length, List.length_map]; exact hi
      exact ⟨us, us[i], h1, List.getElem?_eq_getElem hu⟩
    · obtain ⟨F, acc, f, S⟩ := q
      obtain ⟨us, h1, h2⟩ := own S
      exact ⟨us, h1, by rw [h2.length, List.length_map]; exact Nat.le_refl _⟩
    · obtain ⟨e, y⟩ := y
      refine ⟨e, fun F acc f S => ?_⟩
      obtain ⟨us, h1, h2⟩ := own S
      obtain ⟨d, e1, r⟩ := h2.getV (y us h1)
      rw [List.getElem?_map] at e1
      cases e2 : xs[i]? with
      | none => rw [e2] at e1; cases e1
      | some z =>
        rw [e2] at e1
        have e3 : eα z = d := Option.some.inj e1
        subst e3
        exact ⟨z, rfl, r⟩
  refine lc_it W (fun i H => ∃ F, ∃ acc : List PyData, ∃ zr, Same F1 F ∧ Hx K F0 H0 D0 F (⟨D, true, acc⟩ :: O) H ∧ filtO p f (xs.drop i) = some zr ∧ acc ++ zr.map eβ = zs.map eβ ∧ acc.length ≤ i) ⟨F1, [], zs, Same.refl _, S1.mine hD (Nat.zero_le _) .nil, hf, rfl, Nat.le_refl _⟩
    (fun i H _ q => by obtain ⟨F, acc, zr, q1, q2, _⟩ := q; exact ⟨F, acc, q1, q2⟩) (fun i x H H' hi q y => ?_) (fun H q => ?_)
  · obtain ⟨F, acc, zr, q1, q2, q3, q4, q5⟩ := q
    obtain ⟨eH, y⟩ := y
    subst eH
    obtain ⟨z, ez, rz⟩ := y F acc q1 q2
    have hm : z ∈ xs := List.mem_of_getElem? ez
    have hi' : xs[i] = z := by
      rw [List.getElem?_eq_getElem hi] at ez
      exact Option.some.inj ez
    rw [List.drop_eq_getElem_cons hi, hi'] at q3
    obtain ⟨b, eb, q3⟩ := bindE q3
    refine (hg z hm).run _ F H' x _ ((E1.wipe vs).up q1) rz q2.fh fun σ' E' wq => ⟨(wq vs hts).trans (wipe_wipe σ vs), (ht z hm b eb D acc).go E' q2 fun F3 H3 f3 E3 S3 => ?_⟩
    cases b with
    | true =>
      have q3 : ((f z).bind fun y => (filtO p f (xs.drop (i + 1))).bind fun ys => some (y :: ys)) = some zr := q3
      obtain ⟨v, ev, q3⟩ := bindE q3
      obtain ⟨zr', ezr, q3⟩ := bindE q3
      obtain rfl := Option.some.inj q3
      refine iteT ((he z hm v ev D acc).go E3 S3 fun u F4 H4 f4 E4 S4 r4 => ?_)
      obtain ⟨g1, g2, g3, us, g4, g5, g6⟩ := S4.get (j := 0) rfl
      have g4' : H4 D = some (.lst us) := g4
      have gl : us.length = acc.length := RpAll.length g6
      have hlt : us.length < sizeLine := by omega
      refine ⟨us, g4', hlt, F4, acc ++ [eβ v], zr', (q1.trans f3).trans f4, ?_, ezr, ?_, ?_⟩
      · exact S4.mut (j := 0) (l := D) (nw := true) (ds := acc) (ds' := acc ++ [eβ v]) rfl (by rw [List.length_append, List.length_singleton]; omega) (RpAll.append g6 (.cons r4 .nil))
      · rw [← q4, List.map_cons, List.append_assoc]
        rfl
      · rw [List.length_append, List.length_singleton]; omega
    | false =>
      have q3 : filtO p f (xs.drop (i + 1)) = some zr := q3
      exact iteF ⟨F3, acc, zr, q1.trans f3, S3, q3, q4, by omega⟩
  · obtain ⟨F, acc, zr, q1, q2, q3, q4, q5⟩ := q
    rw [List.drop_length] at q3
    have q3 : (some [] : Option (List β)) = some zr := q3
    obtain rfl := Option.some.inj q3
    rw [List.map_nil, List.append_nil] at q4
    rw [← q4] at k
    exact k D F H q1 q2⟩
end
end TL
namespace TL
open PySem L2
open Enc
/-! ### a list of two unlike things -/
structure L2p (α β : Type) where
  a : α
  b : β
  deriving DecidableEq
@[reducible] instance {α β : Type} [Enc α] [Enc β] : Enc (L2p α β) := ⟨fun p => .list [enc p.a, enc p.b]⟩
section
variable {K : Fg} {ta : TE} {ρ ρ' : List Sl} {O O1 : Os}
theorem rg_lst {gs : TGs} {n : Nat} {ds : List PyData} {ts : List Nat} (h : RGs K gs ds ρ ρ' ts) (hn : ds.length = n := by rfl) : RG K (gLst K n gs) (.list ds) ρ ρ' ts := ⟨fun σ F H v Q E r f k => by
  cases r with
  | lst q1 q2 q3 => exact ⟨_, _, rfl, f.seq q1, by rw [q3.length, hn], h.run σ F H _ Q E q3 f k⟩⟩
theorem rx_to {d e : PyData} (q : d = e) (h : RX K ta ρ O d O1) : RX K ta ρ O e O1 := q ▸ h
end
end TL

/-! sorted(set(t)) of a tuple of ints -/
namespace L2
open PySem PySem.Spec PyProof.Rows
def tSortSet (K : PySem.W.Frag) (ta : TE) : TE := fun σ H Q => ta σ H fun x H1 => ∃ (p : Addr) (ns : List Int), x = V.ref p ∧ SqT K H1 p (ns.map V.int) ∧ ns.length < 64 ∧ ∀ (out : List Int) (q : Addr), out.Pairwise (· < ·) → (∀ k : Int, k ∈ out ↔ k ∈ ns) → H1 q = none → Q (.ref q) (upd H1 q (.lst (out.map V.int)))
section
variable {X : Cx}
theorem pe_sortSet {a : Expr} {ta : TE} {p p2 q pos : Pos} (hc : X.calm = true) (hg : Gl X "sorted") (hm : X.mg "sorted" = none) (hg2 : Gl X "set") (hm2 : X.mg "set" = none) (ha : PE X a ta)
    (na : starEach [a] X.env = (false, eval a X.env) :: starEach [] X.env := by rfl) : PE X (.Call (.Name "sorted" p) [.Call (.Name "set" p2) [a] [] q] [] pos) (tSortSet X.K ta) := by
  refine ⟨fun pins s σ H Q I h => ?_⟩
  refine Call_ (ld_blt I hg hm PyProof.Rows.boot_sorted ?_)
  refine PyProof.Rows.callWith_builtin1 (PyProof.Rows.args_cons ?_ rfl) rfl rfl
  refine Call_ (ld_blt I hg2 hm2 PyProof.Rows.boot_set ?_)
  refine PyProof.Rows.callWith_type1 (PyProof.Rows.args_cons (thn (ha.run pins s σ H _ I h) fun v s1 ⟨x, H1, I1, r1, q1⟩ => PyProof.Rows.args_nil ?_) na) na rfl
  obtain ⟨l, ns, rfl, hq, h64, q1⟩ := q1
  cases r1
  obtain ⟨its, rv, pt, hz⟩ := I1.tuple hq
  have hi : IntsAre its.toArray.toList ns := ints_of_vals rv
  have hd := I1.ok.hd hc
  refine call_set_tupI ns hd (show s1.heap.IsTuple l its.toArray from pt) hi (by unfold scanBound; omega) fun h' tk c R1 hcn k => ?_
  refine PyProof.Rows.args_nil ?_
  have I2 : Inv X pins σ H1 { s1 with heap := h', toks := tk } := I1.kept fun b o e => k b o e
  refine sorted_set R1 hd (by omega) fun s' p out c ns' kk g o hp hg hi' hs hm hl => ?_
  have hlen : (ns'.map V.int).length ≤ sizeLine := by rw [List.length_map, hl, sizeLine_eq]; omega
  have hn : H1 p = none := I2.hok.fresh hp
  have J : Inv X pins σ (upd H1 p (.lst (ns'.map V.int))) { ({ s1 with heap := h', toks := tk } : Shared) with heap := s'.heap, gens := s'.gens, drawn := s'.drawn, toks := s'.toks } :=
    I2.call (ch := []) (Un.laid kk hp hn) (I2.hok.laid kk hp ⟨hlen, out.toList, c, vals_of_ints hi', hg⟩) (by rw [g]; exact I2.bare) (fun _ z => nomatch z)
  have e : s' = { ({ s1 with heap := h', toks := tk } : Shared) with heap := s'.heap, gens := s'.gens, drawn := s'.drawn, toks := s'.toks } := by
    cases s'
    cases s1
    cases o
    rfl
  rw [e]
  exact ⟨.ref p, _, J, rfl, q1 ns' p hs (fun j => (hm j).trans decide_eq_true_iff) hn⟩
end
end L2
namespace TL
open PySem L2
open Enc
/-! ### what is told of it -/
def insI (x : Int) : List Int → List Int
  | [] => [x]
  | y :: ys => if x < y then x :: y :: ys else if x = y then y :: ys else y :: insI x ys
def setI (ns : List Int) : List Int := ns.foldr insI []
theorem mem_insI {x k : Int} : ∀ {l : List Int}, k ∈ insI x l ↔ k = x ∨ k ∈ l
  | [] => by simp [insI]
  | y :: ys => by
    unfold insI
    split
    · simp
    · split
      · rename_i e; subst e; simp
      · rw [List.mem_cons, mem_insI, List.mem_cons]
        constructor
        · rintro (h | h | h)
          · exact Or.inr (Or.inl h)
          · exact Or.inl h
          · exact Or.inr (Or.inr h)
        · rintro (h | h | h)
          · exact Or.inr (Or.inl h)
          · exact Or.inl h
          · exact Or.inr (Or.inr h)
theorem insI_up {x : Int} : ∀ {l : List Int}, l.Pairwise (· < ·) → (insI x l).Pairwise (· < ·)
  | [], _ => List.pairwise_singleton ..
  | y :: ys, h => by
    have h' := List.pairwise_cons.mp h
    unfold insI
    split
    · rename_i c
      refine List.pairwise_cons.mpr ⟨fun k hk => ?_, h⟩
      rcases List.mem_cons.mp hk with e | e
      · rw [e]; exact c
      · have := h'.1 k e; omega
    · split
      · exact h
      · refine List.pairwise_cons.mpr ⟨fun k hk => ?_, insI_up h'.2⟩
        rcases mem_insI.mp hk with e | e
        · omega
        · exact h'.1 k e
theorem mem_setI {k : Int} : ∀ {ns : List Int}, k ∈ setI ns ↔ k ∈ ns
  | [] => Iff.rfl
  | x :: ns => by
    show k ∈ insI x (setI ns) ↔ _
    rw [mem_insI, mem_setI, List.mem_cons]
theorem len_insI (x : Int) : ∀ l : List Int, (insI x l).length ≤ l.length + 1
  | [] => Nat.le_refl _
  | y :: ys => by
    have := len_insI x ys
    unfold insI
    split
    · simp
    · split
      · simp
      · simp; omega
theorem len_setI : ∀ ns : List Int, (setI ns).length ≤ ns.length
  | [] => Nat.le_refl _
  | x :: ns => by
    have := len_setI ns
    have := len_insI x (setI ns)
    show (insI x (setI ns)).length ≤ _
    rw [List.length_cons]
    omega
theorem setI_up : ∀ ns : List Int, (setI ns).Pairwise (· < ·)
  | [] => List.Pairwise.nil
  | x :: ns => insI_up (setI_up ns)
theorem up_same : ∀ {l t : List Int}, l.Pairwise (· < ·) → t.Pairwise (· < ·) → (∀ k, k ∈ l ↔ k ∈ t) → l = t
  | [], [], _, _, _ => rfl
  | [], b :: t, _, _, h => by have := (h b).mpr (List.mem_cons_self ..); cases this
  | a :: l, [], _, _, h => by have := (h a).mp (List.mem_cons_self ..); cases this
  | a :: l, b :: t, hl, ht, h => by
    have hl' := List.pairwise_cons.mp hl
    have ht' := List.pairwise_cons.mp ht
    have e : a = b := by
      rcases List.mem_cons.mp ((h a).mp (List.mem_cons_self ..)) with q | q
      · exact q
      · rcases List.mem_cons.mp ((h b).mpr (List.mem_cons_self ..)) with r | r
        · exact r.symm
        · have := ht'.1 a q
          have := hl'.1 b r
          omega
    subst e
    rw [up_same hl'.2 ht'.2 fun k => ⟨fun q => ?_, fun q => ?_⟩]
    · rcases List.mem_cons.mp ((h k).mp (List.mem_cons_of_mem _ q)) with r | r
      · have := hl'.1 k q; omega
      · exact r
    · rcases List.mem_cons.mp ((h k).mpr (List.mem_cons_of_mem _ q)) with r | r
      · have := ht'.1 k q; omega
      · exact r
def setIO (ns : List Int) : Option (List Int) := if ns.length < 64 then some (setI ns) else none
theorem up_nd {l : List Int} (h : l.Pairwise (· < ·)) : l.Nodup := h.imp fun {a b} q => by omega
section
variable {K : Fg} {ta tb : TE} {ρ : List Sl} {O O1 O2 : Os}
theorem rxo_sortSet {ns r : List Int} (e : setIO ns = some r) (ha : RX K ta ρ O (.tuple (ns.map .int)) O1) : RXo K (tSortSet K ta) ρ O (r.map .int) O1 := ⟨fun _ _ _ _ _ _ Q E S k => ha.go E S fun x F1 H1 f1 E1 S1 r1 => by
  unfold setIO at e
  split at e
  · rename_i h64
    cases e
    cases r1 with
    | tup q1 q2 q3 =>
    have hv := q3.ints
    subst hv
    refine ⟨_, ns, rfl, same_t S1.fh q1, h64, fun out q hs hm hn => ?_⟩
    have e2 := up_same hs (setI_up ns) fun k => (hm k).trans mem_setI.symm
    subst e2
    refine k q F1 _ f1 (S1.mine hn ?_ (RpAll.of_ints _))
    have := len_setI ns
    rw [List.length_map, sizeLine_eq]
    omega
  · cases e⟩
theorem rx_inIQ {x : Int} {xs : Sq Int} {neg : Bool} (ha : RX K ta ρ O (.int x) O1) (hb : RX K tb ρ O1 (enc xs) O2) : RX K (tOp (rIn K neg) ta tb) ρ O (.bool (if neg then !decide (x ∈ xs.l) else decide (x ∈ xs.l))) O2 := by
  obtain ⟨t, l⟩ := xs
  cases t with
  | true => exact rx_inIT ha hb
  | false => exact rx_inI ha (RX.s hb)
end
end TL

namespace TL
open PySem L2
open Enc
/-! ### a tuple so many times -/
def repTO {α : Type} (xs : List α) (k : Int) : Option (List α) := if (1 ≤ xs.length ∧ xs.length ≤ 1000) ∧ 2 ≤ k ∧ k ≤ 1000 then some (List.replicate k.toNat xs).flatten else none
section
variable {K : Fg} {ta tb : TE} {ρ : List Sl} {O O1 O2 : Os}
theorem rx_repT {α : Type} {f : α → PyData} {xs zs : List α} {i : Int} (h : repTO xs i = some zs) (ha : RX K ta ρ O (.tuple (xs.map f)) O1) (hb : RX K tb ρ O1 (.int i) O2) : RX K (tOp (rRepT K) ta tb) ρ O (.tuple (zs.map f)) O2 := ⟨fun _ _ _ _ _ _ Q E S k =>
  ha.go E S fun x F1 H1 f1 E1 S1 r1 => hb.go E1 S1 fun y F2 H2 f2 E2 S2 r2 => by
    have r1' := r1.up f2
    unfold repTO at h
    split at h
    · rename_i hc
      cases h
      cases r2
      cases r1' with
      | @tup _ vs _ q1 q2 q3 =>
        have e1 := q3.length
        rw [List.length_map] at e1
        refine ⟨_, i, vs, rfl, rfl, same_t S2.fh q1, fun z => by rw [z] at e1; simp at e1; omega, hc.2.1, hc.2.2, by omega, fun p hp => ?_⟩
        have f3 := same_upd (o := .tup (List.replicate i.toNat vs).flatten) (S2.nof hp)
        have e : (List.replicate i.toNat xs).flatten.map f = (List.replicate i.toNat (xs.map f)).flatten := by rw [List.map_flatten, List.map_replicate]
        rw [e] at k
        have rr := (q3.rep i.toNat).up f3
        refine k _ _ _ ((f1.trans f2).trans f3) (S2.put hp) (.tup (SqT.of upd_same) ?_ rr)
        rw [rr.length, sizeLine_eq]
        have : (List.replicate i.toNat (xs.map f)).flatten.length = i.toNat * xs.length := by rw [List.length_flatten, List.map_replicate, List.sum_replicate_nat, List.length_map]
        rw [this]
        have := Nat.mul_le_mul (show i.toNat ≤ 1000 by omega) hc.1.2
        omega
    · cases h⟩
end
theorem k_repT {X : Cx} (K : Fg) (hK : X.K = K := by rfl) : OpR X (binaryOp .Mult) (rRepT K) := by subst hK; exact op_repT
end TL

namespace TL
open PySem L2
open Enc
/-! ### pots = _law_pots(..); pot = pots[0]; for one in pots[1:] -/
section
variable {K : Fg} {te ta : TE} {ρ : List Sl} {O O1 O2 : Os} {F0 H0 F H : Hp} {D0 : List Addr} {σ : L2.St} {D : Ends} {E0 : XK}
theorem pots_ne (ns : List Int) : ∃ c cs, potsL ns = c :: cs := by
  unfold potsL
  split
  · exact ⟨0, [], rfl⟩
  · rename_i h
    rw [show cutL ns none (some (63 : Int)) = ns.take 63 by
      unfold cutL HT.sIx
      simp only
      rw [if_neg (by omega), List.drop_zero]
      show ns.take (min 63 ns.length - 0) = _
      rw [Nat.sub_zero, ← List.take_eq_take_min]]
    cases ns with
    | nil => exact absurd rfl h
    | cons c cs => exact ⟨c, cs.take 62, rfl⟩
theorem st_pots {ns : List Int} {jp : Nat} (ha : RX K te ρ O (.list (ns.map .int)) O) (E : EnvR K F σ ρ) (S : Hx K F0 H0 D0 F O H)
    (k : ∀ p ps c cs σ' F' H', potsL ns = c :: cs → ps.length = cs.length → Same F F' → EnvR K F' σ' (ρ.set jp (.lol (p :: ps))) → Hx K F0 H0 D0 F' (⟨p, true, ([c, 0] : List Int).map enc⟩ :: (potsOs ps cs ++ O)) H' → D.nx σ' H') :
    tAsg (tCall (SpPots K) [] E0 (tCons te tNil)) (gName jp) D σ H := ha.go E S fun x F1 H1 f1 E1 S1 r1 => by
  refine ⟨F1, ns, .cons r1 .nil, S1.fh, fun L ps H2 g1 g2 g3 g4 g5 g6 g7 g8 => ?_⟩
  have S2 := S1.pots g1 g2 g3 g4 g5 g6 g7 g8
  have fu : Same F1 (upd F1 L (.lst (ps.map .ref))) := same_upd (S1.nof g2)
  obtain ⟨c, cs, e⟩ := pots_ne ns
  rw [e] at g6 S2
  cases ps with
  | nil => simp at g6
  | cons p ps =>
    have hl : ps.length = cs.length := by simpa using g6
    have hz : (p :: ps).length ≤ sizeLine := by
      have : (potsL ns).length ≤ 63 := by
        unfold potsL
        split
        · decide
        · unfold cutL HT.sIx
          simp only
          rw [if_neg (by omega), List.drop_zero, List.length_take]
          show min (min 63 ns.length - 0) ns.length ≤ 63
          omega
      rw [e] at this
      rw [sizeLine_eq, List.length_cons]
      rw [List.length_cons] at this
      omega
    exact k p ps c cs _ _ H2 e hl (f1.trans fu) (EnvR.set (s := some (.ref L)) (r := .lol (p :: ps)) ⟨L, rfl, SqL.of upd_same, hz⟩ jp (E1.up fu)) S2
theorem st_pots1 {ns : List Int} {jp : Nat} {c : Int} (hc : (potsL ns).head? = some c) (ha : RX K te ρ [] (.list (ns.map .int)) []) (E : EnvR K F σ ρ) (S : Hx K F0 H0 D0 F [] H)
    (k : ∀ p ps σ' F' H', ps.length = (potsL ns).tail.length → Same F F' → EnvR K F' σ' (ρ.set jp (.lol (p :: ps))) → Hx K F0 H0 D0 F' (⟨p, true, ([c, 0] : List Int).map enc⟩ :: potsOs ps (potsL ns).tail) H' → D.nx σ' H') :
    tAsg (tCall (SpPots K) [] E0 (tCons te tNil)) (gName jp) D σ H := st_pots ha E S fun p ps c' cs σ' F' H' e hl f E' S' => by
  rw [e] at hc
  obtain rfl := Option.some.inj hc
  rw [List.append_nil] at S'
  refine k p ps σ' F' H' ?_ f E' ?_
  · rw [e]; exact hl
  · rw [e]; exact S'
theorem st_pot0 {p : Addr} {ps : List Addr} {i j : Nat} (hs : ρ[i]? = some (.lol (p :: ps))) (E : EnvR K F σ ρ) (S : Hx K F0 H0 D0 F O H)
    (k : ∀ σ', EnvR K F σ' (ρ.set j (.adr p)) → D.nx σ' H) : tAsg (tOp (rIxL K) (tVar i) (tC (.int 0))) (gName j) D σ H := by
  obtain ⟨s, h1, t, rfl, h2, h3⟩ := E.at hs
  refine ⟨_, h1, t, _, 0, .ref p, rfl, rfl, S.fh.seq h2, ?_, k _ (E.seta j)⟩
  unfold L2.atI ixN
  rw [if_pos (Int.le_refl 0), if_pos (by rw [List.length_map, List.length_cons]; omega)]
  rfl
/-- for one in pots[1:], what else is own being dropped -/
theorem st_forPs {R : Type} {p : Addr} {ps : List Addr} {cs : List Int} {Ow : Os} {tl th : TO} {i j : Nat} {tb : TS} {f : Int → Unit → Option (Fl Unit R)} {fl : Fl Unit R} (ρ1 : List Sl) (hs : ρ[i]? = some (.lol (p :: ps)))
    (E : EnvR K F σ ρ) (S0 : Hx K F0 H0 D0 F (Ow ++ potsOs ps cs) H) (hl : ps.length = cs.length) (ho : RO K tl ρ (Ow ++ potsOs ps cs) (some 1) (Ow ++ potsOs ps cs)) (hh : RO K th ρ (Ow ++ potsOs ps cs) none (Ow ++ potsOs ps cs))
    (hf : forF f cs () = some fl) (hW : Wk ρ ρ1)
    (kn : ∀ s, fl = .nx s → ∀ σ' F' H', Same F F' → EnvR K F' σ' ρ1 → Hx K F0 H0 D0 F' [] H' → D.nx σ' H')
    (body : ∀ c out, f c () = some out → (∀ r, out = .rt r → fl = .rt r) → ∀ σ1 F1 H1 p Or, Same F F1 → EnvR K F1 σ1 (ρ1.set j (.adr p)) → Hx K F0 H0 D0 F1 (⟨p, true, ([c, 0] : List Int).map enc⟩ :: Or) H1 →
      ∀ (N B : L2.St → Hp → Prop), (∀ s, out = .nx s → ∀ σ' F' H', Same F1 F' → EnvR K F' σ' ρ1 → Hx K F0 H0 D0 F' Or H' → N σ' H') → (∀ s, out = .bk s → ∀ σ' F' H', Same F1 F' → EnvR K F' σ' ρ1 → Hx K F0 H0 D0 F' Or H' → B σ' H') → tb { D with nx := N, ct := N, bk := B } σ1 H1) :
    tFor (iList K (tSl (rSlL K) (tVar i) tl th)) (gName j) tb D σ H := by
  obtain ⟨s, h1, t, rfl, h2, h3⟩ := E.at hs
  refine ⟨_, h1, ho.go E S0 fun F1 H1 f1 E1 S1 => hh.go E1 S1 fun F2 H2 f2 E2 S2 => ?_⟩
  refine ⟨t, _, rfl, (f1.trans (f2.trans S2.fh)).seq h2, fun L hL => ?_⟩
  have hc : cutV ((p :: ps).map V.ref) (some 1) none = ps.map V.ref := by
    unfold cutV HT.sIx
    simp only
    rw [if_neg (by omega), List.length_map, List.length_cons]
    rw [show min (1 : Int).toNat (ps.length + 1) = 1 by show min 1 _ = 1; omega]
    show (ps.map V.ref).take _ = _
    exact List.take_of_length_le (by rw [List.length_map]; omega)
  rw [hc]
  have S3 : Hx K F0 H0 D0 (upd F2 L (.lst (ps.map .ref))) (Ow ++ potsOs ps cs) (upd H2 L (.lst (ps.map .ref))) := S2.put hL
  have fu : Same F2 (upd F2 L (.lst (ps.map .ref))) := same_upd (S2.nof hL)
  refine ⟨L, rfl, ⟨_, SqL.of upd_same⟩, ?_⟩
  have hlen : (ps.map V.ref).length = ps.length := List.length_map _
  refine for_it (walk_list (K := K) (a := L) (xs := ps.map V.ref)) (fun i σ H => ∃ F2, Same F F2 ∧ F2 L = some (.lst (ps.map .ref)) ∧ EnvR K F2 σ ρ1 ∧ Hx K F0 H0 D0 F2 (potsOs (ps.drop i) (cs.drop i)) H ∧ forF f (cs.drop i) () = some fl)
    ⟨_, (f1.trans f2).trans fu, upd_same, (E2.up fu).weak hW, S3.sub (List.sublist_append_right _ _), hf⟩ (fun i σ H _ q => by obtain ⟨F2, _, q2, _, q4, _⟩ := q; exact SqL.of (q4.fh _ _ q2)) (fun i x σ H H' hi q y => ?_) (fun σ H q => ?_)
  · obtain ⟨F2, q1, q2, q3, q4, q5⟩ := q
    obtain ⟨e, y⟩ := y
    subst e
    rw [hlen] at hi
    have hi2 : i < cs.length := by omega
    have hx : x = V.ref ps[i] := by
      rw [List.getElem?_map, List.getElem?_eq_getElem hi] at y
      exact (Option.some.inj y).symm
    subst hx
    rw [drop_cons hi2] at q4 q5
    rw [drop_cons hi] at q4
    obtain ⟨out, e1, q5⟩ := bindE q5
    refine body _ out e1 (fun r eo => ?_) _ F2 H' ps[i] (potsOs (ps.drop (i + 1)) (cs.drop (i + 1))) q1 (q3.seta j) q4 _ _ (fun s eo σ' F' H2 ff E' S' => ?_) (fun s eo σ' F' H2 ff E' S' => ?_)
    · subst eo
      exact (Option.some.inj q5).symm
    · subst eo
      exact ⟨F', q1.trans ff, ff _ _ q2, E', S', q5⟩
    · subst eo
      exact kn s (Option.some.inj q5).symm σ' F' H2 (q1.trans ff) E' (S'.sub (List.nil_sublist _))
  · obtain ⟨F2, q1, q2, q3, q4, q5⟩ := q
    rw [hlen, hl, List.drop_length] at q5
    exact kn () (Option.some.inj q5).symm σ F2 H q1 q3 (q4.sub (List.nil_sublist _))
/-! ### xs.pop(i), xs.insert(i, y) of an own list, i not below 0 -/
def popO {α : Type} (xs : List α) (i : Int) : Option (α × List α) := if 0 ≤ i ∧ i < 16777216 then (xs[i.toNat]?).map fun x => (x, xs.eraseIdx i.toNat) else none
def insO {α : Type} (xs : List α) (i : Int) (x : α) : Option (List α) := if (0 ≤ i ∧ i < 16777216) ∧ xs.length < 16777216 then some (xs.take i.toNat ++ [x] ++ xs.drop i.toNat) else none
theorem map_eraseIdx {α β : Type} (f : α → β) : ∀ (l : List α) (j : Nat), (l.map f).eraseIdx j = (l.eraseIdx j).map f
  | [], _ => rfl
  | _ :: _, 0 => rfl
  | x :: l, j + 1 => by
    show f x :: (l.map f).eraseIdx j = f x :: (l.eraseIdx j).map f
    rw [map_eraseIdx f l j]
theorem popO_map {α β : Type} (f : α → β) {xs : List α} {i : Int} {r : α × List α} (h : popO xs i = some r) : popO (xs.map f) i = some (f r.1, r.2.map f) := by
  unfold popO at h ⊢
  split at h
  · rename_i c
    rw [if_pos c, List.getElem?_map]
    obtain ⟨x, hx, rfl⟩ := Option.map_eq_some_iff.mp h
    rw [hx]
    show some (f x, (xs.map f).eraseIdx i.toNat) = some (f x, (xs.eraseIdx i.toNat).map f)
    rw [map_eraseIdx]
  · cases h
theorem RpAll.erase {vs : List V} {ds : List PyData} : ∀ (n : Nat), RpAll K F vs ds → RpAll K F (vs.eraseIdx n) (ds.eraseIdx n) := fun n h => by
  induction n generalizing vs ds with
  | zero =>
    cases h with
    | nil => exact .nil
    | cons r t => exact t
  | succ n ih =>
    cases h with
    | nil => exact .nil
    | cons r t => exact .cons r (ih t)
theorem rx_pop {i j : Nat} {a : Addr} {nw : Bool} {ds ds' : List PyData} {n : Int} {d : PyData} (hn : popO ds n = some (d, ds')) (hs : ρ[i]? = some (.adr a)) (h : RX K te ρ O (.int n) O1) (hj0 : ∃ e : List PyData, O[j]? = some ⟨a, nw, e⟩) (hj : O1[j]? = some ⟨a, nw, ds⟩) :
    RX K (tBM K "list" rPopAt (tVar i) (tCons te tNil)) ρ O d (O1.set j ⟨a, nw, ds'⟩) := ⟨fun _ _ _ _ _ _ Q E S k => by
  obtain ⟨e0, hj0⟩ := hj0
  obtain ⟨_, _, _, vs0, g0, _⟩ := S.get hj0
  refine ⟨_, E.adr hs, .inl ⟨rfl, _, .inl (.inl g0)⟩, h.go E S fun v F1 H1 f1 E1 S1 r1 => ?_⟩
  obtain ⟨g1, g2, g3, vs, g4, g5, g6⟩ := S1.get hj
  have g4 : H1 a = some (.lst vs) := g4
  have g5 : vs.length ≤ sizeLine := g5
  have g6 : RpAll K F1 vs ds := g6
  cases r1
  unfold popO at hn
  split at hn
  · rename_i hc
    obtain ⟨x, hx, e⟩ := Option.map_eq_some_iff.mp hn
    cases e
    obtain ⟨y, hy, ry⟩ := g6.get hx
    have lt := (List.getElem?_eq_some_iff.mp hy).1
    refine ⟨a, vs, n, n.toNat, y, rfl, rfl, g4, by omega, by omega, ?_, hy, k _ F1 _ f1 (S1.mut hj ?_ (g6.erase _)) ry⟩
    · unfold seqIndex?
      first
        | (rw [if_neg (by omega)]; rfl)
        | (simp; omega)
    · have := List.length_eraseIdx_le vs n.toNat
      omega
  · cases hn⟩
theorem st_insert {i j : Nat} {a : Addr} {nw : Bool} {ds ds' : List PyData} {n : Int} {d : PyData} (hn : insO ds n d = some ds') (hs : ρ[i]? = some (.adr a)) (h1 : RX K te ρ O (.int n) O1) (h2 : RX K ta ρ O1 d O2) (hj0 : ∃ e : List PyData, O[j]? = some ⟨a, nw, e⟩) (hj : O2[j]? = some ⟨a, nw, ds⟩)
    (E : EnvR K F σ ρ) (S : Hx K F0 H0 D0 F O H) (k : ∀ F' H', Same F F' → EnvR K F' σ ρ → Hx K F0 H0 D0 F' (O2.set j ⟨a, nw, ds'⟩) H' → D.nx σ H') :
    tDrop (tBM K "list" (fun x vs H Q => ∃ (l : Addr) (xs : List V) (i : Int) (y : V), x = .ref l ∧ vs = [.int i, y] ∧ H l = some (.lst xs) ∧ xs.length < sizeLine ∧ 0 ≤ i ∧ i < 2 ^ 63 ∧
    Q .non (upd H l (.lst (xs.take i.toNat ++ [y] ++ xs.drop i.toNat)))) (tVar i) (tCons te (tCons ta tNil))) D σ H := by
  obtain ⟨e0, hj0⟩ := hj0
  obtain ⟨_, _, _, vs0, g0, _⟩ := S.get hj0
  refine ⟨_, E.adr hs, .inl ⟨rfl, _, .inl (.inl g0)⟩, h1.go E S fun u F1 H1 f1 E1 S1 r1 => h2.go E1 S1 fun v F2 H2 f2 E2 S2 r2 => ?_⟩
  obtain ⟨g1, g2, g3, vs, g4, g5, g6⟩ := S2.get hj
  have g4 : H2 a = some (.lst vs) := g4
  have g6 : RpAll K F2 vs ds := g6
  cases r1
  unfold insO at hn
  split at hn
  · rename_i hc
    cases hn
    have e := g6.length
    refine ⟨a, vs, n, v, rfl, rfl, g4, by rw [sizeLine_eq]; omega, by omega, by omega, k F2 _ (f1.trans f2) E2 (S2.mut hj ?_ (((g6.take _).append (.cons r2 .nil)).append (g6.drop _)))⟩
    rw [List.length_append, List.length_append, List.length_take, List.length_drop, List.length_singleton, sizeLine_eq]
    omega
  · cases hn
theorem insO_map {α β : Type} (f : α → β) {xs : List α} {i : Int} {x : α} {r : List α} (h : insO xs i x = some r) : insO (xs.map f) i (f x) = some (r.map f) := by
  unfold insO at h ⊢
  split at h
  · rename_i c
    cases h
    rw [if_pos (by rw [List.length_map]; exact c)]
    simp
  · cases h
end
end TL

/-! x = {}; for one in sets: for place in one: x[place] = True; sorted(x) -/
namespace TL
open PySem L2
open Enc
instance {α β γ δ : Type} [Enc α] [DecidableEq α] [EqD α] [EqT α] [Enc β] [DecidableEq β] [EqD β] [EqT β] [Enc γ] [DecidableEq γ] [EqD γ] [EqT γ] [Enc δ] [DecidableEq δ] [EqD δ] [EqT δ] : EqT (T4 α β γ δ) := ⟨fun x => by
  show (EqD.ok x.a && (EqD.ok x.b && (EqD.ok x.c && EqD.ok x.d))) = true
  rw [EqT.ok, EqT.ok, EqT.ok, EqT.ok]; rfl⟩
def addK (ks : List Int) (k : Int) : List Int := if k ∈ ks then ks else ks ++ [k]
def addKO (k : Int) (ks : List Int) : Option (List Int) := if ks.length < 16777216 then some (addK ks k) else none
def knownO (sets : List (Tp Int)) : Option (List Int) := forS (fun (t : Tp Int) ks => forS addKO t.l ks) sets []
def sortKO (ks : List Int) : Option (List Int) := if ks.length < 64 then some (sortI ks) else none
theorem keyB_any {k : Int} : ∀ {ks : List Int}, ((keyB ks).any fun kv => decide (kv.1 = (Sum.inl k : Key))) = decide (k ∈ ks)
  | [] => by simp [keyB]
  | j :: ks => by
    have ih := keyB_any (k := k) (ks := ks)
    show (decide ((Sum.inl j : Key) = Sum.inl k) || (keyB ks).any fun kv => decide (kv.1 = (Sum.inl k : Key))) = _
    rw [ih]
    by_cases e : j = k
    · subst e; simp
    · have e1 : ¬ (Sum.inl j : Key) = Sum.inl k := fun z => e (Sum.inl.inj z)
      have e2 : ¬ k = j := fun z => e z.symm
      rw [decide_eq_false e1, Bool.false_or]
      simp [e2]
theorem keyB_put (ks : List Int) (k : Int) : putK (keyB ks) (Sum.inl k : Key) (V.bl true) = keyB (addK ks k) := by
  unfold putK addK
  rw [keyB_any]
  by_cases h : k ∈ ks
  · rw [if_pos (decide_eq_true h), if_pos h]
    unfold keyB
    rw [List.map_map]
    refine List.map_congr_left fun j _ => ?_
    show (if (Sum.inl j : Key) = Sum.inl k then ((Sum.inl j : Key), V.bl true) else (Sum.inl j, V.bl true)) = _
    split <;> rfl
  · rw [if_neg (by simp [h]), if_neg h]
    unfold keyB
    rw [List.map_append]
    rfl
section
variable {K : Fg} {te ta : TE} {ρ : List Sl} {O O1 O2 : Os} {F0 H0 F H : Hp} {D0 : List Addr} {σ : L2.St} {D : Ends} {E0 : XK}
theorem EnvR.len (h : EnvR K F σ ρ) : σ.length = ρ.length := by
  induction h with
  | nil => rfl
  | cons _ _ ih => rw [List.length_cons, List.length_cons, ih]
theorem set_same {σ : L2.St} {i : Nat} {s : Option V} (h : σ[i]? = some s) : σ.set i s = σ := by
  apply List.ext_getElem?
  intro j
  by_cases e : i = j
  · subst e; rw [h, List.getElem?_set_self (List.getElem?_eq_some_iff.mp h).1]
  · rw [List.getElem?_set_ne e]
theorem Hx.loose (S : Hx K F0 H0 D0 F O H) {p : Addr} {o : HO} (h : H p = none) : Hx K F0 H0 D0 F O (upd H p o) := by
  refine ⟨S.f0, S.fh.trans (same_upd h), fun a u e n => ?_, fun a u e => ?_, S.new, fun q hq => ?_, S.nd⟩
  · have := S.keep a u e n
    rw [upd_ne (ne_of_none this h)]
    exact this
  · obtain ⟨u', e'⟩ := S.live a u e
    exact ⟨u', by rw [upd_ne (ne_of_none e' h)]; exact e'⟩
  · obtain ⟨h1, h2, h3, h4⟩ := S.own q hq
    obtain ⟨u, h5⟩ := h4.live
    exact ⟨h1, h2, h3, h4.at (upd_ne (ne_of_none h5 h))⟩
theorem Hx.off (S : Hx K F0 H0 D0 F O H) {p : Addr} (hp : H p = none) : ∀ q ∈ O, q.a ≠ p := fun q hq => by
  obtain ⟨vs', h4⟩ := S.ownL hq
  rintro e
  rw [e, hp] at h4
  cases h4
theorem Hx.turn (S : Hx K F0 H0 D0 F O H) {p : Addr} {o : HO} (hO : ∀ q ∈ O, q.a ≠ p) (hF : F p = none) (h0 : H0 p = none) : Hx K F0 H0 D0 F O (upd H p o) := by
  refine ⟨S.f0, fun a u e => ?_, fun a u e n => ?_, fun a u e => ?_, S.new, fun q hq => ?_, S.nd⟩
  · rw [upd_ne (ne_of_none e hF)]
    exact S.fh _ _ e
  · rw [upd_ne (ne_of_none e h0)]
    exact S.keep a u e n
  · rw [upd_ne (ne_of_none e h0)]
    exact S.live a u e
  · obtain ⟨h1, h2, h3, h4⟩ := S.own q hq
    exact ⟨h1, h2, h3, h4.at (upd_ne (hO q hq))⟩
theorem Hx.tie (S : Hx K F0 H0 D0 F O H) {p : Addr} {kvs : List (Key × V)} (hO : ∀ q ∈ O, q.a ≠ p) (hp : H p = some (.dK kvs)) (hF : F p = none) (h0 : H0 p = none) : Hx K F0 H0 D0 (upd F p (.dK kvs)) O H := by
  refine ⟨S.f0.trans (same_upd hF), fun a u e => ?_, S.keep, S.live, fun a u e n => ?_, fun q hq => ?_, S.nd⟩
  · unfold upd at e
    split at e
    · rename_i z
      subst z
      cases e
      exact hp
    · exact S.fh _ _ e
  · rw [upd_ne (ne_of_none e h0)]
    exact S.new a u e n
  · obtain ⟨h1, h2, h3, h4⟩ := S.own q hq
    exact ⟨by rw [upd_ne (hO q hq)]; exact h1, h2, h3, h4.up (same_upd hF)⟩
theorem forS_nil {α S : Type} {f : α → S → Option S} {s t : S} (h : forS f [] s = some t) : s = t := Option.some.inj h
theorem forS_cons {α S : Type} {f : α → S → Option S} {x : α} {xs : List α} {s t : S} (h : forS f (x :: xs) s = some t) : ∃ q, f x s = some q ∧ forS f xs q = some t := Option.bind_eq_some_iff.mp h
theorem st_known {sets : List (Tp Int)} {ks : List Int} {jk js j1 j2 : Nat} {rest : TS} (ρ1 : List Sl) (hk : knownO sets = some ks) (hs : ρ1[js]? = some (.val (enc sets))) (hW : Wk ρ ρ1)
    (e0 : ρ1.set jk .un = ρ1) (e1 : ρ1.set j1 .un = ρ1) (e2 : ρ1.set j2 .un = ρ1) (n1 : jk ≠ j1) (n2 : jk ≠ j2) (l0 : jk < ρ1.length) (l1 : j1 < ρ1.length) (l2 : j2 < ρ1.length)
    (E : EnvR K F σ ρ) (S : Hx K F0 H0 D0 F O H) (k : ∀ σ' F' H', Same F F' → EnvR K F' σ' (ρ1.set jk (.dkb ks)) → Hx K F0 H0 D0 F' O H' → rest D σ' H') :
    tSeq (tAsg tDNewK (gName jk)) (tSeq (tFor (iList K (tVar js)) (gName j1) (tFor (iTup K (tVar j1)) (gName j2) (sDPut (tVar jk) (tVar j2) (tC (.bl true))))) rest) D σ H := fun p hp => by
  have E1 := E.weak hW
  have hF := S.nof hp
  have h0 := S.noh0 hp
  have hO := S.off hp
  have E2 : EnvR K F (σ.set jk (some (.ref p))) ρ1 := by
    have := EnvR.set (s := some (.ref p)) (r := .un) (K := K) (F := F) trivial jk E1
    rw [e0] at this
    exact this
  have S2 : Hx K F0 H0 D0 F O (upd H p (.dK [])) := S.loose hp
  obtain ⟨v, h1, r1⟩ := E2.val hs
  have r1 : Rp K F v (.list (sets.map enc)) := r1
  cases r1 with
  | @lst a vs _ q1 q2 q3 =>
  have hlen : vs.length = sets.length := by rw [q3.length, List.length_map]
  have hj : jk < σ.length := by rw [E1.len]; exact l0
  have hI : (σ.set jk (some (.ref p)))[jk]? = some (some (.ref p)) := List.getElem?_set_self hj
  refine ⟨_, h1, a, rfl, ⟨vs, S2.fh.seq q1⟩, ?_⟩
  refine for_it (walk_list (K := K) (a := a) (xs := vs)) (fun i σ' H' => ∃ q, forS (fun (t : Tp Int) ks => forS addKO t.l ks) (sets.drop i) q = some ks ∧ σ'[jk]? = some (some (.ref p)) ∧ EnvR K F σ' ρ1 ∧ Hx K F0 H0 D0 F O H' ∧ H' p = some (.dK (keyB q)))
    ⟨[], hk, hI, E2, S2, upd_same⟩ (fun i σ' H' _ z => by obtain ⟨_, _, _, _, z, _⟩ := z; exact z.fh.seq q1) (fun i x σ1 H1 H1' hi z y => ?_) (fun σ1 H1 z => ?_)
  · obtain ⟨q, z1, z2, z3, z4, z5⟩ := z
    obtain ⟨ey, y⟩ := y
    subst ey
    have hi2 : i < sets.length := by omega
    rw [List.drop_eq_getElem_cons hi2] at z1
    obtain ⟨q', w1, w2⟩ := forS_cons z1
    obtain ⟨d, d1, d2⟩ := q3.getV y
    have ed : d = .tuple (sets[i].l.map PyData.int) := by
      rw [List.getElem?_map, List.getElem?_eq_getElem hi2] at d1
      exact (Option.some.inj d1).symm
    subst ed
    cases d2 with
    | @tup b xs _ g1 g2 g3 =>
    have ex := g3.ints
    subst ex
    have E3 : EnvR K F (σ1.set j1 (some (.ref b))) ρ1 := by
      have := EnvR.set (s := some (.ref b)) (r := .un) (K := K) (F := F) trivial j1 z3
      rw [e1] at this
      exact this
    have hj1 : j1 < σ1.length := by rw [z3.len]; exact l1
    refine ⟨_, List.getElem?_set_self hj1, b, rfl, ⟨_, same_t z4.fh g1⟩, ?_⟩
    refine for_it (walk_tup (K := K) (a := b) (xs := sets[i].l.map V.int)) (fun m σ' H' => ∃ q, forS addKO (sets[i].l.drop m) q = some q' ∧ σ'[jk]? = some (some (.ref p)) ∧ EnvR K F σ' ρ1 ∧ Hx K F0 H0 D0 F O H' ∧ H' p = some (.dK (keyB q)))
      ⟨q, w1, ?_, E3, z4, z5⟩ (fun i σ' H' _ z => by obtain ⟨_, _, _, _, z, _⟩ := z; exact same_t z.fh g1) (fun m x σ2 H2 H2' hm z y => ?_) (fun σ2 H2 z => ?_)
    · rw [List.getElem?_set_ne (Ne.symm n1)]; exact z2
    · obtain ⟨q, z1, z2, z3, z4, z5⟩ := z
      obtain ⟨ey, y⟩ := y
      subst ey
      rw [List.length_map] at hm
      rw [List.drop_eq_getElem_cons hm] at z1
      obtain ⟨q2, w1, w2⟩ := forS_cons z1
      have hx : x = V.int sets[i].l[m] := by
        rw [List.getElem?_map, List.getElem?_eq_getElem hm] at y
        exact (Option.some.inj y).symm
      subst hx
      unfold addKO at w1
      split at w1
      · rename_i c
        cases w1
        have hj2 : j2 < σ2.length := by rw [z3.len]; exact l2
        have E4 : EnvR K F (σ2.set j2 (some (.int sets[i].l[m]))) ρ1 := by
          have := EnvR.set (s := some (.int sets[i].l[m])) (r := .un) (K := K) (F := F) trivial j2 z3
          rw [e2] at this
          exact this
        have hJ : (σ2.set j2 (some (.int sets[i].l[m])))[jk]? = some (some (.ref p)) := by rw [List.getElem?_set_ne (Ne.symm n2)]; exact z2
        have hd := DPut.k (H := H2') (a := p) (kvs := keyB q) (k := Sum.inl sets[i].l[m]) (v := .bl true) z5 (by unfold keyB; rw [List.length_map, sizeLine_eq]; omega)
        rw [keyB_put] at hd
        refine ⟨_, hJ, _, List.getElem?_set_self hj2, p, _, rfl, hd, _, w2, hJ, E4, z4.turn hO hF h0, upd_same⟩
      · cases w1
    · obtain ⟨q, z1, z2, z3, z4, z5⟩ := z
      rw [List.length_map, List.drop_length] at z1
      have := forS_nil z1
      subst this
      exact ⟨q, w2, z2, z3, z4, z5⟩
  · obtain ⟨q, z1, z2, z3, z4, z5⟩ := z
    rw [hlen, List.drop_length] at z1
    have := forS_nil z1
    subst this
    refine k σ1 (upd F p (.dK (keyB q))) H1 (same_upd hF) ?_ (z4.tie hO z5 hF h0)
    have := EnvR.set (s := some (.ref p)) (r := .dkb q) (K := K) (F := upd F p (.dK (keyB q))) ⟨p, rfl, upd_same⟩ jk (z3.up (same_upd hF))
    rw [set_same z2] at this
    exact this
/-! ### sorted of it -/
def rSortDI : List V → Hp → VK → Prop := fun xs H Q => ∃ (a : Addr) (kvs : List (Key × V)) (ks : List Int), xs = [.ref a] ∧ Rd H a (.dK kvs) ∧ kvs.map (·.1) = ks.map Sum.inl ∧ ks.length < 64 ∧
    ∀ (ys : List Int) (p : Addr), ys.Perm ks → ys.Pairwise (· ≤ ·) → H p = none → Q (.ref p) (upd H p (.lst (ys.map V.int)))
theorem k_sortDI {X : Cx} (hc : X.calm = true) : CallR X (.builtin "sorted") rSortDI := call_sortedDI hc
theorem rx_someL {l : List Int} (h : RX K ta ρ O (.list (l.map .int)) O1) : RX K ta ρ O (enc (l.map (some : Int → Option Int))) O1 := by
  have e : enc (l.map (some : Int → Option Int)) = PyData.list (l.map .int) := by
    show PyData.list ((l.map (some : Int → Option Int)).map enc) = _
    rw [List.map_map]
    rfl
  rw [e]
  exact h
theorem keyB_keys (ks : List Int) : (keyB ks).map (·.1) = ks.map (Sum.inl : Int → Key) := by
  unfold keyB
  rw [List.map_map]
  rfl
theorem rxo_sortK {i : Nat} {ks r : List Int} (h : sortKO ks = some r) (hs : ρ[i]? = some (.dkb ks)) : RXo K (tCB rSortDI (tCons (tVar i) tNil)) ρ O (r.map .int) O := ⟨fun _ _ _ _ F H Q E S k => by
  obtain ⟨s, h1, t, rfl, h2⟩ := E.at hs
  unfold sortKO at h
  split at h
  · rename_i c
    cases h
    refine ⟨_, h1, t, keyB ks, ks, rfl, .inl (S.fh _ _ h2), keyB_keys ks, c, fun ys p hp hu hn => ?_⟩
    have e := sortI_of hp hu
    subst e
    refine k p F _ (Same.refl _) (S.mine hn ?_ (RpAll.of_ints _))
    rw [List.length_map, hp.length_eq, sizeLine_eq]
    omega
  · cases h⟩
end
end TL

/-! a def that takes an own list and a list of pots; pots walked with a state -/
namespace TL
open PySem L2
open Enc
def SpW (K : Fg) (R : List PyData → List Int → PyData → List PyData → Prop) : Sp := fun vs H Q _ => ∃ F H1 D1 p L, ∃ c : List PyData, ∃ ps cs d, ∃ c' : List PyData, vs = [.ref p, .ref L] ∧ Hx K F H1 D1 F (⟨p, true, c⟩ :: potsOs ps cs) H ∧ (SqL K F L (ps.map .ref) ∧ ps.length ≤ sizeLine ∧ ps.length = cs.length) ∧ R c cs d c' ∧
  ∀ v F' H', Same F F' → Hx K F H1 D1 F' [⟨p, true, c'⟩] H' → Rp K F' v d → Q v H'
theorem spw_len {K : Fg} {R : List PyData → List Int → PyData → List PyData → Prop} : ∀ vs H Q E, SpW K R vs H Q E → vs.length = 2 := fun vs H Q E ⟨F, H1, D1, p, L, c, ps, cs, d, c', e, _⟩ => by
  subst e; rfl
section
variable {K : Fg} {te ta : TE} {ρ : List Sl} {O O1 O2 : Os} {F0 H0 F H : Hp} {D0 : List Addr} {σ : L2.St} {D : Ends} {E0 : XK}
theorem EnvR.startW {N : List Str} {p L : Addr} {ps : List Addr} (h : SqL K F L (ps.map .ref)) (hl : ps.length ≤ sizeLine) : EnvR K F (L2.start N [.ref p, .ref L]) (.adr p :: .lol ps :: List.replicate (N.length - 2) .un) := by
  unfold L2.start
  exact .cons rfl (.cons ⟨L, rfl, h, hl⟩ (EnvR.blank _))
theorem rx_callw {R : List PyData → List Int → PyData → List PyData → Prop} {p q : Addr} {ps : List Addr} {cs : List Int} {c c' : List PyData} {d : PyData} {i k : Nat} {tl th : TO} (hp : ρ[i]? = some (.adr p)) (hL : ρ[k]? = some (.lol (q :: ps))) (hl : ps.length = cs.length)
    (ho : RO K tl ρ (⟨p, true, c⟩ :: potsOs ps cs) (some 1) (⟨p, true, c⟩ :: potsOs ps cs)) (hh : RO K th ρ (⟨p, true, c⟩ :: potsOs ps cs) none (⟨p, true, c⟩ :: potsOs ps cs)) (hR : R c cs d c') :
    RX K (tCall (SpW K R) [] E0 (tCons (tVar i) (tCons (tSl (rSlL K) (tVar k) tl th) tNil))) ρ (⟨p, true, c⟩ :: potsOs ps cs) d [⟨p, true, c'⟩] := ⟨fun F0 H0 D0 σ F H Q E S kk => by
  obtain ⟨s, h1, t, rfl, h2, h3⟩ := E.at hL
  refine ⟨_, E.adr hp, _, h1, ho.go E S fun F1 H1 f1 E1 S1 => hh.go E1 S1 fun F2 H2 f2 E2 S2 => ?_⟩
  refine ⟨t, _, rfl, (f1.trans (f2.trans S2.fh)).seq h2, fun L hLn => ?_⟩
  have hc : cutV ((q :: ps).map V.ref) (some 1) none = ps.map V.ref := by
    unfold cutV HT.sIx
    simp only
    rw [if_neg (by omega), List.length_map, List.length_cons]
    rw [show min (1 : Int).toNat (ps.length + 1) = 1 by show min 1 _ = 1; omega]
    show (ps.map V.ref).take _ = _
    exact List.take_of_length_le (by rw [List.length_map]; omega)
  rw [hc]
  have S3 : Hx K F0 H0 D0 (upd F2 L (.lst (ps.map .ref))) (⟨p, true, c⟩ :: potsOs ps cs) (upd H2 L (.lst (ps.map .ref))) := S2.put hLn
  have fu : Same F2 (upd F2 L (.lst (ps.map .ref))) := same_upd (S2.nof hLn)
  obtain ⟨H1', D1', S4, back⟩ := Hx.fr (O := ⟨p, true, c⟩ :: potsOs ps cs) (X := []) (by rw [List.append_nil]; exact S3)
  have hz : ps.length ≤ sizeLine := by rw [List.length_cons] at h3; omega
  refine ⟨_, H1', D1', p, L, c, ps, cs, d, c', rfl, S4, ⟨SqL.of upd_same, hz, hl⟩, hR, fun v F' H' ff S' r => kk v F' H' (((f1.trans f2).trans fu).trans ff) ?_ r⟩
  have := back F' [⟨p, true, c'⟩] H' S'
  rw [List.append_nil] at this
  exact this⟩
/-- a list of pots walked, with a state -/
theorem st_forPS {S : Type} {ps : List Addr} {cs : List Int} {i j : Nat} {tb : TS} {f : Int → S → Option S} {s0 s1 : S} (ρf : S → List Sl) (Of : S → Os) (hs : ρ[i]? = some (.lol ps))
    (E : EnvR K F σ ρ) (S0 : Hx K F0 H0 D0 F (Of s0 ++ potsOs ps cs) H) (hl : ps.length = cs.length) (hf : forS f cs s0 = some s1) (hW : Wk ρ (ρf s0))
    (kn : ∀ σ' F' H', Same F F' → EnvR K F' σ' (ρf s1) → Hx K F0 H0 D0 F' (Of s1) H' → D.nx σ' H')
    (body : ∀ c s s', f c s = some s' → ∀ σ1 F1 H1 p Or, Same F F1 → EnvR K F1 σ1 ((ρf s).set j (.adr p)) → Hx K F0 H0 D0 F1 (⟨p, true, ([c, 0] : List Int).map enc⟩ :: (Of s ++ Or)) H1 →
      ∀ (N B : L2.St → Hp → Prop), (∀ σ' F' H', Same F1 F' → EnvR K F' σ' (ρf s') → Hx K F0 H0 D0 F' (Of s' ++ Or) H' → N σ' H') → tb { D with nx := N, ct := N, bk := B } σ1 H1) :
    tFor (iList K (tVar i)) (gName j) tb D σ H := by
  obtain ⟨s, h1, t, rfl, h2, h3⟩ := E.at hs
  have hlen : (ps.map V.ref).length = ps.length := List.length_map _
  refine ⟨_, h1, t, rfl, ⟨_, S0.fh.seq h2⟩, ?_⟩
  refine for_it (walk_list (K := K) (a := t) (xs := ps.map V.ref)) (fun i σ H => ∃ F2 s, Same F F2 ∧ EnvR K F2 σ (ρf s) ∧ Hx K F0 H0 D0 F2 (Of s ++ potsOs (ps.drop i) (cs.drop i)) H ∧ forS f (cs.drop i) s = some s1)
    ⟨F, s0, Same.refl _, E.weak hW, S0, hf⟩ (fun i σ H _ q => by obtain ⟨F2, s, q1, _, q4, _⟩ := q; exact (q1.trans q4.fh).seq h2) (fun i x σ H H' hi q y => ?_) (fun σ H q => ?_)
  · obtain ⟨F2, s, q1, q3, q4, q5⟩ := q
    obtain ⟨e, y⟩ := y
    subst e
    rw [hlen] at hi
    have hi2 : i < cs.length := by omega
    have hx : x = V.ref ps[i] := by
      rw [List.getElem?_map, List.getElem?_eq_getElem hi] at y
      exact (Option.some.inj y).symm
    subst hx
    rw [drop_cons hi2] at q4 q5
    rw [drop_cons hi] at q4
    obtain ⟨s', e1, q5⟩ := forS_cons q5
    have q4' := q4.perm (O' := ⟨ps[i], true, ([cs[i], 0] : List Int).map enc⟩ :: (Of s ++ potsOs (ps.drop (i + 1)) (cs.drop (i + 1)))) List.perm_middle
    exact body _ s s' e1 _ F2 H' ps[i] (potsOs (ps.drop (i + 1)) (cs.drop (i + 1))) q1 (EnvR.seta q3 j) q4' _ _ fun σ' F' H2 ff E' S' => ⟨F', s', q1.trans ff, E', S', q5⟩
  · obtain ⟨F2, s, q1, q3, q4, q5⟩ := q
    rw [hlen, hl, List.drop_length] at q5
    have := forS_nil q5
    subst this
    exact kn σ F2 H q1 q3 (q4.sub (List.sublist_append_left _ _))
end
end TL

/-! defs that may raise own exceptions; try .. except C as e: suite -/
namespace TL
open PySem L2
open Enc
inductive Rx (α : Type) where
  | ok (a : α)
  | er (x : Str)
def Rx.map {α β : Type} (f : α → β) : Rx α → Rx β
  | .ok a => .ok (f a)
  | .er x => .er x
def rxK {α β : Type} : Rx α → (α → β) → (Str → β) → β
  | .ok a, f, _ => f a
  | .er x, _, g => g x
/-- called with the data ds the def hands back data, or raises the class of a name -/
def SpX (K : Fg) (mg : Str → Option Value) (R : List PyData → Rx PyData → Prop) : Sp := fun vs H Q E => ∃ F ds r, RpAll K F vs ds ∧ Same F H ∧ R ds r ∧ (∀ d, r = .ok d → ∀ v F' H', Stp [] F H F' H' → Rp K F' v d → Q v H') ∧
  ∀ x, r = .er x → ∀ C, mg x = some (.ref C) → ∀ F' H', Stp [] F H F' H' → E (.ref C) none H'
theorem spx_len {K : Fg} {mg : Str → Option Value} {R : List PyData → Rx PyData → Prop} {n : Nat} (h : ∀ ds d, R ds d → ds.length = n) : ∀ vs H Q E, SpX K mg R vs H Q E → vs.length = n := fun vs H Q E ⟨F, ds, d, r, _, hR, _⟩ => r.length.trans (h ds d hR)
/-- what is known of an exception class -/
structure XC (K : Fg) (mg : Str → Option Value) (x : Str) (C : Addr) : Prop where
  gC : mg x = some (.ref C)
  q : PySem.W.excIn K C [.type "ValueError", .type "Exception", .type "BaseException", .type "object"] "ValueError.__new__" = true
  kp : PySem.W.keepIn K (.ref C) = true
  ty : PySem.W.typeIn K (.ref C) = some (.type "type")
  ec : ExcC K C
theorem XC.uniq {K : Fg} {mg : Str → Option Value} {x : Str} {C D : Addr} (h : XC K mg x C) (e : mg x = some (.ref D)) : D = C := by
  have := e.symm.trans h.gC
  cases this
  rfl
section
variable {P : Program} {w : World} {K : Fg} {mg : Str → Option Value} {base : Heap}
def CalX (P : Program) (w : World) (K : Fg) (mg : Str → Option Value) (base : Heap) (k : Nat) (x : Str) (ps : List Str) (sp : Sp) : Prop :=
  ∃ f fd, FnOk P w K mg base (L2.CX P w) k f fd ps sp ∧ mg x = some (.ref f) ∧ PySem.W.keepIn K (.ref f) = true ∧ Binds K fd ps []
theorem Dfn.calX {x : Str} {st : Stmt} {N ps : List Str} {k : Nat} {sp : Sp} (h : Dfn K mg x st ps) (S : FnScope N ps (defScope st)) (len : ∀ vs H Q E, sp vs H Q E → vs.length = ps.length)
    (hbody : ∀ (f : Addr) (cdv : Value) (A : Around) (outer : List Env) (s : Shared) (H : Hp) (vs : List V) (Q : VK) (E : XK), Room k (A.deeper (PyProof.Rows.envOfC x (defScope st) s.heap.objs.size f cdv)) → sp vs H Q E →
      ∃ t, PSs (cxOf (L2.CX P w) P w K mg base N x (defScope st) f cdv A outer s H E) (defBody st) t ∧ t { nx := fun _ H' => Q .non H', rt := Q } (start N vs) H) : CalX P w K mg base (k + 1) x ps sp := by
  obtain ⟨f, fd, F, hm, b⟩ := h
  exact ⟨f, fd, F.okX S len fun cdv A outer s H vs Q E hr hs => hbody f cdv A outer s H vs Q E hr hs, hm, F.kp, b⟩
theorem CalX.mono {j k : Nat} {x : Str} {ps : List Str} {sp : Sp} (h : CalX P w K mg base j x ps sp) (hk : j ≤ k) : CalX P w K mg base k x ps sp := by
  obtain ⟨f, fd, F, r⟩ := h
  exact ⟨f, fd, F.mono hk, r⟩
end
theorem pe_calX {X : Cx} {W : WX} {j k : Nat} {x : Str} {ps : List Str} {sp : Sp} {p pos : Pos} {e : Expr} {es : List Expr} {t : TA} (C : CalX X.prog X.w X.K X.mg X.base j x ps sp) (hr : Room k X.A) (tk : Takes X W) (ha : PA X (e :: es) t) (hjk : j ≤ k := by decide) (hg : Gl X x := by rfl) (hdb : (x == ("__debug__" : Str)) = false := by decide)
    (he : starEach (e :: es) X.env = (false, eval e X.env) :: starEach es X.env := by rfl) (hpl : (backTo pos (starEach es X.env)).any (·.1) = false := by rfl) :
    PE X (.Call (.Name x p) (e :: es) [] pos) (tCallS sp (WE W) t) := by
  obtain ⟨f, fd, F, hm, kp, b⟩ := C
  exact pe_callS F (hr.mono hjk) hg hm kp b (fun σ => passAt tk σ) ha hdb he hpl
/-- raise C('..') -/
def tRaiseE (mg : Str → Option Value) (x : Str) (W : WX) : TS := fun _ σ H => ∀ C, mg x = some (.ref C) → W (.ref C) none σ H
theorem ps_raiseE {X : Cx} {W : WX} {x m : Str} {j : Nat} {C : Addr} {p p2 pos pos' : Pos} (T : XC X.K X.mg x C) (tk : Takes X W) (hc : X.calm = true := by rfl) (hg : Gl X x := by rfl) (hdb : (x == ("__debug__" : Str)) = false := by decide) :
    PS X (.Raise (some (.Call (.Name x p) [.Constant (.str m) j p2] [] pos)) none pos') (tRaiseE X.mg x W) :=
  ⟨fun pins s σ H D I h => (ps_raise hc tk (pmk_own PySem.F.excBase_ValueError T.q T.gC T.kp (raises_own T.ec.hs T.ty) hg hdb)).run pins s σ H D I (h C T.gC)⟩
section
variable {K : Fg} {mg : Str → Option Value} {te ta tb : TE} {t : TA} {ρ : List Sl} {O O1 O2 : Os} {W : WX}
theorem rx_callX {R : List PyData → Rx PyData → Prop} {ds : List PyData} {d : PyData} (hR : R ds (.ok d)) (ha : RA K t ρ O (ds.map .val) O1) : RX K (tCallS (SpX K mg R) (WE W) t) ρ O d O1 := ⟨fun _ _ _ _ _ _ Q E S k => ha.go E S fun vs F1 H1 f1 E1 S1 r1 =>
  ⟨F1, ds, .ok d, r1.all, S1.fh, hR, fun d' e v F' H' st r => by cases e; exact k v F' H' (f1.trans st.ff) (S1.call st) r, fun x e => by cases e⟩⟩
/-- it raises -/
structure RE (K : Fg) (mg : Str → Option Value) (W : WX) (t : TE) (ρ : List Sl) (O : Os) (x : Str) (O' : Os) : Prop where
  run : ∀ (F0 H0 : Hp) (D0 : List Addr) (σ : L2.St) (F H : Hp) (Q : VK), EnvR K F σ ρ → Hx K F0 H0 D0 F O H → (∀ C F' H', mg x = some (.ref C) → Same F F' → EnvR K F' σ ρ → Hx K F0 H0 D0 F' O' H' → W (.ref C) none σ H') → t σ H Q
theorem re_call {R : List PyData → Rx PyData → Prop} {ds : List PyData} {x : Str} (hR : R ds (.er x)) (ha : RA K t ρ O (ds.map .val) O1) : RE K mg W (tCallS (SpX K mg R) (WE W) t) ρ O x O1 := ⟨fun _ _ _ _ _ _ Q E S k => ha.go E S fun vs F1 H1 f1 E1 S1 r1 =>
  ⟨F1, ds, .er x, r1.all, S1.fh, hR, fun d' e => (by cases e), fun x' e C hC F' H' st => by cases e; exact k C F' H' hC (f1.trans st.ff) (E1.up st.ff) (S1.call st)⟩⟩
theorem re_op {r : R2} {x : Str} (h : RE K mg W ta ρ O x O1) : RE K mg W (tOp r ta tb) ρ O x O1 := ⟨fun _ _ _ _ _ _ Q E S k => h.run _ _ _ _ _ _ _ E S k⟩
theorem re_cb {r : List V → Hp → VK → Prop} {ts : TA} {x : Str} (h : RE K mg W ta ρ O x O1) : RE K mg W (tCB r (tCons ta ts)) ρ O x O1 := ⟨fun _ _ _ _ _ _ Q E S k => h.run _ _ _ _ _ _ _ E S k⟩
/-! ### isinstance(e, ..), e the exception in hand -/
def rIsX (K : Fg) (a : Addr) (cls : Value) (d : Option Addr) : List V → Hp → VK → Prop := fun xs H Q => ∃ (D : Addr) (c : V) (cv : Value) (b : Bool), cls = .ref D ∧ d = none ∧ ExcC K D ∧ xs = [.ref a, c] ∧ ClsV c cv ∧ PySem.W.kitOne K (.ref D) cv = some b ∧ Q (.bl b) H
def rIsXT (K : Fg) (a : Addr) (cls : Value) (d : Option Addr) : List V → Hp → VK → Prop := fun xs H Q => ∃ (D : Addr) (tp : Addr) (cs : List V) (us : List Value) (b : Bool), cls = .ref D ∧ d = none ∧ ExcC K D ∧ xs = [.ref a, .ref tp] ∧ H tp = some (.tup cs) ∧ Paired ClsV cs us ∧ PySem.W.kitAny K (.ref D) us = some b ∧ Q (.bl b) H
theorem k_isX {X : Cx} (K : Fg) {a : Addr} {oe : Obj} {cls : Value} {d : Option Addr} {pn : List (Addr × Obj)} (hz : Zc cls d oe) (hf : ∃ vs, oe.data = .fields vs) (hK : X.K = K := by rfl) : CallR (X.suite a ((a, oe) :: pn)) (.builtin "isinstance") (rIsX K a cls d) := by
  subst hK
  intro pins s σ H xs us Q I r h
  obtain ⟨D, c, cv, b, rfl, rfl, ec, rfl, k, e, q⟩ := h
  exact call_isE ec hz hf pins s σ H _ us Q I r ⟨c, cv, b, rfl, fun u hu => k.eq hu, e, q⟩
theorem k_isXT {X : Cx} (K : Fg) {a : Addr} {oe : Obj} {cls : Value} {d : Option Addr} {pn : List (Addr × Obj)} (hz : Zc cls d oe) (hf : ∃ vs, oe.data = .fields vs) (hK : X.K = K := by rfl) : CallR (X.suite a ((a, oe) :: pn)) (.builtin "isinstance") (rIsXT K a cls d) := by
  subst hK
  intro pins s σ H xs us Q I r h
  obtain ⟨D, tp, cs, ws, b, rfl, rfl, C, rfl, hT, k, e, q⟩ := h
  cases r with
  | cons rx rr =>
    cases rr with
    | @cons _ u2 _ _ rt rr =>
      cases rr
      cases rx
      cases (show u2 = Value.ref tp from rt)
      obtain ⟨hget, _⟩ := I.pin (a, oe) (List.mem_append.mpr (.inl List.mem_cons_self))
      obtain ⟨vs, hv⟩ := hf
      have J : PySem.W.InstAt s.heap a oe D none := by
        obtain ⟨oc, od, oda, osl⟩ := oe
        obtain ⟨h1, h2⟩ := hz
        dsimp only at h1 h2 hv
        subst h1 h2 hv
        exact ⟨hget, rfl, rfl, trivial⟩
      obtain ⟨_, its, rv, o, h1, h2, n, h3⟩ := (show ObjOk X.prog X.w H s.heap tp (.tup cs) from I.hok tp _ hT)
      have e3 := ClsV.all k rv
      subst e3
      obtain ⟨oc, od, dt, sl⟩ := o
      simp only at h2 h3
      subst h2 h3
      exact PySem.W.kia_tup (PySem.W.handS_kitx_exc C.hg C.hk C.hs C.hd C.ha C.hn C.ht C.hm) I.kIn J h1 e (fun z => nomatch z) fun tk => ⟨.bl b, H, I.kept (t' := tk) fun _ _ z => z, rfl, q⟩
theorem rx_isX {i : Nat} {a D : Addr} {c : V} {cv : Value} {b : Bool} (hs : ρ[i]? = some (.adr a)) (ec : ExcC K D) (k : ClsV c cv) (e : PySem.W.kitOne K (.ref D) cv = some b) : RX K (tCB (rIsX K a (.ref D) none) (tCons (tVar i) (tCons (tC c) tNil))) ρ O (.bool b) O := ⟨fun _ _ _ _ F H Q E S kk =>
  ⟨_, E.adr hs, D, c, cv, b, rfl, rfl, ec, rfl, k, e, kk _ F H (Same.refl _) S (.bl b)⟩⟩
def tCs : List V → TA
  | [] => tNil
  | c :: cs => tCons (tC c) (tCs cs)
theorem tCs_run : ∀ (cs : List V) (σ : L2.St) (H : Hp) (Q : List V → Hp → Prop), Q cs H → tCs cs σ H Q
  | [], σ, H, Q, h => h
  | c :: cs, σ, H, Q, h => tCs_run cs σ H (fun vs H' => Q (c :: vs) H') h
theorem rx_isXT {i : Nat} {a D : Addr} {cs : List V} {us : List Value} {b : Bool} (hs : ρ[i]? = some (.adr a)) (ec : ExcC K D) (hl : cs.length ≤ 1000) (k : Paired ClsV cs us) (e : PySem.W.kitAny K (.ref D) us = some b) : RX K (tCB (rIsXT K a (.ref D) none) (tCons (tVar i) (tCons (tTup (tCs cs)) tNil))) ρ O (.bool b) O := ⟨fun _ _ _ _ F H Q E S kk =>
  ⟨_, E.adr hs, tCs_run cs _ _ _ ⟨by rw [sizeLine_eq]; omega, fun T hT => ⟨D, T, cs, us, b, rfl, rfl, ec, rfl, upd_same, k, e, kk _ F _ (Same.refl _) (S.junk hT) (.bl b)⟩⟩⟩⟩
theorem st_setTU3 {R : List PyData → List (List PyData) → Prop} {ds : List PyData} {e1 e2 e3 : List PyData} {i j l : Nat} {E0 : XK} {D : Ends} {σ : L2.St} {F0 H0 F H : Hp} {D0 : List Addr} (hR : R ds [e1, e2, e3]) (ha : RA K t ρ O (ds.map .val) O1) (E : EnvR K F σ ρ) (S : Hx K F0 H0 D0 F O H)
    (k : ∀ (p q r : Addr) (σ' : L2.St) (F' H' : Hp), Same F F' → EnvR K F' σ' (((ρ.set i (.adr p)).set j (.adr q)).set l (.adr r)) → Hx K F0 H0 D0 F' (⟨p, true, e1⟩ :: ⟨q, true, e2⟩ :: ⟨r, true, e3⟩ :: O1) H' → D.nx σ' H') :
    tAsg (tCall (SpT K R) [] E0 t) (gTup K 3 (gCons (gName i) (gCons (gName j) (gCons (gName l) gNil)))) D σ H :=
  ha.go E S fun vs F1 H1 f1 E1 S1 r1 => by
    show SpT K R (vs ++ []) H1 _ E0
    rw [List.append_nil]
    refine ⟨F1, ds, _, r1.all, S1.fh, hR, fun T ps F' H' st q hl nd h => ?_⟩
    have S2 := S1.inT st hl nd h
    obtain ⟨p, q', r, rfl⟩ := len3 hl
    have E2 := E1.up st.ff
    exact ⟨T, _, rfl, same_t S2.fh q, rfl, _, _, rfl, _, _, rfl, _, _, rfl, rfl, k p q' r _ F' H' (f1.trans st.ff) (EnvR.seta (EnvR.seta (EnvR.seta E2 i) j) l) S2⟩
theorem kit_none {D : Addr} : ∀ (us : List Value), (∀ u ∈ us, PySem.W.kitOne K (.ref D) u = some false) → PySem.W.kitAny K (.ref D) us = some false
  | [], _ => kitAny_nil
  | u :: us, h => kitAny_cons (h u (List.mem_cons_self ..)) (fun _ => kit_none us fun y hy => h y (List.mem_cons_of_mem _ hy)) fun z => by cases z
end
end TL

/-! texts: a.join(list of texts), text * int -/
namespace L2
open PySem PySem.Spec PyProof.Rows
def rMulS : R2 := fun x y H Q => ∃ (z : Str) (n : Int), x = .str z ∧ y = .int n ∧ MulOk z n ∧ Q (.str (Txt.mul z n)) H
theorem op_mulS {X : Cx} : OpR X (binaryOp .Mult) rMulS := by
  intro pins s σ H x y v u Q I rx ry h
  obtain ⟨z, n, rfl, rfl, hok, q⟩ := h
  obtain ⟨t, rfl⟩ := rx
  obtain ⟨t', rfl⟩ := ry
  exact SB.mul hok fun t' k => ⟨.str _, H, I.tok k, ⟨_, rfl⟩, q⟩
end L2
namespace TL
open PySem L2
open Enc
def joinO (a : Str) (ys : List Str) : Option Str := if (ys.map (·.length)).sum + ys.length * a.length ≤ 16777216 then some (Txt.join a ys) else none
def mulSO (z : Str) (n : Int) : Option Str := if z.length ≤ 1000 ∧ 0 ≤ n ∧ n ≤ 1000 then some (Txt.mul z n) else none
section
variable {K : Fg} {ta tb : TE} {ρ : List Sl} {O O1 O2 : Os}
def rJoin (K : Fg) : V → List V → Hp → VK → Prop := fun x xs H Q => ∃ a p, ∃ ys : List Str, x = .str a ∧ xs = [.ref p] ∧ (SqL K H p (ys.map V.str) ∨ SqT K H p (ys.map V.str)) ∧ (ys.map (·.length)).sum + ys.length * a.length ≤ 16777216 ∧ Q (.str (Txt.join a ys)) H
theorem k_join {X : Cx} (K : Fg) {o e : Expr} {to te : TE} {apos pos : Pos} (ho : PE X o to) (he : PE X e te) (hs : starEach [e] X.env = [(false, eval e X.env)] := by rfl) (hbase : attributeBase o "join" X.env (eval o X.env) = eval o X.env := by rfl) (hline : (apos.endLine == pos.line) = true := by rfl) (hK : X.K = K := by rfl) :
    PE X (.Call (.Attribute o "join" apos) [e] [] pos) (tM1 (rJoin K) to te) := by subst hK; exact pe_join ho he hs hbase hline
theorem rx_join {a z : Str} {ys : List Str} (h : joinO a ys = some z) (ha : RX K ta ρ O (.str a) O1) (hb : RXs K tb ρ O1 (ys.map .str) O2) : RX K (tM1 (rJoin K) ta tb) ρ O (.str z) O2 := ⟨fun _ _ _ _ _ _ Q E S k => by
  unfold joinO at h
  split at h
  · rename_i hc
    cases h
    refine ha.go E S fun x F1 H1 f1 E1 S1 r1 => ?_
    cases r1
    refine ⟨⟨a, rfl⟩, hb.go E1 S1 fun p F2 H2 f2 E2 S2 r2 => ?_⟩
    obtain ⟨vs, q1, q2, q3⟩ := r2 F2 H2 (Same.refl _) S2
    have hv := q3.strs
    subst hv
    exact ⟨a, p, ys, rfl, rfl, .inl q1, hc, k _ F2 H2 (f1.trans f2) S2 (.str _)⟩
  · cases h⟩
theorem rx_mulS {z r : Str} {n : Int} (h : mulSO z n = some r) (ha : RX K ta ρ O (.str z) O1) (hb : RX K tb ρ O1 (.int n) O2) : RX K (tOp rMulS ta tb) ρ O (.str r) O2 := ⟨fun _ _ _ _ _ _ Q E S k => by
  unfold mulSO at h
  split at h
  · rename_i hc
    cases h
    refine ha.go E S fun x F1 H1 f1 E1 S1 r1 => hb.go E1 S1 fun y F2 H2 f2 E2 S2 r2 => ?_
    cases r1
    cases r2
    refine ⟨z, n, rfl, rfl, ⟨?_, fun h1 h2 => ?_, fun h1 h2 => ?_⟩, k _ F2 H2 (f1.trans f2) S2 (.str _)⟩
    · rw [decide_eq_false (by omega), decide_eq_false (by omega)]; rfl
    · have : (1000 : Int) ≤ (2 ^ 63 - 1) / n := by
        rw [Int.le_ediv_iff_mul_le (by omega)]
        omega
      omega
    · have := Nat.mul_le_mul (show z.length ≤ 1000 by omega) (show n.toNat ≤ 1000 by omega)
      unfold Builtin.Str.tooLong
      rw [sizeLine_eq]
      exact decide_eq_false (by omega)
  · cases h⟩
/-- a tuple of texts of the module's own top -/
def GT (K : Fg) (a : Addr) (ss : List Str) : Prop := ∃ (o : Obj) (its : Array Value) (n : Nat), K.lookup a = some o ∧ o.cls = .type "tuple" ∧ o.data = .seq its n ∧ its.size ≤ sizeLine ∧ Vals (ss.map V.str) its.toList
theorem RpAll.of_strs {F : Hp} : ∀ (ss : List Str), RpAll K F (ss.map V.str) (ss.map PyData.str)
  | [] => .nil
  | n :: ns => .cons (.str n) (RpAll.of_strs ns)
theorem rx_gtup {a : Addr} {ss : List Str} (h : GT K a ss) : RX K (tC (.ref a)) ρ O (enc (Tp.mk ss)) O := ⟨fun _ _ _ _ F H Q E S k => by
  obtain ⟨o, its, n, h1, h2, h3, h4, h5⟩ := h
  have hl := h5.length
  exact k _ F H (Same.refl _) S (.tup (.inr ⟨o, its, n, h1, h2, h3, h4, h5⟩) (by rw [hl, Array.length_toList]; exact h4) (RpAll.of_strs ss))⟩
end
end TL

/-! sorting pairs of an int and a tuple of ints: sorted(l), sorted(l, key=f) -/
namespace SrtT
open PySem PyProof.Rows Srt SrtO PySem.SeqAt
theorem ints_at : ∀ {vs : List Value} {ns : List Int}, IntsAre vs ns → ∀ (i : Nat) (h : i < vs.length), ∃ (n : Int) (t : Tok), vs[i] = .int n t ∧ ns[i]? = some n
  | _, _, .nil, i, h => by simp at h
  | _, _, .cons n t r, 0, h => ⟨n, t, rfl, rfl⟩
  | _, _, .cons n t r, i + 1, h => by
    obtain ⟨m, u, e1, e2⟩ := ints_at r i (by simpa using h)
    exact ⟨m, u, by simpa using e1, by simpa using e2⟩
theorem ints_uniq : ∀ {vs : List Value} {ns ms : List Int}, IntsAre vs ns → IntsAre vs ms → ns = ms
  | _, _, _, .nil, .nil => rfl
  | _, _, _, .cons n t r, h => by
    cases h with
    | cons _ _ r' => rw [ints_uniq r r']
theorem eq_all {ns ms : List Int} : ((List.range (min ns.length ms.length)).all (fun j => decide (ns[j]? = ms[j]?)) && ns.length == ms.length) = decide (ns = ms) := by
  rw [Bool.eq_iff_iff, Bool.and_eq_true, List.all_eq_true, beq_iff_eq, decide_eq_true_eq]
  constructor
  · rintro ⟨h1, h2⟩
    apply List.ext_getElem?
    intro i
    by_cases q : i < ns.length
    · exact of_decide_eq_true (h1 i (List.mem_range.mpr (by omega)))
    · rw [List.getElem?_eq_none (by omega), List.getElem?_eq_none (by omega)]
  · rintro rfl
    exact ⟨fun x _ => decide_eq_true rfl, rfl⟩
theorem eq_tupInts {A : Around} {s : Shared} {l b : Addr} {items items2 : Array Value} {ns ms : List Int} (hl : s.heap.IsTuple l items) (hb : s.heap.IsTuple b items2) (hi : IntsAre items.toList ns) (hj : IntsAre items2.toList ms) (hu : A.units < cLine) : EqAt A s (.ref l) (.ref b) (decide (ns = ms)) := by
  by_cases e : l = b
  · subst e
    obtain ⟨o, ho, hc, n, hd⟩ := id hl
    obtain ⟨o2, ho2, hc2, n2, hd2⟩ := id hb
    rw [ho] at ho2
    cases ho2
    rw [hd] at hd2
    cases hd2
    have e := ints_uniq hi hj
    rw [decide_eq_true e]
    exact EqAt.same _
  · have h1 := hi.length
    have h2 := hj.length
    rw [Array.length_toList] at h1 h2
    have r := RcAt.tuples (A := A) (s := s) (e := fun j => decide (ns[j]? = ms[j]?)) hl hb hu fun j q1 q2 => by
      obtain ⟨n, t, e1, e2⟩ := ints_at hi j (by simpa using q1)
      obtain ⟨m, u, e3, e4⟩ := ints_at hj j (by simpa using q2)
      rw [Array.getElem_toList] at e1 e3
      rw [e1, e3, e2, e4]
      have := EqAt.int_int (A := A.in1) (s := s) n t m u
      have e5 : (n == m) = decide (some n = some m) := by rw [Bool.eq_iff_iff]; simp
      rw [e5] at this
      exact this
    have e2 : (items.size == items2.size) = (ns.length == ms.length) := by rw [h1, h2]
    rw [h1, h2, eq_all] at r
    exact EqAt.of_refs e r
/-- v is a tuple of an int and a tuple of ints -/
def IsPT (h : Heap) (v : Value) (ks : List Int) : Prop := ∃ (a : Addr) (o : Obj) (x : Int) (t : Tok) (b : Addr) (n : Nat) (items : Array Value) (ns : List Int), ks = x :: ns ∧ v = .ref a ∧ h.get? a = some o ∧ o.cls = .type "tuple" ∧ o.data = .seq #[.int x t, .ref b] n ∧ h.IsTuple b items ∧ IntsAre items.toList ns
theorem IsPT.keeps {h h' : Heap} {v : Value} {ks : List Int} (p : IsPT h v ks) (k : ∀ b o, h.get? b = some o → o.cls = .type "tuple" → h'.get? b = some o) : IsPT h' v ks := by
  obtain ⟨a, o, x, t, b, n, items, ns, e, e2, ho, hc, hd, ⟨o2, ho2, hc2, n2, hd2⟩, hi⟩ := p
  exact ⟨a, o, x, t, b, n, items, ns, e, e2, k _ _ ho hc, hc, hd, ⟨o2, k _ _ ho2 hc2, hc2, n2, hd2⟩, hi⟩
theorem pt_firsts {h : Heap} {k : Value → List Int} : ∀ {vs : List Value}, (∀ v ∈ vs, IsPT h v (k v)) → ∃ fs : List Value, PySem.W.KatTups h vs fs ∧ fs.length = vs.length ∧ ∀ f ∈ fs, ∃ x t, f = Value.int x t
  | [], _ => ⟨[], PySem.W.KatTups.nil, rfl, fun _ hm => by simp at hm⟩
  | v :: vs, hp => by
    obtain ⟨fs, h1, h2, h3⟩ := pt_firsts (vs := vs) fun v' hm => hp v' (List.mem_cons_of_mem _ hm)
    obtain ⟨a, o, x, t, b, n, items, ns, _, e, ho, hc, hd, _⟩ := hp v (List.mem_cons_self ..)
    subst e
    refine ⟨.int x t :: fs, PySem.W.KatTups.cons ho hc hd rfl h1, by rw [List.length_cons, List.length_cons, h2], fun f hm => ?_⟩
    rcases List.mem_cons.mp hm with rfl | hm
    · exact ⟨x, t, rfl⟩
    · exact h3 f hm
section
variable {prog : Program} {w : World} {A : Around} {E : Value → Shared → Prop} {s : Shared}
theorem pt_lt {v u : Value} {ks js : List Int} {Q : Bool → Shared → Prop} {E : Value → Shared → Prop} (hu : A.units < cLine) (h1 : IsPT s.heap v ks) (h2 : IsPT s.heap u js) (h : Q (HT.lexLt ks js) s) : wpAny (model prog w) A (keyLt' (tuples' true) v u) Q E s := by
  obtain ⟨a, o, x, t, b, n, items, ns, rfl, rfl, ho, hc, hd, hb, hi⟩ := h1
  obtain ⟨a', o', x', t', b', n', items', ms, rfl, rfl, ho', hc', hd', hb', hi'⟩ := h2
  refine PySem.W.kat_lt ho hd ho' hd' ?_
  show PySem.W.KatLex prog w A true (decide (2 < 2)) _ [(.int x t, .int x' t'), (.ref b, .ref b')] 0 s
  refine PySem.W.kat_cons (SeqAt.EqAt.int_int x t x' t' prog w _ _ ?_)
  have hlex : HT.lexLt (x :: ns) (x' :: ms) = if x = x' then HT.lexLt ns ms else decide (x < x') := rfl
  rw [hlex] at h
  refine PySem.W.kat_go (fun e1 => ?_) (fun e1 => ?_)
  · have ex : x = x' := by simpa using e1
    rw [if_pos ex] at h
    refine PySem.W.kat_yes (PySem.W.kat_cons (eq_tupInts hb hb' hi hi' hu prog w _ _ ?_))
    refine PySem.W.kat_go (fun e2 => ?_) (fun e2 => ?_)
    · have ey : ns = ms := by simpa using e2
      have e3 : HT.lexLt ns ms = false := by
        rw [ey]
        have := (NtL.swo_lexL (fun l : List Int => l)).asym ms ms
        cases q : HT.lexLt ms ms with
        | false => rfl
        | true => exact (this q).symm.trans q |>.symm ▸ rfl
      rw [e3] at h
      exact PySem.W.kat_yes (PySem.W.kat_nil h)
    · exact PySem.W.kat_no (PySem.W.kat_one _ _ (HT.lt_tupInts hb hb' hi hi' hu h))
  · have ex : ¬ x = x' := by simpa using e1
    rw [if_neg ex] at h
    exact PySem.W.kat_no (oneLt_int h)
theorem pt_cmp {vs : List Value} {k : Value → List Int} (hu : A.units < cLine) (hp : ∀ v ∈ vs, IsPT s.heap v (k v)) : Cmp prog w A s (tuples' true) (fun p => p.1 ∈ vs) (lt2 fun v u => HT.lexLt (k v) (k u)) := by
  intro p q hm hm'
  exact pt_lt hu (hp _ hm) (hp _ hm') ⟨rfl, rfl⟩
theorem pt_kind {vs : List Value} {k : Value → List Int} {Q : SortKind → Shared → Prop} {E : Value → Shared → Prop} (h0 : 0 < vs.length) (hp : ∀ v ∈ vs, IsPT s.heap v (k v)) (h : Q (tuples' true) s) : wpAny (model prog w) A (keyKind' vs.toArray) Q E s := by
  obtain ⟨fs, h1, h2, h3⟩ := pt_firsts hp
  refine PySem.W.kat_kind (T := .type "int") h1 (by omega) (fun f hm => ?_) (by rfl) ?_
  · obtain ⟨x, t, rfl⟩ := h3 f hm
    exact PySem.W.Looks.now
  · have e : (Value.type "int" != Value.type "tuple") = true := by first | decide +kernel | rfl | decide
    rw [e]
    exact h
theorem pt_sortable {a : Addr} {vs : List Value} {k : Value → List Int} (hu : A.units < cLine) (h0 : 0 < vs.length) (hp : ∀ v ∈ vs, IsPT s.heap v (k v)) (ha : ∀ o, s.heap.get? a = some o → o.cls ≠ .type "tuple") : SortableO prog w A s a vs fun v u => HT.lexLt (k v) (k u) := by
  intro h' keep
  have hp' : ∀ v ∈ vs, IsPT h' v (k v) := fun v hm => (hp v hm).keeps fun b o e c => keep b o (fun z => by subst z; exact ha o e c) e
  exact ⟨tuples' true, fun Q E hq => pt_kind (s := { s with heap := h' }) h0 hp' hq, pt_cmp (s := { s with heap := h' }) hu hp'⟩
end
end SrtT

/-! sorted(l, key=f), f a def of the text -/
namespace SrtT
open PySem PyProof.Rows Srt SrtO PySem.SeqAt PySem.W
section
variable {prog : Program} {w : World} {A : Around} {E : Value → Shared → Prop} {s : Shared}
theorem IsPT.uniq {h : Heap} {v : Value} {ks js : List Int} (x : IsPT h v ks) (y : IsPT h v js) : ks = js := by
  obtain ⟨a, o, x1, t, b, n, items, ns, rfl, rfl, ho, hc, hd, ⟨ob, hob, hcb, nb, hdb⟩, hi⟩ := x
  obtain ⟨a', o', x2, t', b', n', items', ms, rfl, e, ho', hc', hd', ⟨ob', hob', hcb', nb', hdb'⟩, hi'⟩ := y
  cases e
  rw [ho] at ho'
  cases ho'
  rw [hd] at hd'
  have e0 := (Data.seq.inj hd').1
  have e1 := congrArg Array.toList e0
  simp only at e1
  have e2 := List.cons.inj e1
  have e3 := List.cons.inj e2.2
  have e4 : x1 = x2 := by have := e2.1; injection this
  have e5 : b = b' := by have := e3.1; injection this
  subst e4 e5
  rw [hob] at hob'
  cases hob'
  rw [hdb] at hdb'
  cases hdb'
  rw [ints_uniq hi hi']
open Classical in
noncomputable def keyAt (h : Heap) (v : Value) : List Int := if p : ∃ ks, IsPT h v ks then Classical.choose p else []
theorem keyAt_eq {h : Heap} {v : Value} {ks : List Int} (p : IsPT h v ks) : keyAt h v = ks := by
  unfold keyAt
  rw [dif_pos ⟨ks, p⟩]
  exact (Classical.choose_spec (p := fun ks => IsPT h v ks) ⟨ks, p⟩).uniq p
theorem zip_swap (g : Value → List Int) : ∀ (ks is : List Value), (ks.zip is).map (fun p : Keyed => (p.2, g p.1)) = is.zip (ks.map g)
  | [], is => by simp
  | k :: ks, [] => by simp
  | k :: ks, i :: is => by rw [List.zip_cons_cons, List.map_cons, zip_swap g ks is]; rfl
/-- the end of a sort by keys -/
theorem key_end {a kS : Addr} {items : List Value} {keys : Array Value} {ds : List (List Int)} {e e1 : Nat} {P : PySem.Fin → Shared → Prop} (hu : A.units < cLine) (hk : s.heap.get? kS = some (seqObj "list" keys e)) (ha : s.heap.get? a = some (seqObj "list" #[] e1)) (hne : kS ≠ a)
    (hl : keys.toList.length = items.length) (hz : items.length ≤ sizeLine) (hd : ds.length = items.length) (hp : ∀ (i : Nat) v ks, keys.toList[i]? = some v → ds[i]? = some ks → IsPT s.heap v ks)
    (h : ∀ (h' : Heap) (zs : List (Value × List Int)) (c : Nat), (∀ b o, b ≠ a → (s.heap.update kS (Obj.mapSeq fun _ => (#[] : Array Value))).get? b = some o → h'.get? b = some o) → zs.Perm (items.zip ds) → zs.Pairwise (fun p q => HT.lexLt q.2 p.2 = false) → h'.get? a = some (seqObj "list" (zs.map (·.1)).toArray c) →
      P (.done (.ret .none)) { s with heap := h' }) : wpAny (model prog w) A (ksk_end a false items.toArray e1 (.ref kS) keys) P E s := by
  have hlen : keys.size = items.length := by rw [← hl, Array.length_toList]
  have hkz : (keys.zip items.toArray).toList = keys.toList.zip items := ksk_zip keys items
  have fin : ∀ st : SortSt, Srtd (lt2 fun v u => HT.lexLt (keyAt s.heap v) (keyAt s.heap u)) (arrOf st).toList → Stb (lt2 fun v u => HT.lexLt (keyAt s.heap v) (keyAt s.heap u)) (arrOf st).toList (keys.zip items.toArray).toList → failedOf st = none → wpAny (model prog w) A (ksk_tail a false e1 (.ref kS) st) P E s := by
    intro st h1 h2 hf
    have hpm := h2.perm
    rw [hkz] at hpm
    have hsz : ((arrOf st).map (·.2)).size = items.length := by
      rw [Array.size_map, ← Array.length_toList, hpm.length_eq, List.length_zip]
      omega
    unfold ksk_tail
    try dsimp only
    have s1 := Heap.SameBut.update s.heap kS (Obj.mapSeq fun _ => (#[] : Array Value))
    have na1 : (s.heap.update kS (Obj.mapSeq fun _ => (#[] : Array Value))).get? a = some (seqObj "list" #[] e1) := (s1.2 a hne.symm).trans ha
    have s2 := Heap.SameBut.update (s.heap.update kS (Obj.mapSeq fun _ => (#[] : Array Value))) a (Obj.mapSeq fun _ => (arrOf st).map (·.2))
    obtain ⟨c2, hc2⟩ : ∃ c2, ((s.heap.update kS (Obj.mapSeq fun _ => (#[] : Array Value))).update a (Obj.mapSeq fun _ => (arrOf st).map (·.2))).get? a = some (seqObj "list" ((arrOf st).map (·.2)) c2) := ⟨_, get?_update_seq na1 fun _ => (arrOf st).map (·.2)⟩
    obtain ⟨c3, hc3⟩ : ∃ c3, (s.heap.update kS (Obj.mapSeq fun _ => (#[] : Array Value))).get? kS = some (seqObj "list" #[] c3) := ⟨_, get?_update_seq hk fun _ => #[]⟩
    refine wpAny_bind (listUpdate_at hk rfl ?_ (by rw [hlen]; exact hz) (Nat.zero_le _))
    refine wpAny_bind (wpAny_letGo ?_)
    refine wpAny_bind (seqEpoch_at na1 rfl ?_)
    refine wpAny_bind (listUpdate_at na1 rfl ?_ (Nat.zero_le _) (by show ((arrOf st).map (·.2)).size ≤ _; rw [hsz]; omega))
    rw [hf]
    simp only [bne_self_eq_false, Bool.false_eq_true, if_false]
    have hzm : ((arrOf st).toList.map fun p : Keyed => (p.2, keyAt s.heap p.1)).Perm (items.zip ds) := by
      have q := hpm.map (fun p : Keyed => (p.2, keyAt s.heap p.1))
      have e2 : (keys.toList.zip items).map (fun p : Keyed => (p.2, keyAt s.heap p.1)) = items.zip ds := by
        rw [zip_swap (keyAt s.heap)]
        congr 1
        apply List.ext_getElem?
        intro i
        rw [List.getElem?_map]
        by_cases q : i < ds.length
        · have hi : i < keys.toList.length := by omega
          rw [List.getElem?_eq_getElem hi, List.getElem?_eq_getElem q]
          exact congrArg some (keyAt_eq (hp i _ _ (List.getElem?_eq_getElem hi) (List.getElem?_eq_getElem q)))
        · rw [List.getElem?_eq_none (by omega), List.getElem?_eq_none (by omega)]; rfl
      rw [e2] at q
      exact q
    refine wpAny_pure (h _ ((arrOf st).toList.map fun p : Keyed => (p.2, keyAt s.heap p.1)) c2 (fun b o n2 q => ?_) hzm ?_ ?_)
    · exact (s2.2 b n2).trans q
    · rw [List.pairwise_map]
      exact h1
    · rw [hc2, List.map_map]
      congr 3
      apply Array.ext'
      simp [Array.toList_map]
  unfold ksk_end
  try dsimp only
  simp only [Bool.false_eq_true, if_false]
  by_cases h2 : items.toArray.size < 2
  · rw [if_pos h2, if_pos h2]
    refine wpAny_bind (wpAny_pure ?_)
    rw [StateT.run_pure]
    refine wpAny_bind (wpAny_pure ?_)
    try dsimp only
    refine fin (SortSt.mk' general' (keys.zip items.toArray) #[] 7 none) ?_ (Stb.refl _) rfl
    show Srtd _ (keys.zip items.toArray).toList
    rw [hkz]
    have h3 : (keys.toList.zip items).length < 2 := by rw [List.length_zip]; simp at h2; omega
    match q : keys.toList.zip items, h3 with
    | [], _ => exact List.Pairwise.nil
    | [v], _ => exact List.pairwise_singleton _ _
    | _ :: _ :: l, h => exact absurd h (by rw [List.length_cons, List.length_cons]; omega)
  · rw [if_neg h2, if_neg h2]
    have h2' : 2 ≤ items.length := by simp at h2; omega
    have hmem : ∀ v ∈ keys.toList, IsPT s.heap v (keyAt s.heap v) := fun v hv => by
      obtain ⟨i, hi⟩ := List.mem_iff_getElem?.mp hv
      have hil : i < ds.length := by
        have := (List.getElem?_eq_some_iff.mp hi).1
        omega
      have p := hp i v ds[i] hi (List.getElem?_eq_getElem hil)
      rw [keyAt_eq p]
      exact p
    have hkk : keys = keys.toList.toArray := by simp
    refine wpAny_bind ?_
    rw [hkk]
    refine pt_kind (k := keyAt s.heap) (by omega) hmem ?_
    rw [← hkk]
    have T := pt_cmp (prog := prog) (w := w) (A := A) (s := s) (vs := keys.toList) (k := keyAt s.heap) hu hmem
    have hall : AllL (fun p : Keyed => p.1 ∈ keys.toList) (keys.zip items.toArray).toList := fun p hm => by
      rw [hkz] at hm
      exact (List.of_mem_zip hm).1
    refine wpAny_bind (wpAny_mono (wpS_sortO (st0 := SortSt.mk' (tuples' true) (keys.zip items.toArray) #[] 7 none)
      (Q := fun _ st' => Srtd (lt2 fun v u => HT.lexLt (keyAt s.heap v) (keyAt s.heap u)) (arrOf st').toList ∧ Stb (lt2 fun v u => HT.lexLt (keyAt s.heap v) (keyAt s.heap u)) (arrOf st').toList (keys.zip items.toArray).toList ∧ failedOf st' = none) (swo2 (NtL.swo_lexL (keyAt s.heap))) T rfl hall rfl rfl fun st' a1 a2 a3 => ⟨a1, a2, a3⟩) ?_ fun _ _ e => e)
    rintro ⟨⟨⟩, st'⟩ s' ⟨rfl, hp1, hp2, hf⟩
    try dsimp only
    exact fin st' hp1 hp2 hf
end
end SrtT
namespace L2
open PySem PySem.Spec PyProof.Rows PySem.W SrtT
/-- the key: a tuple of an int and a tuple of ints -/
def PtV (K : PySem.W.Frag) (H : Hp) (x : V) (ks : List Int) : Prop := ∃ (t b : Addr) (y : Int) (ns : List Int), ks = y :: ns ∧ x = .ref t ∧ SqT K H t [.int y, .ref b] ∧ SqT K H b (ns.map V.int)
theorem PtV.is {X : Cx} {pins : List (Addr × Obj)} {σ : St} {H : Hp} {s : Shared} {x : V} {u : Value} {ks : List Int} (I : Inv X pins σ H s) (p : PtV X.K H x ks) (r : RelV x u) : IsPT s.heap u ks := by
  obtain ⟨t, b, y, ns, rfl, rfl, ht, hb⟩ := p
  cases (show u = Value.ref t from r)
  obtain ⟨its, rv, ⟨o, ho, hc, n, hd⟩, _⟩ := I.tuple ht
  obtain ⟨its2, rv2, hb2, _⟩ := I.tuple hb
  cases rv with
  | cons r1 rr =>
    cases rr with
    | @cons _ u2 _ _ r2 rr =>
      cases rr
      obtain ⟨t1, rfl⟩ := r1
      cases (show u2 = Value.ref b from r2)
      exact ⟨t, o, y, t1, b, n, its2.toArray, ns, rfl, rfl, ho, hc, hd, hb2, ints_of_vals rv2⟩
/-- W i ks H: i items have their keys; kS holds them -/
structure KeyW (sp : Sp) (E : XK) (K : PySem.W.Frag) (xs : List V) (ds : List (List Int)) (kS : Addr) (W : Nat → Hp → Prop) (Q : VK) : Prop where
  at_ : ∀ i H, W i H → ∃ acc, H kS = some (.lst acc) ∧ acc.length = i
  turn : ∀ (i : Nat) (x : V) H acc, xs[i]? = some x → W i H → H kS = some (.lst acc) → sp [x] H (fun v H' => H' kS = some (.lst acc) ∧ W (i + 1) (upd H' kS (.lst (acc ++ [v])))) E
  keys : ∀ H acc, W xs.length H → H kS = some (.lst acc) → ∀ (i : Nat) v ks, acc[i]? = some v → ds[i]? = some ks → PtV K H v ks
  fin : ∀ H (zs : List (V × List Int)) (p : Addr), W xs.length H → zs.Perm (xs.zip ds) → zs.Pairwise (fun p q => HT.lexLt q.2 p.2 = false) → H p = none → p ≠ kS → Q (.ref p) (upd (upd H kS (.lst [])) p (.lst (zs.map (·.1))))
def rSortKeyF (K : PySem.W.Frag) (f : Addr) (sp : Sp) (E : XK) : List V → List V → Hp → VK → Prop := fun vs zs H Q => ∃ (a : Addr) (xs : List V) (ds : List (List Int)), vs = [V.ref a] ∧ zs = [.ref f] ∧ SqL K H a xs ∧ xs.length < sizeLine ∧ ds.length = xs.length ∧ (∀ x ∈ xs, ∃ p, x = V.ref p) ∧
  ∀ kS, H kS = none → ∃ W, W 0 (upd H kS (.lst [])) ∧ KeyW sp E K xs ds kS W Q
section
variable {X : Cx} {CX : CXT} {k : Nat} {f : Addr} {fd : FuncData} {ps : List Str} {sp : Sp} {E : XK}
theorem vals_at : ∀ {xs : List V} {us : List Value}, Vals xs us → ∀ (i : Nat) (u : Value), us[i]? = some u → ∃ x, xs[i]? = some x ∧ RelV x u
  | _, _, .nil, i, u, h => by simp at h
  | _, _, .cons r t, 0, u, h => by simp at h; subst h; exact ⟨_, rfl, r⟩
  | _, _, .cons r t, i + 1, u, h => by
    obtain ⟨x, h1, h2⟩ := vals_at t i u (by simpa using h)
    exact ⟨x, by simpa using h1, h2⟩
theorem cr_sortedKeyF (F : FnOk X.prog X.w X.K X.mg X.base CX0 k f fd ps sp) (hr : Room (k + 2) X.A) (hb : Binds X.K fd ps []) : CallRK X (.builtin "sorted") [Str.ofString "key"] (rSortKeyF X.K f sp E) := by
  intro pins s σ H vs zs us ws Q I r rz h
  obtain ⟨l, xs, ds, rfl, rfl, hs, hz1, hdl, hrf, q⟩ := h
  obtain rfl := Vals.ref1 r
  obtain ⟨w1, rfl, e1⟩ := vals1 rz
  obtain rfl : w1 = Value.ref f := e1
  obtain ⟨its, rv, hl, hz⟩ := I.list hs
  obtain ⟨exs, hits⟩ := refs_back rv hrf
  have hlen : its.length = xs.length := rv.length.symm
  have hitz : its.length ≤ sizeLine := by omega
  refine call_function_entry_kw kind_sorted plain_sorted entry_sorted (ksk_s1 _ _) ?_
  unfold Builtin.«sorted»
  refine wpAny_bind (m := checkCount "sorted" 1 1 _) (wpAny_pure ?_)
  refine wpAny_bind (collect_list hl.isList ?_ hitz)
  refine wpAny_bind (wpAny_newList ?_ hitz)
  generalize hh1 : (s.heap.push (seqObj "list" #[] 0)).update s.heap.objs.size (Obj.mapSeq (· ++ its.toArray)) = h1
  have k1 : ∀ b o, s.heap.get? b = some o → h1.get? b = some o := fun b o e => by
    rw [← hh1, Heap.get?_update_ne _ _ _ _ (Nat.ne_of_lt (Heap.lt_size e))]
    exact Heap.get?_push_of_some _ e
  have z1 : s.heap.objs.size ≤ h1.objs.size := by rw [← hh1, Heap.size_update]; exact Nat.le_of_lt (by rw [Heap.size_push]; exact Nat.lt_succ_self _)
  show wpAny _ _ _ _ _ { s with heap := h1.push (seqObj "list" its.toArray 0) }
  generalize ha : h1.objs.size = a
  have hoA : (h1.push (seqObj "list" its.toArray 0)).get? a = some (seqObj "list" its.toArray 0) := by rw [← ha]; exact Heap.get?_push_size _ rfl
  refine wpAny_bind (wpAny_holding (wpAny_call_entry_kw slot_list_sort ⟨_, hoA, rfl⟩ entry_list_sort ?_ (ksk_l1 _ _)))
  show wpAny _ _ (Builtin.«list.sort» ⟨[.ref a], [(Str.ofString "key", .ref f)]⟩) _ _ _
  rw [ksk_t1]
  unfold ksk_tree
  refine wpAny_bind (listItems_at hoA rfl ?_)
  refine wpAny_bind (listUpdate_at hoA rfl ?_ (by rw [List.size_toArray]; exact hitz) (Nat.zero_le _))
  obtain ⟨e1, ho1⟩ : ∃ e1, ((h1.push (seqObj "list" its.toArray 0)).update a (Obj.mapSeq fun _ => (#[] : Array Value))).get? a = some (seqObj "list" #[] e1) := ⟨_, get?_update_seq hoA fun _ => #[]⟩
  generalize hh2 : (h1.push (seqObj "list" its.toArray 0)).update a (Obj.mapSeq fun _ => (#[] : Array Value)) = h2 at ho1 ⊢
  have k2 : ∀ b o, s.heap.get? b = some o → h2.get? b = some o := fun b o e => by
    have := k1 b o e
    rw [← hh2, Heap.get?_update_ne _ _ _ _ (by rw [← ha]; exact Nat.ne_of_lt (Heap.lt_size this))]
    exact Heap.get?_push_of_some _ this
  refine wpAny_bind (seqEpoch_at ho1 rfl ?_)
  refine wpAny_bind (wpAny_newTuple ?_ (by simpa using hitz))
  refine wpAny_bind (wpAny_newList ?_ (Nat.zero_le _))
  refine wpAny_holding ?_
  generalize hh3 : h2.push { cls := .type "tuple", data := .seq its.toArray.toList.toArray } = h3
  have k3 : ∀ b o, h2.get? b = some o → h3.get? b = some o := fun b o e => by rw [← hh3]; exact Heap.get?_push_of_some _ e
  have z3 : a < h3.objs.size := Heap.lt_size (k3 _ _ ho1)
  generalize hkS : h3.objs.size = kS
  have hoK : (h3.push { cls := .type "list", data := .seq ([] : List Value).toArray }).get? kS = some (seqObj "list" #[] 0) := by rw [← hkS]; exact Heap.get?_push_size _ rfl
  generalize hh4 : h3.push { cls := .type "list", data := .seq ([] : List Value).toArray } = h4 at hoK ⊢
  have k4 : ∀ b o, h3.get? b = some o → h4.get? b = some o := fun b o e => by rw [← hh4]; exact Heap.get?_push_of_some _ e
  have hka : kS ≠ a := Nat.ne_of_gt (by rw [← hkS]; exact z3)
  have ha0 : s.heap.objs.size ≤ a := by omega
  have hk0 : s.heap.objs.size ≤ kS := by omega
  have hHa : H a = none := I.hok.fresh ha0
  have hHk : H kS = none := I.hok.fresh hk0
  obtain ⟨W, w0, KW⟩ := q kS hHk
  have I4 : Inv X pins σ (upd H kS (.lst [])) { s with heap := h4, toks := s.toks } := I.laid (fun b o e => k4 b o (k3 b o (k2 b o e))) hk0 ⟨Nat.zero_le _, [], 0, .nil, hoK⟩
  have hfr : a ∉ frs X.stack := fun hm => by
    obtain ⟨_, o, ho, _⟩ := I.stack.mem hm
    exact absurd (Heap.lt_size ho) (Nat.not_lt.mpr ha0)
  -- the keys
  unfold ksk_rest
  refine wpAny_bind (wpAny_rule ?_)
  first
    | rw [List.forIn_toArray]
    | (rw [← Array.forIn_toList]; simp only [List.toList_toArray])
    | rw [← Array.forIn_toList]
  refine wpAny_bind (ksk_fold (fun i s' => ∃ H', Inv X pins σ H' s' ∧ s'.heap.get? a = some (seqObj "list" #[] e1) ∧ H' a = none ∧ W i H' ∧ s'.os = s.os) its 0 _
    ⟨upd H kS (.lst []), I4, k4 _ _ (k3 _ _ ho1), by rw [upd_ne hka.symm]; exact hHa, w0, rfl⟩ ?step ?done)
  case step =>
    rintro j x s' hxj ⟨H', I', oa, na, w, hos⟩
    simp only [Nat.zero_add] at w ⊢
    obtain ⟨acc, hacc, hal⟩ := KW.at_ j H' w
    have hj : j < its.length := (List.getElem?_eq_some_iff.mp hxj).1
    have hxv : xs[j]? = some (backV x) := by rw [exs, List.getElem?_map, hxj]; rfl
    have rx : Vals [backV x] [x] := by
      obtain ⟨t, rfl⟩ := hits x (List.mem_of_getElem? hxj)
      exact .cons rfl .nil
    have hsp := KW.turn j (backV x) H' acc hxv w hacc
    have hlp : [x].length = ps.length := F.len [backV x] H' _ _ hsp
    refine wpAny_bind (wpAny_attempt (wpAny_call (codeAny_mono (F.run X.A.in1.in1 X.stack s' H' ⟨[x], []⟩ [x] [backV x] _ E hr.in1.in1 I'.env0.in1.in1 (hb s' [x] I'.kIn hlp) rx hsp) fun r s2 hq => ?_)))
    cases r with
    | error e => exact False.elim hq
    | ok fl =>
      cases fl with
      | next => exact False.elim hq
      | brk => exact False.elim hq
      | cont => exact False.elim hq
      | ret u =>
        obtain ⟨v, H2, hos2, bare, un, hok, rv2, ⟨hk2, w2⟩⟩ := hq
        have na2 := un.free a _ oa na (by simp)
        have oa2 := un.keep a _ oa na hfr (by simp)
        have I2 : Inv X pins σ H2 s2 := I'.call' hos2 un hok bare (fun b z => absurd z (by simp))
        obtain ⟨hz2, its2, n2, rv3, hob2⟩ := I2.hok kS _ hk2
        try dsimp only
        have hl2 : its2.length = j := by rw [← rv3.length]; exact hal
        have s1 := Heap.SameBut.update s2.heap kS (Obj.mapSeq (·.push u))
        obtain ⟨c2, hc2⟩ : ∃ c2, (s2.heap.update kS (Obj.mapSeq (·.push u))).get? kS = some (seqObj "list" (its2.toArray.push u) c2) := ⟨_, get?_update_seq hob2 (·.push u)⟩
        have ep : its2.toArray.push u = (its2 ++ [u]).toArray := by simp
        refine wpAny_bind (listUpdate_at hob2 rfl ?_ (by rw [List.size_toArray]; omega) (by show (its2.toArray.push u).size ≤ _; rw [Array.size_push, List.size_toArray]; omega))
        refine wpAny_pure ⟨rfl, upd H2 kS (.lst (acc ++ [v])), ?_, (s1.2 a hka.symm).trans oa2, by rw [upd_ne hka.symm]; exact na2, w2, hos2.trans hos⟩
        exact I2.write (t' := s2.toks) (by rw [hk2]; trivial) (.inl rfl) (fun b o hb e => (s1.2 b hb).trans e) ⟨_, hc2⟩ ⟨by rw [List.length_append, List.length_singleton]; omega, its2 ++ [u], c2, rv3.append (.cons rv2 .nil), by rw [hc2, ep]⟩
  case done =>
    rintro s' ⟨H', I', oa, na, w, hos⟩
    rw [show 0 + its.length = xs.length by omega] at w
    obtain ⟨acc, hacc, hal⟩ := KW.at_ _ H' w
    obtain ⟨hz2, its2, n2, rv3, hob2⟩ := I'.hok kS _ hacc
    have hl2 : its2.length = its.length := by rw [← rv3.length, hal, hlen]
    try dsimp only
    refine wpAny_bind (listItems_at hob2 rfl ?_)
    refine key_end (ds := ds) (by have := hr.in1.in1.units0; exact this) hob2 oa hka (by simpa using hl2) hitz (by omega) (fun i v ks e1 e2 => ?_) fun h' zs c hk hp hw hoA' => ?_
    · have e1 : its2[i]? = some v := by simpa using e1
      obtain ⟨x, ex, rx⟩ := vals_at rv3 i v e1
      exact (KW.keys H' acc w hacc i x ks ex e2).is I' rx
    · have hzm : (zs.map fun p => (backV p.1, p.2)).Perm (xs.zip ds) := by
        have q := hp.map (fun p : Value × List Int => (backV p.1, p.2))
        rw [exs]
        have e2 : (its.zip ds).map (fun p : Value × List Int => (backV p.1, p.2)) = (its.map backV).zip ds := by rw [List.zip_map_left]; rfl
        rw [e2] at q
        exact q
      have hrefs : ∀ u ∈ zs.map (·.1), ∃ a, u = Value.ref a := fun u hu => by
        obtain ⟨p, hpm, e⟩ := List.mem_map.mp hu
        have := hp.mem_iff.mp hpm
        obtain ⟨p1, p2⟩ := p
        subst e
        exact hits _ (List.of_mem_zip this).1
      have hQ := KW.fin H' (zs.map fun p => (backV p.1, p.2)) a w hzm (by rw [List.pairwise_map]; exact hw) na hka.symm
      have em : (zs.map fun p => (backV p.1, p.2)).map (·.1) = (zs.map (·.1)).map backV := by rw [List.map_map, List.map_map]; rfl
      rw [em] at hQ
      have hlz : ((zs.map (·.1)).map backV).length ≤ sizeLine := by rw [List.length_map, List.length_map, hp.length_eq, List.length_zip]; omega
      refine ⟨_, rfl, wpAny_pure ⟨_, rfl, ?_⟩⟩
      have s1 := Heap.SameBut.update s'.heap kS (Obj.mapSeq fun _ => (#[] : Array Value))
      obtain ⟨c3, hc3⟩ : ∃ c3, (s'.heap.update kS (Obj.mapSeq fun _ => (#[] : Array Value))).get? kS = some (seqObj "list" #[] c3) := ⟨_, get?_update_seq hob2 fun _ => #[]⟩
      generalize hhm : s'.heap.update kS (Obj.mapSeq fun _ => (#[] : Array Value)) = hm at hk s1 hc3
      have I5 : Inv X pins σ (upd H' kS (.lst [])) { s' with heap := hm, toks := s'.toks } := I'.write (x := kS) (e := kS) (by rw [hacc]; trivial) (.inl rfl) (fun b o hb e => (s1.2 b hb).trans e) ⟨_, hc3⟩ ⟨Nat.zero_le _, [], c3, .nil, hc3⟩
      have na5 : upd H' kS (.lst []) a = none := by rw [upd_ne hka.symm]; exact na
      have oa5 : hm.get? a = some (seqObj "list" #[] e1) := (s1.2 a hka.symm).trans oa
      have aL : a ≠ X.env.locals := fun z => by
        obtain ⟨m, ⟨o, _, _, ho, _⟩, _⟩ := I.loc
        rw [← z] at ho
        exact absurd (Heap.lt_size ho) (Nat.not_lt.mpr ha0)
      have aC : ∀ x c, X.env.cells.lookup x = some c → c ≠ a := fun x c e z => by
        obtain ⟨v, o, ho, _⟩ := I.cell x c e
        rw [z] at ho
        exact absurd (Heap.lt_size ho) (Nat.not_lt.mpr ha0)
      have aP : ∀ p ∈ X.pn ++ pins, p.1 ≠ a := fun p hp z => by
        have ho := (I.pin p hp).1
        rw [z] at ho
        exact absurd (Heap.lt_size ho) (Nat.not_lt.mpr ha0)
      have aS : X.s_0.heap.objs.size ≤ a := Nat.le_trans I.sz ha0
      have I6 : Inv X pins σ (upd H' kS (.lst [])) { s' with heap := h', toks := s'.toks } := Inv.turned (s := { s' with heap := hm, toks := s'.toks }) (h' := h') (t' := s'.toks) (it := a) I5 hk na5 aL (.inr aS) aC aP
      have hob : ObjOk X.prog X.w (upd (upd H' kS (.lst [])) a (.lst ((zs.map (·.1)).map backV))) h' a (.lst ((zs.map (·.1)).map backV)) := ⟨hlz, _, c, vals_back hrefs, hoA'⟩
      refine ⟨.ref a, upd (upd H' kS (.lst [])) a (.lst ((zs.map (·.1)).map backV)), Inv.call (s := { s' with heap := h', toks := s'.toks }) (h' := h') (ch := [a]) (g' := s'.gens) (d' := s'.drawn) (t' := s'.toks) I6 ⟨fun b o e _ _ _ => e, fun b o e _ _ _ => ⟨o.slots, e⟩, fun b o _ n hx => ?_, fun b o e _ => ⟨o, e⟩, fun b x e => ?_, fun b o x e => ?_, fun b p e => ?_⟩ (I6.hok.laidN (fun _ _ e => e) na5 hob) I6.bare (fun b hb => ?_), rfl, hQ⟩
      · rw [upd_ne (by simpa using hx)]; exact n
      · rw [upd_ne (ne_of_none e na5)]; exact e
      · rw [upd_ne (ne_of_none e na5)]; exact e
      · exact ⟨#[], by rw [upd_ne (ne_of_none e na5), e]; simp⟩
      · have e : b = a := by simpa using hb
        subst e
        exact ⟨.inr aS, aL, aC, aP⟩
end
end L2

/-! sorted by a key, of pairs; bit_length; in a list of tuples; what keeps tells -/
namespace L2
open PySem PySem.Spec PyProof.Rows PySem.W SrtT
def rSortPT (K : PySem.W.Frag) : List V → Hp → VK → Prop := fun vs H Q => ∃ (a : Addr) (xs : List V) (ds : List (List Int)), vs = [V.ref a] ∧ SqL K H a xs ∧ xs.length < sizeLine ∧ ds.length = xs.length ∧ (∀ x ∈ xs, ∃ p, x = V.ref p) ∧
  (∀ (i : Nat) x ks, xs[i]? = some x → ds[i]? = some ks → PtV K H x ks) ∧
  ∀ (zs : List (V × List Int)) (p : Addr), zs.Perm (xs.zip ds) → zs.Pairwise (fun p q => HT.lexLt q.2 p.2 = false) → H p = none → Q (.ref p) (upd H p (.lst (zs.map (·.1))))
theorem cr_sortedPT {X : Cx} (hu : X.A.units + 64 < cLine) : CallR X (.builtin "sorted") (rSortPT X.K) := by
  intro pins s σ H vs us Q I r h
  obtain ⟨l, xs, ds, rfl, hs, hz1, hdl, hrf, hpt, q⟩ := h
  obtain rfl := Vals.ref1 r
  obtain ⟨its, rv, hl, hz⟩ := I.list hs
  obtain ⟨exs, hits⟩ := refs_back rv hrf
  have hlen : its.length = xs.length := rv.length.symm
  have hitz : its.length ≤ sizeLine := by omega
  have hp : ∀ v ∈ its, IsPT s.heap v (keyAt s.heap v) := fun v hv => by
    obtain ⟨i, hi⟩ := List.mem_iff_getElem?.mp hv
    obtain ⟨x, ex, rx⟩ := vals_at rv i v hi
    have hil : i < ds.length := by have := (List.getElem?_eq_some_iff.mp ex).1; omega
    have p := (hpt i x ds[i] ex (List.getElem?_eq_getElem hil)).is I rx
    rw [keyAt_eq p]
    exact p
  have hds : its.map (keyAt s.heap) = ds := by
    apply List.ext_getElem?
    intro i
    rw [List.getElem?_map]
    by_cases q : i < ds.length
    · have hi : i < its.length := by omega
      rw [List.getElem?_eq_getElem hi, List.getElem?_eq_getElem q]
      obtain ⟨x, ex, rx⟩ := vals_at rv i _ (List.getElem?_eq_getElem hi)
      exact congrArg some (keyAt_eq ((hpt i x _ ex (List.getElem?_eq_getElem q)).is I rx))
    · rw [List.getElem?_eq_none (by omega), List.getElem?_eq_none (by omega)]; rfl
  refine SrtO.sorted_ord (NtL.swo_lexL (keyAt s.heap)) hl.isList hitz (fun h2 h₁ a ha kk => pt_sortable (by show X.A.units + 1 + 1 < cLine; omega) (by omega) (fun v hv => (hp v hv).keeps fun b o e _ => (kk b o e).2) fun o e => ?_) fun out h1 h2 => ?_
  · rw [ha] at e
    cases e
    exact fun z => by injection z with z3; exact absurd z3 (by decide)
  · have hrefs : ∀ u ∈ out, ∃ a, u = Value.ref a := fun u hu => hits u (h2.perm.mem_iff.mp hu)
    have hzm : (out.map fun v => (backV v, keyAt s.heap v)).Perm (xs.zip ds) := by
      have q := h2.perm.map (fun v => (backV v, keyAt s.heap v))
      have e2 : its.map (fun v => (backV v, keyAt s.heap v)) = xs.zip ds := by
        rw [exs, ← hds]
        generalize its = l
        induction l with
        | nil => rfl
        | cons v l ih => rw [List.map_cons, List.map_cons, List.map_cons, List.zip_cons_cons, ih]
      rw [e2] at q
      exact q
    obtain ⟨ep, he'⟩ := PyProof.Rows.sortedAll_at s.heap its out.toArray
    have em : (out.map fun v => (backV v, keyAt s.heap v)).map (·.1) = out.map backV := by rw [List.map_map]; rfl
    have hlz : (out.map backV).length ≤ sizeLine := by rw [List.length_map, h2.perm.length_eq]; exact hitz
    have hQ := q _ (s.heap.objs.size + 1) hzm (by rw [List.pairwise_map]; exact h1) (I.hok.fresh (Nat.le_succ _))
    rw [em] at hQ
    exact ⟨.ref _, upd H (s.heap.objs.size + 1) (.lst (out.map backV)), I.laid (t' := s.toks) (fun _ _ => PyProof.Rows.sortedAll_old) (Nat.le_succ _) ⟨hlz, _, ep, vals_back hrefs, he'⟩, rfl, hQ⟩
def rSortKeyG (K : PySem.W.Frag) (sp : Sp) (x : V) (H : Hp) (Q : VK) : Prop := ∃ (a : Addr) (xs : List V) (ds : List (List Int)), x = V.ref a ∧ SqL K H a xs ∧ xs.length < sizeLine ∧ ds.length = xs.length ∧ (∀ x ∈ xs, ∃ p, x = V.ref p) ∧
  ∀ kS, H kS = none → ∃ W, W 0 (upd H kS (.lst [])) ∧ KeyW sp (fun _ _ _ => False) K xs ds kS W Q
def tSortK (K : PySem.W.Frag) (sp : Sp) (ta : TE) : TE := fun σ H Q => ta σ H fun x H1 => rSortKeyG K sp x H1 Q
end L2
namespace TL
open PySem L2
open Enc
theorem Room.u65 {k : Nat} {A : Around} (r : Room k A) : A.units + 65 < cLine := by have := r.un; omega
/-! ### the order -/
theorem lexLt_tri : ∀ (a b : List Int), HT.lexLt a b = false → HT.lexLt b a = false → a = b
  | [], [], _, _ => rfl
  | [], y :: b, h, _ => by cases h
  | x :: a, [], _, h => by cases h
  | x :: a, y :: b, h1, h2 => by
    have e1 : HT.lexLt (x :: a) (y :: b) = if x = y then HT.lexLt a b else decide (x < y) := rfl
    have e2 : HT.lexLt (y :: b) (x :: a) = if y = x then HT.lexLt b a else decide (y < x) := rfl
    rw [e1] at h1
    rw [e2] at h2
    by_cases e : x = y
    · subst e
      rw [if_pos rfl] at h1 h2
      rw [lexLt_tri a b h1 h2]
    · rw [if_neg e] at h1
      rw [if_neg (fun z => e z.symm)] at h2
      have := of_decide_eq_false h1
      have := of_decide_eq_false h2
      omega
def sortLB (xs : List (List Int)) : List (List Int) := xs.mergeSort fun a b => !HT.lexLt b a
theorem sortLB_sorted (xs : List (List Int)) : (sortLB xs).Pairwise fun a b => HT.lexLt b a = false := by
  have S := NtL.swo_lexL (fun l : List Int => l)
  refine (List.pairwise_mergeSort (le := fun a b : List Int => !HT.lexLt b a) (fun a b c h1 h2 => ?_) (fun a b => ?_) xs).imp fun h => by simpa using h
  · simp only [Bool.not_eq_true'] at *
    exact S.tr _ _ _ h1 h2
  · cases q : HT.lexLt b a with
    | false => rfl
    | true => rw [S.asym _ _ q]; rfl
theorem sortLB_perm (xs : List (List Int)) : (sortLB xs).Perm xs := List.mergeSort_perm _ _
theorem sortLB_of {xs ys : List (List Int)} (p : ys.Perm xs) (s : ys.Pairwise fun a b => HT.lexLt b a = false) : ys = sortLB xs := by
  refine (p.trans (sortLB_perm xs).symm).eq_of_pairwise (le := fun a b => HT.lexLt b a = false) (fun a b _ _ h1 h2 => lexLt_tri a b h2 h1) s (sortLB_sorted xs)
def keyL (p : Int × Tp Int) : List Int := p.1 :: p.2.l
def sortPT (xs : List (Int × Tp Int)) : List (Int × Tp Int) := (sortLB (xs.map keyL)).map fun k => (k.headD 0, Tp.mk k.tail)
def sortKyO (f : Tp Int → Option (Int × Tp Int)) (xs : List (Tp Int)) : Option (List (Tp Int)) := (mapO f xs).bind fun ks => if ks.map (·.2) = xs ∧ xs.length < 16777216 then some ((sortPT ks).map (·.2)) else none
section
variable {K : Fg} {ta tb : TE} {ρ : List Sl} {O O1 O2 : Os}
theorem RpAll.refs {F : Hp} {α : Type} {g : α → List PyData} : ∀ {vs : List V} {xs : List α}, RpAll K F vs (xs.map fun x => .tuple (g x)) → ∀ v ∈ vs, ∃ p, v = V.ref p
  | _, [], h => by cases h; intro v hv; cases hv
  | _, x :: xs, h => by
    cases h with
    | cons r t =>
      intro v hv
      rcases List.mem_cons.mp hv with rfl | hv
      · cases r with
        | tup => exact ⟨_, rfl⟩
      · exact RpAll.refs t v hv
theorem ptv_of {F H : Hp} {v : V} {p : Int × Tp Int} (f : Same F H) (r : Rp K F v (enc p)) : PtV K H v (keyL p) := by
  cases r with
  | @tup t xs _ h1 h2 h3 =>
    cases h3 with
    | cons r1 rr =>
      cases rr with
      | cons r2 rr =>
        cases rr
        cases r1
        cases r2 with
        | @tup b ys _ q1 q2 q3 =>
          have e := q3.ints
          subst e
          exact ⟨t, b, p.1, p.2.l, rfl, rfl, same_t f h1, same_t f q1⟩
/-- the sorted items are data -/
theorem rp_sorted {F : Hp} {xs : List V} {ps : List (Int × Tp Int)} {ds : List PyData} {g : List Int → PyData} (hr : RpAll K F xs ds) (hg : ds = ps.map fun p => g (keyL p)) {zs : List (V × List Int)} (hp : zs.Perm (xs.zip (ps.map keyL))) : RpAll K F (zs.map (·.1)) ((zs.map (·.2)).map g) := by
  have h : ∀ q ∈ zs, Rp K F q.1 (g q.2) := fun q hq => by
    have hm := hp.mem_iff.mp hq
    obtain ⟨i, hi⟩ := List.mem_iff_getElem?.mp hm
    rw [List.getElem?_zip_eq_some] at hi
    obtain ⟨d, e1, r⟩ := hr.getV hi.1
    rw [hg, List.getElem?_map] at e1
    have e2 := hi.2
    rw [List.getElem?_map] at e2
    cases e : ps[i]? with
    | none => rw [e] at e1; cases e1
    | some p =>
      rw [e] at e1 e2
      have e3 : keyL p = q.2 := Option.some.inj e2
      have e4 : g (keyL p) = d := Option.some.inj e1
      rw [← e3, e4]; exact r
  clear hp
  induction zs with
  | nil => exact .nil
  | cons q zs ih => exact .cons (h q (List.mem_cons_self ..)) (ih fun y hy => h y (List.mem_cons_of_mem _ hy))
theorem snd_perm {xs : List V} {ds : List (List Int)} (hl : ds.length = xs.length) {zs : List (V × List Int)} (hp : zs.Perm (xs.zip ds)) : (zs.map (·.2)).Perm ds := by
  have q := hp.map (·.2)
  rw [show (xs.zip ds).map (·.2) = ds from List.map_snd_zip (by omega)] at q
  exact q
theorem rxo_sortPT {ps : List (Int × Tp Int)} (hz : ps.length < 16777216) (ha : RXs K ta ρ O (ps.map enc) O1) : RXo K (tCB (rSortPT K) (tCons ta tNil)) ρ O ((sortPT ps).map enc) O1 := ⟨fun _ _ _ _ _ _ Q E S k =>
  ha.go E S fun a F1 H1 f1 E1 S1 r1 => by
    obtain ⟨vs, q1, q2, q3⟩ := r1 F1 H1 (Same.refl _) S1
    have hl : vs.length = ps.length := by rw [q3.length, List.length_map]
    refine ⟨a, vs, ps.map keyL, rfl, q1, by rw [sizeLine_eq]; omega, by rw [List.length_map, hl], RpAll.refs (g := fun p : Int × Tp Int => [enc p.1, enc p.2]) q3, fun i x ks e1 e2 => ?_, fun zs p hp hs hn => ?_⟩
    · obtain ⟨d, e3, r⟩ := q3.getV e1
      rw [List.getElem?_map] at e2 e3
      cases e : ps[i]? with
      | none => rw [e] at e2; cases e2
      | some p =>
        rw [e] at e2 e3
        cases e2
        cases e3
        exact ptv_of S1.fh r
    · have hsn := snd_perm (by rw [List.length_map, hl]) hp
      have es := sortLB_of hsn (by rw [List.pairwise_map]; exact hs)
      have hr := rp_sorted (g := fun k => enc ((k.headD 0, Tp.mk k.tail) : Int × Tp Int)) q3 rfl hp
      have ed : (zs.map (·.2)).map (fun k => enc ((k.headD 0, Tp.mk k.tail) : Int × Tp Int)) = (sortPT ps).map enc := by
        unfold sortPT
        rw [es, List.map_map]; rfl
      rw [ed] at hr
      refine k p F1 _ f1 (S1.mine hn ?_ hr)
      rw [List.length_map, hp.length_eq, List.length_zip, List.length_map, sizeLine_eq]
      omega⟩
theorem pe_sortKy {X : Cx} (K : Fg) {k : Nat} {x : Str} {ps : List Str} {sp : Sp} {e : Expr} {p p2 kpos pos : Pos} (C : Cal X.prog X.w X.K X.mg X.base k x ps sp) {j : Nat} (hr : Room j X.A) (hg : Gl X "sorted") (hm : X.mg "sorted" = none) (hgx : Gl X x) (ha : PE X e ta) (hk : k + 2 ≤ j := by decide) (hdb : (x == ("__debug__" : Str)) = false := by decide) (hK : X.K = K := by rfl)
    (hs : starEach [e] X.env = (false, eval e X.env) :: starEach [] X.env := by rfl) (he : backTo pos (starEach [e] X.env) = (false, eval e X.env) :: backTo pos (starEach [] X.env) := by rfl) (hpl : (backTo pos (starEach [e] X.env)).any (·.1) = false := by rfl)
    (hall : (backToKw pos (keywordEach [⟨some "key", .Name x p2, kpos⟩] X.env)).all (·.1.isSome) = true := by rfl) (hnone : (backToKw pos (keywordEach [⟨some "key", .Name x p2, kpos⟩] X.env)).any (·.1.isNone) = false := by rfl) (hks : (backToKw pos (keywordEach [⟨some "key", .Name x p2, kpos⟩] X.env)).filterMap (·.1) = [("key" : Str)] := by rfl) :
    PE X (.Call (.Name "sorted" p) [e] [⟨some "key", .Name x p2, kpos⟩] pos) (tSortK K sp ta) := by
  subst hK
  obtain ⟨f, fd, F, m, kp, b⟩ := C
  refine ⟨fun pins s σ H Q I h => ?_⟩
  have hv : bootBuiltins "sorted" = some (.builtin "sorted") := by decide +kernel
  refine wpAny_Call_Name_kw (ld_blt I hg hm hv ?_ (by decide) (by decide))
  have hpk := pk_cons (X := X) (nm := some "key") (kpos := kpos) (pe_glob (pos := p2) (v := .ref f) hgx m rfl hdb) pk_nil
  refine PyProof.Rows.callWith_kw (thn ((pa_cons ha pa_nil hs).run pos pins s σ H (fun vs H1 => match vs with | [v] => rSortKeyG X.K sp v H1 Q | _ => False) I h) fun us s1 ⟨vs, H1, I1, r1, q1⟩ => thn (hpk.run pos pins s1 σ H1 (fun zs H2 => zs = [.ref f] ∧ H2 = H1) I1 ⟨rfl, rfl⟩) fun ws s2 ⟨zs, H2, I2, r2, q2⟩ => ?_) he hpl hall hnone
  rw [hks]
  obtain ⟨rfl, rfl⟩ := q2
  refine cr_sortedKeyF (E := fun _ _ _ => False) F (hr.mono hk) b pins s2 σ H2 vs [.ref f] us ws Q I2 r1 r2 ?_
  match vs, q1 with
  | [v], q1 =>
    obtain ⟨a, xs, ds, rfl, q⟩ := q1
    exact ⟨a, xs, ds, rfl, rfl, q⟩
theorem mapO_at {α β : Type} {f : α → Option β} : ∀ {xs : List α} {ks : List β}, mapO f xs = some ks → ∀ (i : Nat) t, xs[i]? = some t → ∃ r, ks[i]? = some r ∧ f t = some r
  | [], ks, hm, i, t, ht => by cases ht
  | y :: ys, ks, hm, i, t, ht => by
    unfold mapO at hm
    obtain ⟨r, e1, hm⟩ := bindE hm
    obtain ⟨rs, e2, hm⟩ := bindE hm
    have hm := Option.some.inj hm
    subst hm
    cases i with
    | zero => cases ht; exact ⟨r, rfl, e1⟩
    | succ i => exact mapO_at e2 i t (by simpa using ht)
theorem rxo_sortKy {R : List PyData → PyData → Prop} {f : Tp Int → Option (Int × Tp Int)} {xs zs : List (Tp Int)} (h : sortKyO f xs = some zs) (hR : ∀ t r, f t = some r → R [enc t] (enc r)) (ha : RXs K ta ρ O (xs.map enc) O1) : RXo K (tSortK K (SpP K R) ta) ρ O (zs.map enc) O1 := ⟨fun F0 H0 D0 _ _ _ Q E S k =>
  ha.go E S fun a F1 H1 f1 E1 S1 r1 => by
    obtain ⟨ks, hm, h⟩ := bindE h
    split at h
    rotate_left
    · cases h
    rename_i hc
    obtain ⟨hc, hz⟩ := hc
    have h := Option.some.inj h
    subst h
    obtain ⟨vs, q1, q2, q3⟩ := r1 F1 H1 (Same.refl _) S1
    have hl : vs.length = xs.length := by rw [q3.length, List.length_map]
    have hkl : ks.length = xs.length := by rw [← hc, List.length_map]
    have hat := mapO_at hm
    refine ⟨a, vs, ks.map keyL, rfl, q1, by rw [sizeLine_eq]; omega, by rw [List.length_map, hl, hkl], RpAll.refs (g := fun t : Tp Int => t.l.map enc) q3, fun kS hkS => ?_⟩
    refine ⟨fun i H => i ≤ ks.length ∧ ∃ F, Same F1 F ∧ Hx K F0 H0 D0 F (⟨kS, true, (ks.take i).map enc⟩ :: O1) H, ⟨Nat.zero_le _, F1, Same.refl _, S1.mine hkS (Nat.zero_le _) .nil⟩, ⟨fun i H w => ?_, fun i x H acc hx w hacc => ?_, fun H acc w hacc i v kk e1 e2 => ?_, fun H ps p w hp hs hn hne => ?_⟩⟩
    · obtain ⟨hi, F, f2, S2⟩ := w
      obtain ⟨_, _, _, us, g4, g5, g6⟩ := S2.get (j := 0) rfl
      exact ⟨us, g4, by rw [RpAll.length g6, List.length_map, List.length_take]; omega⟩
    · obtain ⟨hi, F, f2, S2⟩ := w
      obtain ⟨_, _, _, us, g4, g5, g6⟩ := S2.get (j := 0) rfl
      have eacc : us = acc := by have := g4.symm.trans hacc; injection this with z; injection z
      subst eacc
      obtain ⟨d, e1, r⟩ := q3.getV hx
      rw [List.getElem?_map] at e1
      cases e : xs[i]? with
      | none => rw [e] at e1; cases e1
      | some t =>
        rw [e] at e1
        cases e1
        obtain ⟨rr, er, ef⟩ := hat i t e
        refine ⟨F, [enc t], enc rr, .cons (r.up f2) .nil, S2.fh, hR t rr ef, fun v F' H' st rv => ?_⟩
        have S3 := S2.call st
        obtain ⟨n1, n2, n3, us2, m4, m5, m6⟩ := S3.get (j := 0) rfl
        have hk' := st.keep _ _ g4 (by simp)
        have hlt : i < ks.length := (List.getElem?_eq_some_iff.mp er).1
        have hul : us.length = i := by rw [RpAll.length g6, List.length_map, List.length_take]; omega
        refine ⟨hk', by omega, F', f2.trans st.ff, ?_⟩
        have S4 := S3.mut (j := 0) (l := kS) (nw := true) (ds := (ks.take i).map enc) (vs := us ++ [v]) (ds' := (ks.take (i + 1)).map enc) rfl (by rw [List.length_append, List.length_singleton, sizeLine_eq]; omega) (by
          rw [List.take_succ, er, List.map_append]
          exact (RpAll.up g6 st.ff).append (.cons rv .nil))
        exact S4
    · obtain ⟨hi, F, f2, S2⟩ := w
      obtain ⟨_, _, _, us, g4, g5, g6⟩ := S2.get (j := 0) rfl
      have eacc : us = acc := by have := g4.symm.trans hacc; injection this with z; injection z
      subst eacc
      rw [hl, ← hkl, List.take_of_length_le (Nat.le_refl _)] at g6
      obtain ⟨d, e3, r⟩ := RpAll.getV g6 e1
      rw [List.getElem?_map] at e2 e3
      cases e : ks[i]? with
      | none => rw [e] at e2; cases e2
      | some p =>
        rw [e] at e2 e3
        cases e2
        cases e3
        exact ptv_of S2.fh r
    · obtain ⟨hi, F, f2, S2⟩ := w
      have hlk : (ks.map keyL).length = vs.length := by rw [List.length_map, hl, hkl]
      have hsn := snd_perm hlk hp
      have es := sortLB_of hsn (by rw [List.pairwise_map]; exact hs)
      have hr := rp_sorted (g := fun k => enc (Tp.mk k.tail)) (ps := ks) (q3.up f2) (by rw [← hc, List.map_map]; rfl) hp
      have ed : (ps.map (·.2)).map (fun k => enc (Tp.mk k.tail)) = ((sortPT ks).map (·.2)).map enc := by
        unfold sortPT
        rw [es, List.map_map, List.map_map]; rfl
      rw [ed] at hr
      have S3 := S2.mut (j := 0) (l := kS) (nw := true) (vs := []) (ds' := []) rfl (Nat.zero_le _) .nil
      have S4 := S3.drop 0
      have hn' : upd H kS (.lst []) p = none := by rw [upd_ne hne]; exact hn
      refine k p F _ (f1.trans f2) (S4.mine hn' ?_ hr)
      rw [List.length_map, hp.length_eq, List.length_zip, List.length_map, sizeLine_eq]
      omega⟩
theorem rx_bits {i : Int} (h : RX K ta ρ O (.int i) O1) : RX K (tBits ta) ρ O (.int (Builtin.Int.intBits i : Nat)) O1 := ⟨fun _ _ _ _ _ _ Q E S k => h.go E S fun x F1 H1 f1 E1 S1 r1 => by
  cases r1
  exact ⟨i, rfl, k _ _ _ f1 S1 (.int _)⟩⟩
theorem any_eqv {α : Type} [Enc α] [DecidableEq α] [EqD α] (x : α) (xs : List α) : ((xs.map enc).any fun z => PyData.eqv z (enc x)) = decide (x ∈ xs) := by
  rw [Bool.eq_iff_iff, List.any_eq_true, decide_eq_true_eq]
  constructor
  · rintro ⟨z, hz, e⟩
    obtain ⟨y, hy, rfl⟩ := List.mem_map.mp hz
    rw [EqD.eqv, decide_eq_true_eq] at e
    subst e
    exact hy
  · intro h
    exact ⟨enc x, List.mem_map_of_mem h, by rw [EqD.eqv]; exact decide_eq_true rfl⟩
theorem shaped_of {α : Type} [Enc α] [DecidableEq α] [EqD α] {z : α} (hd : EqD.dp α ≤ 64) (h : EqD.ok z = true) : SeqAt.shaped (enc z) = true := by
  unfold SeqAt.shaped
  rw [EqD.lay z h, Bool.true_and]
  exact decide_eq_true (Nat.le_trans (EqD.dep z) hd)
theorem rx_inD {α : Type} [Enc α] [DecidableEq α] [EqD α] {x : α} {xs : List α} (ha : RXh K ta ρ O (enc x) O1) (hb : RXh K tb ρ O1 (enc xs) O1) (hd : EqD.dp (List α) ≤ 64) (hd2 : EqD.dp α ≤ 64) (hx : EqD.ok x = true) (hy : EqD.ok xs = true) :
    RX K (tOp (rInD K) ta tb) ρ O (.bool (decide (x ∈ xs))) O1 := rx_opH ha hb fun H u v Q ru rv k => by
  refine ⟨enc x, xs.map enc, ru.dp _ _, rv.dp _ _, shaped_of hd2 hx, shaped_of (z := xs) hd hy, ?_⟩
  rw [any_eqv]
  exact k _ fun _ => .bl _
theorem rx_notInD {α : Type} [Enc α] [DecidableEq α] [EqD α] {x : α} {xs : List α} (ha : RXh K ta ρ O (enc x) O1) (hb : RXh K tb ρ O1 (enc xs) O1) (hd : EqD.dp (List α) ≤ 64) (hd2 : EqD.dp α ≤ 64) (hx : EqD.ok x = true) (hy : EqD.ok xs = true) :
    RX K (tOp (rNotInD K) ta tb) ρ O (.bool (!decide (x ∈ xs))) O1 := rx_opH ha hb fun H u v Q ru rv k => by
  refine ⟨enc x, xs.map enc, ru.dp _ _, rv.dp _ _, shaped_of hd2 hx, shaped_of (z := xs) hd hy, ?_⟩
  rw [any_eqv]
  exact k _ fun _ => .bl _
theorem k_inD {X : Cx} (K : Fg) (hu : X.A.units + 65 < cLine) (hK : X.K = K := by rfl) : OpR X (compareOp .In) (rInD K) := by subst hK; exact op_inD hu
theorem k_notInD {X : Cx} (K : Fg) (hu : X.A.units + 65 < cLine) (hK : X.K = K := by rfl) : OpR X (compareOp .NotIn) (rNotInD K) := by subst hK; exact op_notInD hu
theorem k_sortPT {X : Cx} (K : Fg) (hu : X.A.units + 64 < cLine) (hK : X.K = K := by rfl) : CallR X (.builtin "sorted") (rSortPT K) := by subst hK; exact cr_sortedPT hu
end
/-! ### ("keeps",) or ("loses", bad, turned, number) -/
inductive Kp where
  | a1 (s : Str)
  | a4 (s : Str) (b t : Tp Int) (n : Option Int)
  deriving DecidableEq
def Kp.en : Kp → PyData
  | .a1 s => .tuple [.str s]
  | .a4 s b t n => .tuple [.str s, enc b, enc t, enc n]
@[reducible] instance : Enc Kp := ⟨Kp.en⟩
def Kp.ok : Kp → Bool
  | .a1 s => EqD.ok s
  | .a4 s _ _ _ => EqD.ok s
instance : EqD Kp := ⟨Kp.ok, fun x y => by
  cases x <;> cases y
  · rename_i s s'
    have := EqD.eqv (Tp.mk [s]) (Tp.mk [s'])
    have e : decide (Kp.a1 s = Kp.a1 s') = decide (Tp.mk [s] = Tp.mk [s']) := by simp
    rw [e]; exact this
  · simp [enc, Kp.en, PyData.eqv, PyData.eqvAll]
  · simp [enc, Kp.en, PyData.eqv, PyData.eqvAll]
  · rename_i s b t n s' b' t' n'
    have := EqD.eqv (T4.mk s b t n) (T4.mk s' b' t' n')
    have e : decide (Kp.a4 s b t n = Kp.a4 s' b' t' n') = decide (T4.mk s b t n = T4.mk s' b' t' n') := by simp
    rw [e]; exact this, EqD.dp (Tp Str) + EqD.dp (T4 Str (Tp Int) (Tp Int) (Option Int)), fun x => by
  cases x with
  | a1 s => exact Nat.le_trans (EqD.dep (Tp.mk [s])) (Nat.le_add_right _ _)
  | a4 s b t n => exact Nat.le_trans (EqD.dep (T4.mk s b t n)) (Nat.le_add_left _ _), fun x h => by
  cases x with
  | a1 s => exact EqD.lay (Tp.mk [s]) (by have h : EqD.ok s = true := h; show ([s].all EqD.ok) = true; simp [h])
  | a4 s b t n => exact EqD.lay (T4.mk s b t n) (by have h : EqD.ok s = true := h; show (EqD.ok s && (EqD.ok b && (EqD.ok t && EqD.ok n))) = true; rw [h, EqT.ok b, EqT.ok t, EqT.ok n]; rfl)⟩
/-- a whole number or a tuple of such -/
inductive IT where
  | i (n : Int)
  | t (x : Tp Int)
  deriving DecidableEq
def IT.en : IT → PyData
  | .i n => enc n
  | .t x => enc x
@[reducible] instance : Enc IT := ⟨IT.en⟩
instance : EqD IT := ⟨fun _ => true, fun x y => by
  cases x <;> cases y
  · rename_i a b
    have := EqD.eqv a b
    have e : decide (IT.i a = IT.i b) = decide (a = b) := by simp
    rw [e]; exact this
  · simp [enc, IT.en, PyData.eqv]
  · simp [enc, IT.en, PyData.eqv]
  · rename_i a b
    have := EqD.eqv a b
    have e : decide (IT.t a = IT.t b) = decide (a = b) := by simp
    rw [e]; exact this, EqD.dp (Tp Int) + EqD.dp Int, fun x => by
  cases x with
  | i n => exact Nat.le_trans (EqD.dep n) (Nat.le_add_left _ _)
  | t x => exact Nat.le_trans (EqD.dep x) (Nat.le_add_right _ _), fun x _ => by
  cases x with
  | i n => exact EqD.lay n rfl
  | t x => exact EqD.lay x (EqT.ok x)⟩
instance : EqT IT := ⟨fun _ => rfl⟩
/-- a list of three -/
structure L3p (α : Type) where
  a : α
  b : α
  c : α
  deriving DecidableEq
@[reducible] instance {α : Type} [Enc α] : Enc (L3p α) := ⟨fun p => .list [enc p.a, enc p.b, enc p.c]⟩
def l3O {α : Type} : List α → Option (L3p α)
  | [a, b, c] => some ⟨a, b, c⟩
  | _ => none
theorem l3O_enc {α : Type} [Enc α] {xs : List α} {p : L3p α} (h : l3O xs = some p) : enc xs = enc p := by
  unfold l3O at h
  split at h
  · cases h; rfl
  · cases h
theorem l3O_map {α : Type} [Enc α] : ∀ {xss : List (List α)} {ps : List (L3p α)}, mapO l3O xss = some ps → xss.map enc = ps.map enc
  | [], ps, h => by cases h; rfl
  | xs :: xss, ps, h => by
    unfold mapO at h
    obtain ⟨r, e1, h⟩ := bindE h
    obtain ⟨rs, e2, h⟩ := bindE h
    have h := Option.some.inj h
    subst h
    rw [List.map_cons, List.map_cons, l3O_enc e1, l3O_map e2]
theorem ri_l3 {K : Fg} {α : Type} [Enc α] {wi : TI} {ρ : List Sl} {O O1 : Os} {xss : List (List α)} {ps : List (L3p α)} (h : mapO l3O xss = some ps) (r : RI K wi ρ O (xss.map enc) O1) : RI K wi ρ O (ps.map enc) O1 := by
  rw [← l3O_map h]; exact r
theorem rx_l3 {K : Fg} {α : Type} [Enc α] {ta : TE} {ρ : List Sl} {O O1 : Os} {xs : List α} {p : L3p α} (h : l3O xs = some p) (r : RX K ta ρ O (enc xs) O1) : RX K ta ρ O (enc p) O1 := by
  rw [← l3O_enc h]; exact r
theorem rxo_sortPTO {K : Fg} {ta : TE} {ρ : List Sl} {O O1 : Os} {ps zs : List (Int × Tp Int)} (h : (if ps.length < 16777216 then some (sortPT ps) else none) = some zs) (ha : RXs K ta ρ O (ps.map enc) O1) : RXo K (tCB (rSortPT K) (tCons ta tNil)) ρ O (zs.map enc) O1 := by
  split at h
  · cases h
    exact rxo_sortPT ‹_› ha
  · cases h
end TL

/-! sorted(set(xs)), xs a list of ints or of texts -/
namespace TL
open PySem PySem.Spec PyProof.Rows L2
/-! ### sets of texts -/
def keyT (e : Int × Value) : Str := match e.2 with | .str k _ => k | _ => Str.empty
def GoodT (w : World) (e : Int × Value) : Prop := ∃ k tk, e.2 = Value.str k tk ∧ e.1 = hashStr w k
/-- the set of texts at a: S its members, n their number -/
def SetT (w : World) (h : Heap) (a : Addr) (S : Str → Bool) (n : Nat) : Prop :=
  ∃ o es ep t, h.get? a = some o ∧ o.ExactSet ∧ o.data = .set es ep t ∧ (∀ e ∈ es.toList, GoodT w e) ∧ (es.toList.map keyT).Nodup ∧ (∀ k, S k = true ↔ k ∈ es.toList.map keyT) ∧
    es.size < scanBound ∧ t.fits es.size = true ∧ es.size = n ∧ Ris t.place.toList ∧ (w.params.followText "set-order" = true ∨ t.led = true)
section
variable {P : Program} {w : World} {h h' : Heap} {a : Addr} {S : Str → Bool} {n : Nat}
theorem SetT.at (R : SetT w h a S n) (k : ∀ o, h.get? a = some o → h'.get? a = some o) : SetT w h' a S n := by
  obtain ⟨o, es, ep, t, ho, r⟩ := R
  exact ⟨o, es, ep, t, k o ho, r⟩
theorem SetT.congr {S' : Str → Bool} (R : SetT w h a S n) (e : ∀ k, S' k = S k) : SetT w h a S' n := by
  have q : S' = S := funext e
  rw [q]; exact R
theorem goodT_elems {l : List (Int × Value)} (g : ∀ e ∈ l, GoodT w e) : ElemsOf (strKind P w) l := fun e he => by
  obtain ⟨k, tk, h1, h2⟩ := g e he
  exact ⟨⟨k, by rw [h1]; exact strKind_is P w k tk, h2⟩, by rw [h1] <;> rfl⟩
theorem goodT_is {e : Int × Value} (g : GoodT w e) (k : Str) : (strKind P w).is k e.2 = true ↔ keyT e = k := by
  obtain ⟨k0, tk, h1, _⟩ := g
  unfold keyT
  rw [h1]
  have h0 := strKind_is P w k0 tk
  constructor
  · intro z
    exact (strKind P w).inj (.str k0 tk) k0 k h0 z
  · rintro rfl
    exact h0
theorem goodT_mem {l : List (Int × Value)} (g : ∀ e ∈ l, GoodT w e) (k : Str) : k ∈ l.map keyT ↔ ∃ e ∈ l, (strKind P w).is k e.2 = true := by
  rw [List.mem_map]
  constructor
  · rintro ⟨e, he, q⟩
    exact ⟨e, he, (goodT_is (g e he) k).2 q⟩
  · rintro ⟨e, he, q⟩
    exact ⟨e, he, (goodT_is (g e he) k).1 q⟩
end
section
variable {P : Program} {w : World} {A : Around} {E : Value → Shared → Prop} {s : Shared} {a : Addr} {S : Str → Bool} {n : Nat}
theorem setT_add_tail {g : Bool → Sem Unit} (hg : ∀ (b : Bool) (s₁ : Shared) (Q' : Unit → Shared → Prop), Q' () s₁ → wpAny (model P w) A (g b) Q' E s₁)
    {o : Obj} {es : Array (Int × Value)} {ep : Nat} {t : SetTable} (ho : s.heap.get? a = some o) (hex : o.ExactSet) (hd : o.data = .set es ep t)
    {es1 : Array (Int × Value)} {t2 : SetTable} {S' : Str → Bool} (g1 : ∀ e ∈ es1.toList, GoodT w e) (nd1 : (es1.toList.map keyT).Nodup) (m1 : ∀ k, S' k = true ↔ k ∈ es1.toList.map keyT)
    (hb1 : es1.size < scanBound) (hf2 : t2.fits es1.size = true) (hr : Ris t2.place.toList) (hl : w.params.followText "set-order" = true ∨ t2.led = true) {wasDummy : Bool} {R : Option Bool → Shared → Prop}
    (hR : ∀ h', Heap.SameBut a s.heap h' → SetT w h' a S' es1.size → R (some true) { s with heap := h' }) :
    wpAny (model P w) A (do
        storeSet a es1 t2
        if (!wasDummy && t2.tooFull) = true then do
            g (relayAll t2 es1 (SetTable.grown es1.size)).2.2
            storeSet a (relayAll t2 es1 (SetTable.grown es1.size)).1 (relayAll t2 es1 (SetTable.grown es1.size)).2.1
            pure (some true)
          else pure (some true)) R E s := by
  refine wpAny_bind (wpAny_storeSet_of ho hd ?_ (fits_of_scanBound hb1))
  have ho1 := store_at (es' := es1) (t' := t2) ho hd
  have sb1 := Heap.SameBut.update s.heap a (Obj.putSet es1 t2)
  split
  · have pm := relayAll_perm t2 es1 (SetTable.grown es1.size)
    have hf3 := relayAll_fits t2 es1 (SetTable.grown es1.size)
    have hr3 := relayAll_ris t2 es1 (SetTable.grown es1.size)
    have hl3 := relayAll_led t2 es1 (SetTable.grown es1.size)
    generalize relayAll t2 es1 (SetTable.grown es1.size) = Z at pm hf3 hr3 hl3 ⊢
    obtain ⟨es2, t3, gave⟩ := Z
    dsimp only at pm hf3 hr3 hl3 ⊢
    have hsz : es2.size = es1.size := by rw [← Array.length_toList, pm.length_eq, Array.length_toList]
    have hb2 : es2.size < scanBound := by rw [hsz]; exact hb1
    refine wpAny_bind (hg _ _ _ ?_)
    refine wpAny_bind (wpAny_storeSet_of ho1 rfl ?_ (fits_of_scanBound hb2))
    have ho2 := store_at (es' := es2) (t' := t3) ho1 rfl
    refine wpAny_pure (hR _ (sb1.trans (Heap.SameBut.update _ a _)) ?_)
    exact ⟨_, es2, _, t3, ho2, hex, rfl, fun e he => g1 e (pm.mem_iff.mp he), (pm.map keyT).nodup_iff.mpr nd1, fun k => (m1 k).trans (pm.map keyT).mem_iff.symm, hb2, hf3, hsz, hr3,
      hl.imp id fun z => by rw [hl3]; exact z⟩
  · exact wpAny_pure (hR _ sb1 ⟨_, es1, _, t2, ho1, hex, rfl, g1, nd1, m1, hb1, hf2, rfl, hr, hl⟩)
theorem setT_add_hashed {k : Str} {tk : Tok} {Q : Bool → Shared → Prop} (R : SetT w s.heap a S n) (room : n + 1 < scanBound)
    (hQ : ∀ h', Heap.SameBut a s.heap h' → SetT w h' a (fun j => S j || decide (j = k)) (if S k = true then n else n + 1) → Q (!S k) { s with heap := h' }) :
    wpAny (model P w) A (setAddHashed a (.str k tk) ((strKind P w).hash k)) Q E s := by
  obtain ⟨o, es, ep, t, ho, hex, hd, g, nd, hm, hb, hf, hn, hr, hl⟩ := R
  have hkey : (strKind P w).is k (.str k tk) = true := strKind_is P w k tk
  have hsc : (Value.str k tk).scannable = true := rfl
  have hel : ElemsOf (strKind P w) es.toList := goodT_elems g
  unfold setAddHashed setAddHashedIn
  refine wpAny_holding (wpAny_bind (wpAny_setState_of ho hd hf ?_))
  dsimp only
  rw [byScan_of hsc hb hel]
  simp only [↓reduceIte]
  unfold setAddByScan
  refine wpAny_bind ?_
  refine wpAny_bind (wpAny_rule ?_)
  refine wpAny_bind (wpAny_setScan_of hkey ho hd hf hel ?_)
  cases hfi : List.findIdx? (fun e => (strKind P w).is k e.2) es.toList with
  | some j =>
    dsimp only
    obtain ⟨hj, pj, _⟩ := List.findIdx?_eq_some_iff_getElem.mp hfi
    have hSk : S k = true := (hm k).2 ((goodT_mem (P := P) (w := w) g k).2 ⟨es.toList[j], List.getElem_mem hj, pj⟩)
    refine wpAny_pure (wpAny_pure ?_)
    have q := hQ s.heap (Heap.SameBut.refl a s.heap) ⟨o, es, ep, t, ho, hex, hd, g, nd, fun i => by
      rw [Bool.or_eq_true, decide_eq_true_eq, ← hm i]
      exact ⟨fun z => z.elim id (fun e => e ▸ hSk), .inl⟩, hb, hf, by rw [if_pos hSk]; exact hn, hr, hl⟩
    rw [hSk] at q
    exact q
  | none =>
    dsimp only
    have hnk : k ∉ es.toList.map keyT := fun z => by
      obtain ⟨e, he, q⟩ := (goodT_mem (P := P) (w := w) g k).1 z
      have c := List.findIdx?_eq_none_iff.mp hfi e he
      rw [q] at c
      cases c
    have hSk : S k = false := by
      cases q : S k with
      | false => rfl
      | true => exact absurd ((hm k).1 q) hnk
    have hgw : ∀ (b : Bool) {s₁ : Shared} {Q' : Unit → Shared → Prop}, Q' () s₁ → wpAny (model P w) A (match b with | true => rule "set.scan.the-table-gave-way" | false => pure ()) Q' E s₁ :=
      fun b s₁ Q' q => by cases b <;> first | exact wpAny_pure q | exact wpAny_rule q
    have pm := layNew_perm t es ((strKind P w).hash k) (.str k tk)
    have hf1 := layNew_fits t es ((strKind P w).hash k) (.str k tk)
    have hr1 := layNew_ris t es ((strKind P w).hash k) (.str k tk) hr
    have hl1 := layNew_led t es ((strKind P w).hash k) (.str k tk)
    generalize layNew t es ((strKind P w).hash k) (.str k tk) = Z at pm hf1 hr1 hl1 ⊢
    obtain ⟨es1, t1, wasDummy, gave⟩ := Z
    dsimp only at pm hf1 hr1 hl1 ⊢
    rw [Array.toList_push] at pm
    have pc : es1.toList.Perm (((strKind P w).hash k, Value.str k tk) :: es.toList) := pm.trans (List.perm_append_singleton _ _)
    have pk : (es1.toList.map keyT).Perm (k :: es.toList.map keyT) := pc.map keyT
    have g1 : ∀ e ∈ es1.toList, GoodT w e := fun e he => by
      rcases List.mem_cons.mp (pc.mem_iff.mp he) with z | z
      · rw [z]; exact ⟨k, tk, rfl, rfl⟩
      · exact g e z
    have nd1 : (es1.toList.map keyT).Nodup := pk.nodup_iff.mpr (List.nodup_cons.mpr ⟨hnk, nd⟩)
    have m1 : ∀ i, (S i || decide (i = k)) = true ↔ i ∈ es1.toList.map keyT := fun i => by
      rw [Bool.or_eq_true, decide_eq_true_eq, hm i, pk.mem_iff, List.mem_cons]
      exact Or.comm
    have hsz : es1.size = n + 1 := by rw [← Array.length_toList, pc.length_eq, List.length_cons, Array.length_toList, hn]
    have hb1 : es1.size < scanBound := by rw [hsz]; exact room
    have hled : w.params.followText "set-order" = true ∨ t1.led = true := hl.imp id fun z => by rw [hl1]; exact z
    have fin : ∀ h', Heap.SameBut a s.heap h' → SetT w h' a (fun j => S j || decide (j = k)) es1.size → Q true { s with heap := h' } := fun h' sb r => by
      have q := hQ h' sb
      rw [hSk] at q
      rw [hsz] at r
      exact q r
    refine wpAny_bind (hgw _ ?_)
    split
    · refine wpAny_bind ?_
      rw [hashByValue_scannable 8 hsc]
      refine wpAny_pure ?_
      refine setT_add_tail ?_ ho hex hd g1 nd1 m1 hb1 ?_ ?_ ?_ ?_
      · intro b s₁ Q' q; cases b <;> first | exact wpAny_pure q | exact wpAny_rule q
      · first | (split <;> first | exact hf1 | exact SetTable.fits_plain_off hf1) | exact hf1
      · first | (split <;> exact hr1) | exact hr1
      · first | (split <;> exact hled) | exact hled
      · intro h' sb r; dsimp only; exact wpAny_pure (fin h' sb r)
    · refine wpAny_bind (wpAny_pure ?_)
      simp only [↓reduceIte]
      refine setT_add_tail ?_ ho hex hd g1 nd1 m1 hb1 hf1 hr1 hled ?_
      · intro b s₁ Q' q; cases b <;> first | exact wpAny_pure q | exact wpAny_rule q
      · intro h' sb r; dsimp only; exact wpAny_pure (fin h' sb r)
theorem setT_new_at {h : Heap} {a : Addr} {xs : List Str} (ho : h.get? a = some { cls := .type "set", dict := none, data := .set #[] 0 (.fresh 0 0 (!w.params.followText "set-order")) }) : SetT w h a (fun j => decide (j ∈ xs.take 0)) 0 :=
  ⟨_, #[], 0, _, ho, ⟨rfl, rfl, rfl⟩, rfl, (fun e he => by simp at he), (by simp), (fun k => by simp), (by decide), (by rfl), rfl, List.Pairwise.nil, by
    show _ ∨ (!w.params.followText "set-order") = true
    cases w.params.followText "set-order"
    · exact .inr rfl
    · exact .inl rfl⟩
theorem set_update_texts {I : Addr} {fp wr : List Addr} {G : Array GenState → Array GenState → Prop} {n : Nat} {Pv : Nat → Value → Prop} {St : Nat → Shared → Prop} {R : Result → Shared → Prop}
    (W : WalksS P w A.in1 I fp wr G n Pv St) (S : Addr) (hSf : S ∉ fp) (ns : List Str) (hn : n = ns.length) (hb : ns.length + 1 < scanBound) (hval : ∀ i v, Pv i v → ∃ k t, ns[i]? = some k ∧ v = .str k t) :
    ∀ (k i : Nat) (s : Shared), n - i = k → i ≤ n → St i s → (∃ c, c ≤ i ∧ SetT w s.heap S (fun j => decide (j ∈ ns.take i)) c) →
      (∀ s' c, Moved (S :: wr) G s s' → c ≤ n → SetT w s'.heap S (fun j => decide (j ∈ ns)) c → R (.ok (.ret .none)) s') →
      codeAny (model P w) A (.builtin "set.update.loop" ⟨[.ref S, .ref I], []⟩) R s := by
  have hSw : S ∉ wr := fun h => hSf (W.sub _ h)
  have hsub : ∀ b ∈ wr, b ∈ S :: wr := fun b hb => List.mem_cons_of_mem _ hb
  intro k
  induction k with
  | zero =>
    intro i s hk' hi hst ⟨c, hc, hS⟩ hR
    have hin : i = n := by omega
    subst hin
    refine codeAny_builtin F.entry_set_update_loop ?_
    rw [Around.under_plainId F.plain_set_update_loop _]
    show wpAny _ A.in1 (pyNext (.ref I) >>= _) _ _ s
    refine wpAny_bind (W.done s _ _ hst fun s' hm => ?_)
    show wpAny _ A.in1 (ret Value.none) _ _ s'
    have e : ns.take i = ns := List.take_of_length_le (by omega)
    rw [e] at hS
    exact wpAny_pure (hR s' c (hm.mono hsub) hc (hS.at fun o e => hm.heap S o hSw e))
  | succ k ih =>
    intro i s hk' hi hst ⟨c, hc, hS⟩ hR
    have hlt : i < n := by omega
    refine codeAny_builtin F.entry_set_update_loop ?_
    rw [Around.under_plainId F.plain_set_update_loop _]
    show wpAny _ A.in1 (pyNext (.ref I) >>= _) _ _ s
    refine wpAny_bind (W.item i s _ _ hlt hst fun v s' hP hst' hm => ?_)
    obtain ⟨z, t, hz, rfl⟩ := hval i v hP
    have hS' : SetT w s'.heap S (fun j => decide (j ∈ ns.take i)) c := hS.at fun o e => hm.heap S o hSw e
    show wpAny _ A.in1 (holding [Value.str z t] (setAdd S (.str z t)) >>= _) _ _ s'
    refine wpAny_bind (wpAny_holding ?_)
    unfold setAdd
    refine wpAny_holding ?_
    refine wpAny_bind ((strKind P w).pyHash (k := z) (strKind_is _ _ _ _) ?_)
    refine setT_add_hashed (s := { s' with toks := s'.toks + 1 }) hS' (by omega) fun h' hsb hS2 => ?_
    have hS3 : SetT w h' S (fun j => decide (j ∈ ns.take (i + 1))) (if decide (z ∈ ns.take i) = true then c else c + 1) := hS2.congr fun j => by
      rw [List.take_add_one, hz]
      simp [List.mem_append]
    have hc3 : (if decide (z ∈ ns.take i) = true then c else c + 1) ≤ i + 1 := by
      split <;> omega
    refine wpAny_pure ⟨plainId_quiet F.plain_set_update_loop _, ih (i + 1) _ (by omega) hlt (W.frame _ s' _ _ hst' (Nat.le_succ _) fun b hb o e => ?_) ⟨_, hc3, hS3⟩ fun s'' c2 hm'' hc'' hS'' => ?_⟩
    · rw [hsb.2 b (fun h : b = S => hSf (by rw [← h]; exact hb))]; exact e
    · refine hR s'' c2 (Moved.trans W.gtrans ((hm.mono hsub).then_heap (Nat.le_succ _) fun b o hb e => ?_) hm'') hc'' hS''
      rw [hsb.2 b (fun h : b = S => hb (by rw [h]; exact List.mem_cons_self))]; exact e
set_option maxHeartbeats 3200000 in
/-- set(xs), by what its loop does -/
theorem call_set_listG {l : Addr} {items : Array Value} {Z : Heap → Nat → Prop} {Q : Value → Shared → Prop} (hh : A.handled = none) (hl : s.heap.IsList l items)
    (loop : ∀ (A' : Around) (I : Addr) (fp wr : List Addr) (G : Array GenState → Array GenState → Prop) (St : Nat → Shared → Prop) (s1 : Shared) (R : Result → Shared → Prop), WalksS P w A'.in1 I fp wr G items.size (fun i v => items[i]? = some v) St → s.heap.objs.size ∉ fp →
      St 0 s1 → s1.heap.get? s.heap.objs.size = some { cls := .type "set", dict := none, data := .set #[] 0 (.fresh 0 0 (!w.params.followText "set-order")) } →
      (∀ s' c, Moved (s.heap.objs.size :: wr) G s1 s' → c ≤ items.size → Z s'.heap c → R (.ok (.ret .none)) s') → codeAny (model P w) A' (.builtin "set.update.loop" ⟨[.ref s.heap.objs.size, .ref I], []⟩) R s1)
    (h : ∀ (h' : Heap) (tk c : Nat), Z h' c → c ≤ items.size → (∀ b o, s.heap.get? b = some o → h'.get? b = some o) → Q (.ref s.heap.objs.size) { s with heap := h', toks := tk }) :
    wpAny (model P w) A (call (.type "set") [.ref l]) Q E s := by
  obtain ⟨c, tl, hmro⟩ := F.called_set.mro
  have hmade := F.called_set.made
  have hsub := F.called_set.sub
  refine wpAny_call (codeAny_of_tree ?_)
  show wpAny _ _ (callAny (.type "set") _) _ _ _
  refine wpAny_pure ⟨Code.quiet_builtin _ (by decide +kernel), codeAny_builtin F.entry_type_call ?_⟩
  rw [Around.under_plain (weight_type_call_type "set" [.ref l] []) rfl]
  have h1 := F.called_set.notType
  have h2 := F.called_set.canCreate
  have hct := F.typeCall_set_1 (.ref l)
  repeat (any_goals (first | assumption | wp_step))
  refine codeAny_mono (code_set_led1 (.ref l) (E := E) (Q₁ := fun obj s₁ => obj = .ref s.heap.objs.size ∧ s₁ = { s with heap := s.heap.push { cls := .type "set", dict := none, data := .set #[] 0 (.fresh 0 0 (!w.params.followText "set-order")) } }) ⟨rfl, rfl⟩) fun r s₁ hr => ?_
  cases r with
  | error e => exact hr
  | ok fl =>
    cases fl with
    | ret obj =>
      obtain ⟨rfl, rfl⟩ := hr
      have hS : (s.heap.push { cls := .type "set", dict := none, data := .set #[] 0 (.fresh 0 0 (!w.params.followText "set-order")) }).get? s.heap.objs.size = some { cls := .type "set", dict := none, data := .set #[] 0 (.fresh 0 0 (!w.params.followText "set-order")) } := Heap.get?_push_size _ rfl
      have hT : Shared.TypeIs { s with heap := s.heap.push { cls := .type "set", dict := none, data := .set #[] 0 (.fresh 0 0 (!w.params.followText "set-order")) } } (.ref s.heap.objs.size) "set" := ⟨_, hS, rfl⟩
      have hli := F.called_set.init.lookup
      have hbi := F.called_set.init.bind (.ref s.heap.objs.size)
      repeat (any_goals (first | assumption | wp_step))
      refine codeAny_mono (codeAny_call_builtin (R := wants (fun r s₂ => r = .none ∧ ∃ h' tk c, s₂ = { s with heap := h', toks := tk } ∧ Z h' c ∧ c ≤ items.size ∧
          (∀ b o, s.heap.get? b = some o → h'.get? b = some o)) E) F.called_set.init.plain F.entry_set_init (check_set_init_1 hT ?_)) fun r₂ s₂ hr₂ => ?_
      · obtain ⟨ol, hol, hcl, nl, hdl⟩ := hl
        obtain ⟨ocls, odict, odata, oslots⟩ := ol
        simp only at hcl hdl
        subst hcl; subst hdl
        have hol' : (s.heap.push { cls := .type "set", dict := none, data := .set #[] 0 (.fresh 0 0 (!w.params.followText "set-order")) }).get? l = some { cls := .type "list", dict := odict, data := .seq items nl, slots := oslots } := Heap.get?_push_of_some _ hol
        have hsls := F.sub_list_set
        have hslf := F.sub_list_frozenset
        have hne : (Value.type "list" == Value.type "dict") = false := by decide
        have hl1 : (s.heap.push { cls := .type "set", dict := none, data := .set #[] 0 (.fresh 0 0 (!w.params.followText "set-order")) }).IsList l items := ⟨_, hol', rfl, nl, rfl⟩
        unfold Builtin.«set.__init__» noKeywords Builtin.Frozenset.updateFrom
        generalize hPI : pyIter = PI
        wp_walk
        subst hPI
        refine wpAny_pyIter_list hl1 ?_
        refine wpAny_bind (wpAny_runValue ?_)
        have hlS : l < s.heap.objs.size := Heap.lt_size hol
        have hh3 : A.in1.in1.in1.handled = none := by simp [hh]
        have hneI : l ≠ (s.heap.push { cls := .type "set", dict := none, data := .set #[] 0 (.fresh 0 0 (!w.params.followText "set-order")) }).objs.size := by
          rw [Heap.size_push]; exact Nat.ne_of_lt (Nat.lt_succ_of_lt hlS)
        have hSf : s.heap.objs.size ∉ [(s.heap.push { cls := .type "set", dict := none, data := .set #[] 0 (.fresh 0 0 (!w.params.followText "set-order")) }).objs.size, l] := by
          rw [Heap.size_push]; simp only [List.mem_cons, List.mem_singleton, List.not_mem_nil, or_false, not_or]
          exact ⟨Nat.ne_of_lt (Nat.lt_succ_self _), Nat.ne_of_gt hlS⟩
        refine loop _ _ _ _ _ _ _ _ ((Walks.list hh3 _ l hneI items).toS) hSf
          ⟨⟨_, Heap.get?_push_size _ rfl, rfl, rfl⟩, (hl1.push _)⟩ (Heap.get?_push_of_some _ hS) ?hR
        case hR =>
          intro s' c' hm hc' hS'
          obtain ⟨h', g2, d', tk', os'⟩ := s'
          have eg : g2 = s.gens := hm.gens
          have ed : d' = s.drawn := hm.drawn
          have eo : os' = s.os := hm.os
          subst eg; subst ed; subst eo
          show wpAny _ _ _ _ _ _
          refine wpAny_pure ?_
          show wpAny _ _ (ret Value.none) _ _ _
          refine wpAny_pure ⟨rfl, h', tk', c', rfl, hS', hc', fun b o e => ?_⟩
          have hb0 : b < s.heap.objs.size := Heap.lt_size e
          have hb1 : b ≠ s.heap.objs.size := Nat.ne_of_lt hb0
          have hb2 : b ≠ (s.heap.push { cls := .type "set", dict := none, data := .set #[] 0 (.fresh 0 0 (!w.params.followText "set-order")) }).objs.size := by
            rw [Heap.size_push]; exact Nat.ne_of_lt (Nat.lt_succ_of_lt hb0)
          exact hm.heap b o (by simp only [List.mem_cons, List.mem_singleton, List.not_mem_nil, or_false, not_or]; exact ⟨hb1, hb2⟩) (Heap.get?_push_of_some _ (Heap.get?_push_of_some _ e))
      · cases r₂ with
        | error e => exact hr₂
        | ok fl₂ =>
          cases fl₂ with
          | ret r =>
            obtain ⟨rfl, h', tk, c', rfl, hS', hc', hk'⟩ := hr₂
            repeat (any_goals (first | assumption | wp_step))
            exact h _ _ _ hS' hc' hk'
          | _ => exact hr₂.elim
    | _ => exact hr.elim
end
end TL

/-! sorted(set(xs)) over the layer; len(sorted(set(xs))) -/
namespace TL
open PySem PySem.Spec PyProof.Rows L2
section
variable {P : Program} {w : World} {A : Around} {E : Value → Shared → Prop} {s : Shared} {a : Addr}
theorem texts_of : ∀ (l : List Value), (∀ v ∈ l, ∃ k tk, v = Value.str k tk) → StrsAre l (l.map strOf)
  | [], _ => .nil
  | v :: l, h => by
    obtain ⟨k, tk, rfl⟩ := h v List.mem_cons_self
    exact .cons k tk (texts_of l fun u hu => h u (List.mem_cons_of_mem _ hu))
theorem sorted_setT' {S : Str → Bool} {n : Nat} {Q : Value → Shared → Prop} (R : SetT w s.heap a S n) (hh : A.handled = none) (h64 : n < 64)
    (hQ : ∀ s' p (out : Array Value) (c : Nat) (ns : List Str), (∀ b o, s.heap.get? b = some o → s'.heap.get? b = some o) → s'.gens = s.gens → s'.os = s.os → s.heap.objs.size ≤ p →
      s'.heap.get? p = some (seqObj "list" out c) → StrsAre out.toList ns → ns.Nodup → (∀ k, k ∈ ns ↔ S k = true) → ns.length = n → Q (.ref p) s') :
    wpAny (model P w) A (call (.builtin "sorted") [.ref a]) Q E s := by
  obtain ⟨o, es, ep, t, ho, hex, hd, g, nd, hm, hb, hf, hn, hr, hl⟩ := R
  refine Calls.call_function_entry kind_sorted plain_sorted entry_sorted (args_sorted1 _) ?_
  unfold Builtin.«sorted»
  refine wpAny_bind (m := checkCount "sorted" 1 1 _) (wpAny_pure ?_)
  refine wpAny_bind (collect_set (A := A.in1) hh ⟨o, ho, hex.1, hd⟩ hf hb hr hl fun s1 vs k1 hz g1 o1 pm => ?_)
  have hvl : vs.length = n := by rw [pm.length_eq, List.length_map, Array.length_toList]; exact hn
  have hvz : vs.length ≤ sizeLine := by rw [hvl, ← hn]; exact fits_of_scanBound hb
  have hI : StrsAre vs (vs.map strOf) := texts_of vs fun v hv => by
    obtain ⟨e, he, q⟩ := List.mem_map.mp (pm.mem_iff.mp hv)
    obtain ⟨k, tk, h1, _⟩ := g e he
    exact ⟨k, tk, by rw [← q]; exact h1⟩
  have ek : (es.toList.map (·.2)).map strOf = es.toList.map keyT := by
    rw [List.map_map]
    refine List.map_congr_left fun e he => ?_
    obtain ⟨k, tk, h1, _⟩ := g e he
    show strOf e.2 = keyT e
    unfold keyT
    rw [h1]
    rfl
  have pk : (vs.map strOf).Perm (es.toList.map keyT) := by
    have q := pm.map strOf
    rw [ek] at q
    exact q
  refine wpAny_bind (wpAny_newList ?_ hvz)
  have hoL : (s1.heap.push (seqObj "list" vs.toArray 0)).get? s1.heap.objs.size = some (seqObj "list" vs.toArray 0) := Heap.get?_push_size _ rfl
  refine wpAny_bind (wpAny_holding (wpAny_call_entry slot_list_sort ⟨_, hoL, rfl⟩ entry_list_sort (list_sort_treeK strKind_oneLt hoL hI.keysOf (fun v₁ v₂ rest e => keyKind_strs (by rw [← e]; exact hI)) (by rw [hvl]; exact h64) fun st' hp hs => ⟨_, rfl, ?_⟩) (args_list_sort _)))
  obtain ⟨ns', a1, a2, a3⟩ := sorted_out_str hI hp hs
  obtain ⟨c, hc⟩ := sortedHeap_at (vs := vs) (out := (arrOf st').map (·.2)) hoL
  have pn : ns'.Perm (es.toList.map keyT) := a2.trans pk
  refine wpAny_pure ⟨_, rfl, hQ _ s1.heap.objs.size _ c ns' (fun b u e => ?_) g1 o1 hz hc a1 (pn.nodup_iff.mpr nd) (fun k => by rw [pn.mem_iff, ← hm k]) ?_⟩
  · have q := k1 b u e
    have hlt := Heap.lt_size q
    show (sortedHeap (s1.heap.push (seqObj "list" vs.toArray 0)) s1.heap.objs.size vs _).get? b = some u
    rw [sortedHeap_old (Nat.ne_of_lt hlt) (by rw [size_push']; exact Nat.lt_succ_of_lt hlt)]
    exact Heap.get?_push_of_some _ q
  · rw [pn.length_eq, List.length_map, Array.length_toList]; exact hn
end
section
variable {X : Cx}
def SetTX (w : World) (a : Addr) (S : Str → Bool) (n : Nat) : HO := .ext fun h => SetT w h a S n
theorem setTX_new {w : World} {P : Program} {H : Hp} {h : Heap} {a : Addr} {S : Str → Bool} {n : Nat} (R : SetT w h a S n) : ObjOk P w H h a (SetTX w a S n) := by
  have ⟨o, _, _, _, ho, _⟩ := R
  exact ⟨R, ⟨o, ho⟩, fun h1 h2 p k => SetT.at p k⟩
theorem setTX_get {pins : List (Addr × Obj)} {σ : L2.St} {H : Hp} {s : Shared} {a : Addr} {S : Str → Bool} {n : Nat} (I : Inv X pins σ H s) (ha : H a = some (SetTX X.w a S n)) : SetT X.w s.heap a S n := (I.hok a _ ha).1
def rSetOfI (K : Fg) (w : World) : List V → Hp → VK → Prop := fun xs H Q => ∃ (l : Addr) (ns : List Int), xs = [V.ref l] ∧ SqL K H l (ns.map V.int) ∧ ns.length + 1 < scanBound ∧
  ∀ p (S : Int → Bool) n, H p = none → (∀ k, S k = true ↔ k ∈ ns) → n ≤ ns.length → Q (.ref p) (upd H p (SetO w p S n))
def rSetOfS (K : Fg) (w : World) : List V → Hp → VK → Prop := fun xs H Q => ∃ (l : Addr) (ns : List Str), xs = [V.ref l] ∧ SqL K H l (ns.map V.str) ∧ ns.length + 1 < scanBound ∧
  ∀ p (S : Str → Bool) n, H p = none → (∀ k, S k = true ↔ k ∈ ns) → n ≤ ns.length → Q (.ref p) (upd H p (SetTX w p S n))
theorem cr_setOfI (hc : X.calm = true) : CallR X (.type "set") (rSetOfI X.K X.w) := by
  intro pins s σ H xs us Q I r h
  obtain ⟨l, ns, rfl, hl, hb, q⟩ := h
  rw [Vals.ref1 r]
  obtain ⟨its, rv, pl, hz⟩ := I.list hl
  have hn : H s.heap.objs.size = none := I.hok.fresh (Nat.le_refl _)
  have hi : IntsAre its.toArray.toList ns := by simpa using rv.ints
  have hisz : its.toArray.size = ns.length := by
    have q := IntsAre.length hi
    rw [Array.length_toList] at q
    exact q
  refine call_set_listG (Z := fun h' c => SetR X.w h' s.heap.objs.size (fun j => decide (j ∈ ns)) c) (I.ok.hd hc) pl.isList (fun A' I' fp wr G St s1 R W hSf h0 hS hR => ?_) fun h' tk c R hc' k => ?_
  · refine set_update_ints W _ hSf ns hisz hb (fun i v hv => ?_) (its.toArray.size - 0) 0 s1 (by omega) (Nat.zero_le _) h0 ⟨0, Nat.le_refl 0, setR_new_at hS⟩ hR
    have hi' : i < ns.length := by rw [← hisz]; exact (Array.getElem?_eq_some_iff.mp hv).1
    obtain ⟨t, e⟩ := PyProof.Rows.IntsAre.int_at hi i v (by rw [Array.getElem?_toList]; exact hv)
    refine ⟨ns[i], t, List.getElem?_eq_getElem hi', ?_⟩
    rw [e, List.getD_eq_getElem?_getD, List.getElem?_eq_getElem hi'] <;> rfl
  · exact ⟨.ref s.heap.objs.size, upd H s.heap.objs.size (SetO X.w s.heap.objs.size _ c), I.laid (t' := tk) k (Nat.le_refl _) (setO_new R), rfl, q _ _ c hn (fun k => by simp) (by rw [← hisz]; exact hc')⟩
theorem cr_setOfS (hc : X.calm = true) : CallR X (.type "set") (rSetOfS X.K X.w) := by
  intro pins s σ H xs us Q I r h
  obtain ⟨l, ns, rfl, hl, hb, q⟩ := h
  rw [Vals.ref1 r]
  obtain ⟨its, rv, pl, hz⟩ := I.list hl
  have hn : H s.heap.objs.size = none := I.hok.fresh (Nat.le_refl _)
  have hi : StrsAre its.toArray.toList ns := by simpa using rv.strs
  have hisz : its.toArray.size = ns.length := by
    have q := StrsAre.length hi
    rw [Array.length_toList] at q
    exact q
  refine call_set_listG (Z := fun h' c => SetT X.w h' s.heap.objs.size (fun j => decide (j ∈ ns)) c) (I.ok.hd hc) pl.isList (fun A' I' fp wr G St s1 R W hSf h0 hS hR => ?_) fun h' tk c R hc' k => ?_
  · refine set_update_texts W _ hSf ns hisz hb (fun i v hv => ?_) (its.toArray.size - 0) 0 s1 (by omega) (Nat.zero_le _) h0 ⟨0, Nat.le_refl 0, setT_new_at hS⟩ hR
    have hi' : i < ns.length := by rw [← hisz]; exact (Array.getElem?_eq_some_iff.mp hv).1
    obtain ⟨t, e⟩ := SS.strs_at hi i v (by rw [Array.getElem?_toList]; exact hv)
    refine ⟨ns[i], t, List.getElem?_eq_getElem hi', ?_⟩
    rw [e, List.getD_eq_getElem?_getD, List.getElem?_eq_getElem hi'] <;> rfl
  · exact ⟨.ref s.heap.objs.size, upd H s.heap.objs.size (SetTX X.w s.heap.objs.size _ c), I.laid (t' := tk) k (Nat.le_refl _) (setTX_new R), rfl, q _ _ c hn (fun k => by simp) (by rw [← hisz]; exact hc')⟩
def rSortedTX (w : World) : List V → Hp → VK → Prop := fun vs H Q => ∃ (a : Addr) (S : Str → Bool) (n : Nat), vs = [V.ref a] ∧ H a = some (SetTX w a S n) ∧ n < 64 ∧
  ∀ (ns : List Str) (p : Addr), ns.Nodup → (∀ k : Str, k ∈ ns ↔ S k = true) → ns.length = n → H p = none → Q (.ref p) (upd H p (.lst (ns.map V.str)))
theorem cr_sortedTX (hc : X.calm = true) : CallR X (.builtin "sorted") (rSortedTX X.w) := by
  intro pins s σ H vs us Q I r h
  obtain ⟨a, S, n, rfl, ha, h64, q⟩ := h
  have R := setTX_get I ha
  rw [Vals.ref1 r]
  refine sorted_setT' R (I.ok.hd hc) h64 fun s' p out c ns k g o hp hg hi hs hm hl => ?_
  have hlen : (ns.map V.str).length ≤ sizeLine := by rw [List.length_map, hl, sizeLine_eq]; omega
  have hn : H p = none := I.hok.fresh hp
  have J : Inv X pins σ (upd H p (.lst (ns.map V.str))) { s with heap := s'.heap, gens := s'.gens, drawn := s'.drawn, toks := s'.toks } :=
    I.call (ch := []) (Un.laid k hp hn) (I.hok.laid k hp ⟨hlen, out.toList, c, vals_of_strs hi, hg⟩) (by rw [g]; exact I.bare) (fun _ z => nomatch z)
  have e : s' = { s with heap := s'.heap, gens := s'.gens, drawn := s'.drawn, toks := s'.toks } := by
    cases s'
    cases s
    cases o
    rfl
  rw [e]
  exact ⟨.ref p, _, J, rfl, q ns p hs hm hl hn⟩
theorem k_setOfI (K : Fg) (w : World) (hc : X.calm = true := by rfl) (hK : X.K = K := by rfl) (hw : X.w = w := by rfl) : CallR X (.type "set") (rSetOfI K w) := by subst hK; subst hw; exact cr_setOfI hc
theorem k_setOfS (K : Fg) (w : World) (hc : X.calm = true := by rfl) (hK : X.K = K := by rfl) (hw : X.w = w := by rfl) : CallR X (.type "set") (rSetOfS K w) := by subst hK; subst hw; exact cr_setOfS hc
theorem k_sortedI2 (w : World) (hc : X.calm = true := by rfl) (hw : X.w = w := by rfl) : CallR X (.builtin "sorted") (rSortedSet w) := by subst hw; exact cr_sortedSet hc
theorem k_sortedTX (w : World) (hc : X.calm = true := by rfl) (hw : X.w = w := by rfl) : CallR X (.builtin "sorted") (rSortedTX w) := by subst hw; exact cr_sortedTX hc
end
/-! ### how many unlike ones -/
def cardL {α : Type} [DecidableEq α] : List α → Nat
  | [] => 0
  | x :: xs => if x ∈ xs then cardL xs else cardL xs + 1
def cardO {α : Type} [DecidableEq α] (xs : List α) : Option Int := if xs.length < 64 then some ((cardL xs : Nat) : Int) else none
theorem cardL_cons {α : Type} [DecidableEq α] (x : α) (xs : List α) : cardL (x :: xs) = if x ∈ xs then cardL xs else cardL xs + 1 := rfl
theorem card_le {α : Type} [DecidableEq α] : ∀ xs : List α, cardL xs ≤ xs.length
  | [] => Nat.le_refl _
  | x :: xs => by
    have := card_le xs
    rw [cardL_cons]
    split
    · rw [List.length_cons]; omega
    · rw [List.length_cons]; omega
theorem card_nodup {α : Type} [DecidableEq α] : ∀ xs : List α, cardL xs = xs.length ↔ xs.Nodup
  | [] => by simp [cardL]
  | x :: xs => by
    have h1 := card_le xs
    have h2 := card_nodup xs
    rw [List.nodup_cons, ← h2]
    rw [cardL_cons]
    split
    · rename_i c
      rw [List.length_cons]
      constructor
      · intro q; omega
      · rintro ⟨q, _⟩; exact absurd c q
    · rename_i c
      rw [List.length_cons]
      constructor
      · intro q; exact ⟨c, by omega⟩
      · rintro ⟨_, q⟩; omega
theorem card_of {α : Type} [DecidableEq α] : ∀ (xs ys : List α), ys.Nodup → (∀ k, k ∈ ys ↔ k ∈ xs) → ys.length = cardL xs
  | [], ys, _, h => by
    cases ys with
    | nil => rfl
    | cons y ys => exact absurd ((h y).mp (List.mem_cons_self ..)) (by simp)
  | x :: xs, ys, nd, h => by
    rw [cardL_cons]
    split
    · rename_i c
      refine card_of xs ys nd fun k => (h k).trans ?_
      rw [List.mem_cons]
      exact ⟨fun q => q.elim (fun e => e ▸ c) id, .inr⟩
    · rename_i c
      have hx : x ∈ ys := (h x).mpr (List.mem_cons_self ..)
      have pe := List.perm_cons_erase hx
      have nd2 := pe.nodup_iff.mp nd
      obtain ⟨n1, n2⟩ := List.nodup_cons.mp nd2
      have e := card_of xs (ys.erase x) n2 fun k => ?_
      · rw [pe.length_eq, List.length_cons, e]
      · have hk := h k
        rw [pe.mem_iff, List.mem_cons, List.mem_cons] at hk
        constructor
        · intro q
          rcases hk.mp (.inr q) with r | r
          · rw [r] at q; exact absurd q n1
          · exact r
        · intro q
          rcases hk.mpr (.inr q) with r | r
          · rw [r] at q; exact absurd q c
          · exact r
section
variable {K : Fg} {ta : TE} {ρ : List Sl} {O O1 : Os} {w : World}
theorem rx_cardI {ns : List Int} {n : Int} (hn : cardO ns = some n) (ha : RXs K ta ρ O (ns.map .int) O1) :
    RX K (tCB (rLenQ K) (tCons (tCB (rSortedSet w) (tCons (tCB (rSetOfI K w) (tCons ta tNil)) tNil)) tNil)) ρ O (.int n) O1 := ⟨fun _ _ _ _ _ _ Q E S k =>
  ha.go E S fun a F1 H1 f1 E1 S1 r1 => by
    unfold cardO at hn
    split at hn
    · rename_i h64
      cases hn
      obtain ⟨vs, q1, q2, q3⟩ := r1 F1 H1 (Same.refl _) S1
      have hv := q3.ints
      subst hv
      refine ⟨a, ns, rfl, q1, by unfold scanBound; omega, fun p S' n hp hS hn => ?_⟩
      have S2 := S1.loose (o := SetO w p S' n) hp
      refine ⟨p, S', n, rfl, upd_same, by omega, fun out q hs hm hl hq => ?_⟩
      have S3 := S2.loose (o := .lst (out.map V.int)) hq
      have el : out.length = cardL ns := card_of ns out (up_nd hs) fun k => (hm k).trans (hS k)
      refine ⟨q, out.map V.int, rfl, .inl (SqL.of upd_same), ?_⟩
      rw [List.length_map, el]
      exact k _ F1 _ f1 S3 (.int _)
    · cases hn⟩
theorem rx_cardS {ns : List Str} {n : Int} (hn : cardO ns = some n) (ha : RXs K ta ρ O (ns.map .str) O1) :
    RX K (tCB (rLenQ K) (tCons (tCB (rSortedTX w) (tCons (tCB (rSetOfS K w) (tCons ta tNil)) tNil)) tNil)) ρ O (.int n) O1 := ⟨fun _ _ _ _ _ _ Q E S k =>
  ha.go E S fun a F1 H1 f1 E1 S1 r1 => by
    unfold cardO at hn
    split at hn
    · rename_i h64
      cases hn
      obtain ⟨vs, q1, q2, q3⟩ := r1 F1 H1 (Same.refl _) S1
      have hv := q3.strs
      subst hv
      refine ⟨a, ns, rfl, q1, by unfold scanBound; omega, fun p S' n hp hS hn => ?_⟩
      have S2 := S1.loose (o := SetTX w p S' n) hp
      refine ⟨p, S', n, rfl, upd_same, by omega, fun out q hs hm hl hq => ?_⟩
      have S3 := S2.loose (o := .lst (out.map V.str)) hq
      have el : out.length = cardL ns := card_of ns out hs fun k => (hm k).trans (hS k)
      refine ⟨q, out.map V.str, rfl, .inl (SqL.of upd_same), ?_⟩
      rw [List.length_map, el]
      exact k _ F1 _ f1 S3 (.int _)
    · cases hn⟩
end
end TL

/-! own dicts by flat keys -/
namespace TL
open PySem L2
open Enc
/-! ### pairs -/
section
variable {κ β : Type} [DecidableEq κ]
def putM (xs : List (κ × β)) (k : κ) (v : β) : List (κ × β) := if (xs.any fun p => decide (p.1 = k)) = true then xs.map (fun p => if p.1 = k then (p.1, v) else p) else xs ++ [(k, v)]
def getM (xs : List (κ × β)) (k : κ) : Option β := (xs.find? fun p => decide (p.1 = k)).map (·.2)
def hasM (xs : List (κ × β)) (k : κ) : Bool := (getM xs k).isSome
def putMO (xs : List (κ × β)) (k : κ) (v : β) : Option (List (κ × β)) := if xs.length < 16777216 then some (putM xs k v) else none
theorem putM_len (xs : List (κ × β)) (k : κ) (v : β) : (putM xs k v).length ≤ xs.length + 1 := by
  unfold putM
  split
  · rw [List.length_map]; omega
  · rw [List.length_append]; exact Nat.le_refl _
end
theorem getM_cons {κ β : Type} [DecidableEq κ] (k j : κ) (v : β) (xs : List (κ × β)) : getM ((k, v) :: xs) j = if k = j then some v else getM xs j := by
  unfold getM
  rw [List.find?_cons]
  by_cases e : k = j
  · simp [e]
  · simp [e]
theorem getM_any {κ β : Type} [DecidableEq κ] : ∀ (xs : List (κ × β)) (k : κ), (xs.any fun p => decide (p.1 = k)) = (getM xs k).isSome
  | [], _ => rfl
  | (j, v) :: xs, k => by
    rw [List.any_cons, getM_any xs k, getM_cons]
    by_cases e : j = k
    · simp [e]
    · simp [e]
theorem getM_app {κ β : Type} [DecidableEq κ] : ∀ (xs : List (κ × β)) (k j : κ) (v : β), getM (xs ++ [(k, v)]) j = if (getM xs j).isSome then getM xs j else if k = j then some v else none
  | [], k, j, v => by
    rw [List.nil_append, getM_cons]
    rfl
  | (i, x) :: xs, k, j, v => by
    rw [List.cons_append, getM_cons, getM_cons, getM_app xs k j v]
    by_cases e : i = j
    · simp [e]
    · simp only [if_neg e]
theorem getM_map {κ β : Type} [DecidableEq κ] : ∀ (xs : List (κ × β)) (k j : κ) (v : β), getM (xs.map fun p => if p.1 = k then (p.1, v) else p) j = if k = j then (getM xs j).map fun _ => v else getM xs j
  | [], k, j, v => by
    show (none : Option β) = _
    split <;> rfl
  | (i, x) :: xs, k, j, v => by
    rw [List.map_cons]
    by_cases e : i = k
    · subst e
      rw [if_pos rfl, getM_cons, getM_cons, getM_map xs i j v]
      by_cases e2 : i = j
      · simp [e2]
      · simp [e2]
    · rw [if_neg e, getM_cons, getM_cons, getM_map xs k j v]
      by_cases e2 : i = j
      · have e3 : ¬ k = j := fun z => e (e2.trans z.symm)
        simp [e2, e3]
      · simp only [if_neg e2]
/-- what is found behind a store -/
theorem getM_put {κ β : Type} [DecidableEq κ] (xs : List (κ × β)) (k j : κ) (v : β) : getM (putM xs k v) j = if k = j then some v else getM xs j := by
  unfold putM
  rw [getM_any]
  split
  · rename_i c
    rw [getM_map]
    split
    · rename_i e
      subst e
      obtain ⟨z, hz⟩ := Option.isSome_iff_exists.mp c
      rw [hz]
      rfl
    · rfl
  · rename_i c
    rw [getM_app]
    split
    · rename_i c2
      have ne : ¬ k = j := by
        rintro rfl
        exact c c2
      rw [if_neg ne]
    · rename_i c2
      split
      · rfl
      · cases q : getM xs j with
        | none => rfl
        | some z => rw [q] at c2; exact absurd rfl c2
/-! ### flat keys -/
class KeyC (κ : Type) [DecidableEq κ] [Enc κ] where
  key : κ → Key
  inj : ∀ a b : κ, key a = key b → a = b
  rp : ∀ (K : Fg) (F : Hp) (v : V) (a : κ), Rp K F v (enc a) → v = kV (key a)
instance : KeyC Int := ⟨Sum.inl, fun a b e => Sum.inl.inj e, fun K F v a h => by cases h; rfl⟩
instance : KeyC Str := ⟨Sum.inr, fun a b e => Sum.inr.inj e, fun K F v a h => by cases h; rfl⟩
section
variable {κ β : Type} [DecidableEq κ] [Enc κ] [KeyC κ] [Enc β]
def encK (xs : List (κ × β)) : List (Key × PyData) := xs.map fun p => (KeyC.key p.1, enc p.2)
theorem encK_any (k : κ) : ∀ xs : List (κ × β), ((encK xs).any fun p => decide (p.1 = KeyC.key k)) = xs.any fun p => decide (p.1 = k)
  | [] => rfl
  | (j, v) :: xs => by
    show (decide (KeyC.key j = KeyC.key k) || (encK xs).any _) = _
    rw [encK_any k xs, List.any_cons]
    have e : decide (KeyC.key j = KeyC.key k) = decide (j = k) := by
      by_cases e : j = k
      · simp [e]
      · have : ¬ KeyC.key j = KeyC.key k := fun z => e (KeyC.inj _ _ z)
        simp [e, this]
    rw [e]
theorem encK_put (xs : List (κ × β)) (k : κ) (v : β) : putM (encK xs) (KeyC.key k) (enc v) = encK (putM xs k v) := by
  unfold putM
  rw [encK_any]
  split
  · unfold encK
    rw [List.map_map, List.map_map]
    refine List.map_congr_left fun p _ => ?_
    show (if KeyC.key p.1 = KeyC.key k then (KeyC.key p.1, enc v) else (KeyC.key p.1, enc p.2)) = _
    by_cases e : p.1 = k
    · rw [if_pos (by rw [e])]
      show _ = (KeyC.key (if p.1 = k then (p.1, v) else p).1, enc (if p.1 = k then (p.1, v) else p).2)
      rw [if_pos e]
    · rw [if_neg fun z => e (KeyC.inj _ _ z)]
      show _ = (KeyC.key (if p.1 = k then (p.1, v) else p).1, enc (if p.1 = k then (p.1, v) else p).2)
      rw [if_neg e]
  · unfold encK
    rw [List.map_append]
    rfl
theorem encK_get (k : κ) : ∀ xs : List (κ × β), getM (encK xs) (KeyC.key k) = (getM xs k).map enc
  | [] => rfl
  | (j, v) :: xs => by
    show getM ((KeyC.key j, enc v) :: encK xs) _ = _
    rw [getM_cons, getM_cons, encK_get k xs]
    by_cases e : j = k
    · rw [if_pos e, if_pos (by rw [e])]; rfl
    · rw [if_neg e, if_neg fun z => e (KeyC.inj _ _ z)]
end
section
variable {κ : Type} [DecidableEq κ] {K : Fg} {F : Hp}
theorem KD.nil : KD K F ([] : List (κ × V)) [] := ⟨rfl, .nil⟩
theorem KD.tl {p : κ × V} {q : κ × PyData} {vs : List (κ × V)} {kvs : List (κ × PyData)} (h : KD K F (p :: vs) (q :: kvs)) : (p.1 = q.1 ∧ Rp K F p.2 q.2) ∧ KD K F vs kvs := by
  obtain ⟨h1, h2⟩ := h
  rw [List.map_cons, List.map_cons] at h1 h2
  cases h2 with
  | cons r t => exact ⟨⟨(List.cons.inj h1).1, r⟩, (List.cons.inj h1).2, t⟩
theorem KD.cons {p : κ × V} {q : κ × PyData} {vs : List (κ × V)} {kvs : List (κ × PyData)} (e : p.1 = q.1) (r : Rp K F p.2 q.2) (h : KD K F vs kvs) : KD K F (p :: vs) (q :: kvs) := by
  refine ⟨?_, ?_⟩
  · rw [List.map_cons, List.map_cons, e, h.1]
  · rw [List.map_cons, List.map_cons]
    exact .cons r h.2
theorem KD.get (k : κ) : ∀ {vs : List (κ × V)} {kvs : List (κ × PyData)}, KD K F vs kvs → (getM kvs k = none ∧ valV vs k = none) ∨ ∃ d v, getM kvs k = some d ∧ valV vs k = some v ∧ Rp K F v d
  | [], [], _ => .inl ⟨rfl, rfl⟩
  | [], _ :: _, h => by have := h.1; cases this
  | _ :: _, [], h => by have := h.1; cases this
  | p :: vs, q :: kvs, h => by
    obtain ⟨⟨h1, h2⟩, h3⟩ := h.tl
    by_cases e : p.1 = k
    · have e2 : q.1 = k := h1.symm.trans e
      exact .inr ⟨q.2, p.2, by rw [show q = (q.1, q.2) from rfl, getM_cons, if_pos e2], valV_pos e, h2⟩
    · have e2 : ¬ q.1 = k := fun z => e (h1.trans z)
      have g : getM (q :: kvs) k = getM kvs k := by rw [show q = (q.1, q.2) from rfl, getM_cons, if_neg e2]
      rw [valV_neg e, g]
      exact KD.get k h3
theorem KD.len {vs : List (κ × V)} {kvs : List (κ × PyData)} (h : KD K F vs kvs) : vs.length = kvs.length := by
  have := congrArg List.length h.1
  rw [List.length_map, List.length_map] at this
  exact this
theorem KD.snoc {k : κ} {v : V} {d : PyData} (r : Rp K F v d) : ∀ {vs : List (κ × V)} {kvs : List (κ × PyData)}, KD K F vs kvs → KD K F (vs ++ [(k, v)]) (kvs ++ [(k, d)])
  | [], [], _ => .cons rfl r .nil
  | [], _ :: _, h => by have := h.1; cases this
  | _ :: _, [], h => by have := h.1; cases this
  | p :: vs, q :: kvs, h => by
    obtain ⟨⟨h1, h2⟩, h3⟩ := h.tl
    exact .cons h1 h2 (KD.snoc r h3)
theorem KD.repl {k : κ} {v : V} {d : PyData} (r : Rp K F v d) : ∀ {vs : List (κ × V)} {kvs : List (κ × PyData)}, KD K F vs kvs → KD K F (vs.map fun kv => if kv.1 = k then (kv.1, v) else kv) (kvs.map fun kv => if kv.1 = k then (kv.1, d) else kv)
  | [], [], _ => .nil
  | [], _ :: _, h => by have := h.1; cases this
  | _ :: _, [], h => by have := h.1; cases this
  | p :: vs, q :: kvs, h => by
    obtain ⟨⟨h1, h2⟩, h3⟩ := h.tl
    rw [List.map_cons, List.map_cons]
    by_cases e : p.1 = k
    · have e2 : q.1 = k := h1.symm.trans e
      rw [if_pos e, if_pos e2]
      exact .cons h1 r (KD.repl r h3)
    · have e2 : ¬ q.1 = k := fun z => e (h1.trans z)
      rw [if_neg e, if_neg e2]
      exact .cons h1 h2 (KD.repl r h3)
theorem KD.put {k : κ} {v : V} {d : PyData} {vs : List (κ × V)} {kvs : List (κ × PyData)} (h : KD K F vs kvs) (r : Rp K F v d) : KD K F (putK vs k v) (putM kvs k d) := by
  unfold putK putM
  have e : (vs.any fun kv => decide (kv.1 = k)) = kvs.any fun p => decide (p.1 = k) := by
    rw [valV_any, getM_any]
    rcases h.get k with ⟨e1, e2⟩ | ⟨d, v, e1, e2, _⟩
    · rw [e1, e2]; rfl
    · rw [e1, e2]; rfl
  rw [e]
  split
  · exact h.repl r
  · exact h.snoc r
end
/-! ### the layer -/
section
variable {K : Fg} {F0 H0 F H : Hp} {D0 : List Addr} {O O1 O2 O3 : Os} {σ : L2.St} {ρ : List Sl} {D : Ends} {tv ty tx : TE} {d : PyData}
theorem st_newK {i : Nat} (E : EnvR K F σ ρ) (S : Hx K F0 H0 D0 F O H) (k : ∀ p σ' F' H', Same F F' → EnvR K F' σ' (ρ.set i (.adr p)) → Hx K F0 H0 D0 F' (⟨p, true, .k []⟩ :: O) H' → D.nx σ' H') : tAsg tDNewK (gName i) D σ H := fun p hp =>
  k p _ F _ (Same.refl _) (E.seta i) (S.mineD hp ⟨[], upd_same, Nat.zero_le _, .nil⟩)
/-- where a dict stands: own, or frozen -/
inductive DkAt (ρ : List Sl) (O : Os) (i : Nat) (kvs : List (Key × PyData)) : Prop
  | own {a : Addr} {nw : Bool} {j : Nat} : ρ[i]? = some (.adr a) → O[j]? = some ⟨a, nw, .k kvs⟩ → DkAt ρ O i kvs
  | frz : ρ[i]? = some (.dk kvs) → DkAt ρ O i kvs
theorem DkAt.at {i : Nat} {kvs : List (Key × PyData)} (h : DkAt ρ O i kvs) (E : EnvR K F σ ρ) (S : Hx K F0 H0 D0 F O H) : ∃ a, σ[i]? = some (some (.ref a)) ∧ ∀ F' H', Same F F' → Hx K F0 H0 D0 F' O H' → ∃ vs, H' a = some (.dK vs) ∧ KD K F' vs kvs := by
  cases h with
  | @own a nw j h1 h2 =>
    exact ⟨a, E.adr h1, fun F' H' f S' => by
      obtain ⟨_, _, _, vs, h3, h4, h5⟩ := S'.getD h2
      exact ⟨vs, h3, h5⟩⟩
  | frz h1 =>
    obtain ⟨s, h2, t, vs, rfl, h3, h4, h5⟩ := E.at h1
    exact ⟨t, h2, fun F' H' f S' => ⟨vs, S'.fh _ _ (f _ _ h3), h5.up f⟩⟩
section
variable {κ β : Type} [DecidableEq κ] [Enc κ] [KeyC κ] [Enc β]
theorem st_dput {i j : Nat} {a : Addr} {nw : Bool} {xs xs' : List (κ × β)} {k : κ} {v : β} (hn : putMO xs k v = some xs') (hs : ρ[i]? = some (.adr a)) (hv : RX K tv ρ O (enc v) O1) (hk : RX K ty ρ O1 (enc k) O2) (hj : O2[j]? = some ⟨a, nw, .k (encK xs)⟩)
    (E : EnvR K F σ ρ) (S : Hx K F0 H0 D0 F O H) (kk : ∀ F' H', Same F F' → EnvR K F' σ ρ → Hx K F0 H0 D0 F' (O2.set j ⟨a, nw, .k (encK xs')⟩) H' → D.nx σ H') : sDPut (tVar i) ty tv D σ H :=
  hv.go E S fun v1 F1 H1 f1 E1 S1 r1 => ⟨_, E1.adr hs, hk.go E1 S1 fun y F2 H2 f2 E2 S2 r2 => by
    unfold putMO at hn
    split at hn
    · rename_i hl
      cases hn
      have ey := KeyC.rp K F2 y k r2
      subst ey
      obtain ⟨_, _, _, vs, h3, h4, h5⟩ := S2.getD hj
      have hl2 : vs.length < sizeLine := by rw [h5.len, sizeLine_eq]; unfold encK; rw [List.length_map]; exact hl
      have h6 : KD K F2 (putK vs (KeyC.key k) v1) (encK (putM xs k v)) := by rw [← encK_put]; exact h5.put (r1.up f2)
      refine ⟨a, _, rfl, DPut.k h3 hl2, kk F2 _ (f1.trans f2) E2 (S2.mutD hj ⟨_, upd_same, ?_, h6⟩)⟩
      have := length_putK vs (KeyC.key k) v1
      omega
    · cases hn⟩
theorem rx_dkget {i : Nat} {xs : List (κ × β)} {k : κ} {v : β} (hn : getM xs k = some v) (hd : DkAt ρ O i (encK xs)) (hk : RX K ty ρ O (enc k) O) : RX K (tDGet (tVar i) ty) ρ O (enc v) O := ⟨fun _ _ _ _ _ _ Q E S kk => by
  obtain ⟨a, h1, h2⟩ := hd.at E S
  refine ⟨_, h1, hk.go E S fun y F2 H2 f2 E2 S2 r2 => ?_⟩
  have ey := KeyC.rp K F2 y k r2
  subst ey
  obtain ⟨vs, h3, h5⟩ := h2 F2 H2 f2 S2
  have g : getM (encK xs) (KeyC.key k) = some (enc v) := by rw [encK_get, hn]; rfl
  rcases h5.get (KeyC.key k) with ⟨e, _⟩ | ⟨d, u, e1, e2, r⟩
  · rw [e] at g; cases g
  · rw [e1] at g
    have g := Option.some.inj g
    subst g
    exact ⟨a, u, rfl, by rw [← e2]; exact DGet.k h3, kk u F2 H2 f2 S2 r⟩⟩
theorem rx_dkget2 {i : Nat} {xs : List (κ × β)} {k : κ} {v : β} (hd : DkAt ρ O i (encK xs)) (hk : RX K ty ρ O (enc k) O) (hx : RX K tx ρ O (enc v) O) : RX K (tDGet2 (tVar i) ty tx) ρ O (enc ((getM xs k).getD v)) O := ⟨fun _ _ _ _ _ _ Q E S kk => by
  obtain ⟨a, h1, h2⟩ := hd.at E S
  obtain ⟨vs0, h30, _⟩ := h2 _ _ (Same.refl _) S
  refine ⟨_, h1, a, rfl, .inl ⟨_, .inl h30⟩, hk.go E S fun y F2 H2 f2 E2 S2 r2 => hx.go E2 S2 fun z F3 H3 f3 E3 S3 r3 => ?_⟩
  have ey := KeyC.rp K F2 y k r2
  subst ey
  obtain ⟨vs, h3, h5⟩ := h2 F3 H3 (f2.trans f3) S3
  have g := encK_get k xs
  rcases h5.get (KeyC.key k) with ⟨e, e2⟩ | ⟨d, u, e1, e2, r⟩
  · rw [e] at g
    refine ⟨none, by rw [← e2]; exact DGet.k h3, kk z F3 H3 (f2.trans f3) S3 ?_⟩
    cases q : getM xs k with
    | none => exact r3
    | some w => rw [q] at g; cases g
  · rw [e1] at g
    refine ⟨some u, by rw [← e2]; exact DGet.k h3, kk u F3 H3 (f2.trans f3) S3 ?_⟩
    cases q : getM xs k with
    | none => rw [q] at g; cases g
    | some w =>
      rw [q] at g
      have g := Option.some.inj g
      subst g
      exact r⟩
theorem din_of {i : Nat} {xs : List (κ × β)} {k : κ} (hd : DkAt ρ O i (encK xs)) (E : EnvR K F σ ρ) (S : Hx K F0 H0 D0 F O H) : ∃ a, σ[i]? = some (some (.ref a)) ∧ ∃ o, DGet H a (kV (KeyC.key k)) o ∧ o.isSome = hasM xs k := by
  obtain ⟨a, h1, h2⟩ := hd.at E S
  obtain ⟨vs, h3, h5⟩ := h2 _ _ (Same.refl _) S
  refine ⟨a, h1, _, DGet.k h3, ?_⟩
  have g := encK_get k xs
  unfold hasM
  rcases h5.get (KeyC.key k) with ⟨e, e2⟩ | ⟨d, u, e1, e2, r⟩
  · rw [e2]
    cases q : getM xs k with
    | none => rfl
    | some w => rw [e, q] at g; cases g
  · rw [e2]
    cases q : getM xs k with
    | none => rw [e1, q] at g; cases g
    | some w => rfl
theorem rx_dkin {i : Nat} {xs : List (κ × β)} {k : κ} (hk : RX K ty ρ O (enc k) O) (hd : DkAt ρ O i (encK xs)) : RX K (tDIn ty (tVar i)) ρ O (.bool (hasM xs k)) O := ⟨fun _ _ _ _ _ _ Q E S kk => hk.go E S fun y F2 H2 f2 E2 S2 r2 => by
  have ey := KeyC.rp K F2 y k r2
  subst ey
  obtain ⟨a, h1, o, h2, h3⟩ := din_of (k := k) hd E2 S2
  refine ⟨_, h1, a, o, rfl, h2, ?_⟩
  rw [h3]
  exact kk _ F2 H2 f2 S2 (.bl _)⟩
theorem rx_dknotin {i : Nat} {xs : List (κ × β)} {k : κ} (hk : RX K ty ρ O (enc k) O) (hd : DkAt ρ O i (encK xs)) : RX K (tDNotIn ty (tVar i)) ρ O (.bool (!hasM xs k)) O := ⟨fun _ _ _ _ _ _ Q E S kk => hk.go E S fun y F2 H2 f2 E2 S2 r2 => by
  have ey := KeyC.rp K F2 y k r2
  subst ey
  obtain ⟨a, h1, o, h2, h3⟩ := din_of (k := k) hd E2 S2
  refine ⟨_, h1, a, o, rfl, h2, ?_⟩
  rw [h3]
  exact kk _ F2 H2 f2 S2 (.bl _)⟩
end
/-- an own dict is frozen -/
theorem frz_dk {i j : Nat} {a : Addr} {kvs : List (Key × PyData)} (hs : ρ[i]? = some (.adr a)) (hj : O[j]? = some ⟨a, true, .k kvs⟩) (E : EnvR K F σ ρ) (S : Hx K F0 H0 D0 F O H) :
    ∃ F', Same F F' ∧ EnvR K F' σ (ρ.set i (.dk kvs)) ∧ Hx K F0 H0 D0 F' (O.eraseIdx j) H := by
  obtain ⟨h1, _, _, vs, h3, h4, h5⟩ := S.getD hj
  obtain ⟨f, S'⟩ := S.frzD hj h3
  have q := E.adr hs
  have E2 := EnvR.set (s := some (.ref a)) (r := .dk kvs) (K := K) (F := upd F a (.dK vs)) ⟨a, vs, rfl, upd_same, h4, h5.up f⟩ i (E.up f)
  rw [set_same q] at E2
  exact ⟨_, f, E2, S'⟩
/-! ### calls that are handed a frozen dict -/
def SpA (K : Fg) (R : List Sl → PyData → Prop) : Sp := fun vs H Q _ => ∃ F as d, AsR K F vs as ∧ Same F H ∧ R as d ∧ ∀ v F' H', Stp [] F H F' H' → Rp K F' v d → Q v H'
theorem spa_len {R : List Sl → PyData → Prop} {n : Nat} (h : ∀ ds d, R ds d → ds.length = n) : ∀ vs H Q E, SpA K R vs H Q E → vs.length = n := fun vs H Q E ⟨F, as, d, r, _, hR, _⟩ => r.length.trans (h as d hR)
theorem rx_callA {R : List Sl → PyData → Prop} {t : TA} {as : List Sl} (hR : R as d) (ha : RA K t ρ O as O1) : RX K (tCall (SpA K R) [] E0 t) ρ O d O1 := ⟨fun _ _ _ _ _ _ Q E S k => ha.go E S fun vs F1 H1 f1 E1 S1 r1 => by
  rw [List.append_nil]
  exact ⟨F1, as, d, r1, S1.fh, hR, fun v F' H' st r => k v F' H' (f1.trans st.ff) (S1.call st) r⟩⟩
theorem ra_dk {t : TA} {i : Nat} {kvs : List (Key × PyData)} {as : List Sl} (h : ρ[i]? = some (.dk kvs)) (hr : RA K t ρ O as O2) : RA K (tCons (tVar i) t) ρ O (.dk kvs :: as) O2 := ⟨fun _ _ _ _ _ _ Q E S k => by
  obtain ⟨s, h2, a, vs, rfl, h3, h4, h5⟩ := E.at h
  exact ⟨_, h2, hr.go E S fun ws F2 H2 f2 E2 S2 r2 => k _ F2 H2 f2 S2 (.dk (f2 _ _ h3) h4 (h5.up f2) r2)⟩⟩
end
end TL

/-! lists of names and ints, or names and tuples, as lists of one kind -/
namespace TL
open PySem L2
open Enc
def itIL (xs : List (Str × Int)) : List (Str × IT) := xs.map fun p => (p.1, IT.i p.2)
def itTL (xs : List (Str × Tp Int)) : List (Str × IT) := xs.map fun p => (p.1, IT.t p.2)
theorem enc_itIL (xs : List (Str × Int)) : (enc xs : PyData) = enc (itIL xs) := by
  show PyData.list _ = PyData.list _
  unfold itIL
  rw [List.map_map]
  rfl
theorem enc_itTL (xs : List (Str × Tp Int)) : (enc xs : PyData) = enc (itTL xs) := by
  show PyData.list _ = PyData.list _
  unfold itTL
  rw [List.map_map]
  rfl
theorem rx_cv {α β : Type} [Enc α] [Enc β] {K : Fg} {ta : TE} {ρ : List Sl} {O O' : Os} {x : α} {y : β} (e : (enc x : PyData) = enc y) (h : RX K ta ρ O (enc x) O') : RX K ta ρ O (enc y) O' := e ▸ h
/-! ### a list of ints, or of texts -/
inductive LIS where
  | i (l : List Int)
  | s (l : List Str)
  deriving DecidableEq
def LIS.en : LIS → PyData
  | .i l => enc l
  | .s l => enc l
@[reducible] instance : Enc LIS := ⟨LIS.en⟩
def LIS.len : LIS → Int
  | .i l => (l.length : Nat)
  | .s l => (l.length : Nat)
def LIS.card : LIS → Option Int
  | .i l => cardO l
  | .s l => cardO l
def rSetOfU (K : Fg) (w : World) : List V → Hp → VK → Prop := fun xs H Q => rSetOfI K w xs H Q ∨ rSetOfS K w xs H Q
def rSortedU (w : World) : List V → Hp → VK → Prop := fun xs H Q => rSortedSet w xs H Q ∨ rSortedTX w xs H Q
theorem k_setOfU {X : Cx} (K : Fg) (w : World) (hc : X.calm = true := by rfl) (hK : X.K = K := by rfl) (hw : X.w = w := by rfl) : CallR X (.type "set") (rSetOfU K w) := by
  subst hK; subst hw
  intro pins s σ H xs us Q I r h
  exact h.elim (fun h => cr_setOfI hc pins s σ H xs us Q I r h) (fun h => cr_setOfS hc pins s σ H xs us Q I r h)
theorem k_sortedU {X : Cx} (w : World) (hc : X.calm = true := by rfl) (hw : X.w = w := by rfl) : CallR X (.builtin "sorted") (rSortedU w) := by
  subst hw
  intro pins s σ H xs us Q I r h
  exact h.elim (fun h => cr_sortedSet hc pins s σ H xs us Q I r h) (fun h => cr_sortedTX hc pins s σ H xs us Q I r h)
section
variable {K : Fg} {ta : TE} {ρ : List Sl} {O O1 : Os} {w : World}
theorem rx_lenU {x : LIS} (ha : RX K ta ρ O (enc x) O1) : RX K (tCB (rLenQ K) (tCons ta tNil)) ρ O (.int x.len) O1 := by
  cases x with
  | i l =>
    have := rx_len (RX.s (ds := l.map enc) ha)
    rw [List.length_map] at this
    exact this
  | s l =>
    have := rx_len (RX.s (ds := l.map enc) ha)
    rw [List.length_map] at this
    exact this
theorem rx_cardU {x : LIS} {n : Int} (hn : x.card = some n) (ha : RX K ta ρ O (enc x) O1) :
    RX K (tCB (rLenQ K) (tCons (tCB (rSortedU w) (tCons (tCB (rSetOfU K w) (tCons ta tNil)) tNil)) tNil)) ρ O (.int n) O1 := by
  cases x with
  | i l =>
    refine ⟨fun _ _ _ _ _ _ Q E S k => RX.go ha E S fun v F1 H1 f1 E1 S1 r1 => ?_⟩
    have r1 : Rp K F1 v (.list (l.map PyData.int)) := r1
    have hn : cardO l = some n := hn
    unfold cardO at hn
    split at hn
    · rename_i h64
      cases hn
      cases r1 with
      | @lst a vs _ q1 q2 q3 =>
      have hv := q3.ints
      subst hv
      refine .inl ⟨a, l, rfl, S1.fh.seq q1, by unfold scanBound; omega, fun p S' n hp hS hn => ?_⟩
      have S2 := S1.loose (o := SetO w p S' n) hp
      refine .inl ⟨p, S', n, rfl, upd_same, by omega, fun out q hs hm hl hq => ?_⟩
      have S3 := S2.loose (o := .lst (out.map V.int)) hq
      have el : out.length = cardL l := card_of l out (up_nd hs) fun k => (hm k).trans (hS k)
      refine ⟨q, out.map V.int, rfl, .inl (SqL.of upd_same), ?_⟩
      rw [List.length_map, el]
      exact k _ F1 _ f1 S3 (.int _)
    · cases hn
  | s l =>
    refine ⟨fun _ _ _ _ _ _ Q E S k => RX.go ha E S fun v F1 H1 f1 E1 S1 r1 => ?_⟩
    have r1 : Rp K F1 v (.list (l.map PyData.str)) := r1
    have hn : cardO l = some n := hn
    unfold cardO at hn
    split at hn
    · rename_i h64
      cases hn
      cases r1 with
      | @lst a vs _ q1 q2 q3 =>
      have hv := q3.strs
      subst hv
      refine .inr ⟨a, l, rfl, S1.fh.seq q1, by unfold scanBound; omega, fun p S' n hp hS hn => ?_⟩
      have S2 := S1.loose (o := SetTX w p S' n) hp
      refine .inr ⟨p, S', n, rfl, upd_same, by omega, fun out q hs hm hl hq => ?_⟩
      have S3 := S2.loose (o := .lst (out.map V.str)) hq
      have el : out.length = cardL l := card_of l out hs fun k => (hm k).trans (hS k)
      refine ⟨q, out.map V.str, rfl, .inl (SqL.of upd_same), ?_⟩
      rw [List.length_map, el]
      exact k _ F1 _ f1 S3 (.int _)
    · cases hn
end
/-! ### list(range(a, b)) -/
theorem rng2O_ok {a b : Int} {r : List Int} (h : rng2O a b = some r) : RgOk a b ∧ rgV a b = r.map V.int ∧ r.length ≤ 16777216 := by
  unfold rng2O at h
  split at h
  · rename_i hc
    obtain ⟨c1, c2, c3, c4, c5⟩ := hc
    cases h
    refine ⟨⟨by omega, by omega, by omega, by omega, by omega⟩, ?_, by rw [rngL_length]; omega⟩
    unfold rgV rngL
    rw [List.map_map]
    rfl
  · cases h
theorem rxo_listRg2 {K : Fg} {ta tb : TE} {ρ : List Sl} {O O1 O2 : Os} {a b : Int} {r : List Int} (h : rng2O a b = some r) (ha : RX K ta ρ O (.int a) O1) (hb : RX K tb ρ O1 (.int b) O2) : RXo K (tLstRg (tRg2 ta tb)) ρ O (r.map .int) O2 := ⟨fun _ _ _ _ _ _ Q E S k => ha.go E S fun x F1 H1 f1 E1 S1 r1 => hb.go E1 S1 fun y F2 H2 f2 E2 S2 r2 => by
  cases r1
  cases r2
  obtain ⟨h1, h2, h3⟩ := rng2O_ok h
  refine ⟨a, b, rfl, rfl, h1, fun q hq => ?_⟩
  rw [h2]
  exact k q F2 _ (f1.trans f2) (S2.mine hq (by rw [List.length_map, sizeLine_eq]; exact h3) (RpAll.of_ints r))⟩
end TL

/-! enumerate of a tuple -/
namespace TL
open PySem PySem.Spec PyProof.Rows L2
open Enc
theorem meets_enumerate_1B {v : Value} {o : Obj} {H : Heap → Prop} (B : Begins v o H) :
    Meets (Builtin.«enumerate.__new__» ⟨[.type "enumerate", v], []⟩) (fun _ R s => H s.heap ∧
      R (.ok (.ret (.ref (s.heap.push o).objs.size))) { s with heap := (s.heap.push o).push { cls := .type "enumerate", data := .fields #[.none, .bool false, .ref s.heap.objs.size, rawInt 0, .none, .none] } }) :=
  .of_wp fun prog w A R s h => by
    obtain ⟨hp, g, d, tk, os⟩ := s; obtain ⟨h1, h⟩ := h
    have hsub := sub_enumerate
    have q1 : ∀ {A' : Around} {E : Value → Shared → Prop} {Q : Value → Shared → Prop}, Q (.ref hp.objs.size) ⟨hp.push o, g, d, tk, os⟩ → wpAny (model prog w) A' (pyIter v) Q E ⟨hp, g, d, tk, os⟩ :=
      fun q => B.iter prog w _ _ ⟨hp, g, d, tk, os⟩ _ h1 q
    wp_walk using q1
    refine wpAny_stack_any fun st => wpAny_pure ?_
    split
    · rename_i c _ _ _ _ _
      cases (c == Value.type "enumerate")
      · wp_walk using q1
        exact ⟨_, rfl, h⟩
      · wp_walk using q1
        exact ⟨_, rfl, h⟩
    · wp_walk using q1
      exact ⟨_, rfl, h⟩
theorem enum_begins1 {prog : Program} {w : World} {A : Around} {E : Value → Shared → Prop} {s : Shared} {v : Value} {o : Obj} {H : Heap → Prop} {Q : Value → Shared → Prop} (B : Begins v o H) (h1 : H s.heap)
    (h : ∀ h', IsEnum h' (s.heap.objs.size + 1) s.heap.objs.size 0 .none → h'.get? s.heap.objs.size = some o → h'.objs.size = s.heap.objs.size + 2 →
      (∀ b o, s.heap.get? b = some o → h'.get? b = some o) → Q (.ref (s.heap.objs.size + 1)) { s with heap := h' }) :
    wpAny (model prog w) A (call (.type "enumerate") [v]) Q E s := by
  refine callType_new F.called_enumerate (by decide) (F.typeCall_enumerate_1 _) (F.newCall_enumerate_1 _) (fun obj => F.args_object_init_2 obj _) F.entry_enumerate_new
    (meets_enumerate_1B B) ⟨h1, ?_⟩
  have hz : (s.heap.push o).objs.size = s.heap.objs.size + 1 := Heap.size_push ..
  show _ ∧ _
  rw [hz]
  have he : IsEnum ((s.heap.push o).push { cls := .type "enumerate", data := .fields #[.none, .bool false, .ref s.heap.objs.size, rawInt 0, .none, .none] }) (s.heap.objs.size + 1) s.heap.objs.size 0 .none := by
    have := Heap.get?_push_size (s.heap.push o) (o := { cls := .type "enumerate", data := .fields #[.none, .bool false, .ref s.heap.objs.size, rawInt 0, .none, .none] }) rfl
    rw [hz] at this; exact this
  refine ⟨⟨_, he, rfl⟩, h _ he (Heap.get?_push_of_some _ (Heap.get?_push_size _ B.free)) (by rw [Heap.size_push, hz]) fun b o x => Heap.get?_push_of_some _ (Heap.get?_push_of_some _ x)⟩
/-- the tuple at a, each item in a new pair -/
def ItEt (K : Fg) (a : Addr) : It :=
  ⟨fun i H => ∃ (xs : List V) (x : V), SqT K H a xs ∧ xs[i]? = some x, fun i H v H' => ∃ T x, v = .ref T ∧ H T = none ∧ H' = upd H T (.tup [.int (i : Nat), x]) ∧ ∀ xs, SqT K H a xs → xs[i]? = some x, fun i H => ∃ xs : List V, SqT K H a xs ∧ xs.length = i⟩
theorem turn_et {P : Program} {w : World} {K : Fg} {elts : List Expr} {kk : Nat} {tpos : Pos} {a e it : Addr} (hal : a ≠ it) (hea : e ≠ a) :
    Turn P w K (.Tuple elts kk tpos) (ItEt K a) [e, it] e (fun i h => (∃ old, IsEnum h e it ((i : Nat) : Int) old) ∧ h.IsTupleIter it a i ∧ e ≠ it) where
  mem := by simp
  obj := fun i h st b hb => by
    obtain ⟨⟨old, he⟩, ⟨o, ho, hc, hd⟩, _⟩ := st
    have e' : b = e ∨ b = it := by simpa using hb
    rcases e' with z | z
    · rw [z]; exact ⟨_, he, fun v q => nomatch q⟩
    · rw [z]; exact ⟨o, ho, fun v q => by rw [hd] at q; cases q⟩
  keep := fun i h h' st k => let ⟨⟨old, he⟩, hi, hne⟩ := st; ⟨⟨old, k e (by simp) _ he⟩, hi.at fun o q => k it (by simp) o q, hne⟩
  item := by
    intro X hP hw hK hc i pins s σ H E I hf st hg
    subst hP hw hK
    obtain ⟨⟨old, he⟩, hit, hne⟩ := st
    obtain ⟨xs, x, hq, hx⟩ := hg
    obtain ⟨its, rv, p, hz⟩ := I.tuple hq
    obtain ⟨u, hu, ru⟩ := rv.get hx
    have hel : e < s.heap.objs.size := Heap.lt_size he
    have hil : it < s.heap.objs.size := by obtain ⟨_, q, _⟩ := hit; exact Heap.lt_size q
    have hh : X.A.in1.handled = none := I.ok.hd hc
    refine wpAny_pyNext_enum_itemD (Draws.tuple hh it a hal its.toArray) he ⟨hit, p⟩ (by simpa using (List.getElem?_eq_some_iff.mp hu).1) hne (by simp [hne, hea]) fun y h' tk ey ho hit' hT hsz hk => ?_
    have exy : y = u := Option.some.inj (ey.symm.trans (by simpa using hu))
    subst exy
    refine ⟨_, rfl, wpAny_letOwnedTupleGo_enum (s := { s with heap := h', toks := tk + 1 }) ho fun h'' he' sb => ?_⟩
    have hT2 : h''.get? s.heap.objs.size = some { cls := .type "tuple", data := .seq #[.int i tk, y] } := (sb.2 _ (Nat.ne_of_gt hel)).trans hT
    have new : ObjOk X.prog X.w (upd H s.heap.objs.size (.tup [.int (i : Nat), x])) h'' s.heap.objs.size (.tup [.int (i : Nat), x]) :=
      ⟨by show 2 ≤ sizeLine; decide, [.int i tk, y], .cons ⟨_, rfl⟩ (.cons ru .nil), ⟨_, hT2, rfl, _, rfl⟩⟩
    have I1 : Inv X pins σ (upd H s.heap.objs.size (.tup [.int (i : Nat), x])) { s with heap := h'', toks := tk + 1 } :=
      I.turnedNew (ch := [e, it]) (fun b ob hb q => (sb.2 b (fun z => hb (by simp [z]))).trans (hk b ob (fun z => hb (by simp [z])) (fun z => hb (by simp [z])) q)) hf (Nat.le_refl _) new
    refine ⟨.ref s.heap.objs.size, _, I1, rfl, ⟨_, x, rfl, I.hok.fresh (Nat.le_refl _), rfl, fun ys hy => by rw [I.tuple_inj hy hq]; exact hx⟩, ⟨⟨y, ?_⟩, hit'.1.at fun o q => (sb.2 it (Ne.symm hne)).trans q, hne⟩, fun b hb => ?_⟩
    · have e1 : ((i + 1 : Nat) : Int) = (i : Int) + 1 := by omega
      rw [e1]; exact he'
    · have hb' : b < s.heap.objs.size := by
        have e' : b = e ∨ b = it := by simpa using hb
        rcases e' with z | z
        · rw [z]; exact hel
        · rw [z]; exact hil
      rw [upd_ne (Nat.ne_of_lt hb')]
      exact (hf b hb).1
  done := by
    intro X hP hw hK hc i pins s σ H E I hf st hg
    subst hP hw hK
    obtain ⟨⟨old, he⟩, hit, hne⟩ := st
    obtain ⟨xs, hq, hx⟩ := hg
    obtain ⟨its, rv, p, hz⟩ := I.tuple hq
    obtain ⟨f0, f1, f2, f3, f4, f5⟩ := hf it (by simp)
    have hl := rv.length
    have hh : X.A.in1.handled = none := I.ok.hd hc
    have en : its.toArray.size = i := by simp; omega
    refine wpAny_pyNext_enum_endD (i := ((i : Nat) : Int)) (Draws.tuple hh it a hal its.toArray) he ⟨by rw [en]; exact hit, p⟩ fun h' eb => ⟨rfl, I.turned (t' := s.toks) (fun b o hb q => eb b o hb q) f0 f1 f3 f4 f5⟩
  self := fun A i s Q E st h => let ⟨⟨_, he⟩, _⟩ := st; wpAny_pyIter_enum he h
def iEnumT (K : Fg) (ta : TA) : TI := fun σ H R => ta σ H fun vs H1 => ∃ a xs, vs = [.ref a] ∧ SqT K H1 a xs ∧ R (ItEt K a) H1
theorem k_pi_enumT {X : Cx} (K : Fg) {e : Expr} {ta : TA} {p pos tpos : Pos} {elts : List Expr} {kk : Nat} (hg : Gl X "enumerate") (hm : X.mg "enumerate" = none) (ha : PA X [e] ta) (hs : starEach [e] X.env = [(false, eval e X.env)] := by rfl) (hK : X.K = K := by rfl) :
    PI X (.Tuple elts kk tpos) (.Call (.Name "enumerate" p) [e] [] pos) (iEnumT K ta) := by
  subst hK
  refine ⟨fun pins s σ H R I h => ?_⟩
  refine Call_ (ld_blt I hg hm boot_enumerate (PyProof.Rows.callWith_type1 (thn (ha.run pos pins s σ H _ I h) fun us s1 ⟨vs, H1, I1, r1, q1⟩ => ?_) hs rfl))
  obtain ⟨a, xs, ex, hq, q⟩ := q1
  subst ex
  cases r1 with
  | cons r rr =>
    cases rr
    cases r
    obtain ⟨its, rv, p', hz⟩ := I1.tuple hq
    obtain ⟨o2, ho2, p3⟩ := id p'
    have lt1 := Heap.lt_size ho2
    refine enum_begins1 (begins_tuple a its.toArray) p' fun h' he hit hsz hk => wpAny_pyIter_enum he ?_
    have I2 : Inv X pins σ H1 { s1 with heap := h' } := I1.kept (t' := s1.toks) hk
    refine ⟨s1.heap.objs.size + 1, [s1.heap.objs.size + 1, s1.heap.objs.size], _, _, H1, rfl, I2, turn_et (a := a) (e := s1.heap.objs.size + 1) (it := s1.heap.objs.size) (Nat.ne_of_lt lt1) (Nat.ne_of_gt (Nat.lt_succ_of_lt lt1)), ⟨⟨.none, he⟩, ⟨_, hit, rfl, rfl⟩, Nat.succ_ne_self _⟩, fun b hb => ?_, q⟩
    have e' : b = s1.heap.objs.size + 1 ∨ b = s1.heap.objs.size := by simpa using hb
    have hle : s1.heap.objs.size ≤ b := by
      rcases e' with z | z
      · rw [z]; exact Nat.le_add_right _ _
      · rw [z]; exact Nat.le_refl _
    exact I1.fpOk hle (I1.hok.fresh hle)
section
variable {K : Fg} {ta : TE} {ρ : List Sl} {O O1 : Os}
theorem ri_enumT0 {ys : List PyData} (h : RX K ta ρ O (.tuple ys) O1) : RI K (iEnumT K (tCons ta tNil)) ρ O (enumD ys) O1 := ⟨fun _ _ _ _ _ _ R E S k => h.go E S fun x F1 H1 f1 E1 S1 r1 => by
  cases r1 with
  | @tup a xs _ q1 q2 q3 =>
    have hl : (enumD ys).length = ys.length := by unfold enumD; simp
    refine ⟨a, xs, rfl, same_t S1.fh q1, k _ F1 H1 f1 S1 ⟨by rw [hl, ← q3.length]; exact q2, fun _ _ _ F O H i hi f S => ?_, fun _ _ _ F O H f S => ?_, fun _ _ _ F O H i x H' hi f S y => ?_⟩⟩
    · rw [hl, ← q3.length] at hi
      exact ⟨xs, xs[i], same_t (f.trans S.fh) q1, by simp [hi]⟩
    · exact ⟨xs, same_t (f.trans S.fh) q1, by rw [q3.length, hl]⟩
    · obtain ⟨T, z, rfl, hT, rfl, y⟩ := y
      obtain ⟨d, e, r⟩ := (q3.up f).getV (y xs (same_t (f.trans S.fh) q1))
      obtain ⟨F2, f2, S2, r2⟩ := pair_put S hT (.int (i : Nat)) r
      exact ⟨F2, _, f2, S2, by unfold enumD; simp [e], r2⟩⟩
theorem ri_enumTT {α : Type} [Enc α] {xs : List α} (h : RX K ta ρ O (.tuple (xs.map enc)) O1) : RI K (iEnumT K (tCons ta tNil)) ρ O ((enumL xs).map enc) O1 := by
  have e : (enumL xs).map enc = enumD (xs.map enc) := by
    unfold enumL enumD
    rw [List.map_map, List.zipIdx_map, List.map_map]
    rfl
  rw [e]
  exact ri_enumT0 h
end
end TL

/-! dicts by tuples; len(set(xs)); list.index of data; a call that reads an own list -/
namespace TL
open PySem PySem.Spec PyProof.Rows L2
open Enc
/-! ### pairs by other keys -/
section
variable {κ κ' β : Type} [DecidableEq κ] [DecidableEq κ'] [Enc β] {f : κ → κ'}
def encF (f : κ → κ') (xs : List (κ × β)) : List (κ' × PyData) := xs.map fun p => (f p.1, enc p.2)
theorem encF_any (hf : ∀ a b, f a = f b → a = b) (k : κ) : ∀ xs : List (κ × β), ((encF f xs).any fun p => decide (p.1 = f k)) = xs.any fun p => decide (p.1 = k)
  | [] => rfl
  | (j, v) :: xs => by
    show (decide (f j = f k) || (encF f xs).any _) = _
    rw [encF_any hf k xs, List.any_cons]
    have e : decide (f j = f k) = decide (j = k) := by
      by_cases e : j = k
      · simp [e]
      · have : ¬ f j = f k := fun z => e (hf _ _ z)
        simp [e, this]
    rw [e]
theorem encF_put (hf : ∀ a b, f a = f b → a = b) (xs : List (κ × β)) (k : κ) (v : β) : putM (encF f xs) (f k) (enc v) = encF f (putM xs k v) := by
  unfold putM
  rw [encF_any hf]
  split
  · unfold encF
    rw [List.map_map, List.map_map]
    refine List.map_congr_left fun p _ => ?_
    show (if f p.1 = f k then (f p.1, enc v) else (f p.1, enc p.2)) = _
    by_cases e : p.1 = k
    · rw [if_pos (by rw [e])]
      show _ = (f (if p.1 = k then (p.1, v) else p).1, enc (if p.1 = k then (p.1, v) else p).2)
      rw [if_pos e]
    · rw [if_neg fun z => e (hf _ _ z)]
      show _ = (f (if p.1 = k then (p.1, v) else p).1, enc (if p.1 = k then (p.1, v) else p).2)
      rw [if_neg e]
  · unfold encF
    rw [List.map_append]
    rfl
theorem encF_get (hf : ∀ a b, f a = f b → a = b) (k : κ) : ∀ xs : List (κ × β), getM (encF f xs) (f k) = (getM xs k).map enc
  | [] => rfl
  | (j, v) :: xs => by
    show getM ((f j, enc v) :: encF f xs) _ = _
    rw [getM_cons, getM_cons, encF_get hf k xs]
    by_cases e : j = k
    · rw [if_pos e, if_pos (by rw [e])]; rfl
    · rw [if_neg e, if_neg fun z => e (hf _ _ z)]
end
class KeyT (κ : Type) [DecidableEq κ] [Enc κ] where
  parts : κ → List PyData
  enc_eq : ∀ a : κ, enc a = .tuple (parts a)
  keys : κ → List Key
  inj : ∀ a b : κ, keys a = keys b → a = b
  rp : ∀ (K : Fg) (F : Hp) (vs : List V) (a : κ), RpAll K F vs (parts a) → vs = (keys a).map kV
theorem RpAll.k1 {κ : Type} [DecidableEq κ] [Enc κ] [KeyC κ] {K : Fg} {F : Hp} {vs : List V} {a : κ} {ds : List PyData} {ks : List Key} (h : RpAll K F vs (enc a :: ds)) (k : ∀ ws, RpAll K F ws ds → ws = ks.map kV) : vs = (KeyC.key a :: ks).map kV := by
  cases h with
  | cons r t => rw [KeyC.rp K F _ a r, k _ t]; rfl
instance {α β γ δ : Type} [DecidableEq α] [Enc α] [KeyC α] [DecidableEq β] [Enc β] [KeyC β] [DecidableEq γ] [Enc γ] [KeyC γ] [DecidableEq δ] [Enc δ] [KeyC δ] : KeyT (T4 α β γ δ) :=
  ⟨fun p => [enc p.a, enc p.b, enc p.c, enc p.d], fun _ => rfl, fun p => [KeyC.key p.a, KeyC.key p.b, KeyC.key p.c, KeyC.key p.d], fun p q e => by
    injection e with e1 e; injection e with e2 e; injection e with e3 e; injection e with e4 e
    cases p; cases q
    replace e1 := KeyC.inj _ _ e1; replace e2 := KeyC.inj _ _ e2; replace e3 := KeyC.inj _ _ e3; replace e4 := KeyC.inj _ _ e4
    dsimp only at e1 e2 e3 e4
    subst e1 e2 e3 e4
    rfl,
    fun K F vs a h => h.k1 fun _ h => h.k1 fun _ h => h.k1 fun _ h => h.k1 fun _ h => by cases h; rfl⟩
section
variable {κ β : Type} [DecidableEq κ] [Enc κ] [KeyT κ] [Enc β]
def encT (xs : List (κ × β)) : List (List Key × PyData) := encF KeyT.keys xs
end
/-! ### d.get(k, x) by a tuple -/
section
variable {X : Cx} {pins : List (Addr × Obj)} {σ : L2.St} {H : Hp} {s : Shared} {a b : Addr} {d : V} {r : Value} {k : List Key} {kvs : List (List Key × V)} {A : Around} {E : Value → Shared → Prop}
theorem key_ofS (I : Inv X pins σ H s) (h : SqT X.K H b (k.map kV)) : (tupleKind (mixKind X.prog X.w)).is s.heap k b := by
  obtain ⟨its, rv, ⟨o, ho, hc, n, hd⟩, _⟩ := I.tuple h
  exact ⟨o, its.toArray, n, ho, hc, hd, by simpa using items_are rv⟩
theorem d_get2T {Q : Value → Shared → Prop} (hu : A.units + 1 < cLine) (I : Inv X pins σ H s) (e : Rd H a (.dT kvs)) (hb : SqT X.K H b (k.map kV)) (rd : RelV d r) (h : ∀ w' s', Inv X pins σ H s' → RelV ((valV kvs k).getD d) w' → Q w' s') :
    wpAny (model X.prog X.w) A (call (.builtin "dict.get") [.ref a, .ref b, r]) Q E s := by
  obtain ⟨z, hd, xs, rel, dd⟩ := dt_rd I.hok e
  exact call_meetsIn PySem.F.slot_dict_get dd.typeIs PySem.F.entry_dict_get (PySem.F.args_dict_get_3 _ _ _) (meetsH_dict_get_default (tupleKind (mixKind X.prog X.w)) a b hd r) ⟨tupleKind_room_in1 hu, k, xs, key_ofS I hb, dd, h _ _ (I.tok _) ((rel.val k).getD rd)⟩
end
def tDGet2T (K : Fg) (td ty tx : TE) : TE := fun σ H Q => td σ H fun x H1 => ∃ a, x = .ref a ∧ IsD H1 a ∧ ty σ H1 fun y H2 => tx σ H2 fun z H3 => ∃ kvs k b, Rd H3 a (.dT kvs) ∧ y = .ref b ∧ SqT K H3 b (k.map kV) ∧ Q ((valV kvs k).getD z) H3
theorem pe_dget2T {X : Cx} (K : Fg) {o e f : Expr} {apos cpos : Pos} {td ty tx : TE} (hu : X.A.units + 1 < cLine) (ho : PE X o td) (he : PE X e ty) (hf : PE X f tx) (m : M2 X o "get" apos e f cpos) (hK : X.K = K := by rfl) : PE X (.Call (.Attribute o "get" apos) [e, f] [] cpos) (tDGet2T K td ty tx) := by
  subst hK
  refine ⟨fun pins s σ H Q I h => ?_⟩
  refine wpAny_Call_method m.base m.few m.line PySem.F.plainAttrs_dict PySem.F.slot_dict_get PySem.F.type_dict_get (thn (ho.run pins s σ H _ I h) fun u s1 ⟨x, H1, I1, rx, a, ex, d, q1⟩ => ?_)
  subst ex
  obtain rfl : u = Value.ref a := rx
  obtain ⟨t1, t2, _⟩ := isD_at I1 d
  refine ⟨t1, t2, ?_⟩
  rw [m.trees]
  refine Calls.callWith_builtin rfl (Calls.evalArgs_plain (Calls.spliced_cons (thn (he.run pins s1 σ H1 _ I1 q1) fun iv s2 ⟨y, H2, I2, ry, q2⟩ => Calls.spliced_cons (thn (hf.run pins s2 σ H2 _ I2 q2) fun jv s3 ⟨z, H3, I3, rz, kvs, k, b, e1, e2, e3, q3⟩ => Calls.spliced_nil ?_))))
  subst e2
  obtain rfl : iv = Value.ref b := ry
  exact d_get2T hu I3 e1 e3 rz fun w' s4 I4 rw' => ⟨_, H3, I4, rw', q3⟩
section
variable {K : Fg} {F0 H0 F H : Hp} {D0 : List Addr} {O O1 O2 O3 : Os} {σ : L2.St} {ρ : List Sl} {D : Ends} {tv ty tx : TE} {d : PyData}
theorem st_newT {i : Nat} (E : EnvR K F σ ρ) (S : Hx K F0 H0 D0 F O H) (k : ∀ p σ' F' H', Same F F' → EnvR K F' σ' (ρ.set i (.adr p)) → Hx K F0 H0 D0 F' (⟨p, true, .t []⟩ :: O) H' → D.nx σ' H') : tAsg tDNewT (gName i) D σ H := fun p hp =>
  k p _ F _ (Same.refl _) (E.seta i) (S.mineD hp ⟨[], upd_same, Nat.zero_le _, .nil⟩)
inductive DtAt (ρ : List Sl) (O : Os) (i : Nat) (kvs : List (List Key × PyData)) : Prop
  | own {a : Addr} {nw : Bool} {j : Nat} : ρ[i]? = some (.adr a) → O[j]? = some ⟨a, nw, .t kvs⟩ → DtAt ρ O i kvs
  | frz : ρ[i]? = some (.dt kvs) → DtAt ρ O i kvs
theorem DtAt.at {i : Nat} {kvs : List (List Key × PyData)} (h : DtAt ρ O i kvs) (E : EnvR K F σ ρ) (S : Hx K F0 H0 D0 F O H) : ∃ a, σ[i]? = some (some (.ref a)) ∧ ∀ F' H', Same F F' → Hx K F0 H0 D0 F' O H' → ∃ vs, H' a = some (.dT vs) ∧ KD K F' vs kvs := by
  cases h with
  | @own a nw j h1 h2 =>
    exact ⟨a, E.adr h1, fun F' H' f S' => by
      obtain ⟨_, _, _, vs, h3, h4, h5⟩ := S'.getD h2
      exact ⟨vs, h3, h5⟩⟩
  | frz h1 =>
    obtain ⟨s, h2, t, vs, rfl, h3, h4, h5⟩ := E.at h1
    exact ⟨t, h2, fun F' H' f S' => ⟨vs, S'.fh _ _ (f _ _ h3), h5.up f⟩⟩
variable {κ β : Type} [DecidableEq κ] [Enc κ] [KeyT κ] [Enc β]
theorem st_dputT {i j : Nat} {a : Addr} {nw : Bool} {xs xs' : List (κ × β)} {k : κ} {v : β} {t : TA} (hn : putMO xs k v = some xs') (hs : ρ[i]? = some (.adr a)) (hv : RX K tv ρ O (enc v) O1) (hk : RA K t ρ O1 ((KeyT.parts k).map .val) O2) (hz : (KeyT.parts k).length ≤ 1000) (hj : O2[j]? = some ⟨a, nw, .t (encT xs)⟩)
    (E : EnvR K F σ ρ) (S : Hx K F0 H0 D0 F O H) (kk : ∀ F' H', Same F F' → EnvR K F' σ ρ → Hx K F0 H0 D0 F' (O2.set j ⟨a, nw, .t (encT xs')⟩) H' → D.nx σ H') : sDPut (tVar i) (tTup t) tv D σ H :=
  hv.go E S fun v1 F1 H1 f1 E1 S1 r1 => ⟨_, E1.adr hs, hk.go E1 S1 fun vs F2 H2 f2 E2 S2 r2 => by
    have r2 := r2.all
    have hvl := r2.length
    refine ⟨Nat.le_trans (by omega : vs.length ≤ 1000) (by decide), fun p hp => ?_⟩
    unfold putMO at hn
    split at hn
    · rename_i hl
      cases hn
      have ey := KeyT.rp K F2 vs k r2
      subst ey
      have f3 := same_upd (o := .tup ((KeyT.keys k).map kV)) (S2.nof hp)
      have S3 := S2.put (o := .tup ((KeyT.keys k).map kV)) hp
      obtain ⟨_, _, _, ws, h3, h4, h5⟩ := S3.getD hj
      have hl2 : ws.length < sizeLine := by rw [h5.len, sizeLine_eq]; unfold encT encF; rw [List.length_map]; exact hl
      have h6 : KD K (upd F2 p (.tup ((KeyT.keys k).map kV))) (putK ws (KeyT.keys k) v1) (encT (putM xs k v)) := by
        unfold encT at h5 ⊢
        rw [← encF_put KeyT.inj]
        exact h5.put ((r1.up f2).up f3)
      refine ⟨a, _, rfl, DPut.t h3 upd_same hl2, kk _ _ ((f1.trans f2).trans f3) (E2.up f3) (S3.mutD hj ⟨_, upd_same, ?_, h6⟩)⟩
      have := length_putK ws (KeyT.keys k) v1
      omega
    · cases hn⟩
theorem rx_dtget2 {i : Nat} {xs : List (κ × β)} {k : κ} {v : β} (hd : DtAt ρ O i (encT xs)) (hk : RX K ty ρ O (enc k) O) (hx : RX K tx ρ O (enc v) O) : RX K (tDGet2T K (tVar i) ty tx) ρ O (enc ((getM xs k).getD v)) O := ⟨fun _ _ _ _ _ _ Q E S kk => by
  obtain ⟨a, h1, h2⟩ := hd.at E S
  obtain ⟨vs0, h30, _⟩ := h2 _ _ (Same.refl _) S
  refine ⟨_, h1, a, rfl, .inr ⟨_, .inl h30⟩, hk.go E S fun y F2 H2 f2 E2 S2 r2 => hx.go E2 S2 fun z F3 H3 f3 E3 S3 r3 => ?_⟩
  rw [KeyT.enc_eq] at r2
  cases r2 with
  | @tup b ws _ q1 q2 q3 =>
  have ey := KeyT.rp K F2 ws k q3
  subst ey
  obtain ⟨vs, h3, h5⟩ := h2 F3 H3 (f2.trans f3) S3
  have g := encF_get (f := KeyT.keys) (KeyT.inj (κ := κ)) k xs
  refine ⟨vs, KeyT.keys k, b, .inl h3, rfl, same_t (f3.trans S3.fh) q1, ?_⟩
  rcases h5.get (KeyT.keys k) with ⟨e, e2⟩ | ⟨d, u, e1, e2, r⟩
  · rw [show getM (encT xs) (KeyT.keys k) = getM (encF KeyT.keys xs) (KeyT.keys k) from rfl] at e
    rw [e] at g
    rw [e2]
    refine kk z F3 H3 (f2.trans f3) S3 ?_
    cases q : getM xs k with
    | none => exact r3
    | some w => rw [q] at g; cases g
  · rw [show getM (encT xs) (KeyT.keys k) = getM (encF KeyT.keys xs) (KeyT.keys k) from rfl] at e1
    rw [e1] at g
    rw [e2]
    refine kk u F3 H3 (f2.trans f3) S3 ?_
    cases q : getM xs k with
    | none => rw [q] at g; cases g
    | some w =>
      rw [q] at g
      have g := Option.some.inj g
      subst g
      exact r⟩
end
/-! ### len(set(xs)) of ints -/
section
variable {X : Cx}
def rSetOfN (K : Fg) (w : World) : List V → Hp → VK → Prop := fun xs H Q => ∃ (l : Addr) (ns : List Int), xs = [V.ref l] ∧ SqL K H l (ns.map V.int) ∧ ns.length + 1 < scanBound ∧
  ∀ p (S : Int → Bool), H p = none → Q (.ref p) (upd H p (SetO w p S (cardL ns)))
theorem cr_setOfN (hc : X.calm = true) : CallR X (.type "set") (rSetOfN X.K X.w) := by
  intro pins s σ H xs us Q I r h
  obtain ⟨l, ns, rfl, hl, hb, q⟩ := h
  rw [Vals.ref1 r]
  obtain ⟨its, rv, pl, hz⟩ := I.list hl
  have hn : H s.heap.objs.size = none := I.hok.fresh (Nat.le_refl _)
  have hi : IntsAre its.toArray.toList ns := by simpa using rv.ints
  have hisz : its.toArray.size = ns.length := by
    have q := IntsAre.length hi
    rw [Array.length_toList] at q
    exact q
  refine call_set_listG (Z := fun h' c => SetR X.w h' s.heap.objs.size (fun j => decide (j ∈ ns)) c) (I.ok.hd hc) pl.isList (fun A' I' fp wr G St s1 R W hSf h0 hS hR => ?_) fun h' tk c R hc' k => ?_
  · refine set_update_ints W _ hSf ns hisz hb (fun i v hv => ?_) (its.toArray.size - 0) 0 s1 (by omega) (Nat.zero_le _) h0 ⟨0, Nat.le_refl 0, setR_new_at hS⟩ hR
    have hi' : i < ns.length := by rw [← hisz]; exact (Array.getElem?_eq_some_iff.mp hv).1
    obtain ⟨t, e⟩ := PyProof.Rows.IntsAre.int_at hi i v (by rw [Array.getElem?_toList]; exact hv)
    refine ⟨ns[i], t, List.getElem?_eq_getElem hi', ?_⟩
    rw [e, List.getD_eq_getElem?_getD, List.getElem?_eq_getElem hi'] <;> rfl
  · have hcard : c = cardL ns := by
      obtain ⟨o, es, ep, t, ho, hex, hd, g, nd, hm, hb2, hf, hn2, _⟩ := R
      rw [← hn2, ← Array.length_toList, ← List.length_map (f := keyOf)]
      exact card_of ns _ nd fun k => by rw [← hm k]; simp
    subst hcard
    exact ⟨.ref s.heap.objs.size, upd H s.heap.objs.size (SetO X.w s.heap.objs.size _ (cardL ns)), I.laid (t' := tk) k (Nat.le_refl _) (setO_new R), rfl, q _ _ hn⟩
def rLenSO (w : World) : List V → Hp → VK → Prop := fun xs H Q => ∃ (a : Addr) (S : Int → Bool) (n : Nat), xs = [V.ref a] ∧ H a = some (SetO w a S n) ∧ n < 16777216 ∧ Q (.int (n : Nat)) H
theorem cr_lenSO : CallR X (.builtin "len") (rLenSO X.w) := by
  intro pins s σ H vs us Q I r h
  obtain ⟨a, S, n, rfl, ha, hz, q⟩ := h
  have R := setO_get I ha
  rw [Vals.ref1 r]
  obtain ⟨o, es, ep, t, ho, hex, hd, g, nd, hm, hb, hf, hn, _⟩ := R
  refine call_len_set ho hex hd hf (by rw [hn]; omega) ⟨.int (n : Nat), H, I.tok _, ⟨_, by rw [hn]⟩, q⟩
theorem k_setOfN (K : Fg) (w : World) (hc : X.calm = true := by rfl) (hK : X.K = K := by rfl) (hw : X.w = w := by rfl) : CallR X (.type "set") (rSetOfN K w) := by subst hK; subst hw; exact cr_setOfN hc
theorem k_lenSO (w : World) (hw : X.w = w := by rfl) : CallR X (.builtin "len") (rLenSO w) := by subst hw; exact cr_lenSO
end
section
variable {K : Fg} {ta tb : TE} {ρ : List Sl} {O O1 : Os} {w : World}
theorem rx_lenSet {ns : List Int} {n : Int} (hn : cardO ns = some n) (ha : RXs K ta ρ O (ns.map .int) O1) :
    RX K (tCB (rLenSO w) (tCons (tCB (rSetOfN K w) (tCons ta tNil)) tNil)) ρ O (.int n) O1 := ⟨fun _ _ _ _ _ _ Q E S k =>
  ha.go E S fun a F1 H1 f1 E1 S1 r1 => by
    unfold cardO at hn
    split at hn
    · rename_i h64
      cases hn
      obtain ⟨vs, q1, q2, q3⟩ := r1 F1 H1 (Same.refl _) S1
      have hv := q3.ints
      subst hv
      refine ⟨a, ns, rfl, q1, by unfold scanBound; omega, fun p S' hp => ?_⟩
      have S2 := S1.loose (o := SetO w p S' (cardL ns)) hp
      have := card_le ns
      exact ⟨p, S', _, rfl, upd_same, by omega, k _ F1 _ f1 S2 (.int _)⟩
    · cases hn⟩
/-! ### xs.index(x) of data -/
def indexO {α : Type} [Enc α] [DecidableEq α] [EqD α] (xs : List α) (x : α) : Option Int := if EqD.ok x = true ∧ EqD.ok xs = true then (xs.findIdx? fun y => decide (y = x)).map fun j => ((j : Nat) : Int) else none
theorem rx_indexD {α : Type} [Enc α] [DecidableEq α] [EqD α] {xs : List α} {x : α} {n : Int} (hn : indexO xs x = some n) (ha : RXs K ta ρ O (xs.map enc) O1) (hb : RX K tb ρ O1 (enc x) O1) (hd : EqD.dp (List α) ≤ 64) (hd2 : EqD.dp α ≤ 64) :
    RX K (tBM K "list" (rIndexD K) ta (tCons tb tNil)) ρ O (.int n) O1 := ⟨fun _ _ _ _ _ _ Q E S k =>
  ha.go E S fun a F1 H1 f1 E1 S1 r1 => by
    obtain ⟨vs1, p1, _, _⟩ := r1 F1 H1 (Same.refl _) S1
    refine ⟨.inl ⟨rfl, _, p1⟩, hb.go E1 S1 fun y F2 H2 f2 E2 S2 r2 => ?_⟩
    obtain ⟨vs, q1, q2, q3⟩ := r1 F2 H2 f2 S2
    unfold indexO at hn
    split at hn
    · rename_i ok
      obtain ⟨j, hj, e⟩ := Option.map_eq_some_iff.mp hn
      subst e
      obtain ⟨hl, hp, hno⟩ := List.findIdx?_eq_some_iff_getElem.mp hj
      have hx : xs[j] = x := of_decide_eq_true hp
      refine ⟨a, y, enc x, xs.map enc, j, enc x, rfl, rfl, ?_, (r2.up S2.fh).dp _ _, shaped_of (z := xs) hd ok.2, shaped_of hd2 ok.1, ?_, ?_, fun m z' hm hz => ?_, k _ F2 H2 (f1.trans f2) S2 (.int _)⟩
      · exact Rp.dp _ _ (.lst q1 q2 (q3.up S2.fh))
      · rw [List.getElem?_map, List.getElem?_eq_getElem hl, hx]; rfl
      · rw [EqD.eqv]; exact decide_eq_true rfl
      · rw [List.getElem?_map] at hz
        have hm2 : m < xs.length := by omega
        rw [List.getElem?_eq_getElem hm2] at hz
        have hz := Option.some.inj hz
        subst hz
        rw [EqD.eqv]
        have := hno m hm
        simpa using this
    · cases hn⟩
theorem k_indexD {X : Cx} (K : Fg) (hu : X.A.units + 65 < cLine) (hK : X.K = K := by rfl) : MtR X "list.index" (rIndexD K) := by subst hK; exact mt_indexD hu
end
/-! ### a call that reads an own list -/
theorem rx_callH1 {K : Fg} {ta : TE} {ρ : List Sl} {O O1 : Os} {R : List PyData → PyData → Prop} {d : PyData} {E0 : XK} (hR : R [d] .none) (ha : RXh K ta ρ O d O1) : RX K (tCall (SpP K R) [] E0 (tCons ta tNil)) ρ O .none O1 := ⟨fun _ _ _ _ _ _ Q E S k =>
  ha.go E S fun x F1 H1 f1 E1 S1 r1 => by
    refine ⟨H1, [d], .none, .cons (r1 F1 H1 (Same.refl _) S1) .nil, Same.refl _, hR, fun v F' H' st r => ?_⟩
    have keep : Same H1 H' := fun a o q => st.keep a o q (by simp)
    cases r
    exact k _ F1 H' f1 (S1.call ⟨Same.refl _, S1.fh.trans keep, st.keep, st.live, fun _ _ _ q => q⟩) .non⟩
theorem rxh_cv {α β : Type} [Enc α] [Enc β] {K : Fg} {ta : TE} {ρ : List Sl} {O O' : Os} {x : α} {y : β} (e : (enc x : PyData) = enc y) (h : RXh K ta ρ O (enc x) O') : RXh K ta ρ O (enc y) O' := e ▸ h
end TL

/-! dict(pairs) -/
namespace TL
open PySem PySem.Spec PyProof.Rows L2
open Enc
def mergeM {κ β : Type} [DecidableEq κ] (xs : List (κ × β)) : List (κ × β) := xs.foldl (fun acc p => putM acc p.1 p.2) []
def rDictP (K : Fg) : List V → Hp → VK → Prop := fun xs H Q => ∃ (a : Addr) (ps : List Addr) (kvs : List (Key × V)), xs = [.ref a] ∧ SqL K H a (ps.map V.ref) ∧ Paired (fun p kv => SqT K H p [kV kv.1, kv.2]) ps kvs ∧
    ∀ p, H p = none → Q (.ref p) (upd H p (.dK (mergeK [] kvs)))
theorem k_dictP {X : Cx} (K : Fg) (hc : X.calm = true := by rfl) (hK : X.K = K := by rfl) : CallR X (.type "dict") (rDictP K) := by subst hK; exact call_dictP hc
section
variable {κ β : Type} [DecidableEq κ] [Enc κ] [KeyC κ] [Enc β] {K : Fg}
theorem pairs_at {F : Hp} : ∀ {vs : List V} {xs : List (κ × β)}, RpAll K F vs (xs.map enc) → ∃ (ps : List Addr) (kvs : List (Key × V)), vs = ps.map V.ref ∧ Paired (fun p kv => SqT K F p [kV kv.1, kv.2]) ps kvs ∧ KD K F kvs (encK xs)
  | _, [], h => by cases h; exact ⟨[], [], rfl, .nil, .nil⟩
  | _, x :: xs, h => by
    cases h with
    | cons r t =>
      obtain ⟨ps, kvs, e, hp, hk⟩ := pairs_at t
      have r : Rp K F _ (.tuple [enc x.1, enc x.2]) := r
      cases r with
      | @tup a ws _ q1 q2 q3 =>
        cases q3 with
        | cons r1 q3 =>
          cases q3 with
          | cons r2 q3 =>
            cases q3
            have ey := KeyC.rp K F _ x.1 r1
            subst ey
            refine ⟨a :: ps, (KeyC.key x.1, _) :: kvs, by rw [e]; rfl, .cons q1 hp, ?_⟩
            exact KD.cons (q := (KeyC.key x.1, enc x.2)) rfl r2 hk
theorem Paired.same {F H : Hp} (f : Same F H) {ps : List Addr} {kvs : List (Key × V)} (h : Paired (fun p kv => SqT K F p [kV kv.1, kv.2]) ps kvs) : Paired (fun p kv => SqT K H p [kV kv.1, kv.2]) ps kvs := Paired.mapP h fun _ _ z => same_t f z
theorem merge_kd {F : Hp} : ∀ {kvs : List (Key × V)} {xs : List (κ × β)} {acc : List (Key × V)} {ys : List (κ × β)}, KD K F kvs (encK xs) → KD K F acc (encK ys) → KD K F (mergeK acc kvs) (encK (xs.foldl (fun acc p => putM acc p.1 p.2) ys))
  | [], [], _, _, _, h => h
  | [], _ :: _, _, _, h, _ => by have := h.1; cases this
  | _ :: _, [], _, _, h, _ => by have := h.1; cases this
  | p :: kvs, x :: xs, acc, ys, h, ha => by
    obtain ⟨⟨h1, h2⟩, h3⟩ := KD.tl h
    have e : KD K F (putK acc p.1 p.2) (encK (putM ys x.1 x.2)) := by
      rw [← encK_put]
      have := ha.put (k := p.1) h2
      rw [h1] at this
      rw [h1]
      exact this
    exact merge_kd (acc := putK acc p.1 p.2) (ys := putM ys x.1 x.2) h3 e
variable {F0 H0 F H : Hp} {D0 : List Addr} {O O1 : Os} {σ : L2.St} {ρ : List Sl} {D : Ends} {te : TE}
theorem st_setDP {i : Nat} {xs : List (κ × β)} (h : RXs K te ρ O (xs.map enc) O1) (E : EnvR K F σ ρ) (S : Hx K F0 H0 D0 F O H)
    (k : ∀ σ' F' H', Same F F' → EnvR K F' σ' (ρ.set i (.dk (encK (mergeM xs)))) → Hx K F0 H0 D0 F' O1 H' → D.nx σ' H') : tAsg (tCB (rDictP K) (tCons te tNil)) (gName i) D σ H :=
  h.go E S fun a F1 H1 f1 E1 S1 q => by
    obtain ⟨vs, q1, q2, q3⟩ := q F1 H1 (Same.refl _) S1
    obtain ⟨ps, kvs, e, hp, hk⟩ := pairs_at q3
    refine ⟨a, ps, kvs, rfl, by rw [← e]; exact q1, Paired.same S1.fh hp, fun p hn => ?_⟩
    have S2 := S1.put (o := .dK (mergeK [] kvs)) hn
    have f2 := same_upd (o := .dK (mergeK [] kvs)) (S1.nof hn)
    have km : KD K F1 (mergeK [] kvs) (encK (mergeM xs)) := merge_kd hk KD.nil
    have hz : (mergeK [] kvs).length ≤ sizeLine := by
      refine Nat.le_trans (length_mergeK kvs []) ?_
      have := congrArg List.length e
      rw [List.length_map] at this
      rw [List.length_nil, Nat.zero_add, ← hp.length]
      omega
    exact k _ _ _ (f1.trans f2) (EnvR.set (s := some (.ref p)) (r := .dk (encK (mergeM xs))) ⟨p, _, rfl, upd_same, hz, km.up f2⟩ i (E1.up f2)) S2
end
end TL

namespace TL
open PySem L2
/-- it is told, and what is told is so -/
def Ok {α : Type} (m : Option α) (P : α → Prop) : Prop := ∃ r, m = some r ∧ P r
namespace Ok
variable {α β γ S R : Type}
theorem pure {P : α → Prop} {r : α} (h : P r) : Ok (some r) P := ⟨r, rfl, h⟩
theorem bind {m : Option α} {f : α → Option β} {P : α → Prop} {Q : β → Prop} (h : Ok m P) (k : ∀ r, P r → Ok (f r) Q) : Ok (m.bind f) Q := by
  obtain ⟨r, e, p⟩ := h
  subst e
  exact k r p
theorem bindE {m : Option α} {f : α → Option β} {P : α → Prop} {Q : β → Prop} (h : Ok m P) (k : ∀ r, m = some r → P r → Ok (f r) Q) : Ok (m.bind f) Q := by
  obtain ⟨r, e, p⟩ := h
  have := k r e p
  subst e
  exact this
theorem lt {x : α} {f : α → Option β} {Q : β → Prop} (k : Ok (f x) Q) : Ok ((some x).bind f) Q := k
theorem mono {m : Option α} {P Q : α → Prop} (h : Ok m P) (k : ∀ r, P r → Q r) : Ok m Q := by
  obtain ⟨r, e, p⟩ := h
  exact ⟨r, e, k r p⟩
theorem ite {c : Prop} [Decidable c] {a b : Option α} {Q : α → Prop} (h : c → Ok a Q) (k : ¬c → Ok b Q) : Ok (if c then a else b) Q := by
  split
  · exact h ‹_›
  · exact k ‹_›
theorem eqv {m : Option α} {P : α → Prop} {v : α} (h : Ok m P) (k : ∀ r, P r → r = v) : m = some v := by
  obtain ⟨r, e, p⟩ := h
  rw [e, k r p]
theorem forS {f : α → S → Option S} (I : S → Prop) : ∀ (xs : List α) (s : S), I s → (∀ x ∈ xs, ∀ s, I s → Ok (f x s) I) → Ok (forS f xs s) I
  | [], s, h, _ => ⟨s, rfl, h⟩
  | x :: xs, s, h, k => bind (k x (List.mem_cons_self ..) s h) fun s' h' => Ok.forS I xs s' h' fun y hy => k y (List.mem_cons_of_mem _ hy)
/-- the state by what was gone through -/
theorem forSd {f : α → S → Option S} (I : List α → S → Prop) : ∀ (xs ds : List α) (s : S), I ds s → (∀ x ds rs s, I ds s → ds ++ x :: rs = ds ++ xs.drop (ds.length - ds.length) ∨ True → x ∈ xs → Ok (f x s) (I (ds ++ [x]))) → Ok (TL.forS f xs s) (I (ds ++ xs))
  | [], ds, s, h, _ => ⟨s, rfl, by rw [List.append_nil]; exact h⟩
  | x :: xs, ds, s, h, k => bind (k x ds xs s h (.inr trivial) (List.mem_cons_self ..)) fun s' h' => by
      have := Ok.forSd I xs (ds ++ [x]) s' h' fun y ds' rs s q _ m => k y ds' rs s q (.inr trivial) (List.mem_cons_of_mem _ m)
      rw [List.append_assoc] at this
      exact this
/-- the state by how many were gone through -/
theorem forSi {f : α → S → Option S} (I : Nat → S → Prop) : ∀ (xs : List α) (n : Nat) (s : S), I n s → (∀ (i : Nat) (x : α) (s : S), xs[i]? = some x → I (n + i) s → Ok (f x s) (I (n + i + 1))) → Ok (TL.forS f xs s) (I (n + xs.length))
  | [], n, s, h, _ => ⟨s, rfl, h⟩
  | x :: xs, n, s, h, k => bind (k 0 x s rfl h) fun s' h' => by
      have := Ok.forSi I xs (n + 1) s' h' fun i y s e q => by
        have := k (i + 1) y s e (by rw [show n + (i + 1) = n + 1 + i by omega]; exact q)
        rw [show n + (i + 1) + 1 = n + 1 + i + 1 by omega] at this
        exact this
      rw [show n + 1 + xs.length = n + (x :: xs).length by simp; omega] at this
      exact this
/-- gone through whole -/
theorem forF {f : α → S → Option (Fl S R)} (I : S → Prop) : ∀ (xs : List α) (s : S), I s → (∀ x ∈ xs, ∀ s, I s → Ok (f x s) fun r => ∃ s', r = .nx s' ∧ I s') → Ok (forF f xs s) fun r => ∃ s', r = .nx s' ∧ I s'
  | [], s, h, _ => ⟨.nx s, rfl, s, rfl, h⟩
  | x :: xs, s, h, k => by
    obtain ⟨r, e, s', rfl, h'⟩ := k x (List.mem_cons_self ..) s h
    have := Ok.forF I xs s' h' fun y hy => k y (List.mem_cons_of_mem _ hy)
    unfold TL.forF
    rw [e]
    exact this
theorem mapO {f : α → Option β} {P : α → β → Prop} : ∀ (xs : List α), (∀ x ∈ xs, Ok (f x) (P x)) → Ok (mapO f xs) fun ys => ys.length = xs.length ∧ ∀ (i : Nat) x y, xs[i]? = some x → ys[i]? = some y → P x y
  | [], _ => ⟨[], rfl, rfl, fun i x y h => by simp at h⟩
  | x :: xs, h => bind (h x (List.mem_cons_self ..)) fun y hy => bind (Ok.mapO xs fun z hz => h z (List.mem_cons_of_mem _ hz)) fun ys hys => ⟨_, rfl, by simp [hys.1], fun i u v hu hv => by
    cases i with
    | zero => simp at hu hv; subst hu; subst hv; exact hy
    | succ i => exact hys.2 i u v hu hv⟩
theorem mapS {f : α → S → Option (β × S)} (P : α → β → Prop) (I : S → Prop) : ∀ (xs : List α) (s : S), I s → (∀ x ∈ xs, ∀ s, I s → Ok (f x s) fun r => P x r.1 ∧ I r.2) → Ok (mapS f xs s) fun r => I r.2 ∧ r.1.length = xs.length ∧ ∀ (i : Nat) x y, xs[i]? = some x → r.1[i]? = some y → P x y
  | [], s, h, _ => ⟨([], s), rfl, h, rfl, fun i x y h => by simp at h⟩
  | x :: xs, s, h, k => bind (k x (List.mem_cons_self ..) s h) fun r hr => bind (Ok.mapS P I xs r.2 hr.2 fun z hz => k z (List.mem_cons_of_mem _ hz)) fun ys hys => ⟨_, rfl, hys.1, by simp [hys.2.1], fun i u v hu hv => by
    cases i with
    | zero => simp at hu hv; subst hu; subst hv; exact hr.1
    | succ i => exact hys.2.2 i u v hu hv⟩
theorem atI {xs : List α} {i : Int} (h0 : 0 ≤ i) (h1 : i < xs.length) : Ok (atI xs i) fun x => xs[i.toNat]? = some x := by
  unfold L2.atI ixN
  rw [if_pos h0, if_pos h1]
  have : i.toNat < xs.length := by omega
  exact ⟨xs[i.toNat], by simp [this], by simp [this]⟩
theorem atIN {xs : List α} {i : Int} (h0 : i < 0) (h1 : 0 ≤ i + xs.length) : Ok (L2.atI xs i) fun x => xs[(i + xs.length).toNat]? = some x := by
  unfold L2.atI ixN
  rw [if_neg (by omega), if_pos (by omega)]
  have : (i + xs.length).toNat < xs.length := by omega
  exact ⟨xs[(i + xs.length).toNat], by simp [this], by simp [this]⟩
theorem setO {xs : List α} {i : Int} {x : α} (h0 : 0 ≤ i) (h1 : i < xs.length) : Ok (setO xs i x) fun r => r = xs.set i.toNat x := by
  unfold TL.setO ixN
  rw [if_pos h0, if_pos h1]
  exact ⟨_, rfl, rfl⟩
theorem appO {xs : List α} {x : α} (h : xs.length < 16777216) : Ok (appO xs x) fun r => r = xs ++ [x] := by
  unfold TL.appO
  rw [if_pos h]
  exact ⟨_, rfl, rfl⟩
theorem modO {i j : Int} (h : 0 < j) : Ok (modO i j) fun r => r = i % j ∧ 0 ≤ r ∧ r < j := by
  unfold TL.modO
  rw [if_pos h]
  exact ⟨_, rfl, rfl, Int.emod_nonneg _ (by omega), Int.emod_lt_of_pos _ h⟩
theorem fdivO {i j : Int} (h : 0 < j) (h1 : j < 1073741824) : Ok (fdivO i j) fun r => r = i / j := by
  unfold TL.fdivO
  rw [if_pos ⟨h, h1⟩]
  exact ⟨_, rfl, rfl⟩
theorem mulO {i j : Int} (h : -18446744073709551616 < i) (h1 : i < 18446744073709551616) : Ok (mulO i j) fun r => r = i * j := by
  unfold TL.mulO
  rw [if_pos (.inl ⟨h, h1⟩)]
  exact ⟨_, rfl, rfl⟩
theorem rngO {n : Int} (h : -4611686018427387904 ≤ n) (h1 : n ≤ 16777216) : Ok (rngO n) fun r => r = rngL 0 n.toNat := by
  unfold TL.rngO
  rw [if_pos ⟨h, h1⟩]
  exact ⟨_, rfl, rfl⟩
theorem repO1 {x : α} {i : Int} (h : -9223372036854775808 ≤ i) (h1 : i ≤ 16777216) : Ok (repO [x] i) fun r => r = List.replicate i.toNat x := by
  unfold TL.repO
  rw [if_pos ⟨by simp; omega, by omega, by omega⟩]
  refine ⟨_, rfl, ?_⟩
  generalize i.toNat = n
  induction n with
  | zero => rfl
  | succ n ih => rw [List.replicate_succ, List.replicate_succ, List.flatten_cons, ih]; rfl
theorem maxO {xs : List Int} (h : xs ≠ []) : Ok (maxO xs) fun m => m ∈ xs ∧ ∀ x ∈ xs, x ≤ m := by
  unfold TL.maxO
  cases e : xs.max? with
  | none => rw [List.max?_eq_none_iff] at e; exact absurd e h
  | some m =>
    rw [List.max?_eq_some_iff] at e
    exact ⟨m, rfl, e⟩
theorem eqO [Enc α] [DecidableEq α] [EqD α] {x y : α} (h : EqD.ok x = true) (h1 : EqD.ok y = true) : Ok (eqO x y) fun r => r = decide (x = y) := by
  unfold TL.eqO
  rw [if_pos ⟨h, h1⟩]
  exact ⟨_, rfl, rfl⟩
end Ok
theorem mem_rngL {x lo : Int} {n : Nat} : x ∈ rngL lo n ↔ lo ≤ x ∧ x < lo + n := by
  unfold rngL
  rw [List.mem_map]
  constructor
  · rintro ⟨i, hi, rfl⟩
    rw [List.mem_range] at hi
    omega
  · rintro ⟨h1, h2⟩
    exact ⟨(x - lo).toNat, List.mem_range.mpr (by omega), by omega⟩
theorem rngL_get {x lo : Int} {n i : Nat} (h : (rngL lo n)[i]? = some x) : i < n ∧ x = lo + i := by
  unfold rngL at h
  rw [List.getElem?_map] at h
  have hi : i < n := by
    rcases Nat.lt_or_ge i n with q | q
    · exact q
    · rw [List.getElem?_eq_none (by simp; exact q)] at h; cases h
  rw [List.getElem?_eq_getElem (by simp; exact hi)] at h
  simp at h
  exact ⟨hi, h.symm⟩
theorem mem_get {α : Type} {xs : List α} {x : α} (h : x ∈ xs) : ∃ i : Nat, xs[i]? = some x := List.mem_iff_getElem?.mp h
theorem get_mem {α : Type} {xs : List α} {x : α} {i : Nat} (h : xs[i]? = some x) : x ∈ xs := List.mem_iff_getElem?.mpr ⟨i, h⟩
theorem get_lt {α : Type} {xs : List α} {x : α} {i : Nat} (h : xs[i]? = some x) : i < xs.length := by
  rcases Nat.lt_or_ge i xs.length with q | q
  · exact q
  · rw [List.getElem?_eq_none q] at h; cases h
theorem lt_get {α : Type} {xs : List α} {i : Nat} (h : i < xs.length) : ∃ x, xs[i]? = some x := ⟨xs[i], List.getElem?_eq_getElem h⟩
theorem cutL_to {α : Type} (xs : List α) (n : Int) (h : 0 ≤ n) : cutL xs none (some n) = xs.take n.toNat := by
  unfold cutL HT.sIx
  simp only
  rw [if_neg (by omega)]
  simp only [List.drop_zero, Nat.sub_zero]
  rcases Nat.le_total n.toNat xs.length with q | q
  · rw [Nat.min_eq_left q]
  · rw [Nat.min_eq_right q, List.take_of_length_le (Nat.le_refl _), List.take_of_length_le q]
/-- each y of the told list belongs to an x -/
theorem all_of {α β : Type} {xs : List α} {ys : List β} {P : α → β → Prop} (hl : ys.length = xs.length) (h : ∀ (i : Nat) x y, xs[i]? = some x → ys[i]? = some y → P x y) : ∀ y ∈ ys, ∃ x ∈ xs, P x y := fun y hy => by
  obtain ⟨i, e⟩ := mem_get hy
  obtain ⟨x, ex⟩ := lt_get (xs := xs) (i := i) (by rw [← hl]; exact get_lt e)
  exact ⟨x, get_mem ex, h i x y ex e⟩
theorem all_to {α β : Type} {xs : List α} {ys : List β} {P : α → β → Prop} (hl : ys.length = xs.length) (h : ∀ (i : Nat) x y, xs[i]? = some x → ys[i]? = some y → P x y) : ∀ x ∈ xs, ∃ y ∈ ys, P x y := fun x hx => by
  obtain ⟨i, e⟩ := mem_get hx
  obtain ⟨y, ey⟩ := lt_get (xs := ys) (i := i) (by rw [hl]; exact get_lt e)
  exact ⟨y, get_mem ey, h i x y e ey⟩
end TL
namespace TL
theorem mem_dec {α : Type} (P : α → Prop) [DecidablePred P] {xs : List α} (h : xs.all (fun x => decide (P x)) = true) : ∀ x ∈ xs, P x := fun x hx => of_decide_eq_true (List.all_eq_true.mp h x hx)
end TL
namespace TL
open PySem L2
/-- an item of a list of whole numbers, 0 outside -/
def at0 (D : List Int) (i : Int) : Int := (D[i.toNat]?).getD 0
theorem at0_of {D : List Int} {i : Int} {x : Int} (h : D[i.toNat]? = some x) : at0 D i = x := by unfold at0; rw [h]; rfl
theorem at0_app (D : List Int) (x i : Int) (h0 : 0 ≤ i) : at0 (D ++ [x]) i = if i < D.length then at0 D i else if i = D.length then x else 0 := by
  unfold at0
  rw [List.getElem?_append]
  split
  · rw [if_pos (by omega)]
  · rw [if_neg (by omega)]
    split
    · rename_i h; rw [show i.toNat - D.length = 0 by omega]; rfl
    · rw [List.getElem?_eq_none (by simp; omega)]; rfl
theorem at0_set (D : List Int) (x i j : Int) (h0 : 0 ≤ i) (h1 : i < D.length) (h2 : 0 ≤ j) : at0 (D.set i.toNat x) j = if j = i then x else at0 D j := by
  unfold at0
  rw [List.getElem?_set]
  by_cases e : j = i
  · subst e; rw [if_pos rfl, if_pos rfl, if_pos (by omega)]; rfl
  · rw [if_neg (by omega), if_neg e]
theorem at0_rep (n : Nat) (x i : Int) (h0 : 0 ≤ i) (h1 : i < n) : at0 (List.replicate n x) i = x := by
  unfold at0
  rw [List.getElem?_replicate, if_pos (by omega)]; rfl
theorem Ok.at0 {xs : List Int} {i : Int} (h0 : 0 ≤ i) (h1 : i < xs.length) : Ok (L2.atI xs i) fun x => x = at0 xs i := (Ok.atI h0 h1).mono fun x h => (at0_of h).symm
theorem rngC_get {a c x : Int} {n i : Nat} (h : (rngC a c n)[i]? = some x) : i < n ∧ x = a + i * c := by
  unfold rngC at h
  rw [List.getElem?_map] at h
  have hi : i < n := by
    rcases Nat.lt_or_ge i n with q | q
    · exact q
    · rw [List.getElem?_eq_none (by simp; exact q)] at h; cases h
  rw [List.getElem?_eq_getElem (by simp; exact hi)] at h
  simp at h
  exact ⟨hi, h.symm⟩
theorem rngC_length (a c : Int) (n : Nat) : (rngC a c n).length = n := by unfold rngC; simp
theorem Ok.rngDownO {a b : Int} (h1 : -16777216 ≤ a) (h2 : a ≤ 16777216) (h3 : -16777216 ≤ b) (h4 : b ≤ 16777216) (h5 : a - b ≤ 16777216) : Ok (rngDownO a b) fun r => r = rngC a (-1) (a - b).toNat := by
  unfold TL.rngDownO
  rw [if_pos ⟨h1, h2, h3, h4, h5⟩]
  exact ⟨_, rfl, rfl⟩
end TL

set_option synthInstance.maxHeartbeats 400000
set_option synthInstance.maxSize 2000
namespace W
open PySem L2 TL
open Enc
def top (i : Nat) : Stmt := PySem.Challenge.pw_bearfaults_k36_whole_joined_runs_on.main.body.getD i (.Pass ⟨0, 0, 0, 0⟩)
structure Bi (mg : Str → Option Value) : Prop where
  triv : True
  c_MOST_GATES : ∃ t, mg "MOST_GATES" = some (.int 60 t)
  c_MOST_INS : ∃ t, mg "MOST_INS" = some (.int 6 t)
  c_MOST_OUTS : ∃ t, mg "MOST_OUTS" = some (.int 6 t)
  dict : mg "dict" = none
  enumerate : mg "enumerate" = none
  int : mg "int" = none
  len : mg "len" = none
  list : mg "list" = none
  max : mg "max" = none
  min : mg "min" = none
  range : mg "range" = none
  set : mg "set" = none
  sorted : mg "sorted" = none
  sum : mg "sum" = none
  tuple : mg "tuple" = none
  zip : mg "zip" = none
def m__law_stir (v_cell : Int) (v_k : Int) : Option (Int) :=
if (decide (((10 : Int) ^ (18 : Int).toNat) ≤ v_cell)) = true then (
(shrO (v_cell - ((10 : Int) ^ (18 : Int).toNat)) ((28 : Int) * v_k)).bind fun t3 =>
some (t3 % ((2 : Int) ^ (28 : Int).toNat)))
else (
(some ((((v_cell + ((1013 : Int) * v_k)) + (1 : Int)) * (16807 : Int)) % (2147483647 : Int))).bind fun v5 =>
(mulO v5 v5).bind fun t7 =>
(some (t7 % (2147483629 : Int))).bind fun v9 =>
some (((v9 * (39373 : Int)) % (2147483587 : Int)) / (8 : Int)))
def R__law_stir : List PyData → PyData → Prop := fun ds d => ∃ (v_cell : Int) (v_k : Int) (r : Int), ds = [enc (v_cell : Int), enc (v_k : Int)] ∧ d = enc (r : Int) ∧ m__law_stir v_cell v_k = some r
def m__law_any_net (v_cell : Int) (v_first : Int) (v_letters : Str) (v_widths : (List Int)) : Option ((T3 (List (Str × Int)) (List (T3 Str (Tp Int) Bool)) (List (Str × (Tp Int))))) :=
(m__law_stir v_cell v_first).bind fun r1 =>
(some ((1 : Int) + (r1 % (3 : Int)))).bind fun v3 =>
(rngO v3).bind fun l5 =>
(mapO (fun (x8 : Int) => (signAt v_letters x8).bind fun t19 => (m__law_stir v_cell ((v_first + (1 : Int)) + x8)).bind fun r21 => (modO r21 (v_widths.length : Int)).bind fun t23 => (atI v_widths t23).bind fun t25 => some ((t19, t25) : (Str × Int))) l5).bind fun l27 =>
(some ((l27.map (fun (x30 : (Str × Int)) => (x30.2 : Int))).sum)).bind fun v33 =>
(some ([] : (List (T3 Str (Tp Int) Bool)))).bind fun v35 =>
(m__law_stir v_cell (v_first + (5 : Int))).bind fun r38 =>
(rngO (r38 % (8 : Int))).bind fun l40 =>
(forS (S := Int × List (T3 Str (Tp Int) Bool)) (fun (x44 : Int) (s43 : Int × List (T3 Str (Tp Int) Bool)) => (
(m__law_stir v_cell ((v_first + (10 : Int)) + ((5 : Int) * x44))).bind fun r48 =>
(atI ([("and" : Str), ("or" : Str), ("xor" : Str), ("vote" : Str), ("not" : Str)] : (List Str)) (r48 % (5 : Int))).bind fun t50 =>
(some ((dlit [(("not" : Str), (1 : Int)), (("vote" : Str), (3 : Int))] t50).getD (2 : Int))).bind fun v52 =>
(rngO v52).bind fun l54 =>
(mapO (fun (x57 : Int) => (m__law_stir v_cell (((v_first + (11 : Int)) + ((5 : Int) * x44)) + x57)).bind fun r64 => (modO r64 (v33 + x44)).bind fun t66 => some (t66 : Int)) l54).bind fun l68 =>
(appO s43.2 (T3.mk t50 (Tp.mk l68) (decide (((r48 / (5 : Int)) % (3 : Int)) = (0 : Int))))).bind fun u70 =>
some (v52, u70) : Option (Int × List (T3 Str (Tp Int) Bool)))) l40 (v3, v35)).bind fun s72 =>
(some ([] : (List (Str × (Tp Int))))).bind fun v73 =>
(m__law_stir v_cell (v_first + (7 : Int))).bind fun r76 =>
(cutSO v_letters (some ((4 : Int) - ((4 : Int) * (b2n (decide ((r76 % (3 : Int)) = (0 : Int))))))) none).bind fun t78 =>
(m__law_stir v_cell (v_first + (6 : Int))).bind fun r80 =>
(rngO ((1 : Int) + (r80 % (3 : Int)))).bind fun l82 =>
(forS (S := List (Str × (Tp Int))) (fun (x86 : Int) (s85 : List (Str × (Tp Int))) => (
(m__law_stir v_cell ((v_first + (60 : Int)) + ((5 : Int) * x86))).bind fun r90 =>
(modO r90 (v_widths.length : Int)).bind fun t92 =>
(atI v_widths t92).bind fun t94 =>
(rngO t94).bind fun l96 =>
(mapO (fun (x99 : Int) => (m__law_stir v_cell (((v_first + (61 : Int)) + ((5 : Int) * x86)) + x99)).bind fun r106 => (modO r106 (v33 + (s72.2.length : Int))).bind fun t108 => some (t108 : Int)) l96).bind fun l110 =>
(signAt t78 x86).bind fun t112 =>
(appO s85 (t112, (Tp.mk l110))).bind fun u114 =>
some u114 : Option (List (Str × (Tp Int))))) l82 v73).bind fun s116 =>
some (T3.mk l27 s72.2 s116)
def R__law_any_net : List PyData → PyData → Prop := fun ds d => ∃ (v_cell : Int) (v_first : Int) (v_letters : Str) (v_widths : (List Int)) (r : (T3 (List (Str × Int)) (List (T3 Str (Tp Int) Bool)) (List (Str × (Tp Int))))), ds = [enc (v_cell : Int), enc (v_first : Int), enc (v_letters : Str), enc (v_widths : (List Int))] ∧ d = enc (r : (T3 (List (Str × Int)) (List (T3 Str (Tp Int) Bool)) (List (Str × (Tp Int))))) ∧ m__law_any_net v_cell v_first v_letters v_widths = some r
def m__law_pairs (v_cell : Int) (v_one : (T3 (List (Str × Int)) (List (T3 Str (Tp Int) Bool)) (List (Str × (Tp Int))))) (v_other : (T3 (List (Str × Int)) (List (T3 Str (Tp Int) Bool)) (List (Str × (Tp Int))))) : Option ((List (Int × Int))) :=
(some ([] : (List (Int × Int)))).bind fun v1 =>
(forS (S := List (Int × Int)) (fun (x6 : Int) (s5 : List (Int × Int)) => (
(filtO (fun (x11 : Int) => (atI v_one.c x11).bind fun t18 => (atI v_other.a x6).bind fun t20 => some (decide ((t18.2.l.length : Int) = t20.2))) (fun (x11 : Int) => some (x11 : Int)) (rngL 0 v_one.c.length)).bind fun l22 =>
(m__law_stir v_cell ((80 : Int) + x6)).bind fun r24 =>
(if ((!decide ((l22 : (List Int)) = ([] : (List Int)))) && (decide ((0 : Int) < (r24 % (4 : Int))))) = true then (
(modO (r24 / (4 : Int)) (l22.length : Int)).bind fun t29 =>
(atI l22 t29).bind fun t31 =>
(appO s5 (t31, x6)).bind fun u33 =>
some u33)
else (
some s5) : Option (List (Int × Int))).bind fun j27 =>
some j27 : Option (List (Int × Int)))) (rngL 0 v_other.a.length) v1).bind fun s35 =>
(m__law_stir v_cell (84 : Int)).bind fun r36 =>
(if (decide ((r36 % (2 : Int)) = (0 : Int))) = true then (
some s35.reverse)
else (
some s35) : Option ((List (Int × Int)))).bind fun j38 =>
some j38
def R__law_pairs : List PyData → PyData → Prop := fun ds d => ∃ (v_cell : Int) (v_one : (T3 (List (Str × Int)) (List (T3 Str (Tp Int) Bool)) (List (Str × (Tp Int))))) (v_other : (T3 (List (Str × Int)) (List (T3 Str (Tp Int) Bool)) (List (Str × (Tp Int))))) (r : (List (Int × Int))), ds = [enc (v_cell : Int), enc (v_one : (T3 (List (Str × Int)) (List (T3 Str (Tp Int) Bool)) (List (Str × (Tp Int))))), enc (v_other : (T3 (List (Str × Int)) (List (T3 Str (Tp Int) Bool)) (List (Str × (Tp Int)))))] ∧ d = enc (r : (List (Int × Int))) ∧ m__law_pairs v_cell v_one v_other = some r
def m_need_fit (v_one : (T3 (List (Str × Int)) (List (T3 Str (Tp Int) Bool)) (List (Str × (Tp Int))))) (v_other : (T3 (List (Str × Int)) (List (T3 Str (Tp Int) Bool)) (List (Str × (Tp Int))))) (v_pairs : (List (Int × Int))) : Option (Unit) :=
(forF (S := Unit) (R := Unit) (fun (x3 : (Int × Int)) (s2 : Unit) => (
(atI v_one.c x3.1).bind fun t7 =>
(atI v_other.a x3.2).bind fun t9 =>
if (!decide ((t7.2.l.length : Int) = t9.2)) = true then (
none)
else (
some (.nx ())) : Option (Fl (Unit) (Unit)))) v_pairs ()).bind fun fl4 =>
flK fl4 (fun s11 =>
(some (v_pairs.map (fun (x13 : (Int × Int)) => (x13.2 : Int)))).bind fun v16 =>
(cardO v16).bind fun n18 =>
if (!decide ((v16.length : Int) = n18)) = true then (
none)
else (
some ())) some
def R_need_fit : List PyData → PyData → Prop := fun ds d => ∃ (v_one : (T3 (List (Str × Int)) (List (T3 Str (Tp Int) Bool)) (List (Str × (Tp Int))))) (v_other : (T3 (List (Str × Int)) (List (T3 Str (Tp Int) Bool)) (List (Str × (Tp Int))))) (v_pairs : (List (Int × Int))) (r : Unit), ds = [enc (v_one : (T3 (List (Str × Int)) (List (T3 Str (Tp Int) Bool)) (List (Str × (Tp Int))))), enc (v_other : (T3 (List (Str × Int)) (List (T3 Str (Tp Int) Bool)) (List (Str × (Tp Int))))), enc (v_pairs : (List (Int × Int)))] ∧ d = enc (r : Unit) ∧ m_need_fit v_one v_other v_pairs = some r
def m_need_names (v_some : (List (Str × IT))) : Option (Unit) :=
(some (v_some.map (fun (x2 : (Str × IT)) => (x2.1 : Str)))).bind fun v5 =>
(cardO v5).bind fun n7 =>
if (!decide ((v5.length : Int) = n7)) = true then (
none)
else (
some ())
def R_need_names : List PyData → PyData → Prop := fun ds d => ∃ (v_some : (List (Str × IT))) (r : Unit), ds = [enc (v_some : (List (Str × IT)))] ∧ d = enc (r : Unit) ∧ m_need_names v_some = some r
def m_wires_of_one (v_one : (T3 (List (Str × Int)) (List (T3 Str (Tp Int) Bool)) (List (Str × (Tp Int))))) (v_more : Int) : Option ((List Int)) :=
(some ((v_one.a.map (fun (x2 : (Str × Int)) => (x2.2 : Int))).sum)).bind fun v5 =>
(rngO v5).bind fun l15 =>
(extO l15 ((rngL 0 v_one.b.length).map (fun (x18 : Int) => (((v5 + v_more) + x18) : Int)))).bind fun t21 =>
some t21
def R_wires_of_one : List PyData → List PyData → Prop := fun ds es => ∃ (v_one : (T3 (List (Str × Int)) (List (T3 Str (Tp Int) Bool)) (List (Str × (Tp Int))))) (v_more : Int) (r : (List Int)), ds = [enc (v_one : (T3 (List (Str × Int)) (List (T3 Str (Tp Int) Bool)) (List (Str × (Tp Int))))), enc (v_more : Int)] ∧ es = r.map enc ∧ m_wires_of_one v_one v_more = some r
def m_wires_of_other (v_other : (T3 (List (Str × Int)) (List (T3 Str (Tp Int) Bool)) (List (Str × (Tp Int))))) (v_fed : (List (Int × (List Int)))) (v_first : Int) (v_gates_first : Int) : Option ((List Int)) :=
(some ([] : (List Int))).bind fun v1 =>
(forS (S := Int × List Int) (fun (x6 : (Int × (Str × Int))) (s5 : Int × List Int) => (
(if (hasM v_fed x6.1) = true then (
(getM v_fed x6.1).bind fun t12 =>
(extO s5.2 t12).bind fun u14 =>
some (s5.1, u14))
else (
(rng2O s5.1 (s5.1 + x6.2.2)).bind fun l16 =>
(extO s5.2 l16).bind fun u18 =>
some ((s5.1 + x6.2.2), u18)) : Option (Int × List Int)).bind fun j10 =>
some (j10.1, j10.2) : Option (Int × List Int))) (enumL v_other.a) (v_first, v1)).bind fun s20 =>
(extO s20.2 ((rngL 0 v_other.b.length).map (fun (x28 : Int) => ((v_gates_first + x28) : Int)))).bind fun t31 =>
some t31
def R_wires_of_other : List Sl → PyData → Prop := fun as d => ∃ (v_other : (T3 (List (Str × Int)) (List (T3 Str (Tp Int) Bool)) (List (Str × (Tp Int))))) (v_fed : (List (Int × (List Int)))) (v_first : Int) (v_gates_first : Int) (r : (List Int)), as = [.val (enc (v_other : (T3 (List (Str × Int)) (List (T3 Str (Tp Int) Bool)) (List (Str × (Tp Int)))))), .dk (encK v_fed), .val (enc (v_first : Int)), .val (enc (v_gates_first : Int))] ∧ d = enc (r : (List Int)) ∧ m_wires_of_other v_other v_fed v_first v_gates_first = some r
def m_moved (v_gates : (List (T3 Str (Tp Int) Bool))) (v_wires : (List Int)) : Option ((List (T3 Str (Tp Int) Bool))) :=
(mapO (fun (x28 : (T3 Str (Tp Int) Bool)) => (mapO (fun (x42 : Int) => (atI v_wires x42).bind fun t47 => some (t47 : Int)) x28.b.l).bind fun l49 => some ((T3.mk x28.a (Tp.mk l49) x28.c) : (T3 Str (Tp Int) Bool))) v_gates).bind fun l51 =>
some l51
def R_moved : List PyData → List PyData → Prop := fun ds es => ∃ (v_gates : (List (T3 Str (Tp Int) Bool))) (v_wires : (List Int)) (r : (List (T3 Str (Tp Int) Bool))), ds = [enc (v_gates : (List (T3 Str (Tp Int) Bool))), enc (v_wires : (List Int))] ∧ es = r.map enc ∧ m_moved v_gates v_wires = some r
def m_joined (v_one : (T3 (List (Str × Int)) (List (T3 Str (Tp Int) Bool)) (List (Str × (Tp Int))))) (v_other : (T3 (List (Str × Int)) (List (T3 Str (Tp Int) Bool)) (List (Str × (Tp Int))))) (v_pairs : (List (Int × Int))) : Option ((T3 (List (Str × Int)) (List (T3 Str (Tp Int) Bool)) (List (Str × (Tp Int))))) :=
(m_need_fit v_one v_other v_pairs).bind fun r1 =>
(some (v_pairs.map (fun (x4 : (Int × Int)) => (x4.2 : Int)))).bind fun v7 =>
(filtO (fun (x10 : Int) => some (!decide (x10 ∈ v7))) (fun (x10 : Int) => (atI v_other.a x10).bind fun t15 => some (t15 : (Str × Int))) (rngL 0 v_other.a.length)).bind fun l17 =>
(extO v_one.a l17).bind fun t19 =>
(some (v_pairs.map (fun (x23 : (Int × Int)) => (x23.1 : Int)))).bind fun v26 =>
(some (((rngL 0 v_one.c.length).filter (fun (x29 : Int) => (!decide (x29 ∈ v26)))).map (fun (x29 : Int) => (x29 : Int)))).bind fun v32 =>
(m_need_names (itIL t19)).bind fun r34 =>
(mapO (fun (x37 : Int) => (atI v_one.c x37).bind fun t42 => some (t42 : (Str × (Tp Int)))) v32).bind fun l44 =>
(extO l44 v_other.c).bind fun t46 =>
(m_need_names (itTL t46)).bind fun r48 =>
if ((decide ((6 : Int) < (t19.length : Int))) || ((decide ((60 : Int) < ((v_one.b.length : Int) + (v_other.b.length : Int)))) || (decide ((6 : Int) < ((v32.length : Int) + (v_other.c.length : Int)))))) = true then (
none)
else (
(some ((v_one.a.map (fun (x53 : (Str × Int)) => (x53.2 : Int))).sum)).bind fun v56 =>
(filtO (fun (x59 : (Str × Int)) => some true) (fun (x59 : (Str × Int)) => some (x59.2 : Int)) t19).bind fun l62 =>
(m_wires_of_one v_one (l62.sum - v56)).bind fun r64 =>
(forS (S := (List (Int × (List Int)))) (fun (x69 : (Int × Int)) (s68 : (List (Int × (List Int)))) => (
(atI v_one.c x69.1).bind fun t73 =>
(mapO (fun (x76 : Int) => (atI r64 x76).bind fun t81 => some (t81 : Int)) t73.2.l).bind fun l83 =>
(putMO s68 x69.2 l83).bind fun u85 =>
some u85 : Option ((List (Int × (List Int)))))) v_pairs ([] : (List (Int × (List Int))))).bind fun s87 =>
(m_wires_of_other v_other s87 v56 (l62.sum + (v_one.b.length : Int))).bind fun r88 =>
(mapO (fun (x91 : Int) => (atI v_one.c x91).bind fun t108 => (atI v_one.c x91).bind fun t110 => (mapO (fun (x113 : Int) => (atI r64 x113).bind fun t118 => some (t118 : Int)) t110.2.l).bind fun l120 => some ((t108.1, (Tp.mk l120)) : (Str × (Tp Int)))) v32).bind fun l122 =>
(mapO (fun (x126 : (Str × (Tp Int))) => (mapO (fun (x140 : Int) => (atI r88 x140).bind fun t145 => some (t145 : Int)) x126.2.l).bind fun l147 => some ((x126.1, (Tp.mk l147)) : (Str × (Tp Int)))) v_other.c).bind fun l149 =>
(extO l122 l149).bind fun t151 =>
(m_moved v_one.b r64).bind fun r154 =>
(m_moved v_other.b r88).bind fun r156 =>
(extO r154 r156).bind fun t158 =>
some (T3.mk t19 t158 t151))
def RT_joined : List PyData → List (List PyData) → Prop := fun ds ess => ∃ (v_one : (T3 (List (Str × Int)) (List (T3 Str (Tp Int) Bool)) (List (Str × (Tp Int))))) (v_other : (T3 (List (Str × Int)) (List (T3 Str (Tp Int) Bool)) (List (Str × (Tp Int))))) (v_pairs : (List (Int × Int))) (r : (T3 (List (Str × Int)) (List (T3 Str (Tp Int) Bool)) (List (Str × (Tp Int))))), ds = [enc (v_one : (T3 (List (Str × Int)) (List (T3 Str (Tp Int) Bool)) (List (Str × (Tp Int))))), enc (v_other : (T3 (List (Str × Int)) (List (T3 Str (Tp Int) Bool)) (List (Str × (Tp Int))))), enc (v_pairs : (List (Int × Int)))] ∧ ess = [r.a.map enc, r.b.map enc, r.c.map enc] ∧ m_joined v_one v_other v_pairs = some r
def R_joined : List PyData → PyData → Prop := fun ds d => ∃ (v_one : (T3 (List (Str × Int)) (List (T3 Str (Tp Int) Bool)) (List (Str × (Tp Int))))) (v_other : (T3 (List (Str × Int)) (List (T3 Str (Tp Int) Bool)) (List (Str × (Tp Int))))) (v_pairs : (List (Int × Int))) (r : (T3 (List (Str × Int)) (List (T3 Str (Tp Int) Bool)) (List (Str × (Tp Int))))), ds = [enc (v_one : (T3 (List (Str × Int)) (List (T3 Str (Tp Int) Bool)) (List (Str × (Tp Int))))), enc (v_other : (T3 (List (Str × Int)) (List (T3 Str (Tp Int) Bool)) (List (Str × (Tp Int))))), enc (v_pairs : (List (Int × Int)))] ∧ d = enc (r : (T3 (List (Str × Int)) (List (T3 Str (Tp Int) Bool)) (List (Str × (Tp Int))))) ∧ m_joined v_one v_other v_pairs = some r
theorem RT_joined.to : ∀ ds d, R_joined ds d → ∃ ess, RT_joined ds ess ∧ d = .tuple (ess.map .list) ∧ ess.length ≤ 1000 := fun ds d h => by
  obtain ⟨v_one, v_other, v_pairs, r, h1, h2, h3⟩ := h
  exact ⟨_, ⟨v_one, v_other, v_pairs, r, h1, rfl, h3⟩, h2, by exact Nat.le_of_ble_eq_true rfl⟩
def m_gate_bits (v_kind : Str) (v_some : (Sq Int)) (v_ones : Int) : Option (Int) :=
if (decide (v_kind = ("not" : Str))) = true then (
(atI v_some.l (0 : Int)).bind fun t3 =>
some (Builtin.bitXor v_ones t3))
else (
if (decide (v_kind = ("and" : Str))) = true then (
(atI v_some.l (0 : Int)).bind fun t9 =>
(atI v_some.l (1 : Int)).bind fun t11 =>
some (Builtin.bitAnd t9 t11))
else (
if (decide (v_kind = ("or" : Str))) = true then (
(atI v_some.l (0 : Int)).bind fun t17 =>
(atI v_some.l (1 : Int)).bind fun t19 =>
some (Builtin.bitOr t17 t19))
else (
if (decide (v_kind = ("xor" : Str))) = true then (
(atI v_some.l (0 : Int)).bind fun t25 =>
(atI v_some.l (1 : Int)).bind fun t27 =>
some (Builtin.bitXor t25 t27))
else (
(atI v_some.l (0 : Int)).bind fun t41 =>
(atI v_some.l (1 : Int)).bind fun t43 =>
(atI v_some.l (0 : Int)).bind fun t45 =>
(atI v_some.l (2 : Int)).bind fun t47 =>
(atI v_some.l (1 : Int)).bind fun t49 =>
(atI v_some.l (2 : Int)).bind fun t51 =>
some (Builtin.bitOr (Builtin.bitOr (Builtin.bitAnd t41 t43) (Builtin.bitAnd t45 t47)) (Builtin.bitAnd t49 t51))))))
def R_gate_bits : List PyData → PyData → Prop := fun ds d => ∃ (v_kind : Str) (v_some : (Sq Int)) (v_ones : Int) (r : Int), ds = [enc (v_kind : Str), enc (v_some : (Sq Int)), enc (v_ones : Int)] ∧ d = enc (r : Int) ∧ m_gate_bits v_kind v_some v_ones = some r
def m_how_many_ahead (v_net : (T3 (List (Str × Int)) (List (T3 Str (Tp Int) Bool)) (List (Str × (Tp Int))))) : Option (Int) :=
some ((v_net.a.map (fun (x6 : (Str × Int)) => (x6.2 : Int))).sum)
def R_how_many_ahead : List PyData → PyData → Prop := fun ds d => ∃ (v_net : (T3 (List (Str × Int)) (List (T3 Str (Tp Int) Bool)) (List (Str × (Tp Int))))) (r : Int), ds = [enc (v_net : (T3 (List (Str × Int)) (List (T3 Str (Tp Int) Bool)) (List (Str × (Tp Int)))))] ∧ d = enc (r : Int) ∧ m_how_many_ahead v_net = some r
def m_gone_on (v_net : (T3 (List (Str × Int)) (List (T3 Str (Tp Int) Bool)) (List (Str × (Tp Int))))) (v_first : (List Int)) (v_ones : Int) (v_turned : (Tp Int)) : Option ((List Int)) :=
(m_how_many_ahead v_net).bind fun r2 =>
(rng2O ((v_first.length : Int) - r2) (v_net.b.length : Int)).bind fun l4 =>
(forS (S := List Int) (fun (x8 : Int) (s7 : List Int) => (
(atI v_net.b x8).bind fun t12 =>
(mapO (fun (x15 : Int) => (atI s7 x15).bind fun t20 => some (t20 : Int)) t12.b.l).bind fun l22 =>
(m_gate_bits t12.a (Sq.mk false l22) v_ones).bind fun r24 =>
(if (decide (x8 ∈ v_turned.l)) = true then (
(some (Builtin.bitXor v_ones r24)).bind fun v28 =>
some v28)
else (
some r24) : Option (Int)).bind fun j26 =>
(appO s7 j26).bind fun u30 =>
some u30 : Option (List Int))) l4 v_first).bind fun s32 =>
some s32
def R_gone_on : List PyData → List PyData → Prop := fun ds es => ∃ (v_net : (T3 (List (Str × Int)) (List (T3 Str (Tp Int) Bool)) (List (Str × (Tp Int))))) (v_first : (List Int)) (v_ones : Int) (v_turned : (Tp Int)) (r : (List Int)), ds = [enc (v_net : (T3 (List (Str × Int)) (List (T3 Str (Tp Int) Bool)) (List (Str × (Tp Int))))), enc (v_first : (List Int)), enc (v_ones : Int), enc (v_turned : (Tp Int))] ∧ es = r.map enc ∧ m_gone_on v_net v_first v_ones v_turned = some r
def m_ins_wires (v_net : (T3 (List (Str × Int)) (List (T3 Str (Tp Int) Bool)) (List (Str × (Tp Int))))) (v_own : (Sq Int)) (v_ones : Int) (v_bad : (Tp Int)) : Option ((List Int)) :=
(some ([] : (List Int))).bind fun v1 =>
(forS (S := List Int) (fun (x6 : ((Str × Int) × Int)) (s5 : List Int) => (
(rngO x6.1.2).bind fun l10 =>
(forS (S := List Int) (fun (x14 : Int) (s13 : List Int) => (
(if (decide ((s13.length : Int) ∈ v_bad.l)) = true then (
(appO s13 (Builtin.bitXor v_ones x6.2)).bind fun u20 =>
some u20)
else (
(appO s13 x6.2).bind fun u22 =>
some u22) : Option (List Int)).bind fun j18 =>
some j18 : Option (List Int))) l10 s5).bind fun s24 =>
some s24 : Option (List Int))) (v_net.a.zip v_own.l) v1).bind fun s25 =>
some s25
def R_ins_wires : List PyData → List PyData → Prop := fun ds es => ∃ (v_net : (T3 (List (Str × Int)) (List (T3 Str (Tp Int) Bool)) (List (Str × (Tp Int))))) (v_own : (Sq Int)) (v_ones : Int) (v_bad : (Tp Int)) (r : (List Int)), ds = [enc (v_net : (T3 (List (Str × Int)) (List (T3 Str (Tp Int) Bool)) (List (Str × (Tp Int))))), enc (v_own : (Sq Int)), enc (v_ones : Int), enc (v_bad : (Tp Int))] ∧ es = r.map enc ∧ m_ins_wires v_net v_own v_ones v_bad = some r
def m_run (v_net : (T3 (List (Str × Int)) (List (T3 Str (Tp Int) Bool)) (List (Str × (Tp Int))))) (v_bits : (Tp Int)) (v_turned : (Tp Int)) (v_bad : (Tp Int)) : Option ((List (Tp Int))) :=
(m_ins_wires v_net (Sq.mk true v_bits.l) (1 : Int) v_bad).bind fun r1 =>
(m_gone_on v_net r1 (1 : Int) v_turned).bind fun r3 =>
(mapO (fun (x32 : (Str × (Tp Int))) => (mapO (fun (x46 : Int) => (atI r3 x46).bind fun t51 => some (t51 : Int)) x32.2.l).bind fun l53 => some ((Tp.mk l53) : (Tp Int))) v_net.c).bind fun l55 =>
some l55
def R_run : List PyData → List PyData → Prop := fun ds es => ∃ (v_net : (T3 (List (Str × Int)) (List (T3 Str (Tp Int) Bool)) (List (Str × (Tp Int))))) (v_bits : (Tp Int)) (v_turned : (Tp Int)) (v_bad : (Tp Int)) (r : (List (Tp Int))), ds = [enc (v_net : (T3 (List (Str × Int)) (List (T3 Str (Tp Int) Bool)) (List (Str × (Tp Int))))), enc (v_bits : (Tp Int)), enc (v_turned : (Tp Int)), enc (v_bad : (Tp Int))] ∧ es = r.map enc ∧ m_run v_net v_bits v_turned v_bad = some r
def m__law_bit (v_kind : Str) (v_some : (List Int)) : Option (Int) :=
if (decide (v_kind = ("not" : Str))) = true then (
(atI v_some (0 : Int)).bind fun t3 =>
some ((1 : Int) - t3))
else (
if (decide (v_kind = ("and" : Str))) = true then (
(minO v_some).bind fun t7 =>
some t7)
else (
if (decide (v_kind = ("or" : Str))) = true then (
(maxO v_some).bind fun t11 =>
some t11)
else (
(atI ([(b2n (decide ((1 : Int) < v_some.sum))), (v_some.sum % (2 : Int))] : (List Int)) (b2n (decide (v_kind = ("xor" : Str))))).bind fun t15 =>
some t15)))
def R__law_bit : List PyData → PyData → Prop := fun ds d => ∃ (v_kind : Str) (v_some : (List Int)) (r : Int), ds = [enc (v_kind : Str), enc (v_some : (List Int))] ∧ d = enc (r : Int) ∧ m__law_bit v_kind v_some = some r
def m__law_gone (v_net : (T3 (List (Str × Int)) (List (T3 Str (Tp Int) Bool)) (List (Str × (Tp Int))))) (v_wires : (List Int)) (v_turned : (Sq Int)) : Option ((List (Tp Int))) :=
(forS (S := List Int) (fun (x4 : (Int × (T3 Str (Tp Int) Bool))) (s3 : List Int) => (
(mapO (fun (x9 : Int) => (atI s3 x9).bind fun t14 => some (t14 : Int)) x4.2.b.l).bind fun l16 =>
(m__law_bit x4.2.a l16).bind fun r18 =>
(atI ([r18, ((1 : Int) - r18)] : (List Int)) (b2n (decide (x4.1 ∈ v_turned.l)))).bind fun t20 =>
(appO s3 t20).bind fun u22 =>
some u22 : Option (List Int))) (enumL v_net.b) v_wires).bind fun s24 =>
(mapO (fun (x52 : (Str × (Tp Int))) => (mapO (fun (x66 : Int) => (atI s24 x66).bind fun t71 => some (t71 : Int)) x52.2.l).bind fun l73 => some ((Tp.mk l73) : (Tp Int))) v_net.c).bind fun l75 =>
some l75
def R__law_gone : List PyData → List PyData → Prop := fun ds es => ∃ (v_net : (T3 (List (Str × Int)) (List (T3 Str (Tp Int) Bool)) (List (Str × (Tp Int))))) (v_wires : (List Int)) (v_turned : (Sq Int)) (r : (List (Tp Int))), ds = [enc (v_net : (T3 (List (Str × Int)) (List (T3 Str (Tp Int) Bool)) (List (Str × (Tp Int))))), enc (v_wires : (List Int)), enc (v_turned : (Sq Int))] ∧ es = r.map enc ∧ m__law_gone v_net v_wires v_turned = some r
def m__law_due (v_one : (T3 (List (Str × Int)) (List (T3 Str (Tp Int) Bool)) (List (Str × (Tp Int))))) (v_other : (T3 (List (Str × Int)) (List (T3 Str (Tp Int) Bool)) (List (Str × (Tp Int))))) (v_pairs : (List (Int × Int))) (v_bits : (List Int)) (v_turned : (Tp Int)) (v_bad : (Tp Int)) : Option ((List (Tp Int))) :=
(some ([] : (List Int))).bind fun v1 =>
(forS (S := (List Int)) (fun (x5 : (Int × (Str × Int))) (s4 : (List Int)) => (
(atI v_bits x5.1).bind fun t9 =>
(repO ([t9] : (List Int)) x5.2.2).bind fun t11 =>
(extO s4 t11).bind fun t13 =>
some t13 : Option ((List Int)))) (enumL v_one.a) v1).bind fun s15 =>
(some (cutL v_bits (some (v_one.a.length : Int)) none)).bind fun v16 =>
(mapO (fun (x19 : (Int × Int)) => (atI ([x19.2, ((1 : Int) - x19.2)] : (List Int)) (b2n (decide (x19.1 ∈ v_bad.l)))).bind fun t24 => some (t24 : Int)) (enumL s15)).bind fun l26 =>
(m__law_gone v_one l26 (Sq.mk true v_turned.l)).bind fun r28 =>
(some ([] : (List Int))).bind fun v36 =>
(some (l26.length : Int)).bind fun v38 =>
(forS (S := (List Int) × Int × (List Int)) (fun (x42 : (Int × (Str × Int))) (s41 : (List Int) × Int × (List Int)) => (
(if (hasM (mergeM (v_pairs.map (fun (x31 : (Int × Int)) => ((x31.2, x31.1) : (Int × Int))))) x42.1) = true then (
(getM (mergeM (v_pairs.map (fun (x31 : (Int × Int)) => ((x31.2, x31.1) : (Int × Int))))) x42.1).bind fun t48 =>
(atI r28 t48).bind fun t50 =>
(extO s41.1 t50.l).bind fun t52 =>
some (t52, s41.2.1, s41.2.2))
else (
(atI s41.2.2 (0 : Int)).bind fun t54 =>
(repO ([t54] : (List Int)) x42.2.2).bind fun t56 =>
(mapO (fun (x59 : (Int × Int)) => (atI ([x59.2, ((1 : Int) - x59.2)] : (List Int)) (b2n (decide ((s41.2.1 + x59.1) ∈ v_bad.l)))).bind fun t64 => some (t64 : Int)) (enumL t56)).bind fun l66 =>
(extO s41.1 l66).bind fun t68 =>
(some (s41.2.1 + x42.2.2)).bind fun v70 =>
(some (cutL s41.2.2 (some (1 : Int)) none)).bind fun v72 =>
some (t68, v70, v72)) : Option ((List Int) × Int × (List Int))).bind fun j46 =>
some (j46.1, j46.2.1, j46.2.2) : Option ((List Int) × Int × (List Int)))) (enumL v_other.a) (v36, v38, v16)).bind fun s74 =>
(some (v_turned.l.map (fun (x76 : Int) => ((x76 - (v_one.b.length : Int)) : Int)))).bind fun v79 =>
(m__law_gone v_other s74.1 (Sq.mk false v79)).bind fun r81 =>
(some (v_pairs.map (fun (x84 : (Int × Int)) => (x84.1 : Int)))).bind fun v87 =>
(filtO (fun (x102 : Int) => some (!decide (x102 ∈ v87))) (fun (x102 : Int) => (atI r28 x102).bind fun t107 => some (t107 : (Tp Int))) (rngL 0 r28.length)).bind fun l109 =>
(extO l109 r81).bind fun t111 =>
some t111
def R__law_due : List PyData → List PyData → Prop := fun ds es => ∃ (v_one : (T3 (List (Str × Int)) (List (T3 Str (Tp Int) Bool)) (List (Str × (Tp Int))))) (v_other : (T3 (List (Str × Int)) (List (T3 Str (Tp Int) Bool)) (List (Str × (Tp Int))))) (v_pairs : (List (Int × Int))) (v_bits : (List Int)) (v_turned : (Tp Int)) (v_bad : (Tp Int)) (r : (List (Tp Int))), ds = [enc (v_one : (T3 (List (Str × Int)) (List (T3 Str (Tp Int) Bool)) (List (Str × (Tp Int))))), enc (v_other : (T3 (List (Str × Int)) (List (T3 Str (Tp Int) Bool)) (List (Str × (Tp Int))))), enc (v_pairs : (List (Int × Int))), enc (v_bits : (List Int)), enc (v_turned : (Tp Int)), enc (v_bad : (Tp Int))] ∧ es = r.map enc ∧ m__law_due v_one v_other v_pairs v_bits v_turned v_bad = some r
def m_law (v_script : (List Int)) : Option (Bool) :=
(extO ([(0 : Int)] : (List Int)) (cutL v_script none (some (6 : Int)))).bind fun t1 =>
(forF (S := Unit) (R := Bool) (fun (x5 : Int) (s4 : Unit) => (
(m__law_any_net x5 (0 : Int) ("abcdefg" : Str) ([(1 : Int), (2 : Int), (3 : Int)] : (List Int))).bind fun r9 =>
(m__law_any_net x5 (150 : Int) ("nopqrst" : Str) ([(1 : Int), (2 : Int), (3 : Int)] : (List Int))).bind fun r11 =>
(m__law_pairs x5 r9 r11).bind fun r13 =>
(m_joined r9 r11 r13).bind fun r15 =>
(some (r15.a.length : Int)).bind fun v17 =>
(some ((rngL 0 r15.b.length).map (fun (x20 : Int) => (((Tp.mk [x20]) : (Tp Int)) : (Tp Int))))).bind fun v23 =>
(rngO ((r15.a.map (fun (x26 : (Str × Int)) => (x26.2 : Int))).sum)).bind fun l29 =>
(some (l29.map (fun (x32 : Int) => (((Tp.mk [x32]) : (Tp Int)) : (Tp Int))))).bind fun v35 =>
(extO ([((Tp.mk []) : (Tp Int))] : (List (Tp Int))) v23).bind fun t37 =>
(m__law_stir x5 (96 : Int)).bind fun r39 =>
(modO r39 ((1 : Int) + (v23.length : Int))).bind fun t41 =>
(atI t37 t41).bind fun t43 =>
(extO ([((Tp.mk []) : (Tp Int))] : (List (Tp Int))) v35).bind fun t45 =>
(m__law_stir x5 (97 : Int)).bind fun r47 =>
(modO r47 ((1 : Int) + (v35.length : Int))).bind fun t49 =>
(atI t45 t49).bind fun t51 =>
(shlO (1 : Int) v17).bind fun t53 =>
(rngO t53).bind fun l55 =>
(forF (S := Unit) (R := Bool) (fun (x59 : Int) (s58 : Unit) => (
(rngO v17).bind fun l63 =>
(mapO (fun (x66 : Int) => (shrO x59 ((v17 - (1 : Int)) - x66)).bind fun t71 => some ((Builtin.bitAnd t71 (1 : Int)) : Int)) l63).bind fun l73 =>
(some (Tp.mk l73)).bind fun v75 =>
(forF (S := Unit) (R := Bool) (fun (x79 : ((Tp Int) × (Tp Int))) (s78 : Unit) => (
(m_run r15 v75 x79.1 x79.2).bind fun r83 =>
(m__law_due r9 r11 r13 v75.l x79.1 x79.2).bind fun r85 =>
if (!decide ((r83 : (List (Tp Int))) = r85)) = true then (
some (.rt false))
else (
some (.nx ())) : Option (Fl (Unit) (Bool)))) ([(((Tp.mk []) : (Tp Int)), ((Tp.mk []) : (Tp Int))), (t43, ((Tp.mk []) : (Tp Int))), (((Tp.mk []) : (Tp Int)), t51), (t43, t51)] : (List ((Tp Int) × (Tp Int)))) ()).bind fun fl80 =>
flK fl80 (fun s87 =>
some (.nx ())) (fun r => some (.rt r)) : Option (Fl (Unit) (Bool)))) l55 ()).bind fun fl60 =>
flK fl60 (fun s88 =>
some (.nx ())) (fun r => some (.rt r)) : Option (Fl (Unit) (Bool)))) t1 ()).bind fun fl6 =>
flK fl6 (fun s89 =>
some true) some
def R_law : List PyData → PyData → Prop := fun ds d => ∃ (v_script : (List Int)) (r : Bool), ds = [enc (v_script : (List Int))] ∧ d = enc (r : Bool) ∧ m_law v_script = some r
section
variable {P : Program} {w : World} {K : Fg} {mg : Str → Option Value} {base : Heap}
theorem sc__law_stir : FnScope ["cell", "k", "number"] ["cell", "k"] (defScope (top 22)) := ⟨rfl, rfl, rfl, by decide +kernel, rfl, by decide +kernel, by decide +kernel⟩
theorem ok__law_stir (D : Dfn K mg "_law_stir" (top 22) ["cell", "k"]) : Cal P w K mg base 1 "_law_stir" ["cell", "k"] (SpP K R__law_stir) := by
  refine D.cal sc__law_stir (sp_len fun ds d h => by obtain ⟨_, _, _, rfl, _⟩ := h; rfl) fun f cdv A outer s H vs Q E hr h => ?_
  refine ⟨_, (pss_cons (ps_if (pt_cmpR op_ge (pv 0) (pe_op op_pow pe_int pe_int) (nomark _)) (pss_one (ps_ret (pe_op op_mod (pe_op op_shr (pe_op op_sub (pv 0) (pe_op op_pow pe_int pe_int)) (pe_op op_mul pe_int (pv 1))) (pe_op op_pow pe_int pe_int)))) pss_nil) (pss_cons (ps_set (i := 2) sc__law_stir.nd rfl (Or.inl rfl) (pe_op op_mod (pe_op op_mul (pe_op op_add (pe_op op_add (pv 0) (pe_op op_mul pe_int (pv 1))) pe_int) pe_int) pe_int)) (pss_cons (ps_set (i := 2) sc__law_stir.nd rfl (Or.inl rfl) (pe_op op_mod (pe_op op_mul (pv 2) (pv 2)) pe_int)) (pss_one (ps_ret (pe_op op_fdiv (pe_op op_mod (pe_op op_mul (pv 2) pe_int) pe_int) pe_int)))))), ?_⟩
  obtain ⟨F, ds, d, hw, hF, ⟨v_cell, v_k, rr, rfl, rfl, hm0⟩, k⟩ := h
  have E : EnvR K F _ [.val (enc (v_cell : Int)), .val (enc (v_k : Int)), .un] := EnvR.start (N := ["cell", "k", "number"]) (AsR.of_all hw)
  have S := Hx.start (K := K) hF
  have fc : Same F F := Same.refl F
  unfold m__law_stir at hm0
  try (with_reducible refine nxD ?_)
  with_reducible refine sq ?_
  refine st_if (b := (decide (((10 : Int) ^ (18 : Int).toNat) ≤ v_cell))) (rt_val (rx_ge (rx_var (d := enc (v_cell : Int)) rfl) (rx_pow rx_int rx_int ⟨by decide, by decide, by decide⟩))) E S (fun hc F H f E S => ?_) (fun hc F H f E S => ?_)
  · rw [if_pos hc] at hm0
    replace fc := fc.trans f
    obtain ⟨t3, h4, hm0⟩ := bindE hm0
    obtain rfl := Option.some.inj hm0
    -- return
    try (with_reducible refine nxD ?_)
    refine st_ret (d := enc ((t3 % ((2 : Int) ^ (28 : Int).toNat)) : Int)) (rx_mod (rx_shrO h4 (rx_sub (rx_var (d := enc (v_cell : Int)) rfl) (rx_pow rx_int rx_int ⟨by decide, by decide, by decide⟩)) (rx_mul rx_int (rx_var (d := enc (v_k : Int)) rfl) (.inl (by decide)))) (rx_pow rx_int rx_int ⟨by decide, by decide, by decide⟩) (by decide)) E S fun v F H f S r => ?_
    exact k v F H S.stp r
  · rw [if_neg (by rw [hc]; decide)] at hm0
    replace fc := fc.trans f
    refine nxt ?_
    obtain ⟨v5, h6, hm0⟩ := letE hm0
    try (with_reducible refine nxD ?_)
    with_reducible refine sq ?_
    refine st_set (i := 2) (d := enc (v5 : Int)) (rx_as (x := (((((v_cell + ((1013 : Int) * v_k)) + (1 : Int)) * (16807 : Int)) % (2147483647 : Int)) : Int)) h6 (rx_mod (rx_mul (rx_add (rx_add (rx_var (d := enc (v_cell : Int)) rfl) (rx_mul rx_int (rx_var (d := enc (v_k : Int)) rfl) (.inl (by decide)))) rx_int) rx_int (.inr (by decide))) rx_int (by decide))) E S fun σ F H f E S => ?_
    replace fc := fc.trans f
    have E : EnvR K _ _ [.val (enc (v_cell : Int)), .val (enc (v_k : Int)), .val (enc (v5 : Int))] := E
    have S : Hx K _ _ _ _ [] _ := S
    obtain ⟨t7, h8, hm0⟩ := bindE hm0
    obtain ⟨v9, h10, hm0⟩ := letE hm0
    try (with_reducible refine nxD ?_)
    with_reducible refine sq ?_
    refine st_set (i := 2) (d := enc (v9 : Int)) (rx_as (x := ((t7 % (2147483629 : Int)) : Int)) h10 (rx_mod (rx_mulO h8 (rx_var (d := enc (v5 : Int)) rfl) (rx_var (d := enc (v5 : Int)) rfl)) rx_int (by decide))) E S fun σ F H f E S => ?_
    replace fc := fc.trans f
    have E : EnvR K _ _ [.val (enc (v_cell : Int)), .val (enc (v_k : Int)), .val (enc (v9 : Int))] := E
    have S : Hx K _ _ _ _ [] _ := S
    obtain rfl := Option.some.inj hm0
    -- return
    try (with_reducible refine nxD ?_)
    refine st_ret (d := enc ((((v9 * (39373 : Int)) % (2147483587 : Int)) / (8 : Int)) : Int)) (rx_fdiv (rx_mod (rx_mul (rx_var (d := enc (v9 : Int)) rfl) rx_int (.inr (by decide))) rx_int (by decide)) rx_int ⟨by decide, by decide⟩) E S fun v F H f S r => ?_
    exact k v F H S.stp r
theorem sc__law_any_net : FnScope ["cell", "first", "letters", "widths", "many", "ins", "count", "gates", "place", "number", "kind", "some", "outs", "called", "width", "k", "name"] ["cell", "first", "letters", "widths"] (defScope (top 23)) := ⟨rfl, rfl, rfl, by decide +kernel, rfl, by decide +kernel, by decide +kernel⟩
theorem ok__law_any_net (B : Bi mg) (D : Dfn K mg "_law_any_net" (top 23) ["cell", "first", "letters", "widths"]) (C__law_stir : Cal P w K mg base 1 "_law_stir" ["cell", "k"] (SpP K R__law_stir)) : Cal P w K mg base 2 "_law_any_net" ["cell", "first", "letters", "widths"] (SpP K R__law_any_net) := by
  refine D.cal sc__law_any_net (sp_len fun ds d h => by obtain ⟨_, _, _, _, _, rfl, _⟩ := h; rfl) fun f cdv A outer s H vs Q E hr h => ?_
  refine ⟨_, (pss_cons (ps_set (i := 4) sc__law_any_net.nd rfl (Or.inl rfl) (pe_op op_add pe_int (pe_op op_mod (pe_cal C__law_stir hr (pa_cons (pv 0) (pa_cons (pv 1) pa_nil))) pe_int))) (pss_cons (ps_setLc (i := 5) (own := [(("k" : Str), 15)]) (g := (gName 15)) (tt := tYes) rfl sc__law_any_net.nd rfl rfl (sw_true rfl rfl rfl (by decide +kernel)) (pi_range1 rfl B.range (pa_cons (pv 4) pa_nil)) (blkOk_by (by kernel_rfl)) (fun _ _ _ _ _ => (pg_name (i := 15) sc__law_any_net.nd rfl (Or.inl rfl))) (fun _ _ _ _ _ => pts_nil) (fun _ _ _ _ _ => (pe_tup (pa_cons (pe_ix ix_str (pv 2) (pv 15) (fun _ _ => rfl)) (pa_cons (pe_ix (k_ix_list K) (pv 3) (pe_op op_mod (pe_cal C__law_stir hr (pa_cons (pv 0) (pa_cons (pe_op op_add (pe_op op_add (pv 1) pe_int) (pv 15)) pa_nil))) (pe_callB (k_len_seq K) (by rfl) B.len PySem.boot_len (pa_cons (pv 3) pa_nil))) (fun _ _ => rfl)) pa_nil))))) (pss_cons (ps_set (i := 6) sc__law_any_net.nd rfl (Or.inr rfl) (pe_callB (k_sum K rfl) (by rfl) B.sum (by decide +kernel) (pa_cons (pe_lc (own := [(("name" : Str), 16), (("width" : Str), 14)]) (g := (gTup K 2 (gCons (gName 16) (gCons (gName 14) gNil)))) (tt := tYes) rfl sc__law_any_net.nd (k_pi_list K (pv 5)) (blkOk_by (by kernel_rfl)) (fun _ _ _ _ _ => (pg_tup rfl (pgs_cons (pg_name (i := 16) sc__law_any_net.nd rfl (Or.inl rfl)) (pgs_cons (pg_name (i := 14) sc__law_any_net.nd rfl (Or.inl rfl)) pgs_nil)))) (fun _ _ _ _ _ => pts_nil) (fun _ _ _ _ _ => (pv 14))) pa_nil))) (pss_cons (ps_set (i := 7) sc__law_any_net.nd rfl (Or.inr rfl) (pe_lst pa_nil)) (pss_cons (ps_for PassesOwn.never rfl (pi_range1 rfl B.range (pa_cons (pe_op op_mod (pe_cal C__law_stir hr (pa_cons (pv 0) (pa_cons (pe_op op_add (pv 1) pe_int) pa_nil))) pe_int) pa_nil)) (pg_name (i := 8) sc__law_any_net.nd rfl (Or.inr rfl)) (pss_cons (ps_set (i := 9) sc__law_any_net.nd rfl (Or.inl rfl) (pe_cal C__law_stir hr (pa_cons (pv 0) (pa_cons (pe_op op_add (pe_op op_add (pv 1) pe_int) (pe_op op_mul pe_int (pv 8))) pa_nil)))) (pss_cons (ps_set (i := 10) sc__law_any_net.nd rfl (Or.inl rfl) (pe_ix (k_ix_list K) (pe_lst (pa_cons pe_str (pa_cons pe_str (pa_cons pe_str (pa_cons pe_str (pa_cons pe_str pa_nil)))))) (pe_op op_mod (pv 9) pe_int) (fun _ _ => rfl))) (pss_cons (ps_set (i := 4) sc__law_any_net.nd rfl (Or.inl rfl) (pe_dget2 (hu_of hr) (pe_disp (pps_cons pe_str pe_int (pps_cons pe_str pe_int pps_nil)) (by rfl) (by rfl) (fun z => by cases z) (by decide)) (pv 10) pe_int ⟨by rfl, by rfl, by rfl, by rfl⟩)) (pss_cons (ps_setLc (i := 11) (own := [(("k" : Str), 15)]) (g := (gName 15)) (tt := tYes) rfl sc__law_any_net.nd rfl rfl (sw_true rfl rfl rfl (by decide +kernel)) (pi_range1 rfl B.range (pa_cons (pv 4) pa_nil)) (blkOk_by (by kernel_rfl)) (fun _ _ _ _ _ => (pg_name (i := 15) sc__law_any_net.nd rfl (Or.inl rfl))) (fun _ _ _ _ _ => pts_nil) (fun _ _ _ _ _ => (pe_op op_mod (pe_cal C__law_stir hr (pa_cons (pv 0) (pa_cons (pe_op op_add (pe_op op_add (pe_op op_add (pv 1) pe_int) (pe_op op_mul pe_int (pv 8))) (pv 15)) pa_nil))) (pe_op op_add (pv 6) (pv 8))))) (pss_one (ps_expr (pe_bm PySem.F.plainAttrs_list PySem.F.slot_list_append PySem.F.type_list_append mt_append (pv 7) (pa_cons (pe_tup (pa_cons (pv 10) (pa_cons (pe_callTy (k_tuple_of K) (by rfl) B.tuple (by decide +kernel) (pa_cons (pv 11) pa_nil)) (pa_cons (pe_cmpR op_eq (pe_op op_mod (pe_op op_fdiv (pv 9) pe_int) pe_int) pe_int (nomark _)) pa_nil)))) pa_nil))))))))) (pss_cons (ps_set (i := 12) sc__law_any_net.nd rfl (Or.inl rfl) (pe_lst pa_nil)) (pss_cons (ps_set (i := 13) sc__law_any_net.nd rfl (Or.inl rfl) (pe_slice sl_str (pv 2) (po_some (pe_op op_sub pe_int (pe_op op_mul pe_int (pe_callTy call_int1 (by rfl) B.int (by decide +kernel) (pa_cons (pe_cmpR op_eq (pe_op op_mod (pe_cal C__law_stir hr (pa_cons (pv 0) (pa_cons (pe_op op_add (pv 1) pe_int) pa_nil))) pe_int) pe_int (nomark _)) pa_nil))))) po_none)) (pss_cons (ps_for PassesOwn.never rfl (pi_range1 rfl B.range (pa_cons (pe_op op_add pe_int (pe_op op_mod (pe_cal C__law_stir hr (pa_cons (pv 0) (pa_cons (pe_op op_add (pv 1) pe_int) pa_nil))) pe_int)) pa_nil)) (pg_name (i := 8) sc__law_any_net.nd rfl (Or.inr rfl)) (pss_cons (ps_set (i := 14) sc__law_any_net.nd rfl (Or.inl rfl) (pe_ix (k_ix_list K) (pv 3) (pe_op op_mod (pe_cal C__law_stir hr (pa_cons (pv 0) (pa_cons (pe_op op_add (pe_op op_add (pv 1) pe_int) (pe_op op_mul pe_int (pv 8))) pa_nil))) (pe_callB (k_len_seq K) (by rfl) B.len PySem.boot_len (pa_cons (pv 3) pa_nil))) (fun _ _ => rfl))) (pss_cons (ps_setLc (i := 11) (own := [(("k" : Str), 15)]) (g := (gName 15)) (tt := tYes) rfl sc__law_any_net.nd rfl rfl (sw_true rfl rfl rfl (by decide +kernel)) (pi_range1 rfl B.range (pa_cons (pv 14) pa_nil)) (blkOk_by (by kernel_rfl)) (fun _ _ _ _ _ => (pg_name (i := 15) sc__law_any_net.nd rfl (Or.inl rfl))) (fun _ _ _ _ _ => pts_nil) (fun _ _ _ _ _ => (pe_op op_mod (pe_cal C__law_stir hr (pa_cons (pv 0) (pa_cons (pe_op op_add (pe_op op_add (pe_op op_add (pv 1) pe_int) (pe_op op_mul pe_int (pv 8))) (pv 15)) pa_nil))) (pe_op op_add (pv 6) (pe_callB (k_len_seq K) (by rfl) B.len PySem.boot_len (pa_cons (pv 7) pa_nil)))))) (pss_one (ps_expr (pe_bm PySem.F.plainAttrs_list PySem.F.slot_list_append PySem.F.type_list_append mt_append (pv 12) (pa_cons (pe_tup (pa_cons (pe_ix ix_str (pv 13) (pv 8) (fun _ _ => rfl)) (pa_cons (pe_callTy (k_tuple_of K) (by rfl) B.tuple (by decide +kernel) (pa_cons (pv 11) pa_nil)) pa_nil))) pa_nil))))))) (pss_one (ps_ret (pe_tup (pa_cons (pv 5) (pa_cons (pv 7) (pa_cons (pv 12) pa_nil)))))))))))))), ?_⟩
  obtain ⟨F, ds, d, hw, hF, ⟨v_cell, v_first, v_letters, v_widths, rr, rfl, rfl, hm0⟩, k⟩ := h
  have E : EnvR K F _ [.val (enc (v_cell : Int)), .val (enc (v_first : Int)), .val (enc (v_letters : Str)), .val (enc (v_widths : (List Int))), .un, .un, .un, .un, .un, .un, .un, .un, .un, .un, .un, .un, .un] := EnvR.start (N := ["cell", "first", "letters", "widths", "many", "ins", "count", "gates", "place", "number", "kind", "some", "outs", "called", "width", "k", "name"]) (AsR.of_all hw)
  have S := Hx.start (K := K) hF
  have fc : Same F F := Same.refl F
  unfold m__law_any_net at hm0
  obtain ⟨r1, h2, hm0⟩ := bindE hm0
  obtain ⟨v3, h4, hm0⟩ := letE hm0
  try (with_reducible refine nxD ?_)
  with_reducible refine sq ?_
  refine st_set (i := 4) (d := enc (v3 : Int)) (rx_as (x := (((1 : Int) + (r1 % (3 : Int))) : Int)) h4 (rx_add rx_int (rx_mod (rx_call (ds := [enc (v_cell : Int), enc (v_first : Int)]) (d := enc (r1 : Int)) ⟨_, _, r1, rfl, rfl, h2⟩ (ra_cons (rx_var (d := enc (v_cell : Int)) rfl) (ra_cons (rx_var (d := enc (v_first : Int)) rfl) ra_nil))) rx_int (by decide)))) E S fun σ F H f E S => ?_
  replace fc := fc.trans f
  have E : EnvR K _ _ [.val (enc (v_cell : Int)), .val (enc (v_first : Int)), .val (enc (v_letters : Str)), .val (enc (v_widths : (List Int))), .val (enc (v3 : Int)), .un, .un, .un, .un, .un, .un, .un, .un, .un, .un, .un, .un] := E
  have S : Hx K _ _ _ _ [] _ := S
  obtain ⟨l5, h6, hm0⟩ := bindE hm0
  obtain ⟨l27, h28, hm0⟩ := bindE hm0
  try (with_reducible refine nxD ?_)
  with_reducible refine sq ?_
  refine st_set (i := 5) (d := enc (l27 : (List (Str × Int)))) (RXo.frz (rxo_mapO (eα := enc) (eβ := enc) (fun x8 => [.val (enc (v_cell : Int)), .val (enc (v_first : Int)), .val (enc (v_letters : Str)), .val (enc (v_widths : (List Int))), .val (enc (v3 : Int)), .un, .un, .un, .un, .un, .un, .un, .un, .un, .un, .val (enc (x8 : Int)), .un]) [15] (ri_range h6 (rx_var (d := enc (v3 : Int)) rfl)) h28 (by decide) (fun x8 _ => (rg_name (i := 15) (d := enc (x8 : Int)))) (fun x8 _ y h7 D9 acc10 => by obtain ⟨t19, h20, h7⟩ := bindE h7; obtain ⟨r21, h22, h7⟩ := bindE h7; obtain ⟨t23, h24, h7⟩ := bindE h7; obtain ⟨t25, h26, h7⟩ := bindE h7; obtain rfl := Option.some.inj h7; exact (rx_tup (ds := [enc (t19 : Str), enc (t25 : Int)]) (ra_cons (rx_ixS h20 (rx_var (d := enc (v_letters : Str)) rfl) (rx_var (d := enc (x8 : Int)) rfl)) (ra_cons (rx_ix (atI_map enc h26) (RX.s (rx_var (d := enc (v_widths : (List Int))) rfl)) (rx_modO h24 (rx_call (ds := [enc (v_cell : Int), enc (((v_first + (1 : Int)) + x8) : Int)]) (d := enc (r21 : Int)) ⟨_, _, r21, rfl, rfl, h22⟩ (ra_cons (rx_var (d := enc (v_cell : Int)) rfl) (ra_cons (rx_add (rx_add (rx_var (d := enc (v_first : Int)) rfl) rx_int) (rx_var (d := enc (x8 : Int)) rfl)) ra_nil))) (len_nat (f := enc) (RX.s (rx_var (d := enc (v_widths : (List Int))) rfl))))) ra_nil)))))) E S fun σ F H f E S => ?_
  replace fc := fc.trans f
  have E : EnvR K _ _ [.val (enc (v_cell : Int)), .val (enc (v_first : Int)), .val (enc (v_letters : Str)), .val (enc (v_widths : (List Int))), .val (enc (v3 : Int)), .val (enc (l27 : (List (Str × Int)))), .un, .un, .un, .un, .un, .un, .un, .un, .un, .un, .un] := E
  have S : Hx K _ _ _ _ [] _ := S
  obtain ⟨v33, h34, hm0⟩ := letE hm0
  try (with_reducible refine nxD ?_)
  with_reducible refine sq ?_
  refine st_set (i := 6) (d := enc (v33 : Int)) (rx_as (x := ((l27.map (fun (x30 : (Str × Int)) => (x30.2 : Int))).sum : Int)) h34 (rx_sum (RXo.s (rxo_map (eα := enc) (eβ := enc) (f := (fun (x30 : (Str × Int)) => (x30.2 : Int))) (fun x30 => [.val (enc (v_cell : Int)), .val (enc (v_first : Int)), .val (enc (v_letters : Str)), .val (enc (v_widths : (List Int))), .val (enc (v3 : Int)), .val (enc (l27 : (List (Str × Int)))), .un, .un, .un, .un, .un, .un, .un, .un, .val (enc (x30.2 : Int)), .un, .val (enc (x30.1 : Str))]) [16, 14] (ri_list (ys := l27.map enc) (rx_var (d := enc (l27 : (List (Str × Int)))) rfl)) (by decide) (fun x30 _ => (rg_tup (ds := [enc (x30.1 : Str), enc (x30.2 : Int)]) (RGs.cons (rg_name (i := 16) (d := enc (x30.1 : Str))) (RGs.cons (rg_name (i := 14) (d := enc (x30.2 : Int))) RGs.nil)))) (fun x30 _ D31 acc32 => (rx_var (d := enc (x30.2 : Int)) rfl)))))) E S fun σ F H f E S => ?_
  replace fc := fc.trans f
  have E : EnvR K _ _ [.val (enc (v_cell : Int)), .val (enc (v_first : Int)), .val (enc (v_letters : Str)), .val (enc (v_widths : (List Int))), .val (enc (v3 : Int)), .val (enc (l27 : (List (Str × Int)))), .val (enc (v33 : Int)), .un, .un, .un, .un, .un, .un, .un, .un, .un, .un] := E
  have S : Hx K _ _ _ _ [] _ := S
  obtain ⟨v35, h36, hm0⟩ := letE hm0
  try (with_reducible refine nxD ?_)
  with_reducible refine sq ?_
  refine st_setO (i := 7) (ds := v35.map enc) (rxo_as (f := enc) h36 (rxo_lst (ds := []) ra_nil)) E S fun p_gates37 σ F H f E S => ?_
  replace fc := fc.trans f
  have E : EnvR K _ _ [.val (enc (v_cell : Int)), .val (enc (v_first : Int)), .val (enc (v_letters : Str)), .val (enc (v_widths : (List Int))), .val (enc (v3 : Int)), .val (enc (l27 : (List (Str × Int)))), .val (enc (v33 : Int)), .adr p_gates37, .un, .un, .un, .un, .un, .un, .un, .un, .un] := E
  have S : Hx K _ _ _ _ [⟨p_gates37, true, v35.map enc⟩] _ := S
  obtain ⟨r38, h39, hm0⟩ := bindE hm0
  obtain ⟨l40, h41, hm0⟩ := bindE hm0
  obtain ⟨s72, h46, hm0⟩ := bindE hm0
  try (with_reducible refine nxD ?_)
  with_reducible refine sq ?_
  refine st_forS (eα := enc) (fun s43 => [.val (enc (v_cell : Int)), .val (enc (v_first : Int)), .val (enc (v_letters : Str)), .val (enc (v_widths : (List Int))), .val (enc (s43.1 : Int)), .val (enc (l27 : (List (Str × Int)))), .val (enc (v33 : Int)), .adr p_gates37, .un, .un, .un, .un, .un, .un, .un, .un, .un]) (fun s43 => [⟨p_gates37, true, s43.2.map enc⟩]) E S (ri_range h41 (rx_mod (rx_call (ds := [enc (v_cell : Int), enc ((v_first + (5 : Int)) : Int)]) (d := enc (r38 : Int)) ⟨_, _, r38, rfl, rfl, h39⟩ (ra_cons (rx_var (d := enc (v_cell : Int)) rfl) (ra_cons (rx_add (rx_var (d := enc (v_first : Int)) rfl) rx_int) ra_nil))) rx_int (by decide))) h46 ⟨.inl rfl, .inl rfl, .inl rfl, .inl rfl, .inl rfl, .inl rfl, .inl rfl, .inl rfl, .inr rfl, .inr rfl, .inr rfl, .inr rfl, .inr rfl, .inr rfl, .inr rfl, .inr rfl, .inr rfl, trivial⟩ (fun σ F H f E S => ?_) (fun x44 _ s43 s' h42 σ F H v _ E S r N B hN => ?_)
  · replace fc := fc.trans f
    have E : EnvR K _ _ [.val (enc (v_cell : Int)), .val (enc (v_first : Int)), .val (enc (v_letters : Str)), .val (enc (v_widths : (List Int))), .val (enc (s72.1 : Int)), .val (enc (l27 : (List (Str × Int)))), .val (enc (v33 : Int)), .adr p_gates37, .un, .un, .un, .un, .un, .un, .un, .un, .un] := E
    have S : Hx K _ _ _ _ [⟨p_gates37, true, s72.2.map enc⟩] _ := S
    obtain ⟨v73, h74, hm0⟩ := letE hm0
    try (with_reducible refine nxD ?_)
    with_reducible refine sq ?_
    refine st_setO (i := 12) (ds := v73.map enc) (rxo_as (f := enc) h74 (rxo_lst (ds := []) ra_nil)) E S fun p_outs75 σ F H f E S => ?_
    replace fc := fc.trans f
    have E : EnvR K _ _ [.val (enc (v_cell : Int)), .val (enc (v_first : Int)), .val (enc (v_letters : Str)), .val (enc (v_widths : (List Int))), .val (enc (s72.1 : Int)), .val (enc (l27 : (List (Str × Int)))), .val (enc (v33 : Int)), .adr p_gates37, .un, .un, .un, .un, .adr p_outs75, .un, .un, .un, .un] := E
    have S : Hx K _ _ _ _ [⟨p_outs75, true, v73.map enc⟩, ⟨p_gates37, true, s72.2.map enc⟩] _ := S
    obtain ⟨r76, h77, hm0⟩ := bindE hm0
    obtain ⟨t78, h79, hm0⟩ := bindE hm0
    try (with_reducible refine nxD ?_)
    with_reducible refine sq ?_
    refine st_set (i := 13) (d := enc (t78 : Str)) (rx_cutS h79 (rx_var (d := enc (v_letters : Str)) rfl) (ro_some (rx_sub rx_int (rx_mul rx_int (rx_intB (rx_eqi (rx_mod (rx_call (ds := [enc (v_cell : Int), enc ((v_first + (7 : Int)) : Int)]) (d := enc (r76 : Int)) ⟨_, _, r76, rfl, rfl, h77⟩ (ra_cons (rx_var (d := enc (v_cell : Int)) rfl) (ra_cons (rx_add (rx_var (d := enc (v_first : Int)) rfl) rx_int) ra_nil))) rx_int (by decide)) rx_int)) (.inl (by decide))))) ro_none) E S fun σ F H f E S => ?_
    replace fc := fc.trans f
    have E : EnvR K _ _ [.val (enc (v_cell : Int)), .val (enc (v_first : Int)), .val (enc (v_letters : Str)), .val (enc (v_widths : (List Int))), .val (enc (s72.1 : Int)), .val (enc (l27 : (List (Str × Int)))), .val (enc (v33 : Int)), .adr p_gates37, .un, .un, .un, .un, .adr p_outs75, .val (enc (t78 : Str)), .un, .un, .un] := E
    have S : Hx K _ _ _ _ [⟨p_outs75, true, v73.map enc⟩, ⟨p_gates37, true, s72.2.map enc⟩] _ := S
    obtain ⟨r80, h81, hm0⟩ := bindE hm0
    obtain ⟨l82, h83, hm0⟩ := bindE hm0
    obtain ⟨s116, h88, hm0⟩ := bindE hm0
    try (with_reducible refine nxD ?_)
    with_reducible refine sq ?_
    refine st_forS (eα := enc) (fun s85 => [.val (enc (v_cell : Int)), .val (enc (v_first : Int)), .val (enc (v_letters : Str)), .val (enc (v_widths : (List Int))), .val (enc (s72.1 : Int)), .val (enc (l27 : (List (Str × Int)))), .val (enc (v33 : Int)), .adr p_gates37, .un, .un, .un, .un, .adr p_outs75, .val (enc (t78 : Str)), .un, .un, .un]) (fun s85 => [⟨p_outs75, true, s85.map enc⟩, ⟨p_gates37, true, s72.2.map enc⟩]) E S (ri_range h83 (rx_add rx_int (rx_mod (rx_call (ds := [enc (v_cell : Int), enc ((v_first + (6 : Int)) : Int)]) (d := enc (r80 : Int)) ⟨_, _, r80, rfl, rfl, h81⟩ (ra_cons (rx_var (d := enc (v_cell : Int)) rfl) (ra_cons (rx_add (rx_var (d := enc (v_first : Int)) rfl) rx_int) ra_nil))) rx_int (by decide)))) h88 ⟨.inl rfl, .inl rfl, .inl rfl, .inl rfl, .inl rfl, .inl rfl, .inl rfl, .inl rfl, .inr rfl, .inr rfl, .inr rfl, .inr rfl, .inl rfl, .inl rfl, .inr rfl, .inr rfl, .inr rfl, trivial⟩ (fun σ F H f E S => ?_) (fun x86 _ s85 s' h84 σ F H v _ E S r N B hN => ?_)
    · replace fc := fc.trans f
      have E : EnvR K _ _ [.val (enc (v_cell : Int)), .val (enc (v_first : Int)), .val (enc (v_letters : Str)), .val (enc (v_widths : (List Int))), .val (enc (s72.1 : Int)), .val (enc (l27 : (List (Str × Int)))), .val (enc (v33 : Int)), .adr p_gates37, .un, .un, .un, .un, .adr p_outs75, .val (enc (t78 : Str)), .un, .un, .un] := E
      have S : Hx K _ _ _ _ [⟨p_outs75, true, s116.map enc⟩, ⟨p_gates37, true, s72.2.map enc⟩] _ := S
      obtain ⟨F, f, E, S⟩ := frz_at (i := 7) (j := 1) rfl rfl E S
      have E : EnvR K F _ [.val (enc (v_cell : Int)), .val (enc (v_first : Int)), .val (enc (v_letters : Str)), .val (enc (v_widths : (List Int))), .val (enc (s72.1 : Int)), .val (enc (l27 : (List (Str × Int)))), .val (enc (v33 : Int)), .val (enc (s72.2 : (List (T3 Str (Tp Int) Bool)))), .un, .un, .un, .un, .adr p_outs75, .val (enc (t78 : Str)), .un, .un, .un] := E
      have S : Hx K _ _ _ F [⟨p_outs75, true, s116.map enc⟩] _ := S
      replace fc := fc.trans f
      obtain ⟨F, f, E, S⟩ := frz_at (i := 12) (j := 0) rfl rfl E S
      have E : EnvR K F _ [.val (enc (v_cell : Int)), .val (enc (v_first : Int)), .val (enc (v_letters : Str)), .val (enc (v_widths : (List Int))), .val (enc (s72.1 : Int)), .val (enc (l27 : (List (Str × Int)))), .val (enc (v33 : Int)), .val (enc (s72.2 : (List (T3 Str (Tp Int) Bool)))), .un, .un, .un, .un, .val (enc (s116 : (List (Str × (Tp Int))))), .val (enc (t78 : Str)), .un, .un, .un] := E
      have S : Hx K _ _ _ F [] _ := S
      replace fc := fc.trans f
      obtain rfl := Option.some.inj hm0
      -- return
      try (with_reducible refine nxD ?_)
      refine st_ret (d := enc ((T3.mk l27 s72.2 s116) : (T3 (List (Str × Int)) (List (T3 Str (Tp Int) Bool)) (List (Str × (Tp Int)))))) (rx_tup (ds := [enc (l27 : (List (Str × Int))), enc (s72.2 : (List (T3 Str (Tp Int) Bool))), enc (s116 : (List (Str × (Tp Int))))]) (ra_cons (rx_var (d := enc (l27 : (List (Str × Int)))) rfl) (ra_cons (rx_var (d := enc (s72.2 : (List (T3 Str (Tp Int) Bool)))) rfl) (ra_cons (rx_var (d := enc (s116 : (List (Str × (Tp Int))))) rfl) ra_nil)))) E S fun v F H f S r => ?_
      exact k v F H S.stp r
    · refine ((rg_name (i := 8) (d := enc (x86 : Int)))).run _ _ _ _ _ E r S.fh fun σ E _ => ?_
      have E : EnvR K _ _ [.val (enc (v_cell : Int)), .val (enc (v_first : Int)), .val (enc (v_letters : Str)), .val (enc (v_widths : (List Int))), .val (enc (s72.1 : Int)), .val (enc (l27 : (List (Str × Int)))), .val (enc (v33 : Int)), .adr p_gates37, .val (enc (x86 : Int)), .un, .un, .un, .adr p_outs75, .val (enc (t78 : Str)), .un, .un, .un] := E
      have S : Hx K _ _ _ _ [⟨p_outs75, true, s85.map enc⟩, ⟨p_gates37, true, s72.2.map enc⟩] _ := S
      have fc : Same F F := Same.refl F
      obtain ⟨r90, h91, h84⟩ := bindE h84
      obtain ⟨t92, h93, h84⟩ := bindE h84
      obtain ⟨t94, h95, h84⟩ := bindE h84
      try (with_reducible refine nxD ?_)
      with_reducible refine sq ?_
      refine st_set (i := 14) (d := enc (t94 : Int)) (rx_ix (atI_map enc h95) (RX.s (rx_var (d := enc (v_widths : (List Int))) rfl)) (rx_modO h93 (rx_call (ds := [enc (v_cell : Int), enc (((v_first + (60 : Int)) + ((5 : Int) * x86)) : Int)]) (d := enc (r90 : Int)) ⟨_, _, r90, rfl, rfl, h91⟩ (ra_cons (rx_var (d := enc (v_cell : Int)) rfl) (ra_cons (rx_add (rx_add (rx_var (d := enc (v_first : Int)) rfl) rx_int) (rx_mul rx_int (rx_var (d := enc (x86 : Int)) rfl) (.inl (by decide)))) ra_nil))) (len_nat (f := enc) (RX.s (rx_var (d := enc (v_widths : (List Int))) rfl))))) E S fun σ F H f E S => ?_
      replace fc := fc.trans f
      have E : EnvR K _ _ [.val (enc (v_cell : Int)), .val (enc (v_first : Int)), .val (enc (v_letters : Str)), .val (enc (v_widths : (List Int))), .val (enc (s72.1 : Int)), .val (enc (l27 : (List (Str × Int)))), .val (enc (v33 : Int)), .adr p_gates37, .val (enc (x86 : Int)), .un, .un, .un, .adr p_outs75, .val (enc (t78 : Str)), .val (enc (t94 : Int)), .un, .un] := E
      have S : Hx K _ _ _ _ [⟨p_outs75, true, s85.map enc⟩, ⟨p_gates37, true, s72.2.map enc⟩] _ := S
      obtain ⟨l96, h97, h84⟩ := bindE h84
      obtain ⟨l110, h111, h84⟩ := bindE h84
      try (with_reducible refine nxD ?_)
      with_reducible refine sq ?_
      refine st_set (i := 11) (d := enc (l110 : (List Int))) (RXo.frz (rxo_mapO (eα := enc) (eβ := enc) (fun x99 => [.val (enc (v_cell : Int)), .val (enc (v_first : Int)), .val (enc (v_letters : Str)), .val (enc (v_widths : (List Int))), .val (enc (s72.1 : Int)), .val (enc (l27 : (List (Str × Int)))), .val (enc (v33 : Int)), .adr p_gates37, .val (enc (x86 : Int)), .un, .un, .un, .adr p_outs75, .val (enc (t78 : Str)), .val (enc (t94 : Int)), .val (enc (x99 : Int)), .un]) [15] (ri_range h97 (rx_var (d := enc (t94 : Int)) rfl)) h111 (by decide) (fun x99 _ => (rg_name (i := 15) (d := enc (x99 : Int)))) (fun x99 _ y h98 D100 acc101 => by obtain ⟨r106, h107, h98⟩ := bindE h98; obtain ⟨t108, h109, h98⟩ := bindE h98; obtain rfl := Option.some.inj h98; exact (rx_modO h109 (rx_call (ds := [enc (v_cell : Int), enc ((((v_first + (61 : Int)) + ((5 : Int) * x86)) + x99) : Int)]) (d := enc (r106 : Int)) ⟨_, _, r106, rfl, rfl, h107⟩ (ra_cons (rx_var (d := enc (v_cell : Int)) rfl) (ra_cons (rx_add (rx_add (rx_add (rx_var (d := enc (v_first : Int)) rfl) rx_int) (rx_mul rx_int (rx_var (d := enc (x86 : Int)) rfl) (.inl (by decide)))) (rx_var (d := enc (x99 : Int)) rfl)) ra_nil))) (rx_add (rx_var (d := enc (v33 : Int)) rfl) (len_nat (f := enc) (rxs_own (j := 2) (ds := s72.2.map enc) rfl rfl))))))) E S fun σ F H f E S => ?_
      replace fc := fc.trans f
      have E : EnvR K _ _ [.val (enc (v_cell : Int)), .val (enc (v_first : Int)), .val (enc (v_letters : Str)), .val (enc (v_widths : (List Int))), .val (enc (s72.1 : Int)), .val (enc (l27 : (List (Str × Int)))), .val (enc (v33 : Int)), .adr p_gates37, .val (enc (x86 : Int)), .un, .un, .val (enc (l110 : (List Int))), .adr p_outs75, .val (enc (t78 : Str)), .val (enc (t94 : Int)), .un, .un] := E
      have S : Hx K _ _ _ _ [⟨p_outs75, true, s85.map enc⟩, ⟨p_gates37, true, s72.2.map enc⟩] _ := S
      obtain ⟨t112, h113, h84⟩ := bindE h84
      obtain ⟨u114, h115, h84⟩ := bindE h84
      try (with_reducible refine nxD ?_)
      refine (st_app (j := 0) (ds := s85.map enc) (d := enc ((t112, (Tp.mk l110)) : (Str × (Tp Int)))) (appO_map enc h115) rfl (rx_tup (ds := [enc (t112 : Str), enc ((Tp.mk l110) : (Tp Int))]) (ra_cons (rx_ixS h113 (rx_var (d := enc (t78 : Str)) rfl) (rx_var (d := enc (x86 : Int)) rfl)) (ra_cons (rx_tuple (RX.s (rx_var (d := enc (l110 : (List Int))) rfl))) ra_nil))) ⟨_, rfl⟩ rfl E S fun F H f E S => ?_)
      replace fc := fc.trans f
      have E : EnvR K _ _ [.val (enc (v_cell : Int)), .val (enc (v_first : Int)), .val (enc (v_letters : Str)), .val (enc (v_widths : (List Int))), .val (enc (s72.1 : Int)), .val (enc (l27 : (List (Str × Int)))), .val (enc (v33 : Int)), .adr p_gates37, .val (enc (x86 : Int)), .un, .un, .val (enc (l110 : (List Int))), .adr p_outs75, .val (enc (t78 : Str)), .val (enc (t94 : Int)), .un, .un] := E
      have S : Hx K _ _ _ _ [⟨p_outs75, true, u114.map enc⟩, ⟨p_gates37, true, s72.2.map enc⟩] _ := S
      obtain rfl := Option.some.inj h84
      exact hN _ _ _ fc (E.weak ⟨.inl rfl, .inl rfl, .inl rfl, .inl rfl, .inl rfl, .inl rfl, .inl rfl, .inl rfl, .inr rfl, .inr rfl, .inr rfl, .inr rfl, .inl rfl, .inl rfl, .inr rfl, .inr rfl, .inr rfl, trivial⟩) S
  · refine ((rg_name (i := 8) (d := enc (x44 : Int)))).run _ _ _ _ _ E r S.fh fun σ E _ => ?_
    have E : EnvR K _ _ [.val (enc (v_cell : Int)), .val (enc (v_first : Int)), .val (enc (v_letters : Str)), .val (enc (v_widths : (List Int))), .val (enc (s43.1 : Int)), .val (enc (l27 : (List (Str × Int)))), .val (enc (v33 : Int)), .adr p_gates37, .val (enc (x44 : Int)), .un, .un, .un, .un, .un, .un, .un, .un] := E
    have S : Hx K _ _ _ _ [⟨p_gates37, true, s43.2.map enc⟩] _ := S
    have fc : Same F F := Same.refl F
    obtain ⟨r48, h49, h42⟩ := bindE h42
    try (with_reducible refine nxD ?_)
    with_reducible refine sq ?_
    refine st_set (i := 9) (d := enc (r48 : Int)) (rx_call (ds := [enc (v_cell : Int), enc (((v_first + (10 : Int)) + ((5 : Int) * x44)) : Int)]) (d := enc (r48 : Int)) ⟨_, _, r48, rfl, rfl, h49⟩ (ra_cons (rx_var (d := enc (v_cell : Int)) rfl) (ra_cons (rx_add (rx_add (rx_var (d := enc (v_first : Int)) rfl) rx_int) (rx_mul rx_int (rx_var (d := enc (x44 : Int)) rfl) (.inl (by decide)))) ra_nil))) E S fun σ F H f E S => ?_
    replace fc := fc.trans f
    have E : EnvR K _ _ [.val (enc (v_cell : Int)), .val (enc (v_first : Int)), .val (enc (v_letters : Str)), .val (enc (v_widths : (List Int))), .val (enc (s43.1 : Int)), .val (enc (l27 : (List (Str × Int)))), .val (enc (v33 : Int)), .adr p_gates37, .val (enc (x44 : Int)), .val (enc (r48 : Int)), .un, .un, .un, .un, .un, .un, .un] := E
    have S : Hx K _ _ _ _ [⟨p_gates37, true, s43.2.map enc⟩] _ := S
    obtain ⟨t50, h51, h42⟩ := bindE h42
    try (with_reducible refine nxD ?_)
    with_reducible refine sq ?_
    refine st_set (i := 10) (d := enc (t50 : Str)) (rx_ix (ds := List.map enc ([("and" : Str), ("or" : Str), ("xor" : Str), ("vote" : Str), ("not" : Str)] : (List Str))) (d := enc (t50 : Str)) (atI_map enc h51) (RXo.s (rxo_lst (ds := [enc (("and" : Str) : Str), enc (("or" : Str) : Str), enc (("xor" : Str) : Str), enc (("vote" : Str) : Str), enc (("not" : Str) : Str)]) (ra_cons (rx_str (x := ("and" : Str))) (ra_cons (rx_str (x := ("or" : Str))) (ra_cons (rx_str (x := ("xor" : Str))) (ra_cons (rx_str (x := ("vote" : Str))) (ra_cons (rx_str (x := ("not" : Str))) ra_nil))))))) (rx_mod (rx_var (d := enc (r48 : Int)) rfl) rx_int (by decide))) E S fun σ F H f E S => ?_
    replace fc := fc.trans f
    have E : EnvR K _ _ [.val (enc (v_cell : Int)), .val (enc (v_first : Int)), .val (enc (v_letters : Str)), .val (enc (v_widths : (List Int))), .val (enc (s43.1 : Int)), .val (enc (l27 : (List (Str × Int)))), .val (enc (v33 : Int)), .adr p_gates37, .val (enc (x44 : Int)), .val (enc (r48 : Int)), .val (enc (t50 : Str)), .un, .un, .un, .un, .un, .un] := E
    have S : Hx K _ _ _ _ [⟨p_gates37, true, s43.2.map enc⟩] _ := S
    obtain ⟨v52, h53, h42⟩ := letE h42
    try (with_reducible refine nxD ?_)
    with_reducible refine sq ?_
    refine st_set (i := 4) (d := enc (v52 : Int)) (rx_as (x := (((dlit [(("not" : Str), (1 : Int)), (("vote" : Str), (3 : Int))] t50).getD (2 : Int)) : Int)) h53 (rx_lget (kvs := [(("not" : Str), (1 : Int)), (("vote" : Str), (3 : Int))]) (by decide) (by decide +kernel) (rx_var (d := enc (t50 : Str)) rfl) rx_int)) E S fun σ F H f E S => ?_
    replace fc := fc.trans f
    have E : EnvR K _ _ [.val (enc (v_cell : Int)), .val (enc (v_first : Int)), .val (enc (v_letters : Str)), .val (enc (v_widths : (List Int))), .val (enc (v52 : Int)), .val (enc (l27 : (List (Str × Int)))), .val (enc (v33 : Int)), .adr p_gates37, .val (enc (x44 : Int)), .val (enc (r48 : Int)), .val (enc (t50 : Str)), .un, .un, .un, .un, .un, .un] := E
    have S : Hx K _ _ _ _ [⟨p_gates37, true, s43.2.map enc⟩] _ := S
    obtain ⟨l54, h55, h42⟩ := bindE h42
    obtain ⟨l68, h69, h42⟩ := bindE h42
    try (with_reducible refine nxD ?_)
    with_reducible refine sq ?_
    refine st_set (i := 11) (d := enc (l68 : (List Int))) (RXo.frz (rxo_mapO (eα := enc) (eβ := enc) (fun x57 => [.val (enc (v_cell : Int)), .val (enc (v_first : Int)), .val (enc (v_letters : Str)), .val (enc (v_widths : (List Int))), .val (enc (v52 : Int)), .val (enc (l27 : (List (Str × Int)))), .val (enc (v33 : Int)), .adr p_gates37, .val (enc (x44 : Int)), .val (enc (r48 : Int)), .val (enc (t50 : Str)), .un, .un, .un, .un, .val (enc (x57 : Int)), .un]) [15] (ri_range h55 (rx_var (d := enc (v52 : Int)) rfl)) h69 (by decide) (fun x57 _ => (rg_name (i := 15) (d := enc (x57 : Int)))) (fun x57 _ y h56 D58 acc59 => by obtain ⟨r64, h65, h56⟩ := bindE h56; obtain ⟨t66, h67, h56⟩ := bindE h56; obtain rfl := Option.some.inj h56; exact (rx_modO h67 (rx_call (ds := [enc (v_cell : Int), enc ((((v_first + (11 : Int)) + ((5 : Int) * x44)) + x57) : Int)]) (d := enc (r64 : Int)) ⟨_, _, r64, rfl, rfl, h65⟩ (ra_cons (rx_var (d := enc (v_cell : Int)) rfl) (ra_cons (rx_add (rx_add (rx_add (rx_var (d := enc (v_first : Int)) rfl) rx_int) (rx_mul rx_int (rx_var (d := enc (x44 : Int)) rfl) (.inl (by decide)))) (rx_var (d := enc (x57 : Int)) rfl)) ra_nil))) (rx_add (rx_var (d := enc (v33 : Int)) rfl) (rx_var (d := enc (x44 : Int)) rfl)))))) E S fun σ F H f E S => ?_
    replace fc := fc.trans f
    have E : EnvR K _ _ [.val (enc (v_cell : Int)), .val (enc (v_first : Int)), .val (enc (v_letters : Str)), .val (enc (v_widths : (List Int))), .val (enc (v52 : Int)), .val (enc (l27 : (List (Str × Int)))), .val (enc (v33 : Int)), .adr p_gates37, .val (enc (x44 : Int)), .val (enc (r48 : Int)), .val (enc (t50 : Str)), .val (enc (l68 : (List Int))), .un, .un, .un, .un, .un] := E
    have S : Hx K _ _ _ _ [⟨p_gates37, true, s43.2.map enc⟩] _ := S
    obtain ⟨u70, h71, h42⟩ := bindE h42
    try (with_reducible refine nxD ?_)
    refine (st_app (j := 0) (ds := s43.2.map enc) (d := enc ((T3.mk t50 (Tp.mk l68) (decide (((r48 / (5 : Int)) % (3 : Int)) = (0 : Int)))) : (T3 Str (Tp Int) Bool))) (appO_map enc h71) rfl (rx_tup (ds := [enc (t50 : Str), enc ((Tp.mk l68) : (Tp Int)), enc ((decide (((r48 / (5 : Int)) % (3 : Int)) = (0 : Int))) : Bool)]) (ra_cons (rx_var (d := enc (t50 : Str)) rfl) (ra_cons (rx_tuple (RX.s (rx_var (d := enc (l68 : (List Int))) rfl))) (ra_cons (rx_eqi (rx_mod (rx_fdiv (rx_var (d := enc (r48 : Int)) rfl) rx_int ⟨by decide, by decide⟩) rx_int (by decide)) rx_int) ra_nil)))) ⟨_, rfl⟩ rfl E S fun F H f E S => ?_)
    replace fc := fc.trans f
    have E : EnvR K _ _ [.val (enc (v_cell : Int)), .val (enc (v_first : Int)), .val (enc (v_letters : Str)), .val (enc (v_widths : (List Int))), .val (enc (v52 : Int)), .val (enc (l27 : (List (Str × Int)))), .val (enc (v33 : Int)), .adr p_gates37, .val (enc (x44 : Int)), .val (enc (r48 : Int)), .val (enc (t50 : Str)), .val (enc (l68 : (List Int))), .un, .un, .un, .un, .un] := E
    have S : Hx K _ _ _ _ [⟨p_gates37, true, u70.map enc⟩] _ := S
    obtain rfl := Option.some.inj h42
    exact hN _ _ _ fc (E.weak ⟨.inl rfl, .inl rfl, .inl rfl, .inl rfl, .inl rfl, .inl rfl, .inl rfl, .inl rfl, .inr rfl, .inr rfl, .inr rfl, .inr rfl, .inr rfl, .inr rfl, .inr rfl, .inr rfl, .inr rfl, trivial⟩) S
theorem sc__law_pairs : FnScope ["cell", "one", "other", "found", "place", "fits", "number", "out"] ["cell", "one", "other"] (defScope (top 24)) := ⟨rfl, rfl, rfl, by decide +kernel, rfl, by decide +kernel, by decide +kernel⟩
theorem ok__law_pairs (B : Bi mg) (D : Dfn K mg "_law_pairs" (top 24) ["cell", "one", "other"]) (C__law_stir : Cal P w K mg base 1 "_law_stir" ["cell", "k"] (SpP K R__law_stir)) : Cal P w K mg base 2 "_law_pairs" ["cell", "one", "other"] (SpP K R__law_pairs) := by
  refine D.cal sc__law_pairs (sp_len fun ds d h => by obtain ⟨_, _, _, _, rfl, _⟩ := h; rfl) fun f cdv A outer s H vs Q E hr h => ?_
  refine ⟨_, (pss_cons (ps_set (i := 3) sc__law_pairs.nd rfl (Or.inl rfl) (pe_lst pa_nil)) (pss_cons (ps_for PassesOwn.never rfl (pi_range1 rfl B.range (pa_cons (pe_callB (k_len_seq K) (by rfl) B.len PySem.boot_len (pa_cons (pe_ix (k_ix_tup K) (pv 2) pe_int (fun _ _ => rfl)) pa_nil)) pa_nil)) (pg_name (i := 4) sc__law_pairs.nd rfl (Or.inr rfl)) (pss_cons (ps_setLc (i := 5) (own := [(("out" : Str), 7)]) (g := (gName 7)) rfl sc__law_pairs.nd rfl rfl (sw_true rfl rfl rfl (by decide +kernel)) (pi_range1 rfl B.range (pa_cons (pe_callB (k_len_seq K) (by rfl) B.len PySem.boot_len (pa_cons (pe_ix (k_ix_tup K) (pv 1) pe_int (fun _ _ => rfl)) pa_nil)) pa_nil)) (blkOk_by (by kernel_rfl)) (fun _ _ _ _ _ => (pg_name (i := 7) sc__law_pairs.nd rfl (Or.inl rfl))) (fun _ _ _ _ _ => (pts_one (pt_cmpR op_eq (pe_callB (k_len_seq K) (by rfl) B.len PySem.boot_len (pa_cons (pe_ix (k_ix_tup K) (pe_ix (k_ix_list K) (pe_ix (k_ix_tup K) (pv 1) pe_int (fun _ _ => rfl)) (pv 7) (fun _ _ => rfl)) pe_int (fun _ _ => rfl)) pa_nil)) (pe_ix (k_ix_tup K) (pe_ix (k_ix_list K) (pe_ix (k_ix_tup K) (pv 2) pe_int (fun _ _ => rfl)) (pv 4) (fun _ _ => rfl)) pe_int (fun _ _ => rfl)) (nomark _)))) (fun _ _ _ _ _ => (pv 7))) (pss_cons (ps_set (i := 6) sc__law_pairs.nd rfl (Or.inl rfl) (pe_cal C__law_stir hr (pa_cons (pv 0) (pa_cons (pe_op op_add pe_int (pv 4)) pa_nil)))) (pss_one (ps_if (PW.pt (pw_and (pt_cmpR (k_neD K hr.units) (pv 5) (pe_lst pa_nil) (nomark _)) (pw_and1 (pt_cmpR op_gt (pe_op op_mod (pv 6) pe_int) pe_int (nomark _))))) (pss_one (ps_expr (pe_bm PySem.F.plainAttrs_list PySem.F.slot_list_append PySem.F.type_list_append mt_append (pv 3) (pa_cons (pe_tup (pa_cons (pe_ix (k_ix_list K) (pv 5) (pe_op op_mod (pe_op op_fdiv (pv 6) pe_int) (pe_callB (k_len_seq K) (by rfl) B.len PySem.boot_len (pa_cons (pv 5) pa_nil))) (fun _ _ => rfl)) (pa_cons (pv 4) pa_nil))) pa_nil)))) pss_nil))))) (pss_cons (ps_if (pt_cmpR op_eq (pe_op op_mod (pe_cal C__law_stir hr (pa_cons (pv 0) (pa_cons pe_int pa_nil))) pe_int) pe_int (nomark _)) (pss_one (ps_set (i := 3) sc__law_pairs.nd rfl (Or.inl rfl) (k_revL K (pv 3)))) pss_nil) (pss_one (ps_ret (pv 3)))))), ?_⟩
  obtain ⟨F, ds, d, hw, hF, ⟨v_cell, v_one, v_other, rr, rfl, rfl, hm0⟩, k⟩ := h
  have E : EnvR K F _ [.val (enc (v_cell : Int)), .val (enc (v_one : (T3 (List (Str × Int)) (List (T3 Str (Tp Int) Bool)) (List (Str × (Tp Int)))))), .val (enc (v_other : (T3 (List (Str × Int)) (List (T3 Str (Tp Int) Bool)) (List (Str × (Tp Int)))))), .un, .un, .un, .un, .un] := EnvR.start (N := ["cell", "one", "other", "found", "place", "fits", "number", "out"]) (AsR.of_all hw)
  have S := Hx.start (K := K) hF
  have fc : Same F F := Same.refl F
  unfold m__law_pairs at hm0
  obtain ⟨v1, h2, hm0⟩ := letE hm0
  try (with_reducible refine nxD ?_)
  with_reducible refine sq ?_
  refine st_setO (i := 3) (ds := v1.map enc) (rxo_as (f := enc) h2 (rxo_lst (ds := []) ra_nil)) E S fun p_found3 σ F H f E S => ?_
  replace fc := fc.trans f
  have E : EnvR K _ _ [.val (enc (v_cell : Int)), .val (enc (v_one : (T3 (List (Str × Int)) (List (T3 Str (Tp Int) Bool)) (List (Str × (Tp Int)))))), .val (enc (v_other : (T3 (List (Str × Int)) (List (T3 Str (Tp Int) Bool)) (List (Str × (Tp Int)))))), .adr p_found3, .un, .un, .un, .un] := E
  have S : Hx K _ _ _ _ [⟨p_found3, true, v1.map enc⟩] _ := S
  obtain ⟨s35, h8, hm0⟩ := bindE hm0
  try (with_reducible refine nxD ?_)
  with_reducible refine sq ?_
  refine st_forS (eα := enc) (fun s5 => [.val (enc (v_cell : Int)), .val (enc (v_one : (T3 (List (Str × Int)) (List (T3 Str (Tp Int) Bool)) (List (Str × (Tp Int)))))), .val (enc (v_other : (T3 (List (Str × Int)) (List (T3 Str (Tp Int) Bool)) (List (Str × (Tp Int)))))), .adr p_found3, .un, .un, .un, .un]) (fun s5 => [⟨p_found3, true, s5.map enc⟩]) E S (ri_rangeLenM (f := enc) (RX.s (rx_ixT (ds := [enc (v_other.a : (List (Str × Int))), enc (v_other.b : (List (T3 Str (Tp Int) Bool))), enc (v_other.c : (List (Str × (Tp Int))))]) (d := enc (v_other.a : (List (Str × Int)))) rfl (rx_var (d := enc (v_other : (T3 (List (Str × Int)) (List (T3 Str (Tp Int) Bool)) (List (Str × (Tp Int)))))) rfl) rx_int))) h8 ⟨.inl rfl, .inl rfl, .inl rfl, .inl rfl, .inr rfl, .inr rfl, .inr rfl, .inr rfl, trivial⟩ (fun σ F H f E S => ?_) (fun x6 _ s5 s' h4 σ F H v _ E S r N B hN => ?_)
  · replace fc := fc.trans f
    have E : EnvR K _ _ [.val (enc (v_cell : Int)), .val (enc (v_one : (T3 (List (Str × Int)) (List (T3 Str (Tp Int) Bool)) (List (Str × (Tp Int)))))), .val (enc (v_other : (T3 (List (Str × Int)) (List (T3 Str (Tp Int) Bool)) (List (Str × (Tp Int)))))), .adr p_found3, .un, .un, .un, .un] := E
    have S : Hx K _ _ _ _ [⟨p_found3, true, s35.map enc⟩] _ := S
    obtain ⟨F, f, E, S⟩ := frz_at (i := 3) (j := 0) rfl rfl E S
    have E : EnvR K F _ [.val (enc (v_cell : Int)), .val (enc (v_one : (T3 (List (Str × Int)) (List (T3 Str (Tp Int) Bool)) (List (Str × (Tp Int)))))), .val (enc (v_other : (T3 (List (Str × Int)) (List (T3 Str (Tp Int) Bool)) (List (Str × (Tp Int)))))), .val (enc (s35 : (List (Int × Int)))), .un, .un, .un, .un] := E
    have S : Hx K _ _ _ F [] _ := S
    replace fc := fc.trans f
    obtain ⟨r36, h37, hm0⟩ := bindE hm0
    obtain ⟨j38, h39, hm0⟩ := bindE hm0
    try (with_reducible refine nxD ?_)
    with_reducible refine sq ?_
    refine st_ifJ (b := (decide ((r36 % (2 : Int)) = (0 : Int)))) [.val (enc (v_cell : Int)), .val (enc (v_one : (T3 (List (Str × Int)) (List (T3 Str (Tp Int) Bool)) (List (Str × (Tp Int)))))), .val (enc (v_other : (T3 (List (Str × Int)) (List (T3 Str (Tp Int) Bool)) (List (Str × (Tp Int)))))), .val (enc (j38 : (List (Int × Int)))), .un, .un, .un, .un] [] (rt_val (rx_eqi (rx_mod (rx_call (ds := [enc (v_cell : Int), enc ((84 : Int) : Int)]) (d := enc (r36 : Int)) ⟨_, _, r36, rfl, rfl, h37⟩ (ra_cons (rx_var (d := enc (v_cell : Int)) rfl) (ra_cons rx_int ra_nil))) rx_int (by decide)) rx_int)) E S (fun σ F H f E S => ?_) (fun hc F H rest f E S => ?_) (fun hc F H rest f E S => ?_)
    · replace fc := fc.trans f
      obtain rfl := Option.some.inj hm0
      -- return
      try (with_reducible refine nxD ?_)
      refine st_ret (d := enc (j38 : (List (Int × Int)))) (rx_var (d := enc (j38 : (List (Int × Int)))) rfl) E S fun v F H f S r => ?_
      exact k v F H S.stp r
    · rw [if_pos hc] at h39
      have fc := f
      try (with_reducible refine nxD ?_)
      refine (st_setO (i := 3) (ds := s35.reverse.map enc) (rxo_revM (f := enc) (RX.s (rx_var (d := enc (s35 : (List (Int × Int)))) rfl))) E S fun p_found40 σ F H f E S => ?_)
      replace fc := fc.trans f
      have E : EnvR K _ _ [.val (enc (v_cell : Int)), .val (enc (v_one : (T3 (List (Str × Int)) (List (T3 Str (Tp Int) Bool)) (List (Str × (Tp Int)))))), .val (enc (v_other : (T3 (List (Str × Int)) (List (T3 Str (Tp Int) Bool)) (List (Str × (Tp Int)))))), .adr p_found40, .un, .un, .un, .un] := E
      have S : Hx K _ _ _ _ [⟨p_found40, true, s35.reverse.map enc⟩] _ := S
      obtain ⟨F, f, E, S⟩ := frz_at (i := 3) (j := 0) rfl rfl E S
      have E : EnvR K F _ [.val (enc (v_cell : Int)), .val (enc (v_one : (T3 (List (Str × Int)) (List (T3 Str (Tp Int) Bool)) (List (Str × (Tp Int)))))), .val (enc (v_other : (T3 (List (Str × Int)) (List (T3 Str (Tp Int) Bool)) (List (Str × (Tp Int)))))), .val (enc (s35.reverse : (List (Int × Int)))), .un, .un, .un, .un] := E
      have S : Hx K _ _ _ F [] _ := S
      replace fc := fc.trans f
      obtain rfl := Option.some.inj h39
      exact rest _ _ _ fc (E.weak ⟨.inl rfl, .inl rfl, .inl rfl, .inl rfl, .inr rfl, .inr rfl, .inr rfl, .inr rfl, trivial⟩) S
    · rw [if_neg (by rw [hc]; decide)] at h39
      have fc := f
      refine nxt ?_
      obtain rfl := Option.some.inj h39
      exact rest _ _ _ fc (E.weak ⟨.inl rfl, .inl rfl, .inl rfl, .inl rfl, .inr rfl, .inr rfl, .inr rfl, .inr rfl, trivial⟩) S
  · refine ((rg_name (i := 4) (d := enc (x6 : Int)))).run _ _ _ _ _ E r S.fh fun σ E _ => ?_
    have E : EnvR K _ _ [.val (enc (v_cell : Int)), .val (enc (v_one : (T3 (List (Str × Int)) (List (T3 Str (Tp Int) Bool)) (List (Str × (Tp Int)))))), .val (enc (v_other : (T3 (List (Str × Int)) (List (T3 Str (Tp Int) Bool)) (List (Str × (Tp Int)))))), .adr p_found3, .val (enc (x6 : Int)), .un, .un, .un] := E
    have S : Hx K _ _ _ _ [⟨p_found3, true, s5.map enc⟩] _ := S
    have fc : Same F F := Same.refl F
    obtain ⟨l22, h23, h4⟩ := bindE h4
    try (with_reducible refine nxD ?_)
    with_reducible refine sq ?_
    refine st_set (i := 5) (d := enc (l22 : (List Int))) (RXo.frz (rxo_filtO (eα := enc) (eβ := enc) (fun x11 => [.val (enc (v_cell : Int)), .val (enc (v_one : (T3 (List (Str × Int)) (List (T3 Str (Tp Int) Bool)) (List (Str × (Tp Int)))))), .val (enc (v_other : (T3 (List (Str × Int)) (List (T3 Str (Tp Int) Bool)) (List (Str × (Tp Int)))))), .adr p_found3, .val (enc (x6 : Int)), .un, .un, .val (enc (x11 : Int))]) [7] (ri_rangeLenM (f := enc) (RX.s (rx_ixT (ds := [enc (v_one.a : (List (Str × Int))), enc (v_one.b : (List (T3 Str (Tp Int) Bool))), enc (v_one.c : (List (Str × (Tp Int))))]) (d := enc (v_one.c : (List (Str × (Tp Int))))) rfl (rx_var (d := enc (v_one : (T3 (List (Str × Int)) (List (T3 Str (Tp Int) Bool)) (List (Str × (Tp Int)))))) rfl) rx_int))) h23 (by decide) (fun x11 _ => (rg_name (i := 7) (d := enc (x11 : Int)))) (fun x11 _ y h10 D12 acc13 => by obtain ⟨t18, h19, h10⟩ := bindE h10; obtain ⟨t20, h21, h10⟩ := bindE h10; obtain rfl := Option.some.inj h10; exact (rt_val (rx_eqi (len_natT (f := enc) (rx_ixT (ds := [enc (t18.1 : Str), enc (t18.2 : (Tp Int))]) (d := enc (t18.2 : (Tp Int))) rfl (rx_ix (atI_map enc h19) (RX.s (rx_ixT (ds := [enc (v_one.a : (List (Str × Int))), enc (v_one.b : (List (T3 Str (Tp Int) Bool))), enc (v_one.c : (List (Str × (Tp Int))))]) (d := enc (v_one.c : (List (Str × (Tp Int))))) rfl (rx_var (d := enc (v_one : (T3 (List (Str × Int)) (List (T3 Str (Tp Int) Bool)) (List (Str × (Tp Int)))))) rfl) rx_int)) (rx_var (d := enc (x11 : Int)) rfl)) rx_int)) (rx_ixT (ds := [enc (t20.1 : Str), enc (t20.2 : Int)]) (d := enc (t20.2 : Int)) rfl (rx_ix (atI_map enc h21) (RX.s (rx_ixT (ds := [enc (v_other.a : (List (Str × Int))), enc (v_other.b : (List (T3 Str (Tp Int) Bool))), enc (v_other.c : (List (Str × (Tp Int))))]) (d := enc (v_other.a : (List (Str × Int)))) rfl (rx_var (d := enc (v_other : (T3 (List (Str × Int)) (List (T3 Str (Tp Int) Bool)) (List (Str × (Tp Int)))))) rfl) rx_int)) (rx_var (d := enc (x6 : Int)) rfl)) rx_int)))) (fun x11 _ y h10 D12 acc13 => by obtain rfl := Option.some.inj h10; exact (rx_var (d := enc (x11 : Int)) rfl)))) E S fun σ F H f E S => ?_
    replace fc := fc.trans f
    have E : EnvR K _ _ [.val (enc (v_cell : Int)), .val (enc (v_one : (T3 (List (Str × Int)) (List (T3 Str (Tp Int) Bool)) (List (Str × (Tp Int)))))), .val (enc (v_other : (T3 (List (Str × Int)) (List (T3 Str (Tp Int) Bool)) (List (Str × (Tp Int)))))), .adr p_found3, .val (enc (x6 : Int)), .val (enc (l22 : (List Int))), .un, .un] := E
    have S : Hx K _ _ _ _ [⟨p_found3, true, s5.map enc⟩] _ := S
    obtain ⟨r24, h25, h4⟩ := bindE h4
    try (with_reducible refine nxD ?_)
    with_reducible refine sq ?_
    refine st_set (i := 6) (d := enc (r24 : Int)) (rx_call (ds := [enc (v_cell : Int), enc (((80 : Int) + x6) : Int)]) (d := enc (r24 : Int)) ⟨_, _, r24, rfl, rfl, h25⟩ (ra_cons (rx_var (d := enc (v_cell : Int)) rfl) (ra_cons (rx_add rx_int (rx_var (d := enc (x6 : Int)) rfl)) ra_nil))) E S fun σ F H f E S => ?_
    replace fc := fc.trans f
    have E : EnvR K _ _ [.val (enc (v_cell : Int)), .val (enc (v_one : (T3 (List (Str × Int)) (List (T3 Str (Tp Int) Bool)) (List (Str × (Tp Int)))))), .val (enc (v_other : (T3 (List (Str × Int)) (List (T3 Str (Tp Int) Bool)) (List (Str × (Tp Int)))))), .adr p_found3, .val (enc (x6 : Int)), .val (enc (l22 : (List Int))), .val (enc (r24 : Int)), .un] := E
    have S : Hx K _ _ _ _ [⟨p_found3, true, s5.map enc⟩] _ := S
    obtain ⟨j27, h28, h4⟩ := bindE h4
    try (with_reducible refine nxD ?_)
    refine (st_ifJ (b := ((!decide ((l22 : (List Int)) = ([] : (List Int)))) && (decide ((0 : Int) < (r24 % (4 : Int)))))) [.val (enc (v_cell : Int)), .val (enc (v_one : (T3 (List (Str × Int)) (List (T3 Str (Tp Int) Bool)) (List (Str × (Tp Int)))))), .val (enc (v_other : (T3 (List (Str × Int)) (List (T3 Str (Tp Int) Bool)) (List (Str × (Tp Int)))))), .adr p_found3, .val (enc (x6 : Int)), .val (enc (l22 : (List Int))), .val (enc (r24 : Int)), .un] [⟨p_found3, true, j27.map enc⟩] (rt_and2 (rt_val (rx_neT (x := (l22 : (List Int))) (y := (([] : (List Int)) : (List Int))) (RX.h (rx_var (d := enc (l22 : (List Int))) rfl)) (RX.h (RXo.frz (rxo_lst (ds := []) ra_nil))))) (rt_val (rx_gt (rx_mod (rx_var (d := enc (r24 : Int)) rfl) rx_int (by decide)) rx_int))) E S (fun σ F H f E S => ?_) (fun hc F H rest f E S => ?_) (fun hc F H rest f E S => ?_))
    · replace fc := fc.trans f
      obtain rfl := Option.some.inj h4
      exact hN _ _ _ fc (E.weak ⟨.inl rfl, .inl rfl, .inl rfl, .inl rfl, .inr rfl, .inr rfl, .inr rfl, .inr rfl, trivial⟩) S
    · rw [if_pos hc] at h28
      have fc := f
      obtain ⟨t29, h30, h28⟩ := bindE h28
      obtain ⟨t31, h32, h28⟩ := bindE h28
      obtain ⟨u33, h34, h28⟩ := bindE h28
      try (with_reducible refine nxD ?_)
      refine (st_app (j := 0) (ds := s5.map enc) (d := enc ((t31, x6) : (Int × Int))) (appO_map enc h34) rfl (rx_tup (ds := [enc (t31 : Int), enc (x6 : Int)]) (ra_cons (rx_ix (atI_map enc h32) (RX.s (rx_var (d := enc (l22 : (List Int))) rfl)) (rx_modO h30 (rx_fdiv (rx_var (d := enc (r24 : Int)) rfl) rx_int ⟨by decide, by decide⟩) (len_nat (f := enc) (RX.s (rx_var (d := enc (l22 : (List Int))) rfl))))) (ra_cons (rx_var (d := enc (x6 : Int)) rfl) ra_nil))) ⟨_, rfl⟩ rfl E S fun F H f E S => ?_)
      replace fc := fc.trans f
      have E : EnvR K _ _ [.val (enc (v_cell : Int)), .val (enc (v_one : (T3 (List (Str × Int)) (List (T3 Str (Tp Int) Bool)) (List (Str × (Tp Int)))))), .val (enc (v_other : (T3 (List (Str × Int)) (List (T3 Str (Tp Int) Bool)) (List (Str × (Tp Int)))))), .adr p_found3, .val (enc (x6 : Int)), .val (enc (l22 : (List Int))), .val (enc (r24 : Int)), .un] := E
      have S : Hx K _ _ _ _ [⟨p_found3, true, u33.map enc⟩] _ := S
      obtain rfl := Option.some.inj h28
      exact rest _ _ _ fc (E.weak ⟨.inl rfl, .inl rfl, .inl rfl, .inl rfl, .inl rfl, .inl rfl, .inl rfl, .inr rfl, trivial⟩) S
    · rw [if_neg (by rw [hc]; decide)] at h28
      have fc := f
      refine nxt ?_
      obtain rfl := Option.some.inj h28
      exact rest _ _ _ fc (E.weak ⟨.inl rfl, .inl rfl, .inl rfl, .inl rfl, .inl rfl, .inl rfl, .inl rfl, .inr rfl, trivial⟩) S
theorem sc_need_fit : FnScope ["one", "other", "pairs", "out", "place", "places"] ["one", "other", "pairs"] (defScope (top 15)) := ⟨rfl, rfl, rfl, by decide +kernel, rfl, by decide +kernel, by decide +kernel⟩
theorem ok_need_fit (B : Bi mg) (D : Dfn K mg "need_fit" (top 15) ["one", "other", "pairs"]) : Cal P w K mg base 1 "need_fit" ["one", "other", "pairs"] (SpP K R_need_fit) := by
  refine D.cal sc_need_fit (sp_len fun ds d h => by obtain ⟨_, _, _, _, rfl, _⟩ := h; rfl) fun f cdv A outer s H vs Q E hr h => ?_
  refine ⟨_, (pss_cons (ps_for PassesOwn.never rfl (k_pi_list K (pv 2)) (pg_tup rfl (pgs_cons (pg_name (i := 3) sc_need_fit.nd rfl (Or.inl rfl)) (pgs_cons (pg_name (i := 4) sc_need_fit.nd rfl (Or.inl rfl)) pgs_nil))) (pss_one (ps_if (pt_cmpR op_ne (pe_callB (k_len_seq K) (by rfl) B.len PySem.boot_len (pa_cons (pe_ix (k_ix_tup K) (pe_ix (k_ix_list K) (pe_ix (k_ix_tup K) (pv 0) pe_int (fun _ _ => rfl)) (pv 3) (fun _ _ => rfl)) pe_int (fun _ _ => rfl)) pa_nil)) (pe_ix (k_ix_tup K) (pe_ix (k_ix_list K) (pe_ix (k_ix_tup K) (pv 1) pe_int (fun _ _ => rfl)) (pv 4) (fun _ _ => rfl)) pe_int (fun _ _ => rfl)) (nomark _)) (pss_one L2.ps_never) pss_nil))) (pss_cons (ps_setLc (i := 5) (own := [(("out" : Str), 3), (("place" : Str), 4)]) (g := (gTup K 2 (gCons (gName 3) (gCons (gName 4) gNil)))) (tt := tYes) rfl sc_need_fit.nd rfl rfl (sw_true rfl rfl rfl (by decide +kernel)) (k_pi_list K (pv 2)) (blkOk_by (by kernel_rfl)) (fun _ _ _ _ _ => (pg_tup rfl (pgs_cons (pg_name (i := 3) sc_need_fit.nd rfl (Or.inl rfl)) (pgs_cons (pg_name (i := 4) sc_need_fit.nd rfl (Or.inl rfl)) pgs_nil)))) (fun _ _ _ _ _ => pts_nil) (fun _ _ _ _ _ => (pv 4))) (pss_one (ps_if (pt_cmpR op_ne (pe_callB (k_len_seq K) (by rfl) B.len PySem.boot_len (pa_cons (pv 5) pa_nil)) (pe_callB (k_len_seq K) (by rfl) B.len PySem.boot_len (pa_cons (pe_callB (k_sortedI2 w) (by rfl) B.sorted (by decide +kernel) (pa_cons (pe_callTy (k_setOfI K w) (by rfl) B.set (by decide +kernel) (pa_cons (pv 5) pa_nil)) pa_nil)) pa_nil)) (nomark _)) (pss_one L2.ps_never) pss_nil)))), ?_⟩
  obtain ⟨F, ds, d, hw, hF, ⟨v_one, v_other, v_pairs, rr, rfl, rfl, hm0⟩, k⟩ := h
  have E : EnvR K F _ [.val (enc (v_one : (T3 (List (Str × Int)) (List (T3 Str (Tp Int) Bool)) (List (Str × (Tp Int)))))), .val (enc (v_other : (T3 (List (Str × Int)) (List (T3 Str (Tp Int) Bool)) (List (Str × (Tp Int)))))), .val (enc (v_pairs : (List (Int × Int)))), .un, .un, .un] := EnvR.start (N := ["one", "other", "pairs", "out", "place", "places"]) (AsR.of_all hw)
  have S := Hx.start (K := K) hF
  have fc : Same F F := Same.refl F
  unfold m_need_fit at hm0
  obtain ⟨fl4, h5, hm0⟩ := bindE hm0
  try (with_reducible refine nxD ?_)
  with_reducible refine sq ?_
  refine st_forF (eα := enc) (fun s2 => [.val (enc (v_one : (T3 (List (Str × Int)) (List (T3 Str (Tp Int) Bool)) (List (Str × (Tp Int)))))), .val (enc (v_other : (T3 (List (Str × Int)) (List (T3 Str (Tp Int) Bool)) (List (Str × (Tp Int)))))), .val (enc (v_pairs : (List (Int × Int)))), .un, .un, .un]) (fun s2 => []) E S (ri_list (ys := v_pairs.map enc) (rx_var (d := enc (v_pairs : (List (Int × Int)))) rfl)) h5 ⟨.inl rfl, .inl rfl, .inl rfl, .inr rfl, .inr rfl, .inr rfl, trivial⟩ (fun s11 e σ F H f E S => ?_) (fun x3 _ s2 out h1 hrt6 σ F H v _ E S r N B hN hB => ?_)
  · subst e
    replace fc := fc.trans f
    simp only [flK] at hm0
    obtain ⟨v16, h17, hm0⟩ := letE hm0
    try (with_reducible refine nxD ?_)
    with_reducible refine sq ?_
    refine st_set (i := 5) (d := enc (v16 : (List Int))) (rx_as (x := ((v_pairs.map (fun (x13 : (Int × Int)) => (x13.2 : Int))) : (List Int))) h17 (RXo.frz (rxo_map (eα := enc) (eβ := enc) (f := (fun (x13 : (Int × Int)) => (x13.2 : Int))) (fun x13 => [.val (enc (v_one : (T3 (List (Str × Int)) (List (T3 Str (Tp Int) Bool)) (List (Str × (Tp Int)))))), .val (enc (v_other : (T3 (List (Str × Int)) (List (T3 Str (Tp Int) Bool)) (List (Str × (Tp Int)))))), .val (enc (v_pairs : (List (Int × Int)))), .val (enc (x13.1 : Int)), .val (enc (x13.2 : Int)), .un]) [3, 4] (ri_list (ys := v_pairs.map enc) (rx_var (d := enc (v_pairs : (List (Int × Int)))) rfl)) (by decide) (fun x13 _ => (rg_tup (ds := [enc (x13.1 : Int), enc (x13.2 : Int)]) (RGs.cons (rg_name (i := 3) (d := enc (x13.1 : Int))) (RGs.cons (rg_name (i := 4) (d := enc (x13.2 : Int))) RGs.nil)))) (fun x13 _ D14 acc15 => (rx_var (d := enc (x13.2 : Int)) rfl))))) E S fun σ F H f E S => ?_
    replace fc := fc.trans f
    have E : EnvR K _ _ [.val (enc (v_one : (T3 (List (Str × Int)) (List (T3 Str (Tp Int) Bool)) (List (Str × (Tp Int)))))), .val (enc (v_other : (T3 (List (Str × Int)) (List (T3 Str (Tp Int) Bool)) (List (Str × (Tp Int)))))), .val (enc (v_pairs : (List (Int × Int)))), .un, .un, .val (enc (v16 : (List Int)))] := E
    have S : Hx K _ _ _ _ [] _ := S
    obtain ⟨n18, h19, hm0⟩ := bindE hm0
    try (with_reducible refine nxD ?_)
    refine (st_if (b := (!decide ((v16.length : Int) = n18))) (rt_val (rx_nei (len_nat (f := enc) (RX.s (rx_var (d := enc (v16 : (List Int))) rfl))) (rx_cardI (w := w) h19 (RX.s (rx_var (d := enc (v16 : (List Int))) rfl))))) E S (fun hc F H f E S => ?_) (fun hc F H f E S => ?_))
    · rw [if_pos hc] at hm0
      replace fc := fc.trans f
      cases hm0
    · rw [if_neg (by rw [hc]; decide)] at hm0
      replace fc := fc.trans f
      refine nxt ?_
      obtain rfl := Option.some.inj hm0
      try (with_reducible refine nxD ?_)
      exact k .non _ _ S.stp .non
  · refine ((rg_tup (ds := [enc (x3.1 : Int), enc (x3.2 : Int)]) (RGs.cons (rg_name (i := 3) (d := enc (x3.1 : Int))) (RGs.cons (rg_name (i := 4) (d := enc (x3.2 : Int))) RGs.nil)))).run _ _ _ _ _ E r S.fh fun σ E _ => ?_
    have E : EnvR K _ _ [.val (enc (v_one : (T3 (List (Str × Int)) (List (T3 Str (Tp Int) Bool)) (List (Str × (Tp Int)))))), .val (enc (v_other : (T3 (List (Str × Int)) (List (T3 Str (Tp Int) Bool)) (List (Str × (Tp Int)))))), .val (enc (v_pairs : (List (Int × Int)))), .val (enc (x3.1 : Int)), .val (enc (x3.2 : Int)), .un] := E
    have S : Hx K _ _ _ _ [] _ := S
    have fc : Same F F := Same.refl F
    obtain ⟨t7, h8, h1⟩ := bindE h1
    obtain ⟨t9, h10, h1⟩ := bindE h1
    try (with_reducible refine nxD ?_)
    refine (st_if (b := (!decide ((t7.2.l.length : Int) = t9.2))) (rt_val (rx_nei (len_natT (f := enc) (rx_ixT (ds := [enc (t7.1 : Str), enc (t7.2 : (Tp Int))]) (d := enc (t7.2 : (Tp Int))) rfl (rx_ix (atI_map enc h8) (RX.s (rx_ixT (ds := [enc (v_one.a : (List (Str × Int))), enc (v_one.b : (List (T3 Str (Tp Int) Bool))), enc (v_one.c : (List (Str × (Tp Int))))]) (d := enc (v_one.c : (List (Str × (Tp Int))))) rfl (rx_var (d := enc (v_one : (T3 (List (Str × Int)) (List (T3 Str (Tp Int) Bool)) (List (Str × (Tp Int)))))) rfl) rx_int)) (rx_var (d := enc (x3.1 : Int)) rfl)) rx_int)) (rx_ixT (ds := [enc (t9.1 : Str), enc (t9.2 : Int)]) (d := enc (t9.2 : Int)) rfl (rx_ix (atI_map enc h10) (RX.s (rx_ixT (ds := [enc (v_other.a : (List (Str × Int))), enc (v_other.b : (List (T3 Str (Tp Int) Bool))), enc (v_other.c : (List (Str × (Tp Int))))]) (d := enc (v_other.a : (List (Str × Int)))) rfl (rx_var (d := enc (v_other : (T3 (List (Str × Int)) (List (T3 Str (Tp Int) Bool)) (List (Str × (Tp Int)))))) rfl) rx_int)) (rx_var (d := enc (x3.2 : Int)) rfl)) rx_int))) E S (fun hc F H f E S => ?_) (fun hc F H f E S => ?_))
    · rw [if_pos hc] at h1
      replace fc := fc.trans f
      cases h1
    · rw [if_neg (by rw [hc]; decide)] at h1
      replace fc := fc.trans f
      refine nxt ?_
      obtain rfl := Option.some.inj h1
      exact hN _ rfl _ _ _ fc (E.weak ⟨.inl rfl, .inl rfl, .inl rfl, .inr rfl, .inr rfl, .inr rfl, trivial⟩) S
theorem sc_need_names : FnScope ["some", "names", "one"] ["some"] (defScope (top 16)) := ⟨rfl, rfl, rfl, by decide +kernel, rfl, by decide +kernel, by decide +kernel⟩
theorem ok_need_names (B : Bi mg) (D : Dfn K mg "need_names" (top 16) ["some"]) : Cal P w K mg base 1 "need_names" ["some"] (SpP K R_need_names) := by
  refine D.cal sc_need_names (sp_len fun ds d h => by obtain ⟨_, _, rfl, _⟩ := h; rfl) fun f cdv A outer s H vs Q E hr h => ?_
  refine ⟨_, (pss_cons (ps_setLc (i := 1) (own := [(("one" : Str), 2)]) (g := (gName 2)) (tt := tYes) rfl sc_need_names.nd rfl rfl (sw_true rfl rfl rfl (by decide +kernel)) (k_pi_list K (pv 0)) (blkOk_by (by kernel_rfl)) (fun _ _ _ _ _ => (pg_name (i := 2) sc_need_names.nd rfl (Or.inl rfl))) (fun _ _ _ _ _ => pts_nil) (fun _ _ _ _ _ => (pe_ix (k_ix_tup K) (pv 2) pe_int (fun _ _ => rfl)))) (pss_one (ps_if (pt_cmpR op_ne (pe_callB (k_len_seq K) (by rfl) B.len PySem.boot_len (pa_cons (pv 1) pa_nil)) (pe_callB (k_len_seq K) (by rfl) B.len PySem.boot_len (pa_cons (pe_callB (k_sortedTX w) (by rfl) B.sorted (by decide +kernel) (pa_cons (pe_callTy (k_setOfS K w) (by rfl) B.set (by decide +kernel) (pa_cons (pv 1) pa_nil)) pa_nil)) pa_nil)) (nomark _)) (pss_one L2.ps_never) pss_nil))), ?_⟩
  obtain ⟨F, ds, d, hw, hF, ⟨v_some, rr, rfl, rfl, hm0⟩, k⟩ := h
  have E : EnvR K F _ [.val (enc (v_some : (List (Str × IT)))), .un, .un] := EnvR.start (N := ["some", "names", "one"]) (AsR.of_all hw)
  have S := Hx.start (K := K) hF
  have fc : Same F F := Same.refl F
  unfold m_need_names at hm0
  obtain ⟨v5, h6, hm0⟩ := letE hm0
  try (with_reducible refine nxD ?_)
  with_reducible refine sq ?_
  refine st_set (i := 1) (d := enc (v5 : (List Str))) (rx_as (x := ((v_some.map (fun (x2 : (Str × IT)) => (x2.1 : Str))) : (List Str))) h6 (RXo.frz (rxo_map (eα := enc) (eβ := enc) (f := (fun (x2 : (Str × IT)) => (x2.1 : Str))) (fun x2 => [.val (enc (v_some : (List (Str × IT)))), .un, .val (enc (x2 : (Str × IT)))]) [2] (ri_list (ys := v_some.map enc) (rx_var (d := enc (v_some : (List (Str × IT)))) rfl)) (by decide) (fun x2 _ => (rg_name (i := 2) (d := enc (x2 : (Str × IT))))) (fun x2 _ D3 acc4 => (rx_ixT (ds := [enc (x2.1 : Str), enc (x2.2 : IT)]) (d := enc (x2.1 : Str)) rfl (rx_var (d := enc (x2 : (Str × IT))) rfl) rx_int))))) E S fun σ F H f E S => ?_
  replace fc := fc.trans f
  have E : EnvR K _ _ [.val (enc (v_some : (List (Str × IT)))), .val (enc (v5 : (List Str))), .un] := E
  have S : Hx K _ _ _ _ [] _ := S
  obtain ⟨n7, h8, hm0⟩ := bindE hm0
  try (with_reducible refine nxD ?_)
  refine (st_if (b := (!decide ((v5.length : Int) = n7))) (rt_val (rx_nei (len_nat (f := enc) (RX.s (rx_var (d := enc (v5 : (List Str))) rfl))) (rx_cardS (w := w) h8 (RX.s (rx_var (d := enc (v5 : (List Str))) rfl))))) E S (fun hc F H f E S => ?_) (fun hc F H f E S => ?_))
  · rw [if_pos hc] at hm0
    replace fc := fc.trans f
    cases hm0
  · rw [if_neg (by rw [hc]; decide)] at hm0
    replace fc := fc.trans f
    refine nxt ?_
    obtain rfl := Option.some.inj hm0
    try (with_reducible refine nxD ?_)
    exact k .non _ _ S.stp .non
theorem sc_wires_of_one : FnScope ["one", "more", "many", "name", "width", "place"] ["one", "more"] (defScope (top 18)) := ⟨rfl, rfl, rfl, by decide +kernel, rfl, by decide +kernel, by decide +kernel⟩
theorem ok_wires_of_one (B : Bi mg) (D : Dfn K mg "wires_of_one" (top 18) ["one", "more"]) : Cal P w K mg base 1 "wires_of_one" ["one", "more"] (SpN K R_wires_of_one) := by
  refine D.cal sc_wires_of_one (sn_len fun ds d h => by obtain ⟨_, _, _, rfl, _⟩ := h; rfl) fun f cdv A outer s H vs Q E hr h => ?_
  refine ⟨_, (pss_cons (ps_set (i := 2) sc_wires_of_one.nd rfl (Or.inr rfl) (pe_callB (k_sum K rfl) (by rfl) B.sum (by decide +kernel) (pa_cons (pe_lc (own := [(("name" : Str), 3), (("width" : Str), 4)]) (g := (gTup K 2 (gCons (gName 3) (gCons (gName 4) gNil)))) (tt := tYes) rfl sc_wires_of_one.nd (k_pi_list K (pe_ix (k_ix_tup K) (pv 0) pe_int (fun _ _ => rfl))) (blkOk_by (by kernel_rfl)) (fun _ _ _ _ _ => (pg_tup rfl (pgs_cons (pg_name (i := 3) sc_wires_of_one.nd rfl (Or.inl rfl)) (pgs_cons (pg_name (i := 4) sc_wires_of_one.nd rfl (Or.inl rfl)) pgs_nil)))) (fun _ _ _ _ _ => pts_nil) (fun _ _ _ _ _ => (pv 4))) pa_nil))) (pss_one (ps_ret (pe_op (k_catR K) (pe_listRg (by rfl) (by rfl) B.list (prg_1 (by rfl) B.range (pv 2))) (pe_lc (own := [(("place" : Str), 5)]) (g := (gName 5)) (tt := tYes) rfl sc_wires_of_one.nd (pi_range1 rfl B.range (pa_cons (pe_callB (k_len_seq K) (by rfl) B.len PySem.boot_len (pa_cons (pe_ix (k_ix_tup K) (pv 0) pe_int (fun _ _ => rfl)) pa_nil)) pa_nil)) (blkOk_by (by kernel_rfl)) (fun _ _ _ _ _ => (pg_name (i := 5) sc_wires_of_one.nd rfl (Or.inl rfl))) (fun _ _ _ _ _ => pts_nil) (fun _ _ _ _ _ => (pe_op op_add (pe_op op_add (pv 2) (pv 1)) (pv 5)))))))), ?_⟩
  obtain ⟨F, ds, es, hw, hF, ⟨v_one, v_more, rr, rfl, rfl, hm0⟩, k⟩ := h
  have E : EnvR K F _ [.val (enc (v_one : (T3 (List (Str × Int)) (List (T3 Str (Tp Int) Bool)) (List (Str × (Tp Int)))))), .val (enc (v_more : Int)), .un, .un, .un, .un] := EnvR.start (N := ["one", "more", "many", "name", "width", "place"]) (AsR.of_all hw)
  have S := Hx.start (K := K) hF
  have fc : Same F F := Same.refl F
  unfold m_wires_of_one at hm0
  obtain ⟨v5, h6, hm0⟩ := letE hm0
  try (with_reducible refine nxD ?_)
  with_reducible refine sq ?_
  refine st_set (i := 2) (d := enc (v5 : Int)) (rx_as (x := ((v_one.a.map (fun (x2 : (Str × Int)) => (x2.2 : Int))).sum : Int)) h6 (rx_sum (RXo.s (rxo_map (eα := enc) (eβ := enc) (f := (fun (x2 : (Str × Int)) => (x2.2 : Int))) (fun x2 => [.val (enc (v_one : (T3 (List (Str × Int)) (List (T3 Str (Tp Int) Bool)) (List (Str × (Tp Int)))))), .val (enc (v_more : Int)), .un, .val (enc (x2.1 : Str)), .val (enc (x2.2 : Int)), .un]) [3, 4] (ri_list (ys := v_one.a.map enc) (rx_ixT (ds := [enc (v_one.a : (List (Str × Int))), enc (v_one.b : (List (T3 Str (Tp Int) Bool))), enc (v_one.c : (List (Str × (Tp Int))))]) (d := enc (v_one.a : (List (Str × Int)))) rfl (rx_var (d := enc (v_one : (T3 (List (Str × Int)) (List (T3 Str (Tp Int) Bool)) (List (Str × (Tp Int)))))) rfl) rx_int)) (by decide) (fun x2 _ => (rg_tup (ds := [enc (x2.1 : Str), enc (x2.2 : Int)]) (RGs.cons (rg_name (i := 3) (d := enc (x2.1 : Str))) (RGs.cons (rg_name (i := 4) (d := enc (x2.2 : Int))) RGs.nil)))) (fun x2 _ D3 acc4 => (rx_var (d := enc (x2.2 : Int)) rfl)))))) E S fun σ F H f E S => ?_
  replace fc := fc.trans f
  have E : EnvR K _ _ [.val (enc (v_one : (T3 (List (Str × Int)) (List (T3 Str (Tp Int) Bool)) (List (Str × (Tp Int)))))), .val (enc (v_more : Int)), .val (enc (v5 : Int)), .un, .un, .un] := E
  have S : Hx K _ _ _ _ [] _ := S
  obtain ⟨l15, h16, hm0⟩ := bindE hm0
  obtain ⟨t21, h22, hm0⟩ := bindE hm0
  obtain rfl := Option.some.inj hm0
  -- return
  try (with_reducible refine nxD ?_)
  refine st_retO (ds := t21.map enc) (rxo_catO (f := enc) h22 (RXo.s (rxo_listRg h16 (rx_var (d := enc (v5 : Int)) rfl))) (RXo.s (rxo_map (eα := enc) (eβ := enc) (f := (fun (x18 : Int) => (((v5 + v_more) + x18) : Int))) (fun x18 => [.val (enc (v_one : (T3 (List (Str × Int)) (List (T3 Str (Tp Int) Bool)) (List (Str × (Tp Int)))))), .val (enc (v_more : Int)), .val (enc (v5 : Int)), .un, .un, .val (enc (x18 : Int))]) [5] (ri_rangeLenM (f := enc) (RX.s (rx_ixT (ds := [enc (v_one.a : (List (Str × Int))), enc (v_one.b : (List (T3 Str (Tp Int) Bool))), enc (v_one.c : (List (Str × (Tp Int))))]) (d := enc (v_one.b : (List (T3 Str (Tp Int) Bool)))) rfl (rx_var (d := enc (v_one : (T3 (List (Str × Int)) (List (T3 Str (Tp Int) Bool)) (List (Str × (Tp Int)))))) rfl) rx_int))) (by decide) (fun x18 _ => (rg_name (i := 5) (d := enc (x18 : Int)))) (fun x18 _ D19 acc20 => (rx_add (rx_add (rx_var (d := enc (v5 : Int)) rfl) (rx_var (d := enc (v_more : Int)) rfl)) (rx_var (d := enc (x18 : Int)) rfl)))))) E S fun p F H f S => ?_
  obtain ⟨n1, n2, n3, zs, n4, n5, n6⟩ := S.get (j := 0) rfl
  exact k _ _ _ zs S.stp (n2 rfl) n1 n4 n5 n6
theorem sc_wires_of_other : FnScope ["other", "fed", "first", "gates_first", "found", "place", "name", "width"] ["other", "fed", "first", "gates_first"] (defScope (top 19)) := ⟨rfl, rfl, rfl, by decide +kernel, rfl, by decide +kernel, by decide +kernel⟩
theorem ok_wires_of_other (B : Bi mg) (D : Dfn K mg "wires_of_other" (top 19) ["other", "fed", "first", "gates_first"]) : Cal P w K mg base 1 "wires_of_other" ["other", "fed", "first", "gates_first"] (SpA K R_wires_of_other) := by
  refine D.cal sc_wires_of_other (spa_len fun ds d h => by obtain ⟨_, _, _, _, _, rfl, _⟩ := h; rfl) fun f cdv A outer s H vs Q E hr h => ?_
  refine ⟨_, (pss_cons (ps_set (i := 4) sc_wires_of_other.nd rfl (Or.inl rfl) (pe_lst pa_nil)) (pss_cons (ps_for PassesOwn.never rfl (k_pi_enum K (by rfl) B.enumerate (pa_cons (pe_ix (k_ix_tup K) (pv 0) pe_int (fun _ _ => rfl)) pa_nil)) (pg_tup rfl (pgs_cons (pg_name (i := 5) sc_wires_of_other.nd rfl (Or.inl rfl)) (pgs_cons (pg_tup rfl (pgs_cons (pg_name (i := 6) sc_wires_of_other.nd rfl (Or.inl rfl)) (pgs_cons (pg_name (i := 7) sc_wires_of_other.nd rfl (Or.inl rfl)) pgs_nil))) pgs_nil))) (pss_one (ps_if (pt_cmp (pc_din (hu_of hr) (pv 5) (pv 1)) rfl) (pss_one (ps_expr (pe_bm PySem.F.plainAttrs_list PySem.F.slot_list_extend PySem.F.type_list_extend mt_extR (pv 4) (pa_cons (pe_dget (hu_of hr) (pv 1) (pv 5) (fun _ _ => rfl)) pa_nil)))) (pss_cons (ps_expr (pe_bm PySem.F.plainAttrs_list PySem.F.slot_list_extend PySem.F.type_list_extend mt_extR (pv 4) (pa_cons (pe_listRg (by rfl) (by rfl) B.list (prg_2 (by rfl) B.range (pv 2) (pe_op op_add (pv 2) (pv 7)))) pa_nil))) (pss_one (ps_aug (i := 2) sc_wires_of_other.nd rfl (Or.inl rfl) (pv 7) ip_add)))))) (pss_one (ps_ret (pe_op (k_catR K) (pv 4) (pe_lc (own := [(("place" : Str), 5)]) (g := (gName 5)) (tt := tYes) rfl sc_wires_of_other.nd (pi_range1 rfl B.range (pa_cons (pe_callB (k_len_seq K) (by rfl) B.len PySem.boot_len (pa_cons (pe_ix (k_ix_tup K) (pv 0) pe_int (fun _ _ => rfl)) pa_nil)) pa_nil)) (blkOk_by (by kernel_rfl)) (fun _ _ _ _ _ => (pg_name (i := 5) sc_wires_of_other.nd rfl (Or.inl rfl))) (fun _ _ _ _ _ => pts_nil) (fun _ _ _ _ _ => (pe_op op_add (pv 3) (pv 5))))))))), ?_⟩
  obtain ⟨F, as, d, hw, hF, ⟨v_other, v_fed, v_first, v_gates_first, rr, rfl, rfl, hm0⟩, k⟩ := h
  have E : EnvR K F _ [.val (enc (v_other : (T3 (List (Str × Int)) (List (T3 Str (Tp Int) Bool)) (List (Str × (Tp Int)))))), .dk (encK (v_fed : (List (Int × (List Int))))), .val (enc (v_first : Int)), .val (enc (v_gates_first : Int)), .un, .un, .un, .un] := EnvR.start (N := ["other", "fed", "first", "gates_first", "found", "place", "name", "width"]) hw
  have S := Hx.start (K := K) hF
  have fc : Same F F := Same.refl F
  unfold m_wires_of_other at hm0
  obtain ⟨v1, h2, hm0⟩ := letE hm0
  try (with_reducible refine nxD ?_)
  with_reducible refine sq ?_
  refine st_setO (i := 4) (ds := v1.map enc) (rxo_as (f := enc) h2 (rxo_lst (ds := []) ra_nil)) E S fun p_found3 σ F H f E S => ?_
  replace fc := fc.trans f
  have E : EnvR K _ _ [.val (enc (v_other : (T3 (List (Str × Int)) (List (T3 Str (Tp Int) Bool)) (List (Str × (Tp Int)))))), .dk (encK (v_fed : (List (Int × (List Int))))), .val (enc (v_first : Int)), .val (enc (v_gates_first : Int)), .adr p_found3, .un, .un, .un] := E
  have S : Hx K _ _ _ _ [⟨p_found3, true, v1.map enc⟩] _ := S
  obtain ⟨s20, h8, hm0⟩ := bindE hm0
  try (with_reducible refine nxD ?_)
  with_reducible refine sq ?_
  refine st_forS (eα := enc) (fun s5 => [.val (enc (v_other : (T3 (List (Str × Int)) (List (T3 Str (Tp Int) Bool)) (List (Str × (Tp Int)))))), .dk (encK (v_fed : (List (Int × (List Int))))), .val (enc (s5.1 : Int)), .val (enc (v_gates_first : Int)), .adr p_found3, .un, .un, .un]) (fun s5 => [⟨p_found3, true, s5.2.map enc⟩]) E S (ri_enumT (rx_ixT (ds := [enc (v_other.a : (List (Str × Int))), enc (v_other.b : (List (T3 Str (Tp Int) Bool))), enc (v_other.c : (List (Str × (Tp Int))))]) (d := enc (v_other.a : (List (Str × Int)))) rfl (rx_var (d := enc (v_other : (T3 (List (Str × Int)) (List (T3 Str (Tp Int) Bool)) (List (Str × (Tp Int)))))) rfl) rx_int)) h8 ⟨.inl rfl, .inl rfl, .inl rfl, .inl rfl, .inl rfl, .inr rfl, .inr rfl, .inr rfl, trivial⟩ (fun σ F H f E S => ?_) (fun x6 _ s5 s' h4 σ F H v _ E S r N B hN => ?_)
  · replace fc := fc.trans f
    have E : EnvR K _ _ [.val (enc (v_other : (T3 (List (Str × Int)) (List (T3 Str (Tp Int) Bool)) (List (Str × (Tp Int)))))), .dk (encK (v_fed : (List (Int × (List Int))))), .val (enc (s20.1 : Int)), .val (enc (v_gates_first : Int)), .adr p_found3, .un, .un, .un] := E
    have S : Hx K _ _ _ _ [⟨p_found3, true, s20.2.map enc⟩] _ := S
    obtain ⟨t31, h32, hm0⟩ := bindE hm0
    obtain rfl := Option.some.inj hm0
    -- return
    try (with_reducible refine nxD ?_)
    refine st_ret (d := enc (t31 : (List Int))) (RXo.frz (rxo_catO (f := enc) h32 (rxs_own (j := 0) (ds := s20.2.map enc) rfl rfl) (RXo.s (rxo_map (eα := enc) (eβ := enc) (f := (fun (x28 : Int) => ((v_gates_first + x28) : Int))) (fun x28 => [.val (enc (v_other : (T3 (List (Str × Int)) (List (T3 Str (Tp Int) Bool)) (List (Str × (Tp Int)))))), .dk (encK (v_fed : (List (Int × (List Int))))), .val (enc (s20.1 : Int)), .val (enc (v_gates_first : Int)), .adr p_found3, .val (enc (x28 : Int)), .un, .un]) [5] (ri_rangeLenM (f := enc) (RX.s (rx_ixT (ds := [enc (v_other.a : (List (Str × Int))), enc (v_other.b : (List (T3 Str (Tp Int) Bool))), enc (v_other.c : (List (Str × (Tp Int))))]) (d := enc (v_other.b : (List (T3 Str (Tp Int) Bool)))) rfl (rx_var (d := enc (v_other : (T3 (List (Str × Int)) (List (T3 Str (Tp Int) Bool)) (List (Str × (Tp Int)))))) rfl) rx_int))) (by decide) (fun x28 _ => (rg_name (i := 5) (d := enc (x28 : Int)))) (fun x28 _ D29 acc30 => (rx_add (rx_var (d := enc (v_gates_first : Int)) rfl) (rx_var (d := enc (x28 : Int)) rfl))))))) E S fun v F H f S r => ?_
    exact k v F H S.stp r
  · refine ((rg_tup (ds := [enc (x6.1 : Int), enc (x6.2 : (Str × Int))]) (RGs.cons (rg_name (i := 5) (d := enc (x6.1 : Int))) (RGs.cons (rg_tup (ds := [enc (x6.2.1 : Str), enc (x6.2.2 : Int)]) (RGs.cons (rg_name (i := 6) (d := enc (x6.2.1 : Str))) (RGs.cons (rg_name (i := 7) (d := enc (x6.2.2 : Int))) RGs.nil))) RGs.nil)))).run _ _ _ _ _ E r S.fh fun σ E _ => ?_
    have E : EnvR K _ _ [.val (enc (v_other : (T3 (List (Str × Int)) (List (T3 Str (Tp Int) Bool)) (List (Str × (Tp Int)))))), .dk (encK (v_fed : (List (Int × (List Int))))), .val (enc (s5.1 : Int)), .val (enc (v_gates_first : Int)), .adr p_found3, .val (enc (x6.1 : Int)), .val (enc (x6.2.1 : Str)), .val (enc (x6.2.2 : Int))] := E
    have S : Hx K _ _ _ _ [⟨p_found3, true, s5.2.map enc⟩] _ := S
    have fc : Same F F := Same.refl F
    obtain ⟨j10, h11, h4⟩ := bindE h4
    try (with_reducible refine nxD ?_)
    refine (st_ifJ (b := (hasM v_fed x6.1)) [.val (enc (v_other : (T3 (List (Str × Int)) (List (T3 Str (Tp Int) Bool)) (List (Str × (Tp Int)))))), .dk (encK (v_fed : (List (Int × (List Int))))), .val (enc (j10.1 : Int)), .val (enc (v_gates_first : Int)), .adr p_found3, .val (enc (x6.1 : Int)), .val (enc (x6.2.1 : Str)), .val (enc (x6.2.2 : Int))] [⟨p_found3, true, j10.2.map enc⟩] (rt_b (rx_dkin (i := 1) (rx_var (d := enc (x6.1 : Int)) rfl) (DkAt.frz (i := 1) rfl))) E S (fun σ F H f E S => ?_) (fun hc F H rest f E S => ?_) (fun hc F H rest f E S => ?_))
    · replace fc := fc.trans f
      obtain rfl := Option.some.inj h4
      exact hN _ _ _ fc (E.weak ⟨.inl rfl, .inl rfl, .inl rfl, .inl rfl, .inl rfl, .inr rfl, .inr rfl, .inr rfl, trivial⟩) S
    · rw [if_pos hc] at h11
      have fc := f
      obtain ⟨t12, h13, h11⟩ := bindE h11
      obtain ⟨u14, h15, h11⟩ := bindE h11
      try (with_reducible refine nxD ?_)
      refine (st_ext (j := 0) (ds := s5.2.map enc) (es := t12.map enc) (extO_map enc h15) rfl (rx_dkget (i := 1) h13 (DkAt.frz (i := 1) rfl) (rx_var (d := enc (x6.1 : Int)) rfl)) ⟨_, rfl⟩ rfl E S fun F H f E S => ?_)
      replace fc := fc.trans f
      have E : EnvR K _ _ [.val (enc (v_other : (T3 (List (Str × Int)) (List (T3 Str (Tp Int) Bool)) (List (Str × (Tp Int)))))), .dk (encK (v_fed : (List (Int × (List Int))))), .val (enc (s5.1 : Int)), .val (enc (v_gates_first : Int)), .adr p_found3, .val (enc (x6.1 : Int)), .val (enc (x6.2.1 : Str)), .val (enc (x6.2.2 : Int))] := E
      have S : Hx K _ _ _ _ [⟨p_found3, true, u14.map enc⟩] _ := S
      obtain rfl := Option.some.inj h11
      exact rest _ _ _ fc (E.weak ⟨.inl rfl, .inl rfl, .inl rfl, .inl rfl, .inl rfl, .inl rfl, .inl rfl, .inl rfl, trivial⟩) S
    · rw [if_neg (by rw [hc]; decide)] at h11
      have fc := f
      obtain ⟨l16, h17, h11⟩ := bindE h11
      obtain ⟨u18, h19, h11⟩ := bindE h11
      try (with_reducible refine nxD ?_)
      with_reducible refine sq ?_
      refine st_ext (j := 0) (ds := s5.2.map enc) (es := l16.map enc) (extO_map enc h19) rfl (RXo.frz (rxo_listRg2 h17 (rx_var (d := enc (s5.1 : Int)) rfl) (rx_add (rx_var (d := enc (s5.1 : Int)) rfl) (rx_var (d := enc (x6.2.2 : Int)) rfl)))) ⟨_, rfl⟩ rfl E S fun F H f E S => ?_
      replace fc := fc.trans f
      have E : EnvR K _ _ [.val (enc (v_other : (T3 (List (Str × Int)) (List (T3 Str (Tp Int) Bool)) (List (Str × (Tp Int)))))), .dk (encK (v_fed : (List (Int × (List Int))))), .val (enc (s5.1 : Int)), .val (enc (v_gates_first : Int)), .adr p_found3, .val (enc (x6.1 : Int)), .val (enc (x6.2.1 : Str)), .val (enc (x6.2.2 : Int))] := E
      have S : Hx K _ _ _ _ [⟨p_found3, true, u18.map enc⟩] _ := S
      try (with_reducible refine nxD ?_)
      refine (st_aug (i := 2) (x := s5.1) (y := x6.2.2) rfl (rx_var (d := enc (x6.2.2 : Int)) rfl) E S fun σ F H f E S => ?_)
      replace fc := fc.trans f
      have E : EnvR K _ _ [.val (enc (v_other : (T3 (List (Str × Int)) (List (T3 Str (Tp Int) Bool)) (List (Str × (Tp Int)))))), .dk (encK (v_fed : (List (Int × (List Int))))), .val (enc ((s5.1 + x6.2.2) : Int)), .val (enc (v_gates_first : Int)), .adr p_found3, .val (enc (x6.1 : Int)), .val (enc (x6.2.1 : Str)), .val (enc (x6.2.2 : Int))] := E
      have S : Hx K _ _ _ _ [⟨p_found3, true, u18.map enc⟩] _ := S
      obtain rfl := Option.some.inj h11
      exact rest _ _ _ fc (E.weak ⟨.inl rfl, .inl rfl, .inl rfl, .inl rfl, .inl rfl, .inl rfl, .inl rfl, .inl rfl, trivial⟩) S
theorem sc_moved : FnScope ["gates", "wires", "kind", "own", "sure", "wire"] ["gates", "wires"] (defScope (top 17)) := ⟨rfl, rfl, rfl, by decide +kernel, rfl, by decide +kernel, by decide +kernel⟩
theorem ok_moved (B : Bi mg) (D : Dfn K mg "moved" (top 17) ["gates", "wires"]) : Cal P w K mg base 1 "moved" ["gates", "wires"] (SpN K R_moved) := by
  refine D.cal sc_moved (sn_len fun ds d h => by obtain ⟨_, _, _, rfl, _⟩ := h; rfl) fun f cdv A outer s H vs Q E hr h => ?_
  refine ⟨_, (pss_one (ps_ret (pe_lc (own := [(("kind" : Str), 2), (("own" : Str), 3), (("sure" : Str), 4)]) (g := (gTup K 3 (gCons (gName 2) (gCons (gName 3) (gCons (gName 4) gNil))))) (tt := tYes) rfl sc_moved.nd (k_pi_list K (pv 0)) (blkOk_by (by kernel_rfl)) (fun _ _ _ _ _ => (pg_tup rfl (pgs_cons (pg_name (i := 2) sc_moved.nd rfl (Or.inl rfl)) (pgs_cons (pg_name (i := 3) sc_moved.nd rfl (Or.inl rfl)) (pgs_cons (pg_name (i := 4) sc_moved.nd rfl (Or.inl rfl)) pgs_nil))))) (fun _ _ _ _ _ => pts_nil) (fun _ _ _ _ _ => (pe_tup (pa_cons (pv 2) (pa_cons (pe_callTy (k_tuple_of K) (by rfl) B.tuple (by decide +kernel) (pa_cons (pe_lc (own := [(("wire" : Str), 5)]) (g := (gName 5)) (tt := tYes) rfl sc_moved.nd (k_pi_tup K (pv 3)) (blkOk_by (by kernel_rfl)) (fun _ _ _ _ _ => (pg_name (i := 5) sc_moved.nd rfl (Or.inl rfl))) (fun _ _ _ _ _ => pts_nil) (fun _ _ _ _ _ => (pe_ix (k_ix_list K) (pv 1) (pv 5) (fun _ _ => rfl)))) pa_nil)) (pa_cons (pv 4) pa_nil)))))))), ?_⟩
  obtain ⟨F, ds, es, hw, hF, ⟨v_gates, v_wires, rr, rfl, rfl, hm0⟩, k⟩ := h
  have E : EnvR K F _ [.val (enc (v_gates : (List (T3 Str (Tp Int) Bool)))), .val (enc (v_wires : (List Int))), .un, .un, .un, .un] := EnvR.start (N := ["gates", "wires", "kind", "own", "sure", "wire"]) (AsR.of_all hw)
  have S := Hx.start (K := K) hF
  have fc : Same F F := Same.refl F
  unfold m_moved at hm0
  obtain ⟨l51, h52, hm0⟩ := bindE hm0
  obtain rfl := Option.some.inj hm0
  -- return
  try (with_reducible refine nxD ?_)
  refine st_retO (ds := l51.map enc) (rxo_mapO (eα := enc) (eβ := enc) (fun x28 => [.val (enc (v_gates : (List (T3 Str (Tp Int) Bool)))), .val (enc (v_wires : (List Int))), .val (enc (x28.a : Str)), .val (enc (x28.b : (Tp Int))), .val (enc (x28.c : Bool)), .un]) [2, 3, 4] (ri_list (ys := v_gates.map enc) (rx_var (d := enc (v_gates : (List (T3 Str (Tp Int) Bool)))) rfl)) h52 (by decide) (fun x28 _ => (rg_tup (ds := [enc (x28.a : Str), enc (x28.b : (Tp Int)), enc (x28.c : Bool)]) (RGs.cons (rg_name (i := 2) (d := enc (x28.a : Str))) (RGs.cons (rg_name (i := 3) (d := enc (x28.b : (Tp Int)))) (RGs.cons (rg_name (i := 4) (d := enc (x28.c : Bool))) RGs.nil))))) (fun x28 _ y h27 D29 acc30 => by obtain ⟨l49, h50, h27⟩ := bindE h27; obtain rfl := Option.some.inj h27; exact (rx_tup (ds := [enc (x28.a : Str), enc ((Tp.mk l49) : (Tp Int)), enc (x28.c : Bool)]) (ra_cons (rx_var (d := enc (x28.a : Str)) rfl) (ra_cons (rx_tuple (RXo.s (rxo_mapO (eα := enc) (eβ := enc) (fun x42 => [.val (enc (v_gates : (List (T3 Str (Tp Int) Bool)))), .val (enc (v_wires : (List Int))), .val (enc (x28.a : Str)), .val (enc (x28.b : (Tp Int))), .val (enc (x28.c : Bool)), .val (enc (x42 : Int))]) [5] (ri_tup (ys := x28.b.l.map enc) (rx_var (d := enc (x28.b : (Tp Int))) rfl)) h50 (by decide) (fun x42 _ => (rg_name (i := 5) (d := enc (x42 : Int)))) (fun x42 _ y h41 D43 acc44 => by obtain ⟨t47, h48, h41⟩ := bindE h41; obtain rfl := Option.some.inj h41; exact (rx_ix (atI_map enc h48) (RX.s (rx_var (d := enc (v_wires : (List Int))) rfl)) (rx_var (d := enc (x42 : Int)) rfl)))))) (ra_cons (rx_var (d := enc (x28.c : Bool)) rfl) ra_nil)))))) E S fun p F H f S => ?_
  obtain ⟨n1, n2, n3, zs, n4, n5, n6⟩ := S.get (j := 0) rfl
  exact k _ _ _ zs S.stp (n2 rfl) n1 n4 n5 n6
theorem sc_joined : FnScope ["one", "other", "pairs", "fed_places", "ins", "used", "kept", "own", "whole", "wires", "fed", "out", "place", "others", "outs", "name", "width", "wire", "some"] ["one", "other", "pairs"] (defScope (top 20)) := ⟨rfl, rfl, rfl, by decide +kernel, rfl, by decide +kernel, by decide +kernel⟩
theorem ok_joined (B : Bi mg) (D : Dfn K mg "joined" (top 20) ["one", "other", "pairs"]) (C_moved : Cal P w K mg base 1 "moved" ["gates", "wires"] (SpN K R_moved)) (C_need_fit : Cal P w K mg base 1 "need_fit" ["one", "other", "pairs"] (SpP K R_need_fit)) (C_need_names : Cal P w K mg base 1 "need_names" ["some"] (SpP K R_need_names)) (C_wires_of_one : Cal P w K mg base 1 "wires_of_one" ["one", "more"] (SpN K R_wires_of_one)) (C_wires_of_other : Cal P w K mg base 1 "wires_of_other" ["other", "fed", "first", "gates_first"] (SpA K R_wires_of_other)) : Cal P w K mg base 2 "joined" ["one", "other", "pairs"] (SpT K RT_joined) := by
  refine D.cal sc_joined (st_len fun ds d h => by obtain ⟨_, _, _, _, rfl, _⟩ := h; rfl) fun f cdv A outer s H vs Q E hr h => ?_
  refine ⟨_, (pss_cons (ps_expr (pe_cal C_need_fit hr (pa_cons (pv 0) (pa_cons (pv 1) (pa_cons (pv 2) pa_nil))))) (pss_cons (ps_set (i := 3) sc_joined.nd rfl (Or.inr rfl) (pe_lc (own := [(("out" : Str), 11), (("place" : Str), 12)]) (g := (gTup K 2 (gCons (gName 11) (gCons (gName 12) gNil)))) (tt := tYes) rfl sc_joined.nd (k_pi_list K (pv 2)) (blkOk_by (by kernel_rfl)) (fun _ _ _ _ _ => (pg_tup rfl (pgs_cons (pg_name (i := 11) sc_joined.nd rfl (Or.inl rfl)) (pgs_cons (pg_name (i := 12) sc_joined.nd rfl (Or.inl rfl)) pgs_nil)))) (fun _ _ _ _ _ => pts_nil) (fun _ _ _ _ _ => (pv 12)))) (pss_cons (ps_set (i := 4) sc_joined.nd rfl (Or.inl rfl) (pe_op (k_catR K) (pe_ix (k_ix_tup K) (pv 0) pe_int (fun _ _ => rfl)) (pe_lc (own := [(("place" : Str), 12)]) (g := (gName 12)) rfl sc_joined.nd (pi_range1 rfl B.range (pa_cons (pe_callB (k_len_seq K) (by rfl) B.len PySem.boot_len (pa_cons (pe_ix (k_ix_tup K) (pv 1) pe_int (fun _ _ => rfl)) pa_nil)) pa_nil)) (blkOk_by (by kernel_rfl)) (fun _ _ _ _ _ => (pg_name (i := 12) sc_joined.nd rfl (Or.inl rfl))) (fun _ _ _ _ _ => (pts_one (pt_cmpR (k_notIn_seq K) (pv 12) (pv 3) (by rfl)))) (fun _ _ _ _ _ => (pe_ix (k_ix_list K) (pe_ix (k_ix_tup K) (pv 1) pe_int (fun _ _ => rfl)) (pv 12) (fun _ _ => rfl)))))) (pss_cons (ps_set (i := 5) sc_joined.nd rfl (Or.inr rfl) (pe_lc (own := [(("out" : Str), 11), (("place" : Str), 12)]) (g := (gTup K 2 (gCons (gName 11) (gCons (gName 12) gNil)))) (tt := tYes) rfl sc_joined.nd (k_pi_list K (pv 2)) (blkOk_by (by kernel_rfl)) (fun _ _ _ _ _ => (pg_tup rfl (pgs_cons (pg_name (i := 11) sc_joined.nd rfl (Or.inl rfl)) (pgs_cons (pg_name (i := 12) sc_joined.nd rfl (Or.inl rfl)) pgs_nil)))) (fun _ _ _ _ _ => pts_nil) (fun _ _ _ _ _ => (pv 11)))) (pss_cons (ps_setLc (i := 6) (own := [(("place" : Str), 12)]) (g := (gName 12)) rfl sc_joined.nd rfl rfl (sw_true rfl rfl rfl (by decide +kernel)) (pi_range1 rfl B.range (pa_cons (pe_callB (k_len_seq K) (by rfl) B.len PySem.boot_len (pa_cons (pe_ix (k_ix_tup K) (pv 0) pe_int (fun _ _ => rfl)) pa_nil)) pa_nil)) (blkOk_by (by kernel_rfl)) (fun _ _ _ _ _ => (pg_name (i := 12) sc_joined.nd rfl (Or.inl rfl))) (fun _ _ _ _ _ => (pts_one (pt_cmpR (k_notIn_seq K) (pv 12) (pv 5) (by rfl)))) (fun _ _ _ _ _ => (pv 12))) (pss_cons (ps_expr (pe_cal C_need_names hr (pa_cons (pv 4) pa_nil))) (pss_cons (ps_expr (pe_cal C_need_names hr (pa_cons (pe_op (k_catR K) (pe_lc (own := [(("place" : Str), 12)]) (g := (gName 12)) (tt := tYes) rfl sc_joined.nd (k_pi_list K (pv 6)) (blkOk_by (by kernel_rfl)) (fun _ _ _ _ _ => (pg_name (i := 12) sc_joined.nd rfl (Or.inl rfl))) (fun _ _ _ _ _ => pts_nil) (fun _ _ _ _ _ => (pe_ix (k_ix_list K) (pe_ix (k_ix_tup K) (pv 0) pe_int (fun _ _ => rfl)) (pv 12) (fun _ _ => rfl)))) (pe_ix (k_ix_tup K) (pv 1) pe_int (fun _ _ => rfl))) pa_nil))) (pss_cons (ps_if (PW.pt (pw_or (pt_cmpR op_gt (pe_callB (k_len_seq K) (by rfl) B.len PySem.boot_len (pa_cons (pv 4) pa_nil)) (pe_gint B.c_MOST_INS) (nomark _)) (pw_or (pt_cmpR op_gt (pe_op op_add (pe_callB (k_len_seq K) (by rfl) B.len PySem.boot_len (pa_cons (pe_ix (k_ix_tup K) (pv 0) pe_int (fun _ _ => rfl)) pa_nil)) (pe_callB (k_len_seq K) (by rfl) B.len PySem.boot_len (pa_cons (pe_ix (k_ix_tup K) (pv 1) pe_int (fun _ _ => rfl)) pa_nil))) (pe_gint B.c_MOST_GATES) (nomark _)) (pw_or1 (pt_cmpR op_gt (pe_op op_add (pe_callB (k_len_seq K) (by rfl) B.len PySem.boot_len (pa_cons (pv 6) pa_nil)) (pe_callB (k_len_seq K) (by rfl) B.len PySem.boot_len (pa_cons (pe_ix (k_ix_tup K) (pv 1) pe_int (fun _ _ => rfl)) pa_nil))) (pe_gint B.c_MOST_OUTS) (nomark _)))))) (pss_one L2.ps_never) pss_nil) (pss_cons (ps_set (i := 7) sc_joined.nd rfl (Or.inl rfl) (pe_callB (k_sum K rfl) (by rfl) B.sum (by decide +kernel) (pa_cons (pe_lc (own := [(("name" : Str), 15), (("width" : Str), 16)]) (g := (gTup K 2 (gCons (gName 15) (gCons (gName 16) gNil)))) (tt := tYes) rfl sc_joined.nd (k_pi_list K (pe_ix (k_ix_tup K) (pv 0) pe_int (fun _ _ => rfl))) (blkOk_by (by kernel_rfl)) (fun _ _ _ _ _ => (pg_tup rfl (pgs_cons (pg_name (i := 15) sc_joined.nd rfl (Or.inl rfl)) (pgs_cons (pg_name (i := 16) sc_joined.nd rfl (Or.inl rfl)) pgs_nil)))) (fun _ _ _ _ _ => pts_nil) (fun _ _ _ _ _ => (pv 16))) pa_nil))) (pss_cons (ps_set (i := 8) sc_joined.nd rfl (Or.inl rfl) (pe_callB (k_sum K rfl) (by rfl) B.sum (by decide +kernel) (pa_cons (pe_lc (own := [(("name" : Str), 15), (("width" : Str), 16)]) (g := (gTup K 2 (gCons (gName 15) (gCons (gName 16) gNil)))) (tt := tYes) rfl sc_joined.nd (k_pi_list K (pv 4)) (blkOk_by (by kernel_rfl)) (fun _ _ _ _ _ => (pg_tup rfl (pgs_cons (pg_name (i := 15) sc_joined.nd rfl (Or.inl rfl)) (pgs_cons (pg_name (i := 16) sc_joined.nd rfl (Or.inl rfl)) pgs_nil)))) (fun _ _ _ _ _ => pts_nil) (fun _ _ _ _ _ => (pv 16))) pa_nil))) (pss_cons (ps_set (i := 9) sc_joined.nd rfl (Or.inr rfl) (pe_cal C_wires_of_one hr (pa_cons (pv 0) (pa_cons (pe_op op_sub (pv 8) (pv 7)) pa_nil)))) (pss_cons (ps_set (i := 10) sc_joined.nd rfl (Or.inl rfl) pe_dnewK) (pss_cons (ps_for PassesOwn.never rfl (k_pi_list K (pv 2)) (pg_tup rfl (pgs_cons (pg_name (i := 11) sc_joined.nd rfl (Or.inl rfl)) (pgs_cons (pg_name (i := 12) sc_joined.nd rfl (Or.inl rfl)) pgs_nil))) (pss_one (ps_dput (hu_of hr) (pv 10) (pv 12) (pe_lc (own := [(("wire" : Str), 17)]) (g := (gName 17)) (tt := tYes) rfl sc_joined.nd (k_pi_tup K (pe_ix (k_ix_tup K) (pe_ix (k_ix_list K) (pe_ix (k_ix_tup K) (pv 0) pe_int (fun _ _ => rfl)) (pv 11) (fun _ _ => rfl)) pe_int (fun _ _ => rfl))) (blkOk_by (by kernel_rfl)) (fun _ _ _ _ _ => (pg_name (i := 17) sc_joined.nd rfl (Or.inl rfl))) (fun _ _ _ _ _ => pts_nil) (fun _ _ _ _ _ => (pe_ix (k_ix_list K) (pv 9) (pv 17) (fun _ _ => rfl)))) (by rfl)))) (pss_cons (ps_set (i := 13) sc_joined.nd rfl (Or.inr rfl) (pe_cal C_wires_of_other hr (pa_cons (pv 1) (pa_cons (pv 10) (pa_cons (pv 7) (pa_cons (pe_op op_add (pv 8) (pe_callB (k_len_seq K) (by rfl) B.len PySem.boot_len (pa_cons (pe_ix (k_ix_tup K) (pv 0) pe_int (fun _ _ => rfl)) pa_nil))) pa_nil)))))) (pss_cons (ps_setLc (i := 14) (own := [(("place" : Str), 12)]) (g := (gName 12)) (tt := tYes) rfl sc_joined.nd rfl rfl (sw_true rfl rfl rfl (by decide +kernel)) (k_pi_list K (pv 6)) (blkOk_by (by kernel_rfl)) (fun _ _ _ _ _ => (pg_name (i := 12) sc_joined.nd rfl (Or.inl rfl))) (fun _ _ _ _ _ => pts_nil) (fun _ _ _ _ _ => (pe_tup (pa_cons (pe_ix (k_ix_tup K) (pe_ix (k_ix_list K) (pe_ix (k_ix_tup K) (pv 0) pe_int (fun _ _ => rfl)) (pv 12) (fun _ _ => rfl)) pe_int (fun _ _ => rfl)) (pa_cons (pe_callTy (k_tuple_of K) (by rfl) B.tuple (by decide +kernel) (pa_cons (pe_lc (own := [(("wire" : Str), 17)]) (g := (gName 17)) (tt := tYes) rfl sc_joined.nd (k_pi_tup K (pe_ix (k_ix_tup K) (pe_ix (k_ix_list K) (pe_ix (k_ix_tup K) (pv 0) pe_int (fun _ _ => rfl)) (pv 12) (fun _ _ => rfl)) pe_int (fun _ _ => rfl))) (blkOk_by (by kernel_rfl)) (fun _ _ _ _ _ => (pg_name (i := 17) sc_joined.nd rfl (Or.inl rfl))) (fun _ _ _ _ _ => pts_nil) (fun _ _ _ _ _ => (pe_ix (k_ix_list K) (pv 9) (pv 17) (fun _ _ => rfl)))) pa_nil)) pa_nil))))) (pss_cons (ps_set (i := 14) sc_joined.nd rfl (Or.inl rfl) (pe_op (k_catR K) (pv 14) (pe_lc (own := [(("name" : Str), 15), (("some" : Str), 18)]) (g := (gTup K 2 (gCons (gName 15) (gCons (gName 18) gNil)))) (tt := tYes) rfl sc_joined.nd (k_pi_list K (pe_ix (k_ix_tup K) (pv 1) pe_int (fun _ _ => rfl))) (blkOk_by (by kernel_rfl)) (fun _ _ _ _ _ => (pg_tup rfl (pgs_cons (pg_name (i := 15) sc_joined.nd rfl (Or.inl rfl)) (pgs_cons (pg_name (i := 18) sc_joined.nd rfl (Or.inl rfl)) pgs_nil)))) (fun _ _ _ _ _ => pts_nil) (fun _ _ _ _ _ => (pe_tup (pa_cons (pv 15) (pa_cons (pe_callTy (k_tuple_of K) (by rfl) B.tuple (by decide +kernel) (pa_cons (pe_lc (own := [(("wire" : Str), 17)]) (g := (gName 17)) (tt := tYes) rfl sc_joined.nd (k_pi_tup K (pv 18)) (blkOk_by (by kernel_rfl)) (fun _ _ _ _ _ => (pg_name (i := 17) sc_joined.nd rfl (Or.inl rfl))) (fun _ _ _ _ _ => pts_nil) (fun _ _ _ _ _ => (pe_ix (k_ix_list K) (pv 13) (pv 17) (fun _ _ => rfl)))) pa_nil)) pa_nil))))))) (pss_one (ps_ret (pe_tup (pa_cons (pv 4) (pa_cons (pe_op (k_catR K) (pe_cal C_moved hr (pa_cons (pe_ix (k_ix_tup K) (pv 0) pe_int (fun _ _ => rfl)) (pa_cons (pv 9) pa_nil))) (pe_cal C_moved hr (pa_cons (pe_ix (k_ix_tup K) (pv 1) pe_int (fun _ _ => rfl)) (pa_cons (pv 13) pa_nil)))) (pa_cons (pv 14) pa_nil)))))))))))))))))))))), ?_⟩
  obtain ⟨F, ds, ess, hw, hF, ⟨v_one, v_other, v_pairs, rr, rfl, rfl, hm0⟩, k⟩ := h
  have E : EnvR K F _ [.val (enc (v_one : (T3 (List (Str × Int)) (List (T3 Str (Tp Int) Bool)) (List (Str × (Tp Int)))))), .val (enc (v_other : (T3 (List (Str × Int)) (List (T3 Str (Tp Int) Bool)) (List (Str × (Tp Int)))))), .val (enc (v_pairs : (List (Int × Int)))), .un, .un, .un, .un, .un, .un, .un, .un, .un, .un, .un, .un, .un, .un, .un, .un] := EnvR.start (N := ["one", "other", "pairs", "fed_places", "ins", "used", "kept", "own", "whole", "wires", "fed", "out", "place", "others", "outs", "name", "width", "wire", "some"]) (AsR.of_all hw)
  have S := Hx.start (K := K) hF
  have fc : Same F F := Same.refl F
  unfold m_joined at hm0
  obtain ⟨r1, h2, hm0⟩ := bindE hm0
  try (with_reducible refine nxD ?_)
  with_reducible refine sq ?_
  refine st_expr (rx_call (ds := [enc (v_one : (T3 (List (Str × Int)) (List (T3 Str (Tp Int) Bool)) (List (Str × (Tp Int))))), enc (v_other : (T3 (List (Str × Int)) (List (T3 Str (Tp Int) Bool)) (List (Str × (Tp Int))))), enc (v_pairs : (List (Int × Int)))]) (d := enc (r1 : Unit)) ⟨_, _, _, r1, rfl, rfl, h2⟩ (ra_cons (rx_var (d := enc (v_one : (T3 (List (Str × Int)) (List (T3 Str (Tp Int) Bool)) (List (Str × (Tp Int)))))) rfl) (ra_cons (rx_var (d := enc (v_other : (T3 (List (Str × Int)) (List (T3 Str (Tp Int) Bool)) (List (Str × (Tp Int)))))) rfl) (ra_cons (rx_var (d := enc (v_pairs : (List (Int × Int)))) rfl) ra_nil)))) E S fun F H f E S => ?_
  replace fc := fc.trans f
  have E : EnvR K _ _ [.val (enc (v_one : (T3 (List (Str × Int)) (List (T3 Str (Tp Int) Bool)) (List (Str × (Tp Int)))))), .val (enc (v_other : (T3 (List (Str × Int)) (List (T3 Str (Tp Int) Bool)) (List (Str × (Tp Int)))))), .val (enc (v_pairs : (List (Int × Int)))), .un, .un, .un, .un, .un, .un, .un, .un, .un, .un, .un, .un, .un, .un, .un, .un] := E
  have S : Hx K _ _ _ _ [] _ := S
  obtain ⟨v7, h8, hm0⟩ := letE hm0
  try (with_reducible refine nxD ?_)
  with_reducible refine sq ?_
  refine st_set (i := 3) (d := enc (v7 : (List Int))) (rx_as (x := ((v_pairs.map (fun (x4 : (Int × Int)) => (x4.2 : Int))) : (List Int))) h8 (RXo.frz (rxo_map (eα := enc) (eβ := enc) (f := (fun (x4 : (Int × Int)) => (x4.2 : Int))) (fun x4 => [.val (enc (v_one : (T3 (List (Str × Int)) (List (T3 Str (Tp Int) Bool)) (List (Str × (Tp Int)))))), .val (enc (v_other : (T3 (List (Str × Int)) (List (T3 Str (Tp Int) Bool)) (List (Str × (Tp Int)))))), .val (enc (v_pairs : (List (Int × Int)))), .un, .un, .un, .un, .un, .un, .un, .un, .val (enc (x4.1 : Int)), .val (enc (x4.2 : Int)), .un, .un, .un, .un, .un, .un]) [11, 12] (ri_list (ys := v_pairs.map enc) (rx_var (d := enc (v_pairs : (List (Int × Int)))) rfl)) (by decide) (fun x4 _ => (rg_tup (ds := [enc (x4.1 : Int), enc (x4.2 : Int)]) (RGs.cons (rg_name (i := 11) (d := enc (x4.1 : Int))) (RGs.cons (rg_name (i := 12) (d := enc (x4.2 : Int))) RGs.nil)))) (fun x4 _ D5 acc6 => (rx_var (d := enc (x4.2 : Int)) rfl))))) E S fun σ F H f E S => ?_
  replace fc := fc.trans f
  have E : EnvR K _ _ [.val (enc (v_one : (T3 (List (Str × Int)) (List (T3 Str (Tp Int) Bool)) (List (Str × (Tp Int)))))), .val (enc (v_other : (T3 (List (Str × Int)) (List (T3 Str (Tp Int) Bool)) (List (Str × (Tp Int)))))), .val (enc (v_pairs : (List (Int × Int)))), .val (enc (v7 : (List Int))), .un, .un, .un, .un, .un, .un, .un, .un, .un, .un, .un, .un, .un, .un, .un] := E
  have S : Hx K _ _ _ _ [] _ := S
  obtain ⟨l17, h18, hm0⟩ := bindE hm0
  obtain ⟨t19, h20, hm0⟩ := bindE hm0
  try (with_reducible refine nxD ?_)
  with_reducible refine sq ?_
  refine st_setO (i := 4) (ds := t19.map enc) (rxo_catO (f := enc) h20 (RX.s (rx_ixT (ds := [enc (v_one.a : (List (Str × Int))), enc (v_one.b : (List (T3 Str (Tp Int) Bool))), enc (v_one.c : (List (Str × (Tp Int))))]) (d := enc (v_one.a : (List (Str × Int)))) rfl (rx_var (d := enc (v_one : (T3 (List (Str × Int)) (List (T3 Str (Tp Int) Bool)) (List (Str × (Tp Int)))))) rfl) rx_int)) (RXo.s (rxo_filtO (eα := enc) (eβ := enc) (fun x10 => [.val (enc (v_one : (T3 (List (Str × Int)) (List (T3 Str (Tp Int) Bool)) (List (Str × (Tp Int)))))), .val (enc (v_other : (T3 (List (Str × Int)) (List (T3 Str (Tp Int) Bool)) (List (Str × (Tp Int)))))), .val (enc (v_pairs : (List (Int × Int)))), .val (enc (v7 : (List Int))), .un, .un, .un, .un, .un, .un, .un, .un, .val (enc (x10 : Int)), .un, .un, .un, .un, .un, .un]) [12] (ri_rangeLenM (f := enc) (RX.s (rx_ixT (ds := [enc (v_other.a : (List (Str × Int))), enc (v_other.b : (List (T3 Str (Tp Int) Bool))), enc (v_other.c : (List (Str × (Tp Int))))]) (d := enc (v_other.a : (List (Str × Int)))) rfl (rx_var (d := enc (v_other : (T3 (List (Str × Int)) (List (T3 Str (Tp Int) Bool)) (List (Str × (Tp Int)))))) rfl) rx_int))) h18 (by decide) (fun x10 _ => (rg_name (i := 12) (d := enc (x10 : Int)))) (fun x10 _ y h9 D11 acc12 => by obtain rfl := Option.some.inj h9; exact (rt_val (rx_inI (neg := true) (rx_var (d := enc (x10 : Int)) rfl) (RX.s (rx_var (d := enc (v7 : (List Int))) rfl))))) (fun x10 _ y h9 D11 acc12 => by obtain ⟨t15, h16, h9⟩ := bindE h9; obtain rfl := Option.some.inj h9; exact (rx_ix (atI_map enc h16) (RX.s (rx_ixT (ds := [enc (v_other.a : (List (Str × Int))), enc (v_other.b : (List (T3 Str (Tp Int) Bool))), enc (v_other.c : (List (Str × (Tp Int))))]) (d := enc (v_other.a : (List (Str × Int)))) rfl (rx_var (d := enc (v_other : (T3 (List (Str × Int)) (List (T3 Str (Tp Int) Bool)) (List (Str × (Tp Int)))))) rfl) rx_int)) (rx_var (d := enc (x10 : Int)) rfl)))))) E S fun p_ins21 σ F H f E S => ?_
  replace fc := fc.trans f
  have E : EnvR K _ _ [.val (enc (v_one : (T3 (List (Str × Int)) (List (T3 Str (Tp Int) Bool)) (List (Str × (Tp Int)))))), .val (enc (v_other : (T3 (List (Str × Int)) (List (T3 Str (Tp Int) Bool)) (List (Str × (Tp Int)))))), .val (enc (v_pairs : (List (Int × Int)))), .val (enc (v7 : (List Int))), .adr p_ins21, .un, .un, .un, .un, .un, .un, .un, .un, .un, .un, .un, .un, .un, .un] := E
  have S : Hx K _ _ _ _ [⟨p_ins21, true, t19.map enc⟩] _ := S
  obtain ⟨v26, h27, hm0⟩ := letE hm0
  try (with_reducible refine nxD ?_)
  with_reducible refine sq ?_
  refine st_set (i := 5) (d := enc (v26 : (List Int))) (rx_as (x := ((v_pairs.map (fun (x23 : (Int × Int)) => (x23.1 : Int))) : (List Int))) h27 (RXo.frz (rxo_map (eα := enc) (eβ := enc) (f := (fun (x23 : (Int × Int)) => (x23.1 : Int))) (fun x23 => [.val (enc (v_one : (T3 (List (Str × Int)) (List (T3 Str (Tp Int) Bool)) (List (Str × (Tp Int)))))), .val (enc (v_other : (T3 (List (Str × Int)) (List (T3 Str (Tp Int) Bool)) (List (Str × (Tp Int)))))), .val (enc (v_pairs : (List (Int × Int)))), .val (enc (v7 : (List Int))), .adr p_ins21, .un, .un, .un, .un, .un, .un, .val (enc (x23.1 : Int)), .val (enc (x23.2 : Int)), .un, .un, .un, .un, .un, .un]) [11, 12] (ri_list (ys := v_pairs.map enc) (rx_var (d := enc (v_pairs : (List (Int × Int)))) rfl)) (by decide) (fun x23 _ => (rg_tup (ds := [enc (x23.1 : Int), enc (x23.2 : Int)]) (RGs.cons (rg_name (i := 11) (d := enc (x23.1 : Int))) (RGs.cons (rg_name (i := 12) (d := enc (x23.2 : Int))) RGs.nil)))) (fun x23 _ D24 acc25 => (rx_var (d := enc (x23.1 : Int)) rfl))))) E S fun σ F H f E S => ?_
  replace fc := fc.trans f
  have E : EnvR K _ _ [.val (enc (v_one : (T3 (List (Str × Int)) (List (T3 Str (Tp Int) Bool)) (List (Str × (Tp Int)))))), .val (enc (v_other : (T3 (List (Str × Int)) (List (T3 Str (Tp Int) Bool)) (List (Str × (Tp Int)))))), .val (enc (v_pairs : (List (Int × Int)))), .val (enc (v7 : (List Int))), .adr p_ins21, .val (enc (v26 : (List Int))), .un, .un, .un, .un, .un, .un, .un, .un, .un, .un, .un, .un, .un] := E
  have S : Hx K _ _ _ _ [⟨p_ins21, true, t19.map enc⟩] _ := S
  obtain ⟨v32, h33, hm0⟩ := letE hm0
  try (with_reducible refine nxD ?_)
  with_reducible refine sq ?_
  refine st_set (i := 6) (d := enc (v32 : (List Int))) (rx_as (x := ((((rngL 0 v_one.c.length).filter (fun (x29 : Int) => (!decide (x29 ∈ v26)))).map (fun (x29 : Int) => (x29 : Int))) : (List Int))) h33 (RXo.frz (rxo_filt (eα := enc) (eβ := enc) (p := (fun (x29 : Int) => (!decide (x29 ∈ v26)))) (f := (fun (x29 : Int) => (x29 : Int))) (fun x29 => [.val (enc (v_one : (T3 (List (Str × Int)) (List (T3 Str (Tp Int) Bool)) (List (Str × (Tp Int)))))), .val (enc (v_other : (T3 (List (Str × Int)) (List (T3 Str (Tp Int) Bool)) (List (Str × (Tp Int)))))), .val (enc (v_pairs : (List (Int × Int)))), .val (enc (v7 : (List Int))), .adr p_ins21, .val (enc (v26 : (List Int))), .un, .un, .un, .un, .un, .un, .val (enc (x29 : Int)), .un, .un, .un, .un, .un, .un]) [12] (ri_rangeLenM (f := enc) (RX.s (rx_ixT (ds := [enc (v_one.a : (List (Str × Int))), enc (v_one.b : (List (T3 Str (Tp Int) Bool))), enc (v_one.c : (List (Str × (Tp Int))))]) (d := enc (v_one.c : (List (Str × (Tp Int))))) rfl (rx_var (d := enc (v_one : (T3 (List (Str × Int)) (List (T3 Str (Tp Int) Bool)) (List (Str × (Tp Int)))))) rfl) rx_int))) (by decide) (fun x29 _ => (rg_name (i := 12) (d := enc (x29 : Int)))) (fun x29 _ D30 acc31 => (rt_val (rx_inI (neg := true) (rx_var (d := enc (x29 : Int)) rfl) (RX.s (rx_var (d := enc (v26 : (List Int))) rfl))))) (fun x29 _ D30 acc31 => (rx_var (d := enc (x29 : Int)) rfl))))) E S fun σ F H f E S => ?_
  replace fc := fc.trans f
  have E : EnvR K _ _ [.val (enc (v_one : (T3 (List (Str × Int)) (List (T3 Str (Tp Int) Bool)) (List (Str × (Tp Int)))))), .val (enc (v_other : (T3 (List (Str × Int)) (List (T3 Str (Tp Int) Bool)) (List (Str × (Tp Int)))))), .val (enc (v_pairs : (List (Int × Int)))), .val (enc (v7 : (List Int))), .adr p_ins21, .val (enc (v26 : (List Int))), .val (enc (v32 : (List Int))), .un, .un, .un, .un, .un, .un, .un, .un, .un, .un, .un, .un] := E
  have S : Hx K _ _ _ _ [⟨p_ins21, true, t19.map enc⟩] _ := S
  obtain ⟨r34, h35, hm0⟩ := bindE hm0
  try (with_reducible refine nxD ?_)
  with_reducible refine sq ?_
  refine st_expr (rx_callH1 (d := enc ((itIL t19) : (List (Str × IT)))) ⟨_, r34, rfl, rfl, h35⟩ (rxh_cv (enc_itIL t19) (RXs.h (rxs_own (j := 0) (ds := t19.map enc) rfl rfl)))) E S fun F H f E S => ?_
  replace fc := fc.trans f
  have E : EnvR K _ _ [.val (enc (v_one : (T3 (List (Str × Int)) (List (T3 Str (Tp Int) Bool)) (List (Str × (Tp Int)))))), .val (enc (v_other : (T3 (List (Str × Int)) (List (T3 Str (Tp Int) Bool)) (List (Str × (Tp Int)))))), .val (enc (v_pairs : (List (Int × Int)))), .val (enc (v7 : (List Int))), .adr p_ins21, .val (enc (v26 : (List Int))), .val (enc (v32 : (List Int))), .un, .un, .un, .un, .un, .un, .un, .un, .un, .un, .un, .un] := E
  have S : Hx K _ _ _ _ [⟨p_ins21, true, t19.map enc⟩] _ := S
  obtain ⟨l44, h45, hm0⟩ := bindE hm0
  obtain ⟨t46, h47, hm0⟩ := bindE hm0
  obtain ⟨r48, h49, hm0⟩ := bindE hm0
  try (with_reducible refine nxD ?_)
  with_reducible refine sq ?_
  refine st_expr (rx_call (ds := [enc ((itTL t46) : (List (Str × IT)))]) (d := enc (r48 : Unit)) ⟨_, r48, rfl, rfl, h49⟩ (ra_cons (rx_cv (enc_itTL t46) (RXo.frz (rxo_catO (f := enc) h47 (RXo.s (rxo_mapO (eα := enc) (eβ := enc) (fun x37 => [.val (enc (v_one : (T3 (List (Str × Int)) (List (T3 Str (Tp Int) Bool)) (List (Str × (Tp Int)))))), .val (enc (v_other : (T3 (List (Str × Int)) (List (T3 Str (Tp Int) Bool)) (List (Str × (Tp Int)))))), .val (enc (v_pairs : (List (Int × Int)))), .val (enc (v7 : (List Int))), .adr p_ins21, .val (enc (v26 : (List Int))), .val (enc (v32 : (List Int))), .un, .un, .un, .un, .un, .val (enc (x37 : Int)), .un, .un, .un, .un, .un, .un]) [12] (ri_list (ys := v32.map enc) (rx_var (d := enc (v32 : (List Int))) rfl)) h45 (by decide) (fun x37 _ => (rg_name (i := 12) (d := enc (x37 : Int)))) (fun x37 _ y h36 D38 acc39 => by obtain ⟨t42, h43, h36⟩ := bindE h36; obtain rfl := Option.some.inj h36; exact (rx_ix (atI_map enc h43) (RX.s (rx_ixT (ds := [enc (v_one.a : (List (Str × Int))), enc (v_one.b : (List (T3 Str (Tp Int) Bool))), enc (v_one.c : (List (Str × (Tp Int))))]) (d := enc (v_one.c : (List (Str × (Tp Int))))) rfl (rx_var (d := enc (v_one : (T3 (List (Str × Int)) (List (T3 Str (Tp Int) Bool)) (List (Str × (Tp Int)))))) rfl) rx_int)) (rx_var (d := enc (x37 : Int)) rfl))))) (RX.s (rx_ixT (ds := [enc (v_other.a : (List (Str × Int))), enc (v_other.b : (List (T3 Str (Tp Int) Bool))), enc (v_other.c : (List (Str × (Tp Int))))]) (d := enc (v_other.c : (List (Str × (Tp Int))))) rfl (rx_var (d := enc (v_other : (T3 (List (Str × Int)) (List (T3 Str (Tp Int) Bool)) (List (Str × (Tp Int)))))) rfl) rx_int))))) ra_nil)) E S fun F H f E S => ?_
  replace fc := fc.trans f
  have E : EnvR K _ _ [.val (enc (v_one : (T3 (List (Str × Int)) (List (T3 Str (Tp Int) Bool)) (List (Str × (Tp Int)))))), .val (enc (v_other : (T3 (List (Str × Int)) (List (T3 Str (Tp Int) Bool)) (List (Str × (Tp Int)))))), .val (enc (v_pairs : (List (Int × Int)))), .val (enc (v7 : (List Int))), .adr p_ins21, .val (enc (v26 : (List Int))), .val (enc (v32 : (List Int))), .un, .un, .un, .un, .un, .un, .un, .un, .un, .un, .un, .un] := E
  have S : Hx K _ _ _ _ [⟨p_ins21, true, t19.map enc⟩] _ := S
  try (with_reducible refine nxD ?_)
  with_reducible refine sq ?_
  refine st_if (b := ((decide ((6 : Int) < (t19.length : Int))) || ((decide ((60 : Int) < ((v_one.b.length : Int) + (v_other.b.length : Int)))) || (decide ((6 : Int) < ((v32.length : Int) + (v_other.c.length : Int))))))) (rt_or2 (rt_val (rx_gt (len_nat (f := enc) (rxs_own (j := 0) (ds := t19.map enc) rfl rfl)) rx_int)) (rt_or2 (rt_val (rx_gt (rx_add (len_nat (f := enc) (RX.s (rx_ixT (ds := [enc (v_one.a : (List (Str × Int))), enc (v_one.b : (List (T3 Str (Tp Int) Bool))), enc (v_one.c : (List (Str × (Tp Int))))]) (d := enc (v_one.b : (List (T3 Str (Tp Int) Bool)))) rfl (rx_var (d := enc (v_one : (T3 (List (Str × Int)) (List (T3 Str (Tp Int) Bool)) (List (Str × (Tp Int)))))) rfl) rx_int))) (len_nat (f := enc) (RX.s (rx_ixT (ds := [enc (v_other.a : (List (Str × Int))), enc (v_other.b : (List (T3 Str (Tp Int) Bool))), enc (v_other.c : (List (Str × (Tp Int))))]) (d := enc (v_other.b : (List (T3 Str (Tp Int) Bool)))) rfl (rx_var (d := enc (v_other : (T3 (List (Str × Int)) (List (T3 Str (Tp Int) Bool)) (List (Str × (Tp Int)))))) rfl) rx_int)))) rx_int)) (rt_val (rx_gt (rx_add (len_nat (f := enc) (RX.s (rx_var (d := enc (v32 : (List Int))) rfl))) (len_nat (f := enc) (RX.s (rx_ixT (ds := [enc (v_other.a : (List (Str × Int))), enc (v_other.b : (List (T3 Str (Tp Int) Bool))), enc (v_other.c : (List (Str × (Tp Int))))]) (d := enc (v_other.c : (List (Str × (Tp Int))))) rfl (rx_var (d := enc (v_other : (T3 (List (Str × Int)) (List (T3 Str (Tp Int) Bool)) (List (Str × (Tp Int)))))) rfl) rx_int)))) rx_int)))) E S (fun hc F H f E S => ?_) (fun hc F H f E S => ?_)
  · rw [if_pos hc] at hm0
    replace fc := fc.trans f
    cases hm0
  · rw [if_neg (by rw [hc]; decide)] at hm0
    replace fc := fc.trans f
    refine nxt ?_
    obtain ⟨v56, h57, hm0⟩ := letE hm0
    try (with_reducible refine nxD ?_)
    with_reducible refine sq ?_
    refine st_set (i := 7) (d := enc (v56 : Int)) (rx_as (x := ((v_one.a.map (fun (x53 : (Str × Int)) => (x53.2 : Int))).sum : Int)) h57 (rx_sum (RXo.s (rxo_map (eα := enc) (eβ := enc) (f := (fun (x53 : (Str × Int)) => (x53.2 : Int))) (fun x53 => [.val (enc (v_one : (T3 (List (Str × Int)) (List (T3 Str (Tp Int) Bool)) (List (Str × (Tp Int)))))), .val (enc (v_other : (T3 (List (Str × Int)) (List (T3 Str (Tp Int) Bool)) (List (Str × (Tp Int)))))), .val (enc (v_pairs : (List (Int × Int)))), .val (enc (v7 : (List Int))), .adr p_ins21, .val (enc (v26 : (List Int))), .val (enc (v32 : (List Int))), .un, .un, .un, .un, .un, .un, .un, .un, .val (enc (x53.1 : Str)), .val (enc (x53.2 : Int)), .un, .un]) [15, 16] (ri_list (ys := v_one.a.map enc) (rx_ixT (ds := [enc (v_one.a : (List (Str × Int))), enc (v_one.b : (List (T3 Str (Tp Int) Bool))), enc (v_one.c : (List (Str × (Tp Int))))]) (d := enc (v_one.a : (List (Str × Int)))) rfl (rx_var (d := enc (v_one : (T3 (List (Str × Int)) (List (T3 Str (Tp Int) Bool)) (List (Str × (Tp Int)))))) rfl) rx_int)) (by decide) (fun x53 _ => (rg_tup (ds := [enc (x53.1 : Str), enc (x53.2 : Int)]) (RGs.cons (rg_name (i := 15) (d := enc (x53.1 : Str))) (RGs.cons (rg_name (i := 16) (d := enc (x53.2 : Int))) RGs.nil)))) (fun x53 _ D54 acc55 => (rx_var (d := enc (x53.2 : Int)) rfl)))))) E S fun σ F H f E S => ?_
    replace fc := fc.trans f
    have E : EnvR K _ _ [.val (enc (v_one : (T3 (List (Str × Int)) (List (T3 Str (Tp Int) Bool)) (List (Str × (Tp Int)))))), .val (enc (v_other : (T3 (List (Str × Int)) (List (T3 Str (Tp Int) Bool)) (List (Str × (Tp Int)))))), .val (enc (v_pairs : (List (Int × Int)))), .val (enc (v7 : (List Int))), .adr p_ins21, .val (enc (v26 : (List Int))), .val (enc (v32 : (List Int))), .val (enc (v56 : Int)), .un, .un, .un, .un, .un, .un, .un, .un, .un, .un, .un] := E
    have S : Hx K _ _ _ _ [⟨p_ins21, true, t19.map enc⟩] _ := S
    obtain ⟨l62, h63, hm0⟩ := bindE hm0
    try (with_reducible refine nxD ?_)
    with_reducible refine sq ?_
    refine st_set (i := 8) (d := enc (l62.sum : Int)) (rx_sum (RXo.s (rxo_filtW (j := 0) (eα := enc) (eβ := enc) (fun x59 => [.val (enc (v_one : (T3 (List (Str × Int)) (List (T3 Str (Tp Int) Bool)) (List (Str × (Tp Int)))))), .val (enc (v_other : (T3 (List (Str × Int)) (List (T3 Str (Tp Int) Bool)) (List (Str × (Tp Int)))))), .val (enc (v_pairs : (List (Int × Int)))), .val (enc (v7 : (List Int))), .adr p_ins21, .val (enc (v26 : (List Int))), .val (enc (v32 : (List Int))), .val (enc (v56 : Int)), .un, .un, .un, .un, .un, .un, .un, .val (enc (x59.1 : Str)), .val (enc (x59.2 : Int)), .un, .un]) [15, 16] rfl rfl h63 (by decide) (fun x59 _ => (rg_tup (ds := [enc (x59.1 : Str), enc (x59.2 : Int)]) (RGs.cons (rg_name (i := 15) (d := enc (x59.1 : Str))) (RGs.cons (rg_name (i := 16) (d := enc (x59.2 : Int))) RGs.nil)))) (fun x59 _ y h58 D60 acc61 => by obtain rfl := Option.some.inj h58; exact rt_yes) (fun x59 _ y h58 D60 acc61 => by obtain rfl := Option.some.inj h58; exact (rx_var (d := enc (x59.2 : Int)) rfl))))) E S fun σ F H f E S => ?_
    replace fc := fc.trans f
    have E : EnvR K _ _ [.val (enc (v_one : (T3 (List (Str × Int)) (List (T3 Str (Tp Int) Bool)) (List (Str × (Tp Int)))))), .val (enc (v_other : (T3 (List (Str × Int)) (List (T3 Str (Tp Int) Bool)) (List (Str × (Tp Int)))))), .val (enc (v_pairs : (List (Int × Int)))), .val (enc (v7 : (List Int))), .adr p_ins21, .val (enc (v26 : (List Int))), .val (enc (v32 : (List Int))), .val (enc (v56 : Int)), .val (enc (l62.sum : Int)), .un, .un, .un, .un, .un, .un, .un, .un, .un, .un] := E
    have S : Hx K _ _ _ _ [⟨p_ins21, true, t19.map enc⟩] _ := S
    obtain ⟨r64, h65, hm0⟩ := bindE hm0
    try (with_reducible refine nxD ?_)
    with_reducible refine sq ?_
    refine st_set (i := 9) (d := enc (r64 : (List Int))) (RXo.frz (rxo_call (ds := [enc (v_one : (T3 (List (Str × Int)) (List (T3 Str (Tp Int) Bool)) (List (Str × (Tp Int))))), enc ((l62.sum - v56) : Int)]) (es := r64.map enc) ⟨_, _, r64, rfl, rfl, h65⟩ (ra_cons (rx_var (d := enc (v_one : (T3 (List (Str × Int)) (List (T3 Str (Tp Int) Bool)) (List (Str × (Tp Int)))))) rfl) (ra_cons (rx_sub (rx_var (d := enc (l62.sum : Int)) rfl) (rx_var (d := enc (v56 : Int)) rfl)) ra_nil)))) E S fun σ F H f E S => ?_
    replace fc := fc.trans f
    have E : EnvR K _ _ [.val (enc (v_one : (T3 (List (Str × Int)) (List (T3 Str (Tp Int) Bool)) (List (Str × (Tp Int)))))), .val (enc (v_other : (T3 (List (Str × Int)) (List (T3 Str (Tp Int) Bool)) (List (Str × (Tp Int)))))), .val (enc (v_pairs : (List (Int × Int)))), .val (enc (v7 : (List Int))), .adr p_ins21, .val (enc (v26 : (List Int))), .val (enc (v32 : (List Int))), .val (enc (v56 : Int)), .val (enc (l62.sum : Int)), .val (enc (r64 : (List Int))), .un, .un, .un, .un, .un, .un, .un, .un, .un] := E
    have S : Hx K _ _ _ _ [⟨p_ins21, true, t19.map enc⟩] _ := S
    try (with_reducible refine nxD ?_)
    with_reducible refine sq ?_
    refine st_newK (i := 10) E S fun p_fed66 σ F H f E S => ?_
    replace fc := fc.trans f
    have E : EnvR K _ _ [.val (enc (v_one : (T3 (List (Str × Int)) (List (T3 Str (Tp Int) Bool)) (List (Str × (Tp Int)))))), .val (enc (v_other : (T3 (List (Str × Int)) (List (T3 Str (Tp Int) Bool)) (List (Str × (Tp Int)))))), .val (enc (v_pairs : (List (Int × Int)))), .val (enc (v7 : (List Int))), .adr p_ins21, .val (enc (v26 : (List Int))), .val (enc (v32 : (List Int))), .val (enc (v56 : Int)), .val (enc (l62.sum : Int)), .val (enc (r64 : (List Int))), .adr p_fed66, .un, .un, .un, .un, .un, .un, .un, .un] := E
    have S : Hx K _ _ _ _ [⟨p_fed66, true, .k (encK (([] : (List (Int × (List Int)))) : (List (Int × (List Int)))))⟩, ⟨p_ins21, true, t19.map enc⟩] _ := S
    obtain ⟨s87, h71, hm0⟩ := bindE hm0
    try (with_reducible refine nxD ?_)
    with_reducible refine sq ?_
    refine st_forS (eα := enc) (fun s68 => [.val (enc (v_one : (T3 (List (Str × Int)) (List (T3 Str (Tp Int) Bool)) (List (Str × (Tp Int)))))), .val (enc (v_other : (T3 (List (Str × Int)) (List (T3 Str (Tp Int) Bool)) (List (Str × (Tp Int)))))), .val (enc (v_pairs : (List (Int × Int)))), .val (enc (v7 : (List Int))), .adr p_ins21, .val (enc (v26 : (List Int))), .val (enc (v32 : (List Int))), .val (enc (v56 : Int)), .val (enc (l62.sum : Int)), .val (enc (r64 : (List Int))), .adr p_fed66, .un, .un, .un, .un, .un, .un, .un, .un]) (fun s68 => [⟨p_fed66, true, .k (encK (s68 : (List (Int × (List Int)))))⟩, ⟨p_ins21, true, t19.map enc⟩]) E S (ri_list (ys := v_pairs.map enc) (rx_var (d := enc (v_pairs : (List (Int × Int)))) rfl)) h71 ⟨.inl rfl, .inl rfl, .inl rfl, .inl rfl, .inl rfl, .inl rfl, .inl rfl, .inl rfl, .inl rfl, .inl rfl, .inl rfl, .inr rfl, .inr rfl, .inr rfl, .inr rfl, .inr rfl, .inr rfl, .inr rfl, .inr rfl, trivial⟩ (fun σ F H f E S => ?_) (fun x69 _ s68 s' h67 σ F H v _ E S r N B hN => ?_)
    · replace fc := fc.trans f
      have E : EnvR K _ _ [.val (enc (v_one : (T3 (List (Str × Int)) (List (T3 Str (Tp Int) Bool)) (List (Str × (Tp Int)))))), .val (enc (v_other : (T3 (List (Str × Int)) (List (T3 Str (Tp Int) Bool)) (List (Str × (Tp Int)))))), .val (enc (v_pairs : (List (Int × Int)))), .val (enc (v7 : (List Int))), .adr p_ins21, .val (enc (v26 : (List Int))), .val (enc (v32 : (List Int))), .val (enc (v56 : Int)), .val (enc (l62.sum : Int)), .val (enc (r64 : (List Int))), .adr p_fed66, .un, .un, .un, .un, .un, .un, .un, .un] := E
      have S : Hx K _ _ _ _ [⟨p_fed66, true, .k (encK (s87 : (List (Int × (List Int)))))⟩, ⟨p_ins21, true, t19.map enc⟩] _ := S
      obtain ⟨F, f, E, S⟩ := frz_dk (i := 10) (j := 0) rfl rfl E S
      have E : EnvR K F _ [.val (enc (v_one : (T3 (List (Str × Int)) (List (T3 Str (Tp Int) Bool)) (List (Str × (Tp Int)))))), .val (enc (v_other : (T3 (List (Str × Int)) (List (T3 Str (Tp Int) Bool)) (List (Str × (Tp Int)))))), .val (enc (v_pairs : (List (Int × Int)))), .val (enc (v7 : (List Int))), .adr p_ins21, .val (enc (v26 : (List Int))), .val (enc (v32 : (List Int))), .val (enc (v56 : Int)), .val (enc (l62.sum : Int)), .val (enc (r64 : (List Int))), .dk (encK (s87 : (List (Int × (List Int))))), .un, .un, .un, .un, .un, .un, .un, .un] := E
      have S : Hx K _ _ _ F [⟨p_ins21, true, t19.map enc⟩] _ := S
      replace fc := fc.trans f
      obtain ⟨r88, h89, hm0⟩ := bindE hm0
      try (with_reducible refine nxD ?_)
      with_reducible refine sq ?_
      refine st_set (i := 13) (d := enc (r88 : (List Int))) (rx_callA (as := [.val (enc (v_other : (T3 (List (Str × Int)) (List (T3 Str (Tp Int) Bool)) (List (Str × (Tp Int)))))), .dk (encK (s87 : (List (Int × (List Int))))), .val (enc (v56 : Int)), .val (enc ((l62.sum + (v_one.b.length : Int)) : Int))]) (d := enc (r88 : (List Int))) ⟨_, _, _, _, r88, rfl, rfl, h89⟩ (ra_cons (rx_var (d := enc (v_other : (T3 (List (Str × Int)) (List (T3 Str (Tp Int) Bool)) (List (Str × (Tp Int)))))) rfl) (ra_dk (i := 10) rfl (ra_cons (rx_var (d := enc (v56 : Int)) rfl) (ra_cons (rx_add (rx_var (d := enc (l62.sum : Int)) rfl) (len_nat (f := enc) (RX.s (rx_ixT (ds := [enc (v_one.a : (List (Str × Int))), enc (v_one.b : (List (T3 Str (Tp Int) Bool))), enc (v_one.c : (List (Str × (Tp Int))))]) (d := enc (v_one.b : (List (T3 Str (Tp Int) Bool)))) rfl (rx_var (d := enc (v_one : (T3 (List (Str × Int)) (List (T3 Str (Tp Int) Bool)) (List (Str × (Tp Int)))))) rfl) rx_int)))) ra_nil))))) E S fun σ F H f E S => ?_
      replace fc := fc.trans f
      have E : EnvR K _ _ [.val (enc (v_one : (T3 (List (Str × Int)) (List (T3 Str (Tp Int) Bool)) (List (Str × (Tp Int)))))), .val (enc (v_other : (T3 (List (Str × Int)) (List (T3 Str (Tp Int) Bool)) (List (Str × (Tp Int)))))), .val (enc (v_pairs : (List (Int × Int)))), .val (enc (v7 : (List Int))), .adr p_ins21, .val (enc (v26 : (List Int))), .val (enc (v32 : (List Int))), .val (enc (v56 : Int)), .val (enc (l62.sum : Int)), .val (enc (r64 : (List Int))), .dk (encK (s87 : (List (Int × (List Int))))), .un, .un, .val (enc (r88 : (List Int))), .un, .un, .un, .un, .un] := E
      have S : Hx K _ _ _ _ [⟨p_ins21, true, t19.map enc⟩] _ := S
      obtain ⟨l122, h123, hm0⟩ := bindE hm0
      try (with_reducible refine nxD ?_)
      with_reducible refine sq ?_
      refine st_setO (i := 14) (ds := l122.map enc) (rxo_mapO (eα := enc) (eβ := enc) (fun x91 => [.val (enc (v_one : (T3 (List (Str × Int)) (List (T3 Str (Tp Int) Bool)) (List (Str × (Tp Int)))))), .val (enc (v_other : (T3 (List (Str × Int)) (List (T3 Str (Tp Int) Bool)) (List (Str × (Tp Int)))))), .val (enc (v_pairs : (List (Int × Int)))), .val (enc (v7 : (List Int))), .adr p_ins21, .val (enc (v26 : (List Int))), .val (enc (v32 : (List Int))), .val (enc (v56 : Int)), .val (enc (l62.sum : Int)), .val (enc (r64 : (List Int))), .dk (encK (s87 : (List (Int × (List Int))))), .un, .val (enc (x91 : Int)), .val (enc (r88 : (List Int))), .un, .un, .un, .un, .un]) [12] (ri_list (ys := v32.map enc) (rx_var (d := enc (v32 : (List Int))) rfl)) h123 (by decide) (fun x91 _ => (rg_name (i := 12) (d := enc (x91 : Int)))) (fun x91 _ y h90 D92 acc93 => by obtain ⟨t108, h109, h90⟩ := bindE h90; obtain ⟨t110, h111, h90⟩ := bindE h90; obtain ⟨l120, h121, h90⟩ := bindE h90; obtain rfl := Option.some.inj h90; exact (rx_tup (ds := [enc (t108.1 : Str), enc ((Tp.mk l120) : (Tp Int))]) (ra_cons (rx_ixT (ds := [enc (t108.1 : Str), enc (t108.2 : (Tp Int))]) (d := enc (t108.1 : Str)) rfl (rx_ix (atI_map enc h109) (RX.s (rx_ixT (ds := [enc (v_one.a : (List (Str × Int))), enc (v_one.b : (List (T3 Str (Tp Int) Bool))), enc (v_one.c : (List (Str × (Tp Int))))]) (d := enc (v_one.c : (List (Str × (Tp Int))))) rfl (rx_var (d := enc (v_one : (T3 (List (Str × Int)) (List (T3 Str (Tp Int) Bool)) (List (Str × (Tp Int)))))) rfl) rx_int)) (rx_var (d := enc (x91 : Int)) rfl)) rx_int) (ra_cons (rx_tuple (RXo.s (rxo_mapO (eα := enc) (eβ := enc) (fun x113 => [.val (enc (v_one : (T3 (List (Str × Int)) (List (T3 Str (Tp Int) Bool)) (List (Str × (Tp Int)))))), .val (enc (v_other : (T3 (List (Str × Int)) (List (T3 Str (Tp Int) Bool)) (List (Str × (Tp Int)))))), .val (enc (v_pairs : (List (Int × Int)))), .val (enc (v7 : (List Int))), .adr p_ins21, .val (enc (v26 : (List Int))), .val (enc (v32 : (List Int))), .val (enc (v56 : Int)), .val (enc (l62.sum : Int)), .val (enc (r64 : (List Int))), .dk (encK (s87 : (List (Int × (List Int))))), .un, .val (enc (x91 : Int)), .val (enc (r88 : (List Int))), .un, .un, .un, .val (enc (x113 : Int)), .un]) [17] (ri_tup (ys := t110.2.l.map enc) (rx_ixT (ds := [enc (t110.1 : Str), enc (t110.2 : (Tp Int))]) (d := enc (t110.2 : (Tp Int))) rfl (rx_ix (atI_map enc h111) (RX.s (rx_ixT (ds := [enc (v_one.a : (List (Str × Int))), enc (v_one.b : (List (T3 Str (Tp Int) Bool))), enc (v_one.c : (List (Str × (Tp Int))))]) (d := enc (v_one.c : (List (Str × (Tp Int))))) rfl (rx_var (d := enc (v_one : (T3 (List (Str × Int)) (List (T3 Str (Tp Int) Bool)) (List (Str × (Tp Int)))))) rfl) rx_int)) (rx_var (d := enc (x91 : Int)) rfl)) rx_int)) h121 (by decide) (fun x113 _ => (rg_name (i := 17) (d := enc (x113 : Int)))) (fun x113 _ y h112 D114 acc115 => by obtain ⟨t118, h119, h112⟩ := bindE h112; obtain rfl := Option.some.inj h112; exact (rx_ix (atI_map enc h119) (RX.s (rx_var (d := enc (r64 : (List Int))) rfl)) (rx_var (d := enc (x113 : Int)) rfl)))))) ra_nil))))) E S fun p_outs124 σ F H f E S => ?_
      replace fc := fc.trans f
      have E : EnvR K _ _ [.val (enc (v_one : (T3 (List (Str × Int)) (List (T3 Str (Tp Int) Bool)) (List (Str × (Tp Int)))))), .val (enc (v_other : (T3 (List (Str × Int)) (List (T3 Str (Tp Int) Bool)) (List (Str × (Tp Int)))))), .val (enc (v_pairs : (List (Int × Int)))), .val (enc (v7 : (List Int))), .adr p_ins21, .val (enc (v26 : (List Int))), .val (enc (v32 : (List Int))), .val (enc (v56 : Int)), .val (enc (l62.sum : Int)), .val (enc (r64 : (List Int))), .dk (encK (s87 : (List (Int × (List Int))))), .un, .un, .val (enc (r88 : (List Int))), .adr p_outs124, .un, .un, .un, .un] := E
      have S : Hx K _ _ _ _ [⟨p_outs124, true, l122.map enc⟩, ⟨p_ins21, true, t19.map enc⟩] _ := S
      obtain ⟨l149, h150, hm0⟩ := bindE hm0
      obtain ⟨t151, h152, hm0⟩ := bindE hm0
      try (with_reducible refine nxD ?_)
      with_reducible refine sq ?_
      refine st_setO (i := 14) (ds := t151.map enc) (rxo_catO (f := enc) h152 (rxs_own (j := 0) (ds := l122.map enc) rfl rfl) (RXo.s (rxo_mapO (eα := enc) (eβ := enc) (fun x126 => [.val (enc (v_one : (T3 (List (Str × Int)) (List (T3 Str (Tp Int) Bool)) (List (Str × (Tp Int)))))), .val (enc (v_other : (T3 (List (Str × Int)) (List (T3 Str (Tp Int) Bool)) (List (Str × (Tp Int)))))), .val (enc (v_pairs : (List (Int × Int)))), .val (enc (v7 : (List Int))), .adr p_ins21, .val (enc (v26 : (List Int))), .val (enc (v32 : (List Int))), .val (enc (v56 : Int)), .val (enc (l62.sum : Int)), .val (enc (r64 : (List Int))), .dk (encK (s87 : (List (Int × (List Int))))), .un, .un, .val (enc (r88 : (List Int))), .adr p_outs124, .val (enc (x126.1 : Str)), .un, .un, .val (enc (x126.2 : (Tp Int)))]) [15, 18] (ri_list (ys := v_other.c.map enc) (rx_ixT (ds := [enc (v_other.a : (List (Str × Int))), enc (v_other.b : (List (T3 Str (Tp Int) Bool))), enc (v_other.c : (List (Str × (Tp Int))))]) (d := enc (v_other.c : (List (Str × (Tp Int))))) rfl (rx_var (d := enc (v_other : (T3 (List (Str × Int)) (List (T3 Str (Tp Int) Bool)) (List (Str × (Tp Int)))))) rfl) rx_int)) h150 (by decide) (fun x126 _ => (rg_tup (ds := [enc (x126.1 : Str), enc (x126.2 : (Tp Int))]) (RGs.cons (rg_name (i := 15) (d := enc (x126.1 : Str))) (RGs.cons (rg_name (i := 18) (d := enc (x126.2 : (Tp Int)))) RGs.nil)))) (fun x126 _ y h125 D127 acc128 => by obtain ⟨l147, h148, h125⟩ := bindE h125; obtain rfl := Option.some.inj h125; exact (rx_tup (ds := [enc (x126.1 : Str), enc ((Tp.mk l147) : (Tp Int))]) (ra_cons (rx_var (d := enc (x126.1 : Str)) rfl) (ra_cons (rx_tuple (RXo.s (rxo_mapO (eα := enc) (eβ := enc) (fun x140 => [.val (enc (v_one : (T3 (List (Str × Int)) (List (T3 Str (Tp Int) Bool)) (List (Str × (Tp Int)))))), .val (enc (v_other : (T3 (List (Str × Int)) (List (T3 Str (Tp Int) Bool)) (List (Str × (Tp Int)))))), .val (enc (v_pairs : (List (Int × Int)))), .val (enc (v7 : (List Int))), .adr p_ins21, .val (enc (v26 : (List Int))), .val (enc (v32 : (List Int))), .val (enc (v56 : Int)), .val (enc (l62.sum : Int)), .val (enc (r64 : (List Int))), .dk (encK (s87 : (List (Int × (List Int))))), .un, .un, .val (enc (r88 : (List Int))), .adr p_outs124, .val (enc (x126.1 : Str)), .un, .val (enc (x140 : Int)), .val (enc (x126.2 : (Tp Int)))]) [17] (ri_tup (ys := x126.2.l.map enc) (rx_var (d := enc (x126.2 : (Tp Int))) rfl)) h148 (by decide) (fun x140 _ => (rg_name (i := 17) (d := enc (x140 : Int)))) (fun x140 _ y h139 D141 acc142 => by obtain ⟨t145, h146, h139⟩ := bindE h139; obtain rfl := Option.some.inj h139; exact (rx_ix (atI_map enc h146) (RX.s (rx_var (d := enc (r88 : (List Int))) rfl)) (rx_var (d := enc (x140 : Int)) rfl)))))) ra_nil))))))) E S fun p_outs153 σ F H f E S => ?_
      replace fc := fc.trans f
      have E : EnvR K _ _ [.val (enc (v_one : (T3 (List (Str × Int)) (List (T3 Str (Tp Int) Bool)) (List (Str × (Tp Int)))))), .val (enc (v_other : (T3 (List (Str × Int)) (List (T3 Str (Tp Int) Bool)) (List (Str × (Tp Int)))))), .val (enc (v_pairs : (List (Int × Int)))), .val (enc (v7 : (List Int))), .adr p_ins21, .val (enc (v26 : (List Int))), .val (enc (v32 : (List Int))), .val (enc (v56 : Int)), .val (enc (l62.sum : Int)), .val (enc (r64 : (List Int))), .dk (encK (s87 : (List (Int × (List Int))))), .un, .un, .val (enc (r88 : (List Int))), .adr p_outs153, .un, .un, .un, .un] := E
      have S : Hx K _ _ _ _ [⟨p_outs153, true, t151.map enc⟩, ⟨p_outs124, true, l122.map enc⟩, ⟨p_ins21, true, t19.map enc⟩] _ := S
      obtain ⟨r154, h155, hm0⟩ := bindE hm0
      obtain ⟨r156, h157, hm0⟩ := bindE hm0
      obtain ⟨t158, h159, hm0⟩ := bindE hm0
      obtain rfl := Option.some.inj hm0
      -- return
      try (with_reducible refine nxD ?_)
      refine st_retT (ess := [t19.map enc, t158.map enc, t151.map enc]) (rao_cons (es := t19.map enc) (rxo_own (j := 2) (p := p_ins21) (ds := t19.map enc) rfl rfl) (rao_cons (es := t158.map enc) (rxo_catO (f := enc) h159 (RXo.s (rxo_call (ds := [enc (v_one.b : (List (T3 Str (Tp Int) Bool))), enc (r64 : (List Int))]) (es := r154.map enc) ⟨_, _, r154, rfl, rfl, h155⟩ (ra_cons (rx_ixT (ds := [enc (v_one.a : (List (Str × Int))), enc (v_one.b : (List (T3 Str (Tp Int) Bool))), enc (v_one.c : (List (Str × (Tp Int))))]) (d := enc (v_one.b : (List (T3 Str (Tp Int) Bool)))) rfl (rx_var (d := enc (v_one : (T3 (List (Str × Int)) (List (T3 Str (Tp Int) Bool)) (List (Str × (Tp Int)))))) rfl) rx_int) (ra_cons (rx_var (d := enc (r64 : (List Int))) rfl) ra_nil)))) (RXo.s (rxo_call (ds := [enc (v_other.b : (List (T3 Str (Tp Int) Bool))), enc (r88 : (List Int))]) (es := r156.map enc) ⟨_, _, r156, rfl, rfl, h157⟩ (ra_cons (rx_ixT (ds := [enc (v_other.a : (List (Str × Int))), enc (v_other.b : (List (T3 Str (Tp Int) Bool))), enc (v_other.c : (List (Str × (Tp Int))))]) (d := enc (v_other.b : (List (T3 Str (Tp Int) Bool)))) rfl (rx_var (d := enc (v_other : (T3 (List (Str × Int)) (List (T3 Str (Tp Int) Bool)) (List (Str × (Tp Int)))))) rfl) rx_int) (ra_cons (rx_var (d := enc (r88 : (List Int))) rfl) ra_nil))))) (rao_cons (es := t151.map enc) (rxo_own (j := 0) (p := p_outs153) (ds := t151.map enc) rfl rfl) rao_nil))) E S (fun T ps F H f hl hT S => ?_)
      obtain ⟨nd, hq⟩ := S.outT hl
      exact k T ps F H S.stp hT hl nd hq
    · refine ((rg_tup (ds := [enc (x69.1 : Int), enc (x69.2 : Int)]) (RGs.cons (rg_name (i := 11) (d := enc (x69.1 : Int))) (RGs.cons (rg_name (i := 12) (d := enc (x69.2 : Int))) RGs.nil)))).run _ _ _ _ _ E r S.fh fun σ E _ => ?_
      have E : EnvR K _ _ [.val (enc (v_one : (T3 (List (Str × Int)) (List (T3 Str (Tp Int) Bool)) (List (Str × (Tp Int)))))), .val (enc (v_other : (T3 (List (Str × Int)) (List (T3 Str (Tp Int) Bool)) (List (Str × (Tp Int)))))), .val (enc (v_pairs : (List (Int × Int)))), .val (enc (v7 : (List Int))), .adr p_ins21, .val (enc (v26 : (List Int))), .val (enc (v32 : (List Int))), .val (enc (v56 : Int)), .val (enc (l62.sum : Int)), .val (enc (r64 : (List Int))), .adr p_fed66, .val (enc (x69.1 : Int)), .val (enc (x69.2 : Int)), .un, .un, .un, .un, .un, .un] := E
      have S : Hx K _ _ _ _ [⟨p_fed66, true, .k (encK (s68 : (List (Int × (List Int)))))⟩, ⟨p_ins21, true, t19.map enc⟩] _ := S
      have fc : Same F F := Same.refl F
      obtain ⟨t73, h74, h67⟩ := bindE h67
      obtain ⟨l83, h84, h67⟩ := bindE h67
      obtain ⟨u85, h86, h67⟩ := bindE h67
      try (with_reducible refine nxD ?_)
      refine (st_dput (i := 10) (j := 0) (v := (l83 : (List Int))) h86 rfl (RXo.frz (rxo_mapO (eα := enc) (eβ := enc) (fun x76 => [.val (enc (v_one : (T3 (List (Str × Int)) (List (T3 Str (Tp Int) Bool)) (List (Str × (Tp Int)))))), .val (enc (v_other : (T3 (List (Str × Int)) (List (T3 Str (Tp Int) Bool)) (List (Str × (Tp Int)))))), .val (enc (v_pairs : (List (Int × Int)))), .val (enc (v7 : (List Int))), .adr p_ins21, .val (enc (v26 : (List Int))), .val (enc (v32 : (List Int))), .val (enc (v56 : Int)), .val (enc (l62.sum : Int)), .val (enc (r64 : (List Int))), .adr p_fed66, .val (enc (x69.1 : Int)), .val (enc (x69.2 : Int)), .un, .un, .un, .un, .val (enc (x76 : Int)), .un]) [17] (ri_tup (ys := t73.2.l.map enc) (rx_ixT (ds := [enc (t73.1 : Str), enc (t73.2 : (Tp Int))]) (d := enc (t73.2 : (Tp Int))) rfl (rx_ix (atI_map enc h74) (RX.s (rx_ixT (ds := [enc (v_one.a : (List (Str × Int))), enc (v_one.b : (List (T3 Str (Tp Int) Bool))), enc (v_one.c : (List (Str × (Tp Int))))]) (d := enc (v_one.c : (List (Str × (Tp Int))))) rfl (rx_var (d := enc (v_one : (T3 (List (Str × Int)) (List (T3 Str (Tp Int) Bool)) (List (Str × (Tp Int)))))) rfl) rx_int)) (rx_var (d := enc (x69.1 : Int)) rfl)) rx_int)) h84 (by decide) (fun x76 _ => (rg_name (i := 17) (d := enc (x76 : Int)))) (fun x76 _ y h75 D77 acc78 => by obtain ⟨t81, h82, h75⟩ := bindE h75; obtain rfl := Option.some.inj h75; exact (rx_ix (atI_map enc h82) (RX.s (rx_var (d := enc (r64 : (List Int))) rfl)) (rx_var (d := enc (x76 : Int)) rfl))))) (rx_var (d := enc (x69.2 : Int)) rfl) rfl E S fun F H f E S => ?_)
      replace fc := fc.trans f
      have E : EnvR K _ _ [.val (enc (v_one : (T3 (List (Str × Int)) (List (T3 Str (Tp Int) Bool)) (List (Str × (Tp Int)))))), .val (enc (v_other : (T3 (List (Str × Int)) (List (T3 Str (Tp Int) Bool)) (List (Str × (Tp Int)))))), .val (enc (v_pairs : (List (Int × Int)))), .val (enc (v7 : (List Int))), .adr p_ins21, .val (enc (v26 : (List Int))), .val (enc (v32 : (List Int))), .val (enc (v56 : Int)), .val (enc (l62.sum : Int)), .val (enc (r64 : (List Int))), .adr p_fed66, .val (enc (x69.1 : Int)), .val (enc (x69.2 : Int)), .un, .un, .un, .un, .un, .un] := E
      have S : Hx K _ _ _ _ [⟨p_fed66, true, .k (encK (u85 : (List (Int × (List Int)))))⟩, ⟨p_ins21, true, t19.map enc⟩] _ := S
      obtain rfl := Option.some.inj h67
      exact hN _ _ _ fc (E.weak ⟨.inl rfl, .inl rfl, .inl rfl, .inl rfl, .inl rfl, .inl rfl, .inl rfl, .inl rfl, .inl rfl, .inl rfl, .inl rfl, .inr rfl, .inr rfl, .inr rfl, .inr rfl, .inr rfl, .inr rfl, .inr rfl, .inr rfl, trivial⟩) S
theorem sc_gate_bits : FnScope ["kind", "some", "ones"] ["kind", "some", "ones"] (defScope (top 6)) := ⟨rfl, rfl, rfl, by decide +kernel, rfl, by decide +kernel, by decide +kernel⟩
theorem ok_gate_bits (D : Dfn K mg "gate_bits" (top 6) ["kind", "some", "ones"]) : Cal P w K mg base 1 "gate_bits" ["kind", "some", "ones"] (SpP K R_gate_bits) := by
  refine D.cal sc_gate_bits (sp_len fun ds d h => by obtain ⟨_, _, _, _, rfl, _⟩ := h; rfl) fun f cdv A outer s H vs Q E hr h => ?_
  refine ⟨_, (pss_cons (ps_if (pt_cmpR op_eq (pv 0) pe_str (nomark _)) (pss_one (ps_ret (pe_op op_xor (pv 2) (pe_ix (k_ix_seq K) (pv 1) pe_int (fun _ _ => rfl))))) pss_nil) (pss_cons (ps_if (pt_cmpR op_eq (pv 0) pe_str (nomark _)) (pss_one (ps_ret (pe_op op_and (pe_ix (k_ix_seq K) (pv 1) pe_int (fun _ _ => rfl)) (pe_ix (k_ix_seq K) (pv 1) pe_int (fun _ _ => rfl))))) pss_nil) (pss_cons (ps_if (pt_cmpR op_eq (pv 0) pe_str (nomark _)) (pss_one (ps_ret (pe_op op_or (pe_ix (k_ix_seq K) (pv 1) pe_int (fun _ _ => rfl)) (pe_ix (k_ix_seq K) (pv 1) pe_int (fun _ _ => rfl))))) pss_nil) (pss_cons (ps_if (pt_cmpR op_eq (pv 0) pe_str (nomark _)) (pss_one (ps_ret (pe_op op_xor (pe_ix (k_ix_seq K) (pv 1) pe_int (fun _ _ => rfl)) (pe_ix (k_ix_seq K) (pv 1) pe_int (fun _ _ => rfl))))) pss_nil) (pss_one (ps_ret (pe_op op_or (pe_op op_or (pe_op op_and (pe_ix (k_ix_seq K) (pv 1) pe_int (fun _ _ => rfl)) (pe_ix (k_ix_seq K) (pv 1) pe_int (fun _ _ => rfl))) (pe_op op_and (pe_ix (k_ix_seq K) (pv 1) pe_int (fun _ _ => rfl)) (pe_ix (k_ix_seq K) (pv 1) pe_int (fun _ _ => rfl)))) (pe_op op_and (pe_ix (k_ix_seq K) (pv 1) pe_int (fun _ _ => rfl)) (pe_ix (k_ix_seq K) (pv 1) pe_int (fun _ _ => rfl)))))))))), ?_⟩
  obtain ⟨F, ds, d, hw, hF, ⟨v_kind, v_some, v_ones, rr, rfl, rfl, hm0⟩, k⟩ := h
  have E : EnvR K F _ [.val (enc (v_kind : Str)), .val (enc (v_some : (Sq Int))), .val (enc (v_ones : Int))] := EnvR.start (N := ["kind", "some", "ones"]) (AsR.of_all hw)
  have S := Hx.start (K := K) hF
  have fc : Same F F := Same.refl F
  unfold m_gate_bits at hm0
  try (with_reducible refine nxD ?_)
  with_reducible refine sq ?_
  refine st_if (b := (decide (v_kind = ("not" : Str)))) (rt_val (rx_eqs (rx_var (d := enc (v_kind : Str)) rfl) (rx_str (x := ("not" : Str))))) E S (fun hc F H f E S => ?_) (fun hc F H f E S => ?_)
  · rw [if_pos hc] at hm0
    replace fc := fc.trans f
    obtain ⟨t3, h4, hm0⟩ := bindE hm0
    obtain rfl := Option.some.inj hm0
    -- return
    try (with_reducible refine nxD ?_)
    refine st_ret (d := enc ((Builtin.bitXor v_ones t3) : Int)) (rx_bxor (rx_var (d := enc (v_ones : Int)) rfl) (rx_ixQ h4 (rx_var (d := enc (v_some : (Sq Int))) rfl) rx_int)) E S fun v F H f S r => ?_
    exact k v F H S.stp r
  · rw [if_neg (by rw [hc]; decide)] at hm0
    replace fc := fc.trans f
    refine nxt ?_
    try (with_reducible refine nxD ?_)
    with_reducible refine sq ?_
    refine st_if (b := (decide (v_kind = ("and" : Str)))) (rt_val (rx_eqs (rx_var (d := enc (v_kind : Str)) rfl) (rx_str (x := ("and" : Str))))) E S (fun hc F H f E S => ?_) (fun hc F H f E S => ?_)
    · rw [if_pos hc] at hm0
      replace fc := fc.trans f
      obtain ⟨t9, h10, hm0⟩ := bindE hm0
      obtain ⟨t11, h12, hm0⟩ := bindE hm0
      obtain rfl := Option.some.inj hm0
      -- return
      try (with_reducible refine nxD ?_)
      refine st_ret (d := enc ((Builtin.bitAnd t9 t11) : Int)) (rx_band (rx_ixQ h10 (rx_var (d := enc (v_some : (Sq Int))) rfl) rx_int) (rx_ixQ h12 (rx_var (d := enc (v_some : (Sq Int))) rfl) rx_int)) E S fun v F H f S r => ?_
      exact k v F H S.stp r
    · rw [if_neg (by rw [hc]; decide)] at hm0
      replace fc := fc.trans f
      refine nxt ?_
      try (with_reducible refine nxD ?_)
      with_reducible refine sq ?_
      refine st_if (b := (decide (v_kind = ("or" : Str)))) (rt_val (rx_eqs (rx_var (d := enc (v_kind : Str)) rfl) (rx_str (x := ("or" : Str))))) E S (fun hc F H f E S => ?_) (fun hc F H f E S => ?_)
      · rw [if_pos hc] at hm0
        replace fc := fc.trans f
        obtain ⟨t17, h18, hm0⟩ := bindE hm0
        obtain ⟨t19, h20, hm0⟩ := bindE hm0
        obtain rfl := Option.some.inj hm0
        -- return
        try (with_reducible refine nxD ?_)
        refine st_ret (d := enc ((Builtin.bitOr t17 t19) : Int)) (rx_bor (rx_ixQ h18 (rx_var (d := enc (v_some : (Sq Int))) rfl) rx_int) (rx_ixQ h20 (rx_var (d := enc (v_some : (Sq Int))) rfl) rx_int)) E S fun v F H f S r => ?_
        exact k v F H S.stp r
      · rw [if_neg (by rw [hc]; decide)] at hm0
        replace fc := fc.trans f
        refine nxt ?_
        try (with_reducible refine nxD ?_)
        with_reducible refine sq ?_
        refine st_if (b := (decide (v_kind = ("xor" : Str)))) (rt_val (rx_eqs (rx_var (d := enc (v_kind : Str)) rfl) (rx_str (x := ("xor" : Str))))) E S (fun hc F H f E S => ?_) (fun hc F H f E S => ?_)
        · rw [if_pos hc] at hm0
          replace fc := fc.trans f
          obtain ⟨t25, h26, hm0⟩ := bindE hm0
          obtain ⟨t27, h28, hm0⟩ := bindE hm0
          obtain rfl := Option.some.inj hm0
          -- return
          try (with_reducible refine nxD ?_)
          refine st_ret (d := enc ((Builtin.bitXor t25 t27) : Int)) (rx_bxor (rx_ixQ h26 (rx_var (d := enc (v_some : (Sq Int))) rfl) rx_int) (rx_ixQ h28 (rx_var (d := enc (v_some : (Sq Int))) rfl) rx_int)) E S fun v F H f S r => ?_
          exact k v F H S.stp r
        · rw [if_neg (by rw [hc]; decide)] at hm0
          replace fc := fc.trans f
          refine nxt ?_
          obtain ⟨t41, h42, hm0⟩ := bindE hm0
          obtain ⟨t43, h44, hm0⟩ := bindE hm0
          obtain ⟨t45, h46, hm0⟩ := bindE hm0
          obtain ⟨t47, h48, hm0⟩ := bindE hm0
          obtain ⟨t49, h50, hm0⟩ := bindE hm0
          obtain ⟨t51, h52, hm0⟩ := bindE hm0
          obtain rfl := Option.some.inj hm0
          -- return
          try (with_reducible refine nxD ?_)
          refine st_ret (d := enc ((Builtin.bitOr (Builtin.bitOr (Builtin.bitAnd t41 t43) (Builtin.bitAnd t45 t47)) (Builtin.bitAnd t49 t51)) : Int)) (rx_bor (rx_bor (rx_band (rx_ixQ h42 (rx_var (d := enc (v_some : (Sq Int))) rfl) rx_int) (rx_ixQ h44 (rx_var (d := enc (v_some : (Sq Int))) rfl) rx_int)) (rx_band (rx_ixQ h46 (rx_var (d := enc (v_some : (Sq Int))) rfl) rx_int) (rx_ixQ h48 (rx_var (d := enc (v_some : (Sq Int))) rfl) rx_int))) (rx_band (rx_ixQ h50 (rx_var (d := enc (v_some : (Sq Int))) rfl) rx_int) (rx_ixQ h52 (rx_var (d := enc (v_some : (Sq Int))) rfl) rx_int))) E S fun v F H f S r => ?_
          exact k v F H S.stp r
theorem sc_how_many_ahead : FnScope ["net", "name", "width"] ["net"] (defScope (top 8)) := ⟨rfl, rfl, rfl, by decide +kernel, rfl, by decide +kernel, by decide +kernel⟩
theorem ok_how_many_ahead (B : Bi mg) (D : Dfn K mg "how_many_ahead" (top 8) ["net"]) : Cal P w K mg base 1 "how_many_ahead" ["net"] (SpP K R_how_many_ahead) := by
  refine D.cal sc_how_many_ahead (sp_len fun ds d h => by obtain ⟨_, _, rfl, _⟩ := h; rfl) fun f cdv A outer s H vs Q E hr h => ?_
  refine ⟨_, (pss_one (ps_ret (pe_callB (k_sum K rfl) (by rfl) B.sum (by decide +kernel) (pa_cons (pe_lc (own := [(("name" : Str), 1), (("width" : Str), 2)]) (g := (gTup K 2 (gCons (gName 1) (gCons (gName 2) gNil)))) (tt := tYes) rfl sc_how_many_ahead.nd (k_pi_list K (pe_ix (k_ix_tup K) (pv 0) pe_int (fun _ _ => rfl))) (blkOk_by (by kernel_rfl)) (fun _ _ _ _ _ => (pg_tup rfl (pgs_cons (pg_name (i := 1) sc_how_many_ahead.nd rfl (Or.inl rfl)) (pgs_cons (pg_name (i := 2) sc_how_many_ahead.nd rfl (Or.inl rfl)) pgs_nil)))) (fun _ _ _ _ _ => pts_nil) (fun _ _ _ _ _ => (pv 2))) pa_nil)))), ?_⟩
  obtain ⟨F, ds, d, hw, hF, ⟨v_net, rr, rfl, rfl, hm0⟩, k⟩ := h
  have E : EnvR K F _ [.val (enc (v_net : (T3 (List (Str × Int)) (List (T3 Str (Tp Int) Bool)) (List (Str × (Tp Int)))))), .un, .un] := EnvR.start (N := ["net", "name", "width"]) (AsR.of_all hw)
  have S := Hx.start (K := K) hF
  have fc : Same F F := Same.refl F
  unfold m_how_many_ahead at hm0
  obtain rfl := Option.some.inj hm0
  -- return
  try (with_reducible refine nxD ?_)
  refine st_ret (d := enc ((v_net.a.map (fun (x6 : (Str × Int)) => (x6.2 : Int))).sum : Int)) (rx_sum (RXo.s (rxo_map (eα := enc) (eβ := enc) (f := (fun (x6 : (Str × Int)) => (x6.2 : Int))) (fun x6 => [.val (enc (v_net : (T3 (List (Str × Int)) (List (T3 Str (Tp Int) Bool)) (List (Str × (Tp Int)))))), .val (enc (x6.1 : Str)), .val (enc (x6.2 : Int))]) [1, 2] (ri_list (ys := v_net.a.map enc) (rx_ixT (ds := [enc (v_net.a : (List (Str × Int))), enc (v_net.b : (List (T3 Str (Tp Int) Bool))), enc (v_net.c : (List (Str × (Tp Int))))]) (d := enc (v_net.a : (List (Str × Int)))) rfl (rx_var (d := enc (v_net : (T3 (List (Str × Int)) (List (T3 Str (Tp Int) Bool)) (List (Str × (Tp Int)))))) rfl) rx_int)) (by decide) (fun x6 _ => (rg_tup (ds := [enc (x6.1 : Str), enc (x6.2 : Int)]) (RGs.cons (rg_name (i := 1) (d := enc (x6.1 : Str))) (RGs.cons (rg_name (i := 2) (d := enc (x6.2 : Int))) RGs.nil)))) (fun x6 _ D7 acc8 => (rx_var (d := enc (x6.2 : Int)) rfl))))) E S fun v F H f S r => ?_
  exact k v F H S.stp r
theorem sc_gone_on : FnScope ["net", "first", "ones", "turned", "wires", "place", "kind", "own", "sure", "bits", "one"] ["net", "first", "ones", "turned"] (defScope (top 9)) := ⟨rfl, rfl, rfl, by decide +kernel, rfl, by decide +kernel, by decide +kernel⟩
theorem ok_gone_on (B : Bi mg) (D : Dfn K mg "gone_on" (top 9) ["net", "first", "ones", "turned"]) (C_gate_bits : Cal P w K mg base 1 "gate_bits" ["kind", "some", "ones"] (SpP K R_gate_bits)) (C_how_many_ahead : Cal P w K mg base 1 "how_many_ahead" ["net"] (SpP K R_how_many_ahead)) : Cal P w K mg base 2 "gone_on" ["net", "first", "ones", "turned"] (SpN K R_gone_on) := by
  refine D.cal sc_gone_on (sn_len fun ds d h => by obtain ⟨_, _, _, _, _, rfl, _⟩ := h; rfl) fun f cdv A outer s H vs Q E hr h => ?_
  refine ⟨_, (pss_cons (ps_set (i := 4) sc_gone_on.nd rfl (Or.inr rfl) (pe_callTy (k_list_of K) (by rfl) B.list (by decide +kernel) (pa_cons (pv 1) pa_nil))) (pss_cons (ps_for PassesOwn.never rfl (pi_range2 rfl B.range (pa_cons (pe_op op_sub (pe_callB (k_len_seq K) (by rfl) B.len PySem.boot_len (pa_cons (pv 4) pa_nil)) (pe_cal C_how_many_ahead hr (pa_cons (pv 0) pa_nil))) (pa_cons (pe_callB (k_len_seq K) (by rfl) B.len PySem.boot_len (pa_cons (pe_ix (k_ix_tup K) (pv 0) pe_int (fun _ _ => rfl)) pa_nil)) pa_nil))) (pg_name (i := 5) sc_gone_on.nd rfl (Or.inl rfl)) (pss_cons (ps_asg (pe_ix (k_ix_list K) (pe_ix (k_ix_tup K) (pv 0) pe_int (fun _ _ => rfl)) (pv 5) (fun _ _ => rfl)) (pg_tup rfl (pgs_cons (pg_name (i := 6) sc_gone_on.nd rfl (Or.inl rfl)) (pgs_cons (pg_name (i := 7) sc_gone_on.nd rfl (Or.inl rfl)) (pgs_cons (pg_name (i := 8) sc_gone_on.nd rfl (Or.inl rfl)) pgs_nil))))) (pss_cons (ps_set (i := 9) sc_gone_on.nd rfl (Or.inl rfl) (pe_cal C_gate_bits hr (pa_cons (pv 6) (pa_cons (pe_lc (own := [(("one" : Str), 10)]) (g := (gName 10)) (tt := tYes) rfl sc_gone_on.nd (k_pi_tup K (pv 7)) (blkOk_by (by kernel_rfl)) (fun _ _ _ _ _ => (pg_name (i := 10) sc_gone_on.nd rfl (Or.inl rfl))) (fun _ _ _ _ _ => pts_nil) (fun _ _ _ _ _ => (pe_ix (k_ix_list K) (pv 4) (pv 10) (fun _ _ => rfl)))) (pa_cons (pv 2) pa_nil))))) (pss_cons (ps_if (pt_cmpR (k_in_seq K) (pv 5) (pv 3) (by rfl)) (pss_one (ps_set (i := 9) sc_gone_on.nd rfl (Or.inl rfl) (pe_op op_xor (pv 2) (pv 9)))) pss_nil) (pss_one (ps_expr (pe_bm PySem.F.plainAttrs_list PySem.F.slot_list_append PySem.F.type_list_append mt_append (pv 4) (pa_cons (pv 9) pa_nil)))))))) (pss_one (ps_ret (pv 4))))), ?_⟩
  obtain ⟨F, ds, es, hw, hF, ⟨v_net, v_first, v_ones, v_turned, rr, rfl, rfl, hm0⟩, k⟩ := h
  have E : EnvR K F _ [.val (enc (v_net : (T3 (List (Str × Int)) (List (T3 Str (Tp Int) Bool)) (List (Str × (Tp Int)))))), .val (enc (v_first : (List Int))), .val (enc (v_ones : Int)), .val (enc (v_turned : (Tp Int))), .un, .un, .un, .un, .un, .un, .un] := EnvR.start (N := ["net", "first", "ones", "turned", "wires", "place", "kind", "own", "sure", "bits", "one"]) (AsR.of_all hw)
  have S := Hx.start (K := K) hF
  have fc : Same F F := Same.refl F
  unfold m_gone_on at hm0
  try (with_reducible refine nxD ?_)
  with_reducible refine sq ?_
  refine st_setO (i := 4) (ds := v_first.map enc) (rxo_list (RX.s (rx_var (d := enc (v_first : (List Int))) rfl))) E S fun p_wires1 σ F H f E S => ?_
  replace fc := fc.trans f
  have E : EnvR K _ _ [.val (enc (v_net : (T3 (List (Str × Int)) (List (T3 Str (Tp Int) Bool)) (List (Str × (Tp Int)))))), .val (enc (v_first : (List Int))), .val (enc (v_ones : Int)), .val (enc (v_turned : (Tp Int))), .adr p_wires1, .un, .un, .un, .un, .un, .un] := E
  have S : Hx K _ _ _ _ [⟨p_wires1, true, v_first.map enc⟩] _ := S
  obtain ⟨r2, h3, hm0⟩ := bindE hm0
  obtain ⟨l4, h5, hm0⟩ := bindE hm0
  obtain ⟨s32, h10, hm0⟩ := bindE hm0
  try (with_reducible refine nxD ?_)
  with_reducible refine sq ?_
  refine st_forS (eα := enc) (fun s7 => [.val (enc (v_net : (T3 (List (Str × Int)) (List (T3 Str (Tp Int) Bool)) (List (Str × (Tp Int)))))), .val (enc (v_first : (List Int))), .val (enc (v_ones : Int)), .val (enc (v_turned : (Tp Int))), .adr p_wires1, .un, .un, .un, .un, .un, .un]) (fun s7 => [⟨p_wires1, true, s7.map enc⟩]) E S (ri_range2 h5 (rx_sub (len_nat (f := enc) (rxs_own (j := 0) (ds := v_first.map enc) rfl rfl)) (rx_call (ds := [enc (v_net : (T3 (List (Str × Int)) (List (T3 Str (Tp Int) Bool)) (List (Str × (Tp Int)))))]) (d := enc (r2 : Int)) ⟨_, r2, rfl, rfl, h3⟩ (ra_cons (rx_var (d := enc (v_net : (T3 (List (Str × Int)) (List (T3 Str (Tp Int) Bool)) (List (Str × (Tp Int)))))) rfl) ra_nil))) (len_nat (f := enc) (RX.s (rx_ixT (ds := [enc (v_net.a : (List (Str × Int))), enc (v_net.b : (List (T3 Str (Tp Int) Bool))), enc (v_net.c : (List (Str × (Tp Int))))]) (d := enc (v_net.b : (List (T3 Str (Tp Int) Bool)))) rfl (rx_var (d := enc (v_net : (T3 (List (Str × Int)) (List (T3 Str (Tp Int) Bool)) (List (Str × (Tp Int)))))) rfl) rx_int)))) h10 ⟨.inl rfl, .inl rfl, .inl rfl, .inl rfl, .inl rfl, .inr rfl, .inr rfl, .inr rfl, .inr rfl, .inr rfl, .inr rfl, trivial⟩ (fun σ F H f E S => ?_) (fun x8 _ s7 s' h6 σ F H v _ E S r N B hN => ?_)
  · replace fc := fc.trans f
    have E : EnvR K _ _ [.val (enc (v_net : (T3 (List (Str × Int)) (List (T3 Str (Tp Int) Bool)) (List (Str × (Tp Int)))))), .val (enc (v_first : (List Int))), .val (enc (v_ones : Int)), .val (enc (v_turned : (Tp Int))), .adr p_wires1, .un, .un, .un, .un, .un, .un] := E
    have S : Hx K _ _ _ _ [⟨p_wires1, true, s32.map enc⟩] _ := S
    obtain rfl := Option.some.inj hm0
    -- return
    try (with_reducible refine nxD ?_)
    refine st_retA rfl E ?_
    obtain ⟨n1, n2, n3, zs, n4, n5, n6⟩ := S.get (j := 0) rfl
    exact k _ _ _ zs S.stp (n2 rfl) n1 n4 n5 n6
  · refine ((rg_name (i := 5) (d := enc (x8 : Int)))).run _ _ _ _ _ E r S.fh fun σ E _ => ?_
    have E : EnvR K _ _ [.val (enc (v_net : (T3 (List (Str × Int)) (List (T3 Str (Tp Int) Bool)) (List (Str × (Tp Int)))))), .val (enc (v_first : (List Int))), .val (enc (v_ones : Int)), .val (enc (v_turned : (Tp Int))), .adr p_wires1, .val (enc (x8 : Int)), .un, .un, .un, .un, .un] := E
    have S : Hx K _ _ _ _ [⟨p_wires1, true, s7.map enc⟩] _ := S
    have fc : Same F F := Same.refl F
    obtain ⟨t12, h13, h6⟩ := bindE h6
    try (with_reducible refine nxD ?_)
    with_reducible refine sq ?_
    refine st_unp (d := enc (t12 : (T3 Str (Tp Int) Bool))) (rx_ix (atI_map enc h13) (RX.s (rx_ixT (ds := [enc (v_net.a : (List (Str × Int))), enc (v_net.b : (List (T3 Str (Tp Int) Bool))), enc (v_net.c : (List (Str × (Tp Int))))]) (d := enc (v_net.b : (List (T3 Str (Tp Int) Bool)))) rfl (rx_var (d := enc (v_net : (T3 (List (Str × Int)) (List (T3 Str (Tp Int) Bool)) (List (Str × (Tp Int)))))) rfl) rx_int)) (rx_var (d := enc (x8 : Int)) rfl)) (rg_tup (ds := [enc (t12.a : Str), enc (t12.b : (Tp Int)), enc (t12.c : Bool)]) (RGs.cons (rg_name (i := 6) (d := enc (t12.a : Str))) (RGs.cons (rg_name (i := 7) (d := enc (t12.b : (Tp Int)))) (RGs.cons (rg_name (i := 8) (d := enc (t12.c : Bool))) RGs.nil)))) E S fun σ F H f E S => ?_
    replace fc := fc.trans f
    have E : EnvR K _ _ [.val (enc (v_net : (T3 (List (Str × Int)) (List (T3 Str (Tp Int) Bool)) (List (Str × (Tp Int)))))), .val (enc (v_first : (List Int))), .val (enc (v_ones : Int)), .val (enc (v_turned : (Tp Int))), .adr p_wires1, .val (enc (x8 : Int)), .val (enc (t12.a : Str)), .val (enc (t12.b : (Tp Int))), .val (enc (t12.c : Bool)), .un, .un] := E
    have S : Hx K _ _ _ _ [⟨p_wires1, true, s7.map enc⟩] _ := S
    obtain ⟨l22, h23, h6⟩ := bindE h6
    obtain ⟨r24, h25, h6⟩ := bindE h6
    try (with_reducible refine nxD ?_)
    with_reducible refine sq ?_
    refine st_set (i := 9) (d := enc (r24 : Int)) (rx_call (ds := [enc (t12.a : Str), enc ((Sq.mk false l22) : (Sq Int)), enc (v_ones : Int)]) (d := enc (r24 : Int)) ⟨_, _, _, r24, rfl, rfl, h25⟩ (ra_cons (rx_var (d := enc (t12.a : Str)) rfl) (ra_cons (RXo.frz (rxo_mapO (eα := enc) (eβ := enc) (fun x15 => [.val (enc (v_net : (T3 (List (Str × Int)) (List (T3 Str (Tp Int) Bool)) (List (Str × (Tp Int)))))), .val (enc (v_first : (List Int))), .val (enc (v_ones : Int)), .val (enc (v_turned : (Tp Int))), .adr p_wires1, .val (enc (x8 : Int)), .val (enc (t12.a : Str)), .val (enc (t12.b : (Tp Int))), .val (enc (t12.c : Bool)), .un, .val (enc (x15 : Int))]) [10] (ri_tup (ys := t12.b.l.map enc) (rx_var (d := enc (t12.b : (Tp Int))) rfl)) h23 (by decide) (fun x15 _ => (rg_name (i := 10) (d := enc (x15 : Int)))) (fun x15 _ y h14 D16 acc17 => by obtain ⟨t20, h21, h14⟩ := bindE h14; obtain rfl := Option.some.inj h14; exact (rx_ix (atI_map enc h21) (rxs_own (j := 1) (ds := s7.map enc) rfl rfl) (rx_var (d := enc (x15 : Int)) rfl))))) (ra_cons (rx_var (d := enc (v_ones : Int)) rfl) ra_nil)))) E S fun σ F H f E S => ?_
    replace fc := fc.trans f
    have E : EnvR K _ _ [.val (enc (v_net : (T3 (List (Str × Int)) (List (T3 Str (Tp Int) Bool)) (List (Str × (Tp Int)))))), .val (enc (v_first : (List Int))), .val (enc (v_ones : Int)), .val (enc (v_turned : (Tp Int))), .adr p_wires1, .val (enc (x8 : Int)), .val (enc (t12.a : Str)), .val (enc (t12.b : (Tp Int))), .val (enc (t12.c : Bool)), .val (enc (r24 : Int)), .un] := E
    have S : Hx K _ _ _ _ [⟨p_wires1, true, s7.map enc⟩] _ := S
    obtain ⟨j26, h27, h6⟩ := bindE h6
    try (with_reducible refine nxD ?_)
    with_reducible refine sq ?_
    refine st_ifJ (b := (decide (x8 ∈ v_turned.l))) [.val (enc (v_net : (T3 (List (Str × Int)) (List (T3 Str (Tp Int) Bool)) (List (Str × (Tp Int)))))), .val (enc (v_first : (List Int))), .val (enc (v_ones : Int)), .val (enc (v_turned : (Tp Int))), .adr p_wires1, .val (enc (x8 : Int)), .val (enc (t12.a : Str)), .val (enc (t12.b : (Tp Int))), .val (enc (t12.c : Bool)), .val (enc (j26 : Int)), .un] [⟨p_wires1, true, s7.map enc⟩] (rt_val (rx_inIT (neg := false) (rx_var (d := enc (x8 : Int)) rfl) (rx_var (d := enc (v_turned : (Tp Int))) rfl))) E S (fun σ F H f E S => ?_) (fun hc F H rest f E S => ?_) (fun hc F H rest f E S => ?_)
    · replace fc := fc.trans f
      obtain ⟨u30, h31, h6⟩ := bindE h6
      try (with_reducible refine nxD ?_)
      refine (st_app (j := 0) (ds := s7.map enc) (d := enc (j26 : Int)) (appO_map enc h31) rfl (rx_var (d := enc (j26 : Int)) rfl) ⟨_, rfl⟩ rfl E S fun F H f E S => ?_)
      replace fc := fc.trans f
      have E : EnvR K _ _ [.val (enc (v_net : (T3 (List (Str × Int)) (List (T3 Str (Tp Int) Bool)) (List (Str × (Tp Int)))))), .val (enc (v_first : (List Int))), .val (enc (v_ones : Int)), .val (enc (v_turned : (Tp Int))), .adr p_wires1, .val (enc (x8 : Int)), .val (enc (t12.a : Str)), .val (enc (t12.b : (Tp Int))), .val (enc (t12.c : Bool)), .val (enc (j26 : Int)), .un] := E
      have S : Hx K _ _ _ _ [⟨p_wires1, true, u30.map enc⟩] _ := S
      obtain rfl := Option.some.inj h6
      exact hN _ _ _ fc (E.weak ⟨.inl rfl, .inl rfl, .inl rfl, .inl rfl, .inl rfl, .inr rfl, .inr rfl, .inr rfl, .inr rfl, .inr rfl, .inr rfl, trivial⟩) S
    · rw [if_pos hc] at h27
      have fc := f
      obtain ⟨v28, h29, h27⟩ := letE h27
      try (with_reducible refine nxD ?_)
      refine (st_set (i := 9) (d := enc (v28 : Int)) (rx_as (x := ((Builtin.bitXor v_ones r24) : Int)) h29 (rx_bxor (rx_var (d := enc (v_ones : Int)) rfl) (rx_var (d := enc (r24 : Int)) rfl))) E S fun σ F H f E S => ?_)
      replace fc := fc.trans f
      have E : EnvR K _ _ [.val (enc (v_net : (T3 (List (Str × Int)) (List (T3 Str (Tp Int) Bool)) (List (Str × (Tp Int)))))), .val (enc (v_first : (List Int))), .val (enc (v_ones : Int)), .val (enc (v_turned : (Tp Int))), .adr p_wires1, .val (enc (x8 : Int)), .val (enc (t12.a : Str)), .val (enc (t12.b : (Tp Int))), .val (enc (t12.c : Bool)), .val (enc (v28 : Int)), .un] := E
      have S : Hx K _ _ _ _ [⟨p_wires1, true, s7.map enc⟩] _ := S
      obtain rfl := Option.some.inj h27
      exact rest _ _ _ fc (E.weak ⟨.inl rfl, .inl rfl, .inl rfl, .inl rfl, .inl rfl, .inl rfl, .inl rfl, .inl rfl, .inl rfl, .inl rfl, .inr rfl, trivial⟩) S
    · rw [if_neg (by rw [hc]; decide)] at h27
      have fc := f
      refine nxt ?_
      obtain rfl := Option.some.inj h27
      exact rest _ _ _ fc (E.weak ⟨.inl rfl, .inl rfl, .inl rfl, .inl rfl, .inl rfl, .inl rfl, .inl rfl, .inl rfl, .inl rfl, .inl rfl, .inr rfl, trivial⟩) S
theorem sc_ins_wires : FnScope ["net", "own", "ones", "bad", "wires", "name", "width", "bits", "k"] ["net", "own", "ones", "bad"] (defScope (top 7)) := ⟨rfl, rfl, rfl, by decide +kernel, rfl, by decide +kernel, by decide +kernel⟩
theorem ok_ins_wires (B : Bi mg) (D : Dfn K mg "ins_wires" (top 7) ["net", "own", "ones", "bad"]) : Cal P w K mg base 1 "ins_wires" ["net", "own", "ones", "bad"] (SpN K R_ins_wires) := by
  refine D.cal sc_ins_wires (sn_len fun ds d h => by obtain ⟨_, _, _, _, _, rfl, _⟩ := h; rfl) fun f cdv A outer s H vs Q E hr h => ?_
  refine ⟨_, (pss_cons (ps_set (i := 4) sc_ins_wires.nd rfl (Or.inl rfl) (pe_lst pa_nil)) (pss_cons (ps_for PassesOwn.never rfl (k_pi_any K (by rfl) B.zip (pa_cons (pe_ix (k_ix_tup K) (pv 0) pe_int (fun _ _ => rfl)) (pa_cons (pv 1) pa_nil))) (pg_tup rfl (pgs_cons (pg_tup rfl (pgs_cons (pg_name (i := 5) sc_ins_wires.nd rfl (Or.inl rfl)) (pgs_cons (pg_name (i := 6) sc_ins_wires.nd rfl (Or.inl rfl)) pgs_nil))) (pgs_cons (pg_name (i := 7) sc_ins_wires.nd rfl (Or.inl rfl)) pgs_nil))) (pss_one (ps_for PassesOwn.never rfl (pi_range1 rfl B.range (pa_cons (pv 6) pa_nil)) (pg_name (i := 8) sc_ins_wires.nd rfl (Or.inl rfl)) (pss_one (ps_if (pt_cmpR (k_in_seq K) (pe_callB (k_len_seq K) (by rfl) B.len PySem.boot_len (pa_cons (pv 4) pa_nil)) (pv 3) (by rfl)) (pss_one (ps_expr (pe_bm PySem.F.plainAttrs_list PySem.F.slot_list_append PySem.F.type_list_append mt_append (pv 4) (pa_cons (pe_op op_xor (pv 2) (pv 7)) pa_nil)))) (pss_one (ps_expr (pe_bm PySem.F.plainAttrs_list PySem.F.slot_list_append PySem.F.type_list_append mt_append (pv 4) (pa_cons (pv 7) pa_nil))))))))) (pss_one (ps_ret (pv 4))))), ?_⟩
  obtain ⟨F, ds, es, hw, hF, ⟨v_net, v_own, v_ones, v_bad, rr, rfl, rfl, hm0⟩, k⟩ := h
  have E : EnvR K F _ [.val (enc (v_net : (T3 (List (Str × Int)) (List (T3 Str (Tp Int) Bool)) (List (Str × (Tp Int)))))), .val (enc (v_own : (Sq Int))), .val (enc (v_ones : Int)), .val (enc (v_bad : (Tp Int))), .un, .un, .un, .un, .un] := EnvR.start (N := ["net", "own", "ones", "bad", "wires", "name", "width", "bits", "k"]) (AsR.of_all hw)
  have S := Hx.start (K := K) hF
  have fc : Same F F := Same.refl F
  unfold m_ins_wires at hm0
  obtain ⟨v1, h2, hm0⟩ := letE hm0
  try (with_reducible refine nxD ?_)
  with_reducible refine sq ?_
  refine st_setO (i := 4) (ds := v1.map enc) (rxo_as (f := enc) h2 (rxo_lst (ds := []) ra_nil)) E S fun p_wires3 σ F H f E S => ?_
  replace fc := fc.trans f
  have E : EnvR K _ _ [.val (enc (v_net : (T3 (List (Str × Int)) (List (T3 Str (Tp Int) Bool)) (List (Str × (Tp Int)))))), .val (enc (v_own : (Sq Int))), .val (enc (v_ones : Int)), .val (enc (v_bad : (Tp Int))), .adr p_wires3, .un, .un, .un, .un] := E
  have S : Hx K _ _ _ _ [⟨p_wires3, true, v1.map enc⟩] _ := S
  obtain ⟨s25, h8, hm0⟩ := bindE hm0
  try (with_reducible refine nxD ?_)
  with_reducible refine sq ?_
  refine st_forS (eα := enc) (fun s5 => [.val (enc (v_net : (T3 (List (Str × Int)) (List (T3 Str (Tp Int) Bool)) (List (Str × (Tp Int)))))), .val (enc (v_own : (Sq Int))), .val (enc (v_ones : Int)), .val (enc (v_bad : (Tp Int))), .adr p_wires3, .un, .un, .un, .un]) (fun s5 => [⟨p_wires3, true, s5.map enc⟩]) E S (ri_any (rx_ixT (ds := [enc (v_net.a : (List (Str × Int))), enc (v_net.b : (List (T3 Str (Tp Int) Bool))), enc (v_net.c : (List (Str × (Tp Int))))]) (d := enc (v_net.a : (List (Str × Int)))) rfl (rx_var (d := enc (v_net : (T3 (List (Str × Int)) (List (T3 Str (Tp Int) Bool)) (List (Str × (Tp Int)))))) rfl) rx_int) (rx_var (d := enc (v_own : (Sq Int))) rfl)) h8 ⟨.inl rfl, .inl rfl, .inl rfl, .inl rfl, .inl rfl, .inr rfl, .inr rfl, .inr rfl, .inr rfl, trivial⟩ (fun σ F H f E S => ?_) (fun x6 _ s5 s' h4 σ F H v _ E S r N B hN => ?_)
  · replace fc := fc.trans f
    have E : EnvR K _ _ [.val (enc (v_net : (T3 (List (Str × Int)) (List (T3 Str (Tp Int) Bool)) (List (Str × (Tp Int)))))), .val (enc (v_own : (Sq Int))), .val (enc (v_ones : Int)), .val (enc (v_bad : (Tp Int))), .adr p_wires3, .un, .un, .un, .un] := E
    have S : Hx K _ _ _ _ [⟨p_wires3, true, s25.map enc⟩] _ := S
    obtain rfl := Option.some.inj hm0
    -- return
    try (with_reducible refine nxD ?_)
    refine st_retA rfl E ?_
    obtain ⟨n1, n2, n3, zs, n4, n5, n6⟩ := S.get (j := 0) rfl
    exact k _ _ _ zs S.stp (n2 rfl) n1 n4 n5 n6
  · refine ((rg_tup (ds := [enc (x6.1 : (Str × Int)), enc (x6.2 : Int)]) (RGs.cons (rg_tup (ds := [enc (x6.1.1 : Str), enc (x6.1.2 : Int)]) (RGs.cons (rg_name (i := 5) (d := enc (x6.1.1 : Str))) (RGs.cons (rg_name (i := 6) (d := enc (x6.1.2 : Int))) RGs.nil))) (RGs.cons (rg_name (i := 7) (d := enc (x6.2 : Int))) RGs.nil)))).run _ _ _ _ _ E r S.fh fun σ E _ => ?_
    have E : EnvR K _ _ [.val (enc (v_net : (T3 (List (Str × Int)) (List (T3 Str (Tp Int) Bool)) (List (Str × (Tp Int)))))), .val (enc (v_own : (Sq Int))), .val (enc (v_ones : Int)), .val (enc (v_bad : (Tp Int))), .adr p_wires3, .val (enc (x6.1.1 : Str)), .val (enc (x6.1.2 : Int)), .val (enc (x6.2 : Int)), .un] := E
    have S : Hx K _ _ _ _ [⟨p_wires3, true, s5.map enc⟩] _ := S
    have fc : Same F F := Same.refl F
    obtain ⟨l10, h11, h4⟩ := bindE h4
    obtain ⟨s24, h16, h4⟩ := bindE h4
    try (with_reducible refine nxD ?_)
    refine (st_forS (eα := enc) (fun s13 => [.val (enc (v_net : (T3 (List (Str × Int)) (List (T3 Str (Tp Int) Bool)) (List (Str × (Tp Int)))))), .val (enc (v_own : (Sq Int))), .val (enc (v_ones : Int)), .val (enc (v_bad : (Tp Int))), .adr p_wires3, .val (enc (x6.1.1 : Str)), .val (enc (x6.1.2 : Int)), .val (enc (x6.2 : Int)), .un]) (fun s13 => [⟨p_wires3, true, s13.map enc⟩]) E S (ri_range h11 (rx_var (d := enc (x6.1.2 : Int)) rfl)) h16 ⟨.inl rfl, .inl rfl, .inl rfl, .inl rfl, .inl rfl, .inl rfl, .inl rfl, .inl rfl, .inr rfl, trivial⟩ (fun σ F H f E S => ?_) (fun x14 _ s13 s' h12 σ F H v _ E S r N B hN => ?_))
    · replace fc := fc.trans f
      have E : EnvR K _ _ [.val (enc (v_net : (T3 (List (Str × Int)) (List (T3 Str (Tp Int) Bool)) (List (Str × (Tp Int)))))), .val (enc (v_own : (Sq Int))), .val (enc (v_ones : Int)), .val (enc (v_bad : (Tp Int))), .adr p_wires3, .val (enc (x6.1.1 : Str)), .val (enc (x6.1.2 : Int)), .val (enc (x6.2 : Int)), .un] := E
      have S : Hx K _ _ _ _ [⟨p_wires3, true, s24.map enc⟩] _ := S
      obtain rfl := Option.some.inj h4
      exact hN _ _ _ fc (E.weak ⟨.inl rfl, .inl rfl, .inl rfl, .inl rfl, .inl rfl, .inr rfl, .inr rfl, .inr rfl, .inr rfl, trivial⟩) S
    · refine ((rg_name (i := 8) (d := enc (x14 : Int)))).run _ _ _ _ _ E r S.fh fun σ E _ => ?_
      have E : EnvR K _ _ [.val (enc (v_net : (T3 (List (Str × Int)) (List (T3 Str (Tp Int) Bool)) (List (Str × (Tp Int)))))), .val (enc (v_own : (Sq Int))), .val (enc (v_ones : Int)), .val (enc (v_bad : (Tp Int))), .adr p_wires3, .val (enc (x6.1.1 : Str)), .val (enc (x6.1.2 : Int)), .val (enc (x6.2 : Int)), .val (enc (x14 : Int))] := E
      have S : Hx K _ _ _ _ [⟨p_wires3, true, s13.map enc⟩] _ := S
      have fc : Same F F := Same.refl F
      obtain ⟨j18, h19, h12⟩ := bindE h12
      try (with_reducible refine nxD ?_)
      refine (st_ifJ (b := (decide ((s13.length : Int) ∈ v_bad.l))) [.val (enc (v_net : (T3 (List (Str × Int)) (List (T3 Str (Tp Int) Bool)) (List (Str × (Tp Int)))))), .val (enc (v_own : (Sq Int))), .val (enc (v_ones : Int)), .val (enc (v_bad : (Tp Int))), .adr p_wires3, .val (enc (x6.1.1 : Str)), .val (enc (x6.1.2 : Int)), .val (enc (x6.2 : Int)), .val (enc (x14 : Int))] [⟨p_wires3, true, j18.map enc⟩] (rt_val (rx_inIT (neg := false) (len_nat (f := enc) (rxs_own (j := 0) (ds := s13.map enc) rfl rfl)) (rx_var (d := enc (v_bad : (Tp Int))) rfl))) E S (fun σ F H f E S => ?_) (fun hc F H rest f E S => ?_) (fun hc F H rest f E S => ?_))
      · replace fc := fc.trans f
        obtain rfl := Option.some.inj h12
        exact hN _ _ _ fc (E.weak ⟨.inl rfl, .inl rfl, .inl rfl, .inl rfl, .inl rfl, .inl rfl, .inl rfl, .inl rfl, .inr rfl, trivial⟩) S
      · rw [if_pos hc] at h19
        have fc := f
        obtain ⟨u20, h21, h19⟩ := bindE h19
        try (with_reducible refine nxD ?_)
        refine (st_app (j := 0) (ds := s13.map enc) (d := enc ((Builtin.bitXor v_ones x6.2) : Int)) (appO_map enc h21) rfl (rx_bxor (rx_var (d := enc (v_ones : Int)) rfl) (rx_var (d := enc (x6.2 : Int)) rfl)) ⟨_, rfl⟩ rfl E S fun F H f E S => ?_)
        replace fc := fc.trans f
        have E : EnvR K _ _ [.val (enc (v_net : (T3 (List (Str × Int)) (List (T3 Str (Tp Int) Bool)) (List (Str × (Tp Int)))))), .val (enc (v_own : (Sq Int))), .val (enc (v_ones : Int)), .val (enc (v_bad : (Tp Int))), .adr p_wires3, .val (enc (x6.1.1 : Str)), .val (enc (x6.1.2 : Int)), .val (enc (x6.2 : Int)), .val (enc (x14 : Int))] := E
        have S : Hx K _ _ _ _ [⟨p_wires3, true, u20.map enc⟩] _ := S
        obtain rfl := Option.some.inj h19
        exact rest _ _ _ fc (E.weak ⟨.inl rfl, .inl rfl, .inl rfl, .inl rfl, .inl rfl, .inl rfl, .inl rfl, .inl rfl, .inl rfl, trivial⟩) S
      · rw [if_neg (by rw [hc]; decide)] at h19
        have fc := f
        obtain ⟨u22, h23, h19⟩ := bindE h19
        try (with_reducible refine nxD ?_)
        refine (st_app (j := 0) (ds := s13.map enc) (d := enc (x6.2 : Int)) (appO_map enc h23) rfl (rx_var (d := enc (x6.2 : Int)) rfl) ⟨_, rfl⟩ rfl E S fun F H f E S => ?_)
        replace fc := fc.trans f
        have E : EnvR K _ _ [.val (enc (v_net : (T3 (List (Str × Int)) (List (T3 Str (Tp Int) Bool)) (List (Str × (Tp Int)))))), .val (enc (v_own : (Sq Int))), .val (enc (v_ones : Int)), .val (enc (v_bad : (Tp Int))), .adr p_wires3, .val (enc (x6.1.1 : Str)), .val (enc (x6.1.2 : Int)), .val (enc (x6.2 : Int)), .val (enc (x14 : Int))] := E
        have S : Hx K _ _ _ _ [⟨p_wires3, true, u22.map enc⟩] _ := S
        obtain rfl := Option.some.inj h19
        exact rest _ _ _ fc (E.weak ⟨.inl rfl, .inl rfl, .inl rfl, .inl rfl, .inl rfl, .inl rfl, .inl rfl, .inl rfl, .inl rfl, trivial⟩) S
theorem sc_run : FnScope ["net", "bits", "turned", "bad", "wires", "name", "own", "one"] ["net", "bits", "turned", "bad"] (defScope (top 10)) := ⟨rfl, rfl, rfl, by decide +kernel, rfl, by decide +kernel, by decide +kernel⟩
theorem ok_run (B : Bi mg) (D : Dfn K mg "run" (top 10) ["net", "bits", "turned", "bad"]) (C_gone_on : Cal P w K mg base 2 "gone_on" ["net", "first", "ones", "turned"] (SpN K R_gone_on)) (C_ins_wires : Cal P w K mg base 1 "ins_wires" ["net", "own", "ones", "bad"] (SpN K R_ins_wires)) : Cal P w K mg base 3 "run" ["net", "bits", "turned", "bad"] (SpN K R_run) := by
  refine D.cal sc_run (sn_len fun ds d h => by obtain ⟨_, _, _, _, _, rfl, _⟩ := h; rfl) fun f cdv A outer s H vs Q E hr h => ?_
  refine ⟨_, (pss_cons (ps_set (i := 4) sc_run.nd rfl (Or.inr rfl) (pe_cal C_gone_on hr (pa_cons (pv 0) (pa_cons (pe_cal C_ins_wires hr (pa_cons (pv 0) (pa_cons (pv 1) (pa_cons pe_int (pa_cons (pv 3) pa_nil))))) (pa_cons pe_int (pa_cons (pv 2) pa_nil)))))) (pss_one (ps_ret (pe_lc (own := [(("name" : Str), 5), (("own" : Str), 6)]) (g := (gTup K 2 (gCons (gName 5) (gCons (gName 6) gNil)))) (tt := tYes) rfl sc_run.nd (k_pi_list K (pe_ix (k_ix_tup K) (pv 0) pe_int (fun _ _ => rfl))) (blkOk_by (by kernel_rfl)) (fun _ _ _ _ _ => (pg_tup rfl (pgs_cons (pg_name (i := 5) sc_run.nd rfl (Or.inl rfl)) (pgs_cons (pg_name (i := 6) sc_run.nd rfl (Or.inl rfl)) pgs_nil)))) (fun _ _ _ _ _ => pts_nil) (fun _ _ _ _ _ => (pe_callTy (k_tuple_of K) (by rfl) B.tuple (by decide +kernel) (pa_cons (pe_lc (own := [(("one" : Str), 7)]) (g := (gName 7)) (tt := tYes) rfl sc_run.nd (k_pi_tup K (pv 6)) (blkOk_by (by kernel_rfl)) (fun _ _ _ _ _ => (pg_name (i := 7) sc_run.nd rfl (Or.inl rfl))) (fun _ _ _ _ _ => pts_nil) (fun _ _ _ _ _ => (pe_ix (k_ix_list K) (pv 4) (pv 7) (fun _ _ => rfl)))) pa_nil))))))), ?_⟩
  obtain ⟨F, ds, es, hw, hF, ⟨v_net, v_bits, v_turned, v_bad, rr, rfl, rfl, hm0⟩, k⟩ := h
  have E : EnvR K F _ [.val (enc (v_net : (T3 (List (Str × Int)) (List (T3 Str (Tp Int) Bool)) (List (Str × (Tp Int)))))), .val (enc (v_bits : (Tp Int))), .val (enc (v_turned : (Tp Int))), .val (enc (v_bad : (Tp Int))), .un, .un, .un, .un] := EnvR.start (N := ["net", "bits", "turned", "bad", "wires", "name", "own", "one"]) (AsR.of_all hw)
  have S := Hx.start (K := K) hF
  have fc : Same F F := Same.refl F
  unfold m_run at hm0
  obtain ⟨r1, h2, hm0⟩ := bindE hm0
  obtain ⟨r3, h4, hm0⟩ := bindE hm0
  try (with_reducible refine nxD ?_)
  with_reducible refine sq ?_
  refine st_set (i := 4) (d := enc (r3 : (List Int))) (RXo.frz (rxo_call (ds := [enc (v_net : (T3 (List (Str × Int)) (List (T3 Str (Tp Int) Bool)) (List (Str × (Tp Int))))), enc (r1 : (List Int)), enc ((1 : Int) : Int), enc (v_turned : (Tp Int))]) (es := r3.map enc) ⟨_, _, _, _, r3, rfl, rfl, h4⟩ (ra_cons (rx_var (d := enc (v_net : (T3 (List (Str × Int)) (List (T3 Str (Tp Int) Bool)) (List (Str × (Tp Int)))))) rfl) (ra_cons (RXo.frz (rxo_call (ds := [enc (v_net : (T3 (List (Str × Int)) (List (T3 Str (Tp Int) Bool)) (List (Str × (Tp Int))))), enc ((Sq.mk true v_bits.l) : (Sq Int)), enc ((1 : Int) : Int), enc (v_bad : (Tp Int))]) (es := r1.map enc) ⟨_, _, _, _, r1, rfl, rfl, h2⟩ (ra_cons (rx_var (d := enc (v_net : (T3 (List (Str × Int)) (List (T3 Str (Tp Int) Bool)) (List (Str × (Tp Int)))))) rfl) (ra_cons (rx_var (d := enc (v_bits : (Tp Int))) rfl) (ra_cons rx_int (ra_cons (rx_var (d := enc (v_bad : (Tp Int))) rfl) ra_nil)))))) (ra_cons rx_int (ra_cons (rx_var (d := enc (v_turned : (Tp Int))) rfl) ra_nil)))))) E S fun σ F H f E S => ?_
  replace fc := fc.trans f
  have E : EnvR K _ _ [.val (enc (v_net : (T3 (List (Str × Int)) (List (T3 Str (Tp Int) Bool)) (List (Str × (Tp Int)))))), .val (enc (v_bits : (Tp Int))), .val (enc (v_turned : (Tp Int))), .val (enc (v_bad : (Tp Int))), .val (enc (r3 : (List Int))), .un, .un, .un] := E
  have S : Hx K _ _ _ _ [] _ := S
  obtain ⟨l55, h56, hm0⟩ := bindE hm0
  obtain rfl := Option.some.inj hm0
  -- return
  try (with_reducible refine nxD ?_)
  refine st_retO (ds := l55.map enc) (rxo_mapO (eα := enc) (eβ := enc) (fun x32 => [.val (enc (v_net : (T3 (List (Str × Int)) (List (T3 Str (Tp Int) Bool)) (List (Str × (Tp Int)))))), .val (enc (v_bits : (Tp Int))), .val (enc (v_turned : (Tp Int))), .val (enc (v_bad : (Tp Int))), .val (enc (r3 : (List Int))), .val (enc (x32.1 : Str)), .val (enc (x32.2 : (Tp Int))), .un]) [5, 6] (ri_list (ys := v_net.c.map enc) (rx_ixT (ds := [enc (v_net.a : (List (Str × Int))), enc (v_net.b : (List (T3 Str (Tp Int) Bool))), enc (v_net.c : (List (Str × (Tp Int))))]) (d := enc (v_net.c : (List (Str × (Tp Int))))) rfl (rx_var (d := enc (v_net : (T3 (List (Str × Int)) (List (T3 Str (Tp Int) Bool)) (List (Str × (Tp Int)))))) rfl) rx_int)) h56 (by decide) (fun x32 _ => (rg_tup (ds := [enc (x32.1 : Str), enc (x32.2 : (Tp Int))]) (RGs.cons (rg_name (i := 5) (d := enc (x32.1 : Str))) (RGs.cons (rg_name (i := 6) (d := enc (x32.2 : (Tp Int)))) RGs.nil)))) (fun x32 _ y h31 D33 acc34 => by obtain ⟨l53, h54, h31⟩ := bindE h31; obtain rfl := Option.some.inj h31; exact (rx_tuple (RXo.s (rxo_mapO (eα := enc) (eβ := enc) (fun x46 => [.val (enc (v_net : (T3 (List (Str × Int)) (List (T3 Str (Tp Int) Bool)) (List (Str × (Tp Int)))))), .val (enc (v_bits : (Tp Int))), .val (enc (v_turned : (Tp Int))), .val (enc (v_bad : (Tp Int))), .val (enc (r3 : (List Int))), .val (enc (x32.1 : Str)), .val (enc (x32.2 : (Tp Int))), .val (enc (x46 : Int))]) [7] (ri_tup (ys := x32.2.l.map enc) (rx_var (d := enc (x32.2 : (Tp Int))) rfl)) h54 (by decide) (fun x46 _ => (rg_name (i := 7) (d := enc (x46 : Int)))) (fun x46 _ y h45 D47 acc48 => by obtain ⟨t51, h52, h45⟩ := bindE h45; obtain rfl := Option.some.inj h45; exact (rx_ix (atI_map enc h52) (RX.s (rx_var (d := enc (r3 : (List Int))) rfl)) (rx_var (d := enc (x46 : Int)) rfl)))))))) E S fun p F H f S => ?_
  obtain ⟨n1, n2, n3, zs, n4, n5, n6⟩ := S.get (j := 0) rfl
  exact k _ _ _ zs S.stp (n2 rfl) n1 n4 n5 n6
theorem sc__law_bit : FnScope ["kind", "some"] ["kind", "some"] (defScope (top 25)) := ⟨rfl, rfl, rfl, by decide +kernel, rfl, by decide +kernel, by decide +kernel⟩
theorem ok__law_bit (B : Bi mg) (D : Dfn K mg "_law_bit" (top 25) ["kind", "some"]) : Cal P w K mg base 1 "_law_bit" ["kind", "some"] (SpP K R__law_bit) := by
  refine D.cal sc__law_bit (sp_len fun ds d h => by obtain ⟨_, _, _, rfl, _⟩ := h; rfl) fun f cdv A outer s H vs Q E hr h => ?_
  refine ⟨_, (pss_cons (ps_if (pt_cmpR op_eq (pv 0) pe_str (nomark _)) (pss_one (ps_ret (pe_op op_sub pe_int (pe_ix (k_ix_list K) (pv 1) pe_int (fun _ _ => rfl))))) pss_nil) (pss_cons (ps_if (pt_cmpR op_eq (pv 0) pe_str (nomark _)) (pss_one (ps_ret (pe_callB (k_min K rfl) (by rfl) B.min (by decide +kernel) (pa_cons (pv 1) pa_nil)))) pss_nil) (pss_cons (ps_if (pt_cmpR op_eq (pv 0) pe_str (nomark _)) (pss_one (ps_ret (pe_callB (k_max K rfl) (by rfl) B.max (by decide +kernel) (pa_cons (pv 1) pa_nil)))) pss_nil) (pss_one (ps_ret (pe_ix (k_ix_list K) (pe_lst (pa_cons (pe_callTy call_int1 (by rfl) B.int (by decide +kernel) (pa_cons (pe_cmpR op_gt (pe_callB (k_sum K rfl) (by rfl) B.sum (by decide +kernel) (pa_cons (pv 1) pa_nil)) pe_int (nomark _)) pa_nil)) (pa_cons (pe_op op_mod (pe_callB (k_sum K rfl) (by rfl) B.sum (by decide +kernel) (pa_cons (pv 1) pa_nil)) pe_int) pa_nil))) (pe_callTy call_int1 (by rfl) B.int (by decide +kernel) (pa_cons (pe_cmpR op_eq (pv 0) pe_str (nomark _)) pa_nil)) (fun _ _ => rfl))))))), ?_⟩
  obtain ⟨F, ds, d, hw, hF, ⟨v_kind, v_some, rr, rfl, rfl, hm0⟩, k⟩ := h
  have E : EnvR K F _ [.val (enc (v_kind : Str)), .val (enc (v_some : (List Int)))] := EnvR.start (N := ["kind", "some"]) (AsR.of_all hw)
  have S := Hx.start (K := K) hF
  have fc : Same F F := Same.refl F
  unfold m__law_bit at hm0
  try (with_reducible refine nxD ?_)
  with_reducible refine sq ?_
  refine st_if (b := (decide (v_kind = ("not" : Str)))) (rt_val (rx_eqs (rx_var (d := enc (v_kind : Str)) rfl) (rx_str (x := ("not" : Str))))) E S (fun hc F H f E S => ?_) (fun hc F H f E S => ?_)
  · rw [if_pos hc] at hm0
    replace fc := fc.trans f
    obtain ⟨t3, h4, hm0⟩ := bindE hm0
    obtain rfl := Option.some.inj hm0
    -- return
    try (with_reducible refine nxD ?_)
    refine st_ret (d := enc (((1 : Int) - t3) : Int)) (rx_sub rx_int (rx_ix (atI_map enc h4) (RX.s (rx_var (d := enc (v_some : (List Int))) rfl)) rx_int)) E S fun v F H f S r => ?_
    exact k v F H S.stp r
  · rw [if_neg (by rw [hc]; decide)] at hm0
    replace fc := fc.trans f
    refine nxt ?_
    try (with_reducible refine nxD ?_)
    with_reducible refine sq ?_
    refine st_if (b := (decide (v_kind = ("and" : Str)))) (rt_val (rx_eqs (rx_var (d := enc (v_kind : Str)) rfl) (rx_str (x := ("and" : Str))))) E S (fun hc F H f E S => ?_) (fun hc F H f E S => ?_)
    · rw [if_pos hc] at hm0
      replace fc := fc.trans f
      obtain ⟨t7, h8, hm0⟩ := bindE hm0
      obtain rfl := Option.some.inj hm0
      -- return
      try (with_reducible refine nxD ?_)
      refine st_ret (d := enc (t7 : Int)) (rx_min h8 (RX.s (rx_var (d := enc (v_some : (List Int))) rfl))) E S fun v F H f S r => ?_
      exact k v F H S.stp r
    · rw [if_neg (by rw [hc]; decide)] at hm0
      replace fc := fc.trans f
      refine nxt ?_
      try (with_reducible refine nxD ?_)
      with_reducible refine sq ?_
      refine st_if (b := (decide (v_kind = ("or" : Str)))) (rt_val (rx_eqs (rx_var (d := enc (v_kind : Str)) rfl) (rx_str (x := ("or" : Str))))) E S (fun hc F H f E S => ?_) (fun hc F H f E S => ?_)
      · rw [if_pos hc] at hm0
        replace fc := fc.trans f
        obtain ⟨t11, h12, hm0⟩ := bindE hm0
        obtain rfl := Option.some.inj hm0
        -- return
        try (with_reducible refine nxD ?_)
        refine st_ret (d := enc (t11 : Int)) (rx_max h12 (RX.s (rx_var (d := enc (v_some : (List Int))) rfl))) E S fun v F H f S r => ?_
        exact k v F H S.stp r
      · rw [if_neg (by rw [hc]; decide)] at hm0
        replace fc := fc.trans f
        refine nxt ?_
        obtain ⟨t15, h16, hm0⟩ := bindE hm0
        obtain rfl := Option.some.inj hm0
        -- return
        try (with_reducible refine nxD ?_)
        refine st_ret (d := enc (t15 : Int)) (rx_ix (ds := List.map enc ([(b2n (decide ((1 : Int) < v_some.sum))), (v_some.sum % (2 : Int))] : (List Int))) (d := enc (t15 : Int)) (atI_map enc h16) (RXo.s (rxo_lst (ds := [enc ((b2n (decide ((1 : Int) < v_some.sum))) : Int), enc ((v_some.sum % (2 : Int)) : Int)]) (ra_cons (rx_intB (rx_gt (rx_sum (RX.s (rx_var (d := enc (v_some : (List Int))) rfl))) rx_int)) (ra_cons (rx_mod (rx_sum (RX.s (rx_var (d := enc (v_some : (List Int))) rfl))) rx_int (by decide)) ra_nil)))) (rx_intB (rx_eqs (rx_var (d := enc (v_kind : Str)) rfl) (rx_str (x := ("xor" : Str)))))) E S fun v F H f S r => ?_
        exact k v F H S.stp r
theorem sc__law_gone : FnScope ["net", "wires", "turned", "place", "kind", "own", "sure", "bit", "name", "one"] ["net", "wires", "turned"] (defScope (top 26)) := ⟨rfl, rfl, rfl, by decide +kernel, rfl, by decide +kernel, by decide +kernel⟩
theorem ok__law_gone (B : Bi mg) (D : Dfn K mg "_law_gone" (top 26) ["net", "wires", "turned"]) (C__law_bit : Cal P w K mg base 1 "_law_bit" ["kind", "some"] (SpP K R__law_bit)) : Cal P w K mg base 2 "_law_gone" ["net", "wires", "turned"] (SpN K R__law_gone) := by
  refine D.cal sc__law_gone (sn_len fun ds d h => by obtain ⟨_, _, _, _, rfl, _⟩ := h; rfl) fun f cdv A outer s H vs Q E hr h => ?_
  refine ⟨_, (pss_cons (ps_set (i := 1) sc__law_gone.nd rfl (Or.inr rfl) (pe_callTy (k_list_of K) (by rfl) B.list (by decide +kernel) (pa_cons (pv 1) pa_nil))) (pss_cons (ps_for PassesOwn.never rfl (k_pi_enum K (by rfl) B.enumerate (pa_cons (pe_ix (k_ix_tup K) (pv 0) pe_int (fun _ _ => rfl)) pa_nil)) (pg_tup rfl (pgs_cons (pg_name (i := 3) sc__law_gone.nd rfl (Or.inl rfl)) (pgs_cons (pg_tup rfl (pgs_cons (pg_name (i := 4) sc__law_gone.nd rfl (Or.inl rfl)) (pgs_cons (pg_name (i := 5) sc__law_gone.nd rfl (Or.inl rfl)) (pgs_cons (pg_name (i := 6) sc__law_gone.nd rfl (Or.inl rfl)) pgs_nil)))) pgs_nil))) (pss_cons (ps_set (i := 7) sc__law_gone.nd rfl (Or.inl rfl) (pe_cal C__law_bit hr (pa_cons (pv 4) (pa_cons (pe_lc (own := [(("one" : Str), 9)]) (g := (gName 9)) (tt := tYes) rfl sc__law_gone.nd (k_pi_tup K (pv 5)) (blkOk_by (by kernel_rfl)) (fun _ _ _ _ _ => (pg_name (i := 9) sc__law_gone.nd rfl (Or.inl rfl))) (fun _ _ _ _ _ => pts_nil) (fun _ _ _ _ _ => (pe_ix (k_ix_list K) (pv 1) (pv 9) (fun _ _ => rfl)))) pa_nil)))) (pss_one (ps_expr (pe_bm PySem.F.plainAttrs_list PySem.F.slot_list_append PySem.F.type_list_append mt_append (pv 1) (pa_cons (pe_ix (k_ix_list K) (pe_lst (pa_cons (pv 7) (pa_cons (pe_op op_sub pe_int (pv 7)) pa_nil))) (pe_callTy call_int1 (by rfl) B.int (by decide +kernel) (pa_cons (pe_cmpR (k_in_seq K) (pv 3) (pv 2) (by rfl)) pa_nil)) (fun _ _ => rfl)) pa_nil)))))) (pss_one (ps_ret (pe_lc (own := [(("name" : Str), 8), (("own" : Str), 5)]) (g := (gTup K 2 (gCons (gName 8) (gCons (gName 5) gNil)))) (tt := tYes) rfl sc__law_gone.nd (k_pi_list K (pe_ix (k_ix_tup K) (pv 0) pe_int (fun _ _ => rfl))) (blkOk_by (by kernel_rfl)) (fun _ _ _ _ _ => (pg_tup rfl (pgs_cons (pg_name (i := 8) sc__law_gone.nd rfl (Or.inl rfl)) (pgs_cons (pg_name (i := 5) sc__law_gone.nd rfl (Or.inl rfl)) pgs_nil)))) (fun _ _ _ _ _ => pts_nil) (fun _ _ _ _ _ => (pe_callTy (k_tuple_of K) (by rfl) B.tuple (by decide +kernel) (pa_cons (pe_lc (own := [(("one" : Str), 9)]) (g := (gName 9)) (tt := tYes) rfl sc__law_gone.nd (k_pi_tup K (pv 5)) (blkOk_by (by kernel_rfl)) (fun _ _ _ _ _ => (pg_name (i := 9) sc__law_gone.nd rfl (Or.inl rfl))) (fun _ _ _ _ _ => pts_nil) (fun _ _ _ _ _ => (pe_ix (k_ix_list K) (pv 1) (pv 9) (fun _ _ => rfl)))) pa_nil)))))))), ?_⟩
  obtain ⟨F, ds, es, hw, hF, ⟨v_net, v_wires, v_turned, rr, rfl, rfl, hm0⟩, k⟩ := h
  have E : EnvR K F _ [.val (enc (v_net : (T3 (List (Str × Int)) (List (T3 Str (Tp Int) Bool)) (List (Str × (Tp Int)))))), .val (enc (v_wires : (List Int))), .val (enc (v_turned : (Sq Int))), .un, .un, .un, .un, .un, .un, .un] := EnvR.start (N := ["net", "wires", "turned", "place", "kind", "own", "sure", "bit", "name", "one"]) (AsR.of_all hw)
  have S := Hx.start (K := K) hF
  have fc : Same F F := Same.refl F
  unfold m__law_gone at hm0
  try (with_reducible refine nxD ?_)
  with_reducible refine sq ?_
  refine st_setO (i := 1) (ds := v_wires.map enc) (rxo_list (RX.s (rx_var (d := enc (v_wires : (List Int))) rfl))) E S fun p_wires1 σ F H f E S => ?_
  replace fc := fc.trans f
  have E : EnvR K _ _ [.val (enc (v_net : (T3 (List (Str × Int)) (List (T3 Str (Tp Int) Bool)) (List (Str × (Tp Int)))))), .adr p_wires1, .val (enc (v_turned : (Sq Int))), .un, .un, .un, .un, .un, .un, .un] := E
  have S : Hx K _ _ _ _ [⟨p_wires1, true, v_wires.map enc⟩] _ := S
  obtain ⟨s24, h6, hm0⟩ := bindE hm0
  try (with_reducible refine nxD ?_)
  with_reducible refine sq ?_
  refine st_forS (eα := enc) (fun s3 => [.val (enc (v_net : (T3 (List (Str × Int)) (List (T3 Str (Tp Int) Bool)) (List (Str × (Tp Int)))))), .adr p_wires1, .val (enc (v_turned : (Sq Int))), .un, .un, .un, .un, .un, .un, .un]) (fun s3 => [⟨p_wires1, true, s3.map enc⟩]) E S (ri_enumT (rx_ixT (ds := [enc (v_net.a : (List (Str × Int))), enc (v_net.b : (List (T3 Str (Tp Int) Bool))), enc (v_net.c : (List (Str × (Tp Int))))]) (d := enc (v_net.b : (List (T3 Str (Tp Int) Bool)))) rfl (rx_var (d := enc (v_net : (T3 (List (Str × Int)) (List (T3 Str (Tp Int) Bool)) (List (Str × (Tp Int)))))) rfl) rx_int)) h6 ⟨.inl rfl, .inl rfl, .inl rfl, .inr rfl, .inr rfl, .inr rfl, .inr rfl, .inr rfl, .inr rfl, .inr rfl, trivial⟩ (fun σ F H f E S => ?_) (fun x4 _ s3 s' h2 σ F H v _ E S r N B hN => ?_)
  · replace fc := fc.trans f
    have E : EnvR K _ _ [.val (enc (v_net : (T3 (List (Str × Int)) (List (T3 Str (Tp Int) Bool)) (List (Str × (Tp Int)))))), .adr p_wires1, .val (enc (v_turned : (Sq Int))), .un, .un, .un, .un, .un, .un, .un] := E
    have S : Hx K _ _ _ _ [⟨p_wires1, true, s24.map enc⟩] _ := S
    obtain ⟨l75, h76, hm0⟩ := bindE hm0
    obtain rfl := Option.some.inj hm0
    -- return
    try (with_reducible refine nxD ?_)
    refine st_retO (ds := l75.map enc) (rxo_mapO (eα := enc) (eβ := enc) (fun x52 => [.val (enc (v_net : (T3 (List (Str × Int)) (List (T3 Str (Tp Int) Bool)) (List (Str × (Tp Int)))))), .adr p_wires1, .val (enc (v_turned : (Sq Int))), .un, .un, .val (enc (x52.2 : (Tp Int))), .un, .un, .val (enc (x52.1 : Str)), .un]) [8, 5] (ri_list (ys := v_net.c.map enc) (rx_ixT (ds := [enc (v_net.a : (List (Str × Int))), enc (v_net.b : (List (T3 Str (Tp Int) Bool))), enc (v_net.c : (List (Str × (Tp Int))))]) (d := enc (v_net.c : (List (Str × (Tp Int))))) rfl (rx_var (d := enc (v_net : (T3 (List (Str × Int)) (List (T3 Str (Tp Int) Bool)) (List (Str × (Tp Int)))))) rfl) rx_int)) h76 (by decide) (fun x52 _ => (rg_tup (ds := [enc (x52.1 : Str), enc (x52.2 : (Tp Int))]) (RGs.cons (rg_name (i := 8) (d := enc (x52.1 : Str))) (RGs.cons (rg_name (i := 5) (d := enc (x52.2 : (Tp Int)))) RGs.nil)))) (fun x52 _ y h51 D53 acc54 => by obtain ⟨l73, h74, h51⟩ := bindE h51; obtain rfl := Option.some.inj h51; exact (rx_tuple (RXo.s (rxo_mapO (eα := enc) (eβ := enc) (fun x66 => [.val (enc (v_net : (T3 (List (Str × Int)) (List (T3 Str (Tp Int) Bool)) (List (Str × (Tp Int)))))), .adr p_wires1, .val (enc (v_turned : (Sq Int))), .un, .un, .val (enc (x52.2 : (Tp Int))), .un, .un, .val (enc (x52.1 : Str)), .val (enc (x66 : Int))]) [9] (ri_tup (ys := x52.2.l.map enc) (rx_var (d := enc (x52.2 : (Tp Int))) rfl)) h74 (by decide) (fun x66 _ => (rg_name (i := 9) (d := enc (x66 : Int)))) (fun x66 _ y h65 D67 acc68 => by obtain ⟨t71, h72, h65⟩ := bindE h65; obtain rfl := Option.some.inj h65; exact (rx_ix (atI_map enc h72) (rxs_own (j := 2) (ds := s24.map enc) rfl rfl) (rx_var (d := enc (x66 : Int)) rfl)))))))) E S fun p F H f S => ?_
    obtain ⟨n1, n2, n3, zs, n4, n5, n6⟩ := S.get (j := 0) rfl
    exact k _ _ _ zs S.stp (n2 rfl) n1 n4 n5 n6
  · refine ((rg_tup (ds := [enc (x4.1 : Int), enc (x4.2 : (T3 Str (Tp Int) Bool))]) (RGs.cons (rg_name (i := 3) (d := enc (x4.1 : Int))) (RGs.cons (rg_tup (ds := [enc (x4.2.a : Str), enc (x4.2.b : (Tp Int)), enc (x4.2.c : Bool)]) (RGs.cons (rg_name (i := 4) (d := enc (x4.2.a : Str))) (RGs.cons (rg_name (i := 5) (d := enc (x4.2.b : (Tp Int)))) (RGs.cons (rg_name (i := 6) (d := enc (x4.2.c : Bool))) RGs.nil)))) RGs.nil)))).run _ _ _ _ _ E r S.fh fun σ E _ => ?_
    have E : EnvR K _ _ [.val (enc (v_net : (T3 (List (Str × Int)) (List (T3 Str (Tp Int) Bool)) (List (Str × (Tp Int)))))), .adr p_wires1, .val (enc (v_turned : (Sq Int))), .val (enc (x4.1 : Int)), .val (enc (x4.2.a : Str)), .val (enc (x4.2.b : (Tp Int))), .val (enc (x4.2.c : Bool)), .un, .un, .un] := E
    have S : Hx K _ _ _ _ [⟨p_wires1, true, s3.map enc⟩] _ := S
    have fc : Same F F := Same.refl F
    obtain ⟨l16, h17, h2⟩ := bindE h2
    obtain ⟨r18, h19, h2⟩ := bindE h2
    try (with_reducible refine nxD ?_)
    with_reducible refine sq ?_
    refine st_set (i := 7) (d := enc (r18 : Int)) (rx_call (ds := [enc (x4.2.a : Str), enc (l16 : (List Int))]) (d := enc (r18 : Int)) ⟨_, _, r18, rfl, rfl, h19⟩ (ra_cons (rx_var (d := enc (x4.2.a : Str)) rfl) (ra_cons (RXo.frz (rxo_mapO (eα := enc) (eβ := enc) (fun x9 => [.val (enc (v_net : (T3 (List (Str × Int)) (List (T3 Str (Tp Int) Bool)) (List (Str × (Tp Int)))))), .adr p_wires1, .val (enc (v_turned : (Sq Int))), .val (enc (x4.1 : Int)), .val (enc (x4.2.a : Str)), .val (enc (x4.2.b : (Tp Int))), .val (enc (x4.2.c : Bool)), .un, .un, .val (enc (x9 : Int))]) [9] (ri_tup (ys := x4.2.b.l.map enc) (rx_var (d := enc (x4.2.b : (Tp Int))) rfl)) h17 (by decide) (fun x9 _ => (rg_name (i := 9) (d := enc (x9 : Int)))) (fun x9 _ y h8 D10 acc11 => by obtain ⟨t14, h15, h8⟩ := bindE h8; obtain rfl := Option.some.inj h8; exact (rx_ix (atI_map enc h15) (rxs_own (j := 1) (ds := s3.map enc) rfl rfl) (rx_var (d := enc (x9 : Int)) rfl))))) ra_nil))) E S fun σ F H f E S => ?_
    replace fc := fc.trans f
    have E : EnvR K _ _ [.val (enc (v_net : (T3 (List (Str × Int)) (List (T3 Str (Tp Int) Bool)) (List (Str × (Tp Int)))))), .adr p_wires1, .val (enc (v_turned : (Sq Int))), .val (enc (x4.1 : Int)), .val (enc (x4.2.a : Str)), .val (enc (x4.2.b : (Tp Int))), .val (enc (x4.2.c : Bool)), .val (enc (r18 : Int)), .un, .un] := E
    have S : Hx K _ _ _ _ [⟨p_wires1, true, s3.map enc⟩] _ := S
    obtain ⟨t20, h21, h2⟩ := bindE h2
    obtain ⟨u22, h23, h2⟩ := bindE h2
    try (with_reducible refine nxD ?_)
    refine (st_app (j := 0) (ds := s3.map enc) (d := enc (t20 : Int)) (appO_map enc h23) rfl (rx_ix (ds := List.map enc ([r18, ((1 : Int) - r18)] : (List Int))) (d := enc (t20 : Int)) (atI_map enc h21) (RXo.s (rxo_lst (ds := [enc (r18 : Int), enc (((1 : Int) - r18) : Int)]) (ra_cons (rx_var (d := enc (r18 : Int)) rfl) (ra_cons (rx_sub rx_int (rx_var (d := enc (r18 : Int)) rfl)) ra_nil)))) (rx_intB (rx_inIQ (neg := false) (rx_var (d := enc (x4.1 : Int)) rfl) (rx_var (d := enc (v_turned : (Sq Int))) rfl)))) ⟨_, rfl⟩ rfl E S fun F H f E S => ?_)
    replace fc := fc.trans f
    have E : EnvR K _ _ [.val (enc (v_net : (T3 (List (Str × Int)) (List (T3 Str (Tp Int) Bool)) (List (Str × (Tp Int)))))), .adr p_wires1, .val (enc (v_turned : (Sq Int))), .val (enc (x4.1 : Int)), .val (enc (x4.2.a : Str)), .val (enc (x4.2.b : (Tp Int))), .val (enc (x4.2.c : Bool)), .val (enc (r18 : Int)), .un, .un] := E
    have S : Hx K _ _ _ _ [⟨p_wires1, true, u22.map enc⟩] _ := S
    obtain rfl := Option.some.inj h2
    exact hN _ _ _ fc (E.weak ⟨.inl rfl, .inl rfl, .inl rfl, .inr rfl, .inr rfl, .inr rfl, .inr rfl, .inr rfl, .inr rfl, .inr rfl, trivial⟩) S
theorem sc__law_due : FnScope ["one", "other", "pairs", "bits", "turned", "bad", "mine", "k", "name", "width", "rest", "first", "fed", "yours", "count", "place", "own", "behind", "second", "used", "wire", "bit", "out"] ["one", "other", "pairs", "bits", "turned", "bad"] (defScope (top 27)) := ⟨rfl, rfl, rfl, by decide +kernel, rfl, by decide +kernel, by decide +kernel⟩
theorem ok__law_due (B : Bi mg) (D : Dfn K mg "_law_due" (top 27) ["one", "other", "pairs", "bits", "turned", "bad"]) (C__law_gone : Cal P w K mg base 2 "_law_gone" ["net", "wires", "turned"] (SpN K R__law_gone)) : Cal P w K mg base 3 "_law_due" ["one", "other", "pairs", "bits", "turned", "bad"] (SpN K R__law_due) := by
  refine D.cal sc__law_due (sn_len fun ds d h => by obtain ⟨_, _, _, _, _, _, _, rfl, _⟩ := h; rfl) fun f cdv A outer s H vs Q E hr h => ?_
  refine ⟨_, (pss_cons (ps_set (i := 6) sc__law_due.nd rfl (Or.inl rfl) (pe_lst pa_nil)) (pss_cons (ps_for PassesOwn.never rfl (k_pi_enum K (by rfl) B.enumerate (pa_cons (pe_ix (k_ix_tup K) (pv 0) pe_int (fun _ _ => rfl)) pa_nil)) (pg_tup rfl (pgs_cons (pg_name (i := 7) sc__law_due.nd rfl (Or.inl rfl)) (pgs_cons (pg_tup rfl (pgs_cons (pg_name (i := 8) sc__law_due.nd rfl (Or.inl rfl)) (pgs_cons (pg_name (i := 9) sc__law_due.nd rfl (Or.inl rfl)) pgs_nil))) pgs_nil))) (pss_one (ps_set (i := 6) sc__law_due.nd rfl (Or.inl rfl) (pe_op (k_catR K) (pv 6) (pe_op op_rep (pe_lst (pa_cons (pe_ix (k_ix_list K) (pv 3) (pv 7) (fun _ _ => rfl)) pa_nil)) (pv 9)))))) (pss_cons (ps_set (i := 10) sc__law_due.nd rfl (Or.inl rfl) (pe_slice (k_sl_list K) (pv 3) (po_some (pe_callB (k_len_seq K) (by rfl) B.len PySem.boot_len (pa_cons (pe_ix (k_ix_tup K) (pv 0) pe_int (fun _ _ => rfl)) pa_nil))) po_none)) (pss_cons (ps_setLc (i := 6) (own := [(("wire" : Str), 20), (("bit" : Str), 21)]) (g := (gTup K 2 (gCons (gName 20) (gCons (gName 21) gNil)))) (tt := tYes) rfl sc__law_due.nd rfl rfl (sw_true rfl rfl rfl (by decide +kernel)) (k_pi_enum K (by rfl) B.enumerate (pa_cons (pv 6) pa_nil)) (blkOk_by (by kernel_rfl)) (fun _ _ _ _ _ => (pg_tup rfl (pgs_cons (pg_name (i := 20) sc__law_due.nd rfl (Or.inl rfl)) (pgs_cons (pg_name (i := 21) sc__law_due.nd rfl (Or.inl rfl)) pgs_nil)))) (fun _ _ _ _ _ => pts_nil) (fun _ _ _ _ _ => (pe_ix (k_ix_list K) (pe_lst (pa_cons (pv 21) (pa_cons (pe_op op_sub pe_int (pv 21)) pa_nil))) (pe_callTy call_int1 (by rfl) B.int (by decide +kernel) (pa_cons (pe_cmpR (k_in_seq K) (pv 20) (pv 5) (by rfl)) pa_nil)) (fun _ _ => rfl)))) (pss_cons (ps_set (i := 11) sc__law_due.nd rfl (Or.inr rfl) (pe_cal C__law_gone hr (pa_cons (pv 0) (pa_cons (pv 6) (pa_cons (pv 4) pa_nil))))) (pss_cons (ps_set (i := 12) sc__law_due.nd rfl (Or.inl rfl) (pe_callTy (k_dictP K) (by rfl) B.dict (by decide +kernel) (pa_cons (pe_lc (own := [(("out" : Str), 22), (("place" : Str), 15)]) (g := (gTup K 2 (gCons (gName 22) (gCons (gName 15) gNil)))) (tt := tYes) rfl sc__law_due.nd (k_pi_list K (pv 2)) (blkOk_by (by kernel_rfl)) (fun _ _ _ _ _ => (pg_tup rfl (pgs_cons (pg_name (i := 22) sc__law_due.nd rfl (Or.inl rfl)) (pgs_cons (pg_name (i := 15) sc__law_due.nd rfl (Or.inl rfl)) pgs_nil)))) (fun _ _ _ _ _ => pts_nil) (fun _ _ _ _ _ => (pe_tup (pa_cons (pv 15) (pa_cons (pv 22) pa_nil))))) pa_nil))) (pss_cons (ps_set (i := 13) sc__law_due.nd rfl (Or.inl rfl) (pe_lst pa_nil)) (pss_cons (ps_set (i := 14) sc__law_due.nd rfl (Or.inr rfl) (pe_callB (k_len_seq K) (by rfl) B.len PySem.boot_len (pa_cons (pv 6) pa_nil))) (pss_cons (ps_for PassesOwn.never rfl (k_pi_enum K (by rfl) B.enumerate (pa_cons (pe_ix (k_ix_tup K) (pv 1) pe_int (fun _ _ => rfl)) pa_nil)) (pg_tup rfl (pgs_cons (pg_name (i := 15) sc__law_due.nd rfl (Or.inl rfl)) (pgs_cons (pg_tup rfl (pgs_cons (pg_name (i := 8) sc__law_due.nd rfl (Or.inl rfl)) (pgs_cons (pg_name (i := 9) sc__law_due.nd rfl (Or.inl rfl)) pgs_nil))) pgs_nil))) (pss_one (ps_if (pt_cmp (pc_din (hu_of hr) (pv 15) (pv 12)) rfl) (pss_one (ps_set (i := 13) sc__law_due.nd rfl (Or.inl rfl) (pe_op (k_catR K) (pv 13) (pe_callTy (k_list_of K) (by rfl) B.list (by decide +kernel) (pa_cons (pe_ix (k_ix_list K) (pv 11) (pe_dget (hu_of hr) (pv 12) (pv 15) (fun _ _ => rfl)) (fun _ _ => rfl)) pa_nil))))) (pss_cons (ps_set (i := 16) sc__law_due.nd rfl (Or.inl rfl) (pe_op op_rep (pe_lst (pa_cons (pe_ix (k_ix_list K) (pv 10) pe_int (fun _ _ => rfl)) pa_nil)) (pv 9))) (pss_cons (ps_set (i := 13) sc__law_due.nd rfl (Or.inl rfl) (pe_op (k_catR K) (pv 13) (pe_lc (own := [(("k" : Str), 7), (("bit" : Str), 21)]) (g := (gTup K 2 (gCons (gName 7) (gCons (gName 21) gNil)))) (tt := tYes) rfl sc__law_due.nd (k_pi_enum K (by rfl) B.enumerate (pa_cons (pv 16) pa_nil)) (blkOk_by (by kernel_rfl)) (fun _ _ _ _ _ => (pg_tup rfl (pgs_cons (pg_name (i := 7) sc__law_due.nd rfl (Or.inl rfl)) (pgs_cons (pg_name (i := 21) sc__law_due.nd rfl (Or.inl rfl)) pgs_nil)))) (fun _ _ _ _ _ => pts_nil) (fun _ _ _ _ _ => (pe_ix (k_ix_list K) (pe_lst (pa_cons (pv 21) (pa_cons (pe_op op_sub pe_int (pv 21)) pa_nil))) (pe_callTy call_int1 (by rfl) B.int (by decide +kernel) (pa_cons (pe_cmpR (k_in_seq K) (pe_op op_add (pv 14) (pv 7)) (pv 5) (by rfl)) pa_nil)) (fun _ _ => rfl)))))) (pss_cons (ps_set (i := 14) sc__law_due.nd rfl (Or.inr rfl) (pe_op op_add (pv 14) (pv 9))) (pss_one (ps_set (i := 10) sc__law_due.nd rfl (Or.inl rfl) (pe_slice (k_sl_list K) (pv 10) (po_some pe_int) po_none))))))))) (pss_cons (ps_setLc (i := 17) (own := [(("place" : Str), 15)]) (g := (gName 15)) (tt := tYes) rfl sc__law_due.nd rfl rfl (sw_true rfl rfl rfl (by decide +kernel)) (k_pi_tup K (pv 4)) (blkOk_by (by kernel_rfl)) (fun _ _ _ _ _ => (pg_name (i := 15) sc__law_due.nd rfl (Or.inl rfl))) (fun _ _ _ _ _ => pts_nil) (fun _ _ _ _ _ => (pe_op op_sub (pv 15) (pe_callB (k_len_seq K) (by rfl) B.len PySem.boot_len (pa_cons (pe_ix (k_ix_tup K) (pv 0) pe_int (fun _ _ => rfl)) pa_nil))))) (pss_cons (ps_set (i := 18) sc__law_due.nd rfl (Or.inl rfl) (pe_cal C__law_gone hr (pa_cons (pv 1) (pa_cons (pv 13) (pa_cons (pv 17) pa_nil))))) (pss_cons (ps_set (i := 19) sc__law_due.nd rfl (Or.inr rfl) (pe_lc (own := [(("out" : Str), 22), (("place" : Str), 15)]) (g := (gTup K 2 (gCons (gName 22) (gCons (gName 15) gNil)))) (tt := tYes) rfl sc__law_due.nd (k_pi_list K (pv 2)) (blkOk_by (by kernel_rfl)) (fun _ _ _ _ _ => (pg_tup rfl (pgs_cons (pg_name (i := 22) sc__law_due.nd rfl (Or.inl rfl)) (pgs_cons (pg_name (i := 15) sc__law_due.nd rfl (Or.inl rfl)) pgs_nil)))) (fun _ _ _ _ _ => pts_nil) (fun _ _ _ _ _ => (pv 22)))) (pss_one (ps_ret (pe_op (k_catR K) (pe_lc (own := [(("k" : Str), 7)]) (g := (gName 7)) rfl sc__law_due.nd (pi_range1 rfl B.range (pa_cons (pe_callB (k_len_seq K) (by rfl) B.len PySem.boot_len (pa_cons (pv 11) pa_nil)) pa_nil)) (blkOk_by (by kernel_rfl)) (fun _ _ _ _ _ => (pg_name (i := 7) sc__law_due.nd rfl (Or.inl rfl))) (fun _ _ _ _ _ => (pts_one (pt_cmpR (k_notIn_seq K) (pv 7) (pv 19) (by rfl)))) (fun _ _ _ _ _ => (pe_ix (k_ix_list K) (pv 11) (pv 7) (fun _ _ => rfl)))) (pv 18)))))))))))))))), ?_⟩
  obtain ⟨F, ds, es, hw, hF, ⟨v_one, v_other, v_pairs, v_bits, v_turned, v_bad, rr, rfl, rfl, hm0⟩, k⟩ := h
  have E : EnvR K F _ [.val (enc (v_one : (T3 (List (Str × Int)) (List (T3 Str (Tp Int) Bool)) (List (Str × (Tp Int)))))), .val (enc (v_other : (T3 (List (Str × Int)) (List (T3 Str (Tp Int) Bool)) (List (Str × (Tp Int)))))), .val (enc (v_pairs : (List (Int × Int)))), .val (enc (v_bits : (List Int))), .val (enc (v_turned : (Tp Int))), .val (enc (v_bad : (Tp Int))), .un, .un, .un, .un, .un, .un, .un, .un, .un, .un, .un, .un, .un, .un, .un, .un, .un] := EnvR.start (N := ["one", "other", "pairs", "bits", "turned", "bad", "mine", "k", "name", "width", "rest", "first", "fed", "yours", "count", "place", "own", "behind", "second", "used", "wire", "bit", "out"]) (AsR.of_all hw)
  have S := Hx.start (K := K) hF
  have fc : Same F F := Same.refl F
  unfold m__law_due at hm0
  obtain ⟨v1, h2, hm0⟩ := letE hm0
  try (with_reducible refine nxD ?_)
  with_reducible refine sq ?_
  refine st_set (i := 6) (d := enc (v1 : (List Int))) (rx_as (x := (([] : (List Int)) : (List Int))) h2 (RXo.frz (rxo_lst (ds := []) ra_nil))) E S fun σ F H f E S => ?_
  replace fc := fc.trans f
  have E : EnvR K _ _ [.val (enc (v_one : (T3 (List (Str × Int)) (List (T3 Str (Tp Int) Bool)) (List (Str × (Tp Int)))))), .val (enc (v_other : (T3 (List (Str × Int)) (List (T3 Str (Tp Int) Bool)) (List (Str × (Tp Int)))))), .val (enc (v_pairs : (List (Int × Int)))), .val (enc (v_bits : (List Int))), .val (enc (v_turned : (Tp Int))), .val (enc (v_bad : (Tp Int))), .val (enc (v1 : (List Int))), .un, .un, .un, .un, .un, .un, .un, .un, .un, .un, .un, .un, .un, .un, .un, .un] := E
  have S : Hx K _ _ _ _ [] _ := S
  obtain ⟨s15, h7, hm0⟩ := bindE hm0
  try (with_reducible refine nxD ?_)
  with_reducible refine sq ?_
  refine st_forS (eα := enc) (fun s4 => [.val (enc (v_one : (T3 (List (Str × Int)) (List (T3 Str (Tp Int) Bool)) (List (Str × (Tp Int)))))), .val (enc (v_other : (T3 (List (Str × Int)) (List (T3 Str (Tp Int) Bool)) (List (Str × (Tp Int)))))), .val (enc (v_pairs : (List (Int × Int)))), .val (enc (v_bits : (List Int))), .val (enc (v_turned : (Tp Int))), .val (enc (v_bad : (Tp Int))), .val (enc (s4 : (List Int))), .un, .un, .un, .un, .un, .un, .un, .un, .un, .un, .un, .un, .un, .un, .un, .un]) (fun s4 => []) E S (ri_enumT (rx_ixT (ds := [enc (v_one.a : (List (Str × Int))), enc (v_one.b : (List (T3 Str (Tp Int) Bool))), enc (v_one.c : (List (Str × (Tp Int))))]) (d := enc (v_one.a : (List (Str × Int)))) rfl (rx_var (d := enc (v_one : (T3 (List (Str × Int)) (List (T3 Str (Tp Int) Bool)) (List (Str × (Tp Int)))))) rfl) rx_int)) h7 ⟨.inl rfl, .inl rfl, .inl rfl, .inl rfl, .inl rfl, .inl rfl, .inl rfl, .inr rfl, .inr rfl, .inr rfl, .inr rfl, .inr rfl, .inr rfl, .inr rfl, .inr rfl, .inr rfl, .inr rfl, .inr rfl, .inr rfl, .inr rfl, .inr rfl, .inr rfl, .inr rfl, trivial⟩ (fun σ F H f E S => ?_) (fun x5 _ s4 s' h3 σ F H v _ E S r N B hN => ?_)
  · replace fc := fc.trans f
    have E : EnvR K _ _ [.val (enc (v_one : (T3 (List (Str × Int)) (List (T3 Str (Tp Int) Bool)) (List (Str × (Tp Int)))))), .val (enc (v_other : (T3 (List (Str × Int)) (List (T3 Str (Tp Int) Bool)) (List (Str × (Tp Int)))))), .val (enc (v_pairs : (List (Int × Int)))), .val (enc (v_bits : (List Int))), .val (enc (v_turned : (Tp Int))), .val (enc (v_bad : (Tp Int))), .val (enc (s15 : (List Int))), .un, .un, .un, .un, .un, .un, .un, .un, .un, .un, .un, .un, .un, .un, .un, .un] := E
    have S : Hx K _ _ _ _ [] _ := S
    obtain ⟨v16, h17, hm0⟩ := letE hm0
    try (with_reducible refine nxD ?_)
    with_reducible refine sq ?_
    refine st_set (i := 10) (d := enc (v16 : (List Int))) (rx_as (x := ((cutL v_bits (some (v_one.a.length : Int)) none) : (List Int))) h17 (RXo.frz (rxo_sliceM (f := enc) (RX.s (rx_var (d := enc (v_bits : (List Int))) rfl)) (ro_some (len_nat (f := enc) (RX.s (rx_ixT (ds := [enc (v_one.a : (List (Str × Int))), enc (v_one.b : (List (T3 Str (Tp Int) Bool))), enc (v_one.c : (List (Str × (Tp Int))))]) (d := enc (v_one.a : (List (Str × Int)))) rfl (rx_var (d := enc (v_one : (T3 (List (Str × Int)) (List (T3 Str (Tp Int) Bool)) (List (Str × (Tp Int)))))) rfl) rx_int)))) ro_none))) E S fun σ F H f E S => ?_
    replace fc := fc.trans f
    have E : EnvR K _ _ [.val (enc (v_one : (T3 (List (Str × Int)) (List (T3 Str (Tp Int) Bool)) (List (Str × (Tp Int)))))), .val (enc (v_other : (T3 (List (Str × Int)) (List (T3 Str (Tp Int) Bool)) (List (Str × (Tp Int)))))), .val (enc (v_pairs : (List (Int × Int)))), .val (enc (v_bits : (List Int))), .val (enc (v_turned : (Tp Int))), .val (enc (v_bad : (Tp Int))), .val (enc (s15 : (List Int))), .un, .un, .un, .val (enc (v16 : (List Int))), .un, .un, .un, .un, .un, .un, .un, .un, .un, .un, .un, .un] := E
    have S : Hx K _ _ _ _ [] _ := S
    obtain ⟨l26, h27, hm0⟩ := bindE hm0
    try (with_reducible refine nxD ?_)
    with_reducible refine sq ?_
    refine st_set (i := 6) (d := enc (l26 : (List Int))) (RXo.frz (rxo_mapO (eα := enc) (eβ := enc) (fun x19 => [.val (enc (v_one : (T3 (List (Str × Int)) (List (T3 Str (Tp Int) Bool)) (List (Str × (Tp Int)))))), .val (enc (v_other : (T3 (List (Str × Int)) (List (T3 Str (Tp Int) Bool)) (List (Str × (Tp Int)))))), .val (enc (v_pairs : (List (Int × Int)))), .val (enc (v_bits : (List Int))), .val (enc (v_turned : (Tp Int))), .val (enc (v_bad : (Tp Int))), .val (enc (s15 : (List Int))), .un, .un, .un, .val (enc (v16 : (List Int))), .un, .un, .un, .un, .un, .un, .un, .un, .un, .val (enc (x19.1 : Int)), .val (enc (x19.2 : Int)), .un]) [20, 21] (ri_enumT (rx_var (d := enc (s15 : (List Int))) rfl)) h27 (by decide) (fun x19 _ => (rg_tup (ds := [enc (x19.1 : Int), enc (x19.2 : Int)]) (RGs.cons (rg_name (i := 20) (d := enc (x19.1 : Int))) (RGs.cons (rg_name (i := 21) (d := enc (x19.2 : Int))) RGs.nil)))) (fun x19 _ y h18 D20 acc21 => by obtain ⟨t24, h25, h18⟩ := bindE h18; obtain rfl := Option.some.inj h18; exact (rx_ix (ds := List.map enc ([x19.2, ((1 : Int) - x19.2)] : (List Int))) (d := enc (t24 : Int)) (atI_map enc h25) (RXo.s (rxo_lst (ds := [enc (x19.2 : Int), enc (((1 : Int) - x19.2) : Int)]) (ra_cons (rx_var (d := enc (x19.2 : Int)) rfl) (ra_cons (rx_sub rx_int (rx_var (d := enc (x19.2 : Int)) rfl)) ra_nil)))) (rx_intB (rx_inIT (neg := false) (rx_var (d := enc (x19.1 : Int)) rfl) (rx_var (d := enc (v_bad : (Tp Int))) rfl))))))) E S fun σ F H f E S => ?_
    replace fc := fc.trans f
    have E : EnvR K _ _ [.val (enc (v_one : (T3 (List (Str × Int)) (List (T3 Str (Tp Int) Bool)) (List (Str × (Tp Int)))))), .val (enc (v_other : (T3 (List (Str × Int)) (List (T3 Str (Tp Int) Bool)) (List (Str × (Tp Int)))))), .val (enc (v_pairs : (List (Int × Int)))), .val (enc (v_bits : (List Int))), .val (enc (v_turned : (Tp Int))), .val (enc (v_bad : (Tp Int))), .val (enc (l26 : (List Int))), .un, .un, .un, .val (enc (v16 : (List Int))), .un, .un, .un, .un, .un, .un, .un, .un, .un, .un, .un, .un] := E
    have S : Hx K _ _ _ _ [] _ := S
    obtain ⟨r28, h29, hm0⟩ := bindE hm0
    try (with_reducible refine nxD ?_)
    with_reducible refine sq ?_
    refine st_set (i := 11) (d := enc (r28 : (List (Tp Int)))) (RXo.frz (rxo_call (ds := [enc (v_one : (T3 (List (Str × Int)) (List (T3 Str (Tp Int) Bool)) (List (Str × (Tp Int))))), enc (l26 : (List Int)), enc ((Sq.mk true v_turned.l) : (Sq Int))]) (es := r28.map enc) ⟨_, _, _, r28, rfl, rfl, h29⟩ (ra_cons (rx_var (d := enc (v_one : (T3 (List (Str × Int)) (List (T3 Str (Tp Int) Bool)) (List (Str × (Tp Int)))))) rfl) (ra_cons (rx_var (d := enc (l26 : (List Int))) rfl) (ra_cons (rx_var (d := enc (v_turned : (Tp Int))) rfl) ra_nil))))) E S fun σ F H f E S => ?_
    replace fc := fc.trans f
    have E : EnvR K _ _ [.val (enc (v_one : (T3 (List (Str × Int)) (List (T3 Str (Tp Int) Bool)) (List (Str × (Tp Int)))))), .val (enc (v_other : (T3 (List (Str × Int)) (List (T3 Str (Tp Int) Bool)) (List (Str × (Tp Int)))))), .val (enc (v_pairs : (List (Int × Int)))), .val (enc (v_bits : (List Int))), .val (enc (v_turned : (Tp Int))), .val (enc (v_bad : (Tp Int))), .val (enc (l26 : (List Int))), .un, .un, .un, .val (enc (v16 : (List Int))), .val (enc (r28 : (List (Tp Int)))), .un, .un, .un, .un, .un, .un, .un, .un, .un, .un, .un] := E
    have S : Hx K _ _ _ _ [] _ := S
    try (with_reducible refine nxD ?_)
    with_reducible refine sq ?_
    refine st_setDP (i := 12) (xs := ((v_pairs.map (fun (x31 : (Int × Int)) => ((x31.2, x31.1) : (Int × Int)))) : (List (Int × Int)))) (RXo.s (rxo_map (eα := enc) (eβ := enc) (f := (fun (x31 : (Int × Int)) => ((x31.2, x31.1) : (Int × Int)))) (fun x31 => [.val (enc (v_one : (T3 (List (Str × Int)) (List (T3 Str (Tp Int) Bool)) (List (Str × (Tp Int)))))), .val (enc (v_other : (T3 (List (Str × Int)) (List (T3 Str (Tp Int) Bool)) (List (Str × (Tp Int)))))), .val (enc (v_pairs : (List (Int × Int)))), .val (enc (v_bits : (List Int))), .val (enc (v_turned : (Tp Int))), .val (enc (v_bad : (Tp Int))), .val (enc (l26 : (List Int))), .un, .un, .un, .val (enc (v16 : (List Int))), .val (enc (r28 : (List (Tp Int)))), .un, .un, .un, .val (enc (x31.2 : Int)), .un, .un, .un, .un, .un, .un, .val (enc (x31.1 : Int))]) [22, 15] (ri_list (ys := v_pairs.map enc) (rx_var (d := enc (v_pairs : (List (Int × Int)))) rfl)) (by decide) (fun x31 _ => (rg_tup (ds := [enc (x31.1 : Int), enc (x31.2 : Int)]) (RGs.cons (rg_name (i := 22) (d := enc (x31.1 : Int))) (RGs.cons (rg_name (i := 15) (d := enc (x31.2 : Int))) RGs.nil)))) (fun x31 _ D32 acc33 => (rx_tup (ds := [enc (x31.2 : Int), enc (x31.1 : Int)]) (ra_cons (rx_var (d := enc (x31.2 : Int)) rfl) (ra_cons (rx_var (d := enc (x31.1 : Int)) rfl) ra_nil)))))) E S fun σ F H f E S => ?_
    replace fc := fc.trans f
    have E : EnvR K _ _ [.val (enc (v_one : (T3 (List (Str × Int)) (List (T3 Str (Tp Int) Bool)) (List (Str × (Tp Int)))))), .val (enc (v_other : (T3 (List (Str × Int)) (List (T3 Str (Tp Int) Bool)) (List (Str × (Tp Int)))))), .val (enc (v_pairs : (List (Int × Int)))), .val (enc (v_bits : (List Int))), .val (enc (v_turned : (Tp Int))), .val (enc (v_bad : (Tp Int))), .val (enc (l26 : (List Int))), .un, .un, .un, .val (enc (v16 : (List Int))), .val (enc (r28 : (List (Tp Int)))), .dk (encK ((mergeM (v_pairs.map (fun (x31 : (Int × Int)) => ((x31.2, x31.1) : (Int × Int))))) : (List (Int × Int)))), .un, .un, .un, .un, .un, .un, .un, .un, .un, .un] := E
    have S : Hx K _ _ _ _ [] _ := S
    obtain ⟨v36, h37, hm0⟩ := letE hm0
    try (with_reducible refine nxD ?_)
    with_reducible refine sq ?_
    refine st_set (i := 13) (d := enc (v36 : (List Int))) (rx_as (x := (([] : (List Int)) : (List Int))) h37 (RXo.frz (rxo_lst (ds := []) ra_nil))) E S fun σ F H f E S => ?_
    replace fc := fc.trans f
    have E : EnvR K _ _ [.val (enc (v_one : (T3 (List (Str × Int)) (List (T3 Str (Tp Int) Bool)) (List (Str × (Tp Int)))))), .val (enc (v_other : (T3 (List (Str × Int)) (List (T3 Str (Tp Int) Bool)) (List (Str × (Tp Int)))))), .val (enc (v_pairs : (List (Int × Int)))), .val (enc (v_bits : (List Int))), .val (enc (v_turned : (Tp Int))), .val (enc (v_bad : (Tp Int))), .val (enc (l26 : (List Int))), .un, .un, .un, .val (enc (v16 : (List Int))), .val (enc (r28 : (List (Tp Int)))), .dk (encK ((mergeM (v_pairs.map (fun (x31 : (Int × Int)) => ((x31.2, x31.1) : (Int × Int))))) : (List (Int × Int)))), .val (enc (v36 : (List Int))), .un, .un, .un, .un, .un, .un, .un, .un, .un] := E
    have S : Hx K _ _ _ _ [] _ := S
    obtain ⟨v38, h39, hm0⟩ := letE hm0
    try (with_reducible refine nxD ?_)
    with_reducible refine sq ?_
    refine st_set (i := 14) (d := enc (v38 : Int)) (rx_as (x := ((l26.length : Int) : Int)) h39 (len_nat (f := enc) (RX.s (rx_var (d := enc (l26 : (List Int))) rfl)))) E S fun σ F H f E S => ?_
    replace fc := fc.trans f
    have E : EnvR K _ _ [.val (enc (v_one : (T3 (List (Str × Int)) (List (T3 Str (Tp Int) Bool)) (List (Str × (Tp Int)))))), .val (enc (v_other : (T3 (List (Str × Int)) (List (T3 Str (Tp Int) Bool)) (List (Str × (Tp Int)))))), .val (enc (v_pairs : (List (Int × Int)))), .val (enc (v_bits : (List Int))), .val (enc (v_turned : (Tp Int))), .val (enc (v_bad : (Tp Int))), .val (enc (l26 : (List Int))), .un, .un, .un, .val (enc (v16 : (List Int))), .val (enc (r28 : (List (Tp Int)))), .dk (encK ((mergeM (v_pairs.map (fun (x31 : (Int × Int)) => ((x31.2, x31.1) : (Int × Int))))) : (List (Int × Int)))), .val (enc (v36 : (List Int))), .val (enc (v38 : Int)), .un, .un, .un, .un, .un, .un, .un, .un] := E
    have S : Hx K _ _ _ _ [] _ := S
    obtain ⟨s74, h44, hm0⟩ := bindE hm0
    try (with_reducible refine nxD ?_)
    with_reducible refine sq ?_
    refine st_forS (eα := enc) (fun s41 => [.val (enc (v_one : (T3 (List (Str × Int)) (List (T3 Str (Tp Int) Bool)) (List (Str × (Tp Int)))))), .val (enc (v_other : (T3 (List (Str × Int)) (List (T3 Str (Tp Int) Bool)) (List (Str × (Tp Int)))))), .val (enc (v_pairs : (List (Int × Int)))), .val (enc (v_bits : (List Int))), .val (enc (v_turned : (Tp Int))), .val (enc (v_bad : (Tp Int))), .val (enc (l26 : (List Int))), .un, .un, .un, .val (enc (s41.2.2 : (List Int))), .val (enc (r28 : (List (Tp Int)))), .dk (encK ((mergeM (v_pairs.map (fun (x31 : (Int × Int)) => ((x31.2, x31.1) : (Int × Int))))) : (List (Int × Int)))), .val (enc (s41.1 : (List Int))), .val (enc (s41.2.1 : Int)), .un, .un, .un, .un, .un, .un, .un, .un]) (fun s41 => []) E S (ri_enumT (rx_ixT (ds := [enc (v_other.a : (List (Str × Int))), enc (v_other.b : (List (T3 Str (Tp Int) Bool))), enc (v_other.c : (List (Str × (Tp Int))))]) (d := enc (v_other.a : (List (Str × Int)))) rfl (rx_var (d := enc (v_other : (T3 (List (Str × Int)) (List (T3 Str (Tp Int) Bool)) (List (Str × (Tp Int)))))) rfl) rx_int)) h44 ⟨.inl rfl, .inl rfl, .inl rfl, .inl rfl, .inl rfl, .inl rfl, .inl rfl, .inr rfl, .inr rfl, .inr rfl, .inl rfl, .inl rfl, .inl rfl, .inl rfl, .inl rfl, .inr rfl, .inr rfl, .inr rfl, .inr rfl, .inr rfl, .inr rfl, .inr rfl, .inr rfl, trivial⟩ (fun σ F H f E S => ?_) (fun x42 _ s41 s' h40 σ F H v _ E S r N B hN => ?_)
    · replace fc := fc.trans f
      have E : EnvR K _ _ [.val (enc (v_one : (T3 (List (Str × Int)) (List (T3 Str (Tp Int) Bool)) (List (Str × (Tp Int)))))), .val (enc (v_other : (T3 (List (Str × Int)) (List (T3 Str (Tp Int) Bool)) (List (Str × (Tp Int)))))), .val (enc (v_pairs : (List (Int × Int)))), .val (enc (v_bits : (List Int))), .val (enc (v_turned : (Tp Int))), .val (enc (v_bad : (Tp Int))), .val (enc (l26 : (List Int))), .un, .un, .un, .val (enc (s74.2.2 : (List Int))), .val (enc (r28 : (List (Tp Int)))), .dk (encK ((mergeM (v_pairs.map (fun (x31 : (Int × Int)) => ((x31.2, x31.1) : (Int × Int))))) : (List (Int × Int)))), .val (enc (s74.1 : (List Int))), .val (enc (s74.2.1 : Int)), .un, .un, .un, .un, .un, .un, .un, .un] := E
      have S : Hx K _ _ _ _ [] _ := S
      obtain ⟨v79, h80, hm0⟩ := letE hm0
      try (with_reducible refine nxD ?_)
      with_reducible refine sq ?_
      refine st_set (i := 17) (d := enc (v79 : (List Int))) (rx_as (x := ((v_turned.l.map (fun (x76 : Int) => ((x76 - (v_one.b.length : Int)) : Int))) : (List Int))) h80 (RXo.frz (rxo_map (eα := enc) (eβ := enc) (f := (fun (x76 : Int) => ((x76 - (v_one.b.length : Int)) : Int))) (fun x76 => [.val (enc (v_one : (T3 (List (Str × Int)) (List (T3 Str (Tp Int) Bool)) (List (Str × (Tp Int)))))), .val (enc (v_other : (T3 (List (Str × Int)) (List (T3 Str (Tp Int) Bool)) (List (Str × (Tp Int)))))), .val (enc (v_pairs : (List (Int × Int)))), .val (enc (v_bits : (List Int))), .val (enc (v_turned : (Tp Int))), .val (enc (v_bad : (Tp Int))), .val (enc (l26 : (List Int))), .un, .un, .un, .val (enc (s74.2.2 : (List Int))), .val (enc (r28 : (List (Tp Int)))), .dk (encK ((mergeM (v_pairs.map (fun (x31 : (Int × Int)) => ((x31.2, x31.1) : (Int × Int))))) : (List (Int × Int)))), .val (enc (s74.1 : (List Int))), .val (enc (s74.2.1 : Int)), .val (enc (x76 : Int)), .un, .un, .un, .un, .un, .un, .un]) [15] (ri_tup (ys := v_turned.l.map enc) (rx_var (d := enc (v_turned : (Tp Int))) rfl)) (by decide) (fun x76 _ => (rg_name (i := 15) (d := enc (x76 : Int)))) (fun x76 _ D77 acc78 => (rx_sub (rx_var (d := enc (x76 : Int)) rfl) (len_nat (f := enc) (RX.s (rx_ixT (ds := [enc (v_one.a : (List (Str × Int))), enc (v_one.b : (List (T3 Str (Tp Int) Bool))), enc (v_one.c : (List (Str × (Tp Int))))]) (d := enc (v_one.b : (List (T3 Str (Tp Int) Bool)))) rfl (rx_var (d := enc (v_one : (T3 (List (Str × Int)) (List (T3 Str (Tp Int) Bool)) (List (Str × (Tp Int)))))) rfl) rx_int)))))))) E S fun σ F H f E S => ?_
      replace fc := fc.trans f
      have E : EnvR K _ _ [.val (enc (v_one : (T3 (List (Str × Int)) (List (T3 Str (Tp Int) Bool)) (List (Str × (Tp Int)))))), .val (enc (v_other : (T3 (List (Str × Int)) (List (T3 Str (Tp Int) Bool)) (List (Str × (Tp Int)))))), .val (enc (v_pairs : (List (Int × Int)))), .val (enc (v_bits : (List Int))), .val (enc (v_turned : (Tp Int))), .val (enc (v_bad : (Tp Int))), .val (enc (l26 : (List Int))), .un, .un, .un, .val (enc (s74.2.2 : (List Int))), .val (enc (r28 : (List (Tp Int)))), .dk (encK ((mergeM (v_pairs.map (fun (x31 : (Int × Int)) => ((x31.2, x31.1) : (Int × Int))))) : (List (Int × Int)))), .val (enc (s74.1 : (List Int))), .val (enc (s74.2.1 : Int)), .un, .un, .val (enc (v79 : (List Int))), .un, .un, .un, .un, .un] := E
      have S : Hx K _ _ _ _ [] _ := S
      obtain ⟨r81, h82, hm0⟩ := bindE hm0
      try (with_reducible refine nxD ?_)
      with_reducible refine sq ?_
      refine st_set (i := 18) (d := enc (r81 : (List (Tp Int)))) (RXo.frz (rxo_call (ds := [enc (v_other : (T3 (List (Str × Int)) (List (T3 Str (Tp Int) Bool)) (List (Str × (Tp Int))))), enc (s74.1 : (List Int)), enc ((Sq.mk false v79) : (Sq Int))]) (es := r81.map enc) ⟨_, _, _, r81, rfl, rfl, h82⟩ (ra_cons (rx_var (d := enc (v_other : (T3 (List (Str × Int)) (List (T3 Str (Tp Int) Bool)) (List (Str × (Tp Int)))))) rfl) (ra_cons (rx_var (d := enc (s74.1 : (List Int))) rfl) (ra_cons (rx_var (d := enc (v79 : (List Int))) rfl) ra_nil))))) E S fun σ F H f E S => ?_
      replace fc := fc.trans f
      have E : EnvR K _ _ [.val (enc (v_one : (T3 (List (Str × Int)) (List (T3 Str (Tp Int) Bool)) (List (Str × (Tp Int)))))), .val (enc (v_other : (T3 (List (Str × Int)) (List (T3 Str (Tp Int) Bool)) (List (Str × (Tp Int)))))), .val (enc (v_pairs : (List (Int × Int)))), .val (enc (v_bits : (List Int))), .val (enc (v_turned : (Tp Int))), .val (enc (v_bad : (Tp Int))), .val (enc (l26 : (List Int))), .un, .un, .un, .val (enc (s74.2.2 : (List Int))), .val (enc (r28 : (List (Tp Int)))), .dk (encK ((mergeM (v_pairs.map (fun (x31 : (Int × Int)) => ((x31.2, x31.1) : (Int × Int))))) : (List (Int × Int)))), .val (enc (s74.1 : (List Int))), .val (enc (s74.2.1 : Int)), .un, .un, .val (enc (v79 : (List Int))), .val (enc (r81 : (List (Tp Int)))), .un, .un, .un, .un] := E
      have S : Hx K _ _ _ _ [] _ := S
      obtain ⟨v87, h88, hm0⟩ := letE hm0
      try (with_reducible refine nxD ?_)
      with_reducible refine sq ?_
      refine st_set (i := 19) (d := enc (v87 : (List Int))) (rx_as (x := ((v_pairs.map (fun (x84 : (Int × Int)) => (x84.1 : Int))) : (List Int))) h88 (RXo.frz (rxo_map (eα := enc) (eβ := enc) (f := (fun (x84 : (Int × Int)) => (x84.1 : Int))) (fun x84 => [.val (enc (v_one : (T3 (List (Str × Int)) (List (T3 Str (Tp Int) Bool)) (List (Str × (Tp Int)))))), .val (enc (v_other : (T3 (List (Str × Int)) (List (T3 Str (Tp Int) Bool)) (List (Str × (Tp Int)))))), .val (enc (v_pairs : (List (Int × Int)))), .val (enc (v_bits : (List Int))), .val (enc (v_turned : (Tp Int))), .val (enc (v_bad : (Tp Int))), .val (enc (l26 : (List Int))), .un, .un, .un, .val (enc (s74.2.2 : (List Int))), .val (enc (r28 : (List (Tp Int)))), .dk (encK ((mergeM (v_pairs.map (fun (x31 : (Int × Int)) => ((x31.2, x31.1) : (Int × Int))))) : (List (Int × Int)))), .val (enc (s74.1 : (List Int))), .val (enc (s74.2.1 : Int)), .val (enc (x84.2 : Int)), .un, .val (enc (v79 : (List Int))), .val (enc (r81 : (List (Tp Int)))), .un, .un, .un, .val (enc (x84.1 : Int))]) [22, 15] (ri_list (ys := v_pairs.map enc) (rx_var (d := enc (v_pairs : (List (Int × Int)))) rfl)) (by decide) (fun x84 _ => (rg_tup (ds := [enc (x84.1 : Int), enc (x84.2 : Int)]) (RGs.cons (rg_name (i := 22) (d := enc (x84.1 : Int))) (RGs.cons (rg_name (i := 15) (d := enc (x84.2 : Int))) RGs.nil)))) (fun x84 _ D85 acc86 => (rx_var (d := enc (x84.1 : Int)) rfl))))) E S fun σ F H f E S => ?_
      replace fc := fc.trans f
      have E : EnvR K _ _ [.val (enc (v_one : (T3 (List (Str × Int)) (List (T3 Str (Tp Int) Bool)) (List (Str × (Tp Int)))))), .val (enc (v_other : (T3 (List (Str × Int)) (List (T3 Str (Tp Int) Bool)) (List (Str × (Tp Int)))))), .val (enc (v_pairs : (List (Int × Int)))), .val (enc (v_bits : (List Int))), .val (enc (v_turned : (Tp Int))), .val (enc (v_bad : (Tp Int))), .val (enc (l26 : (List Int))), .un, .un, .un, .val (enc (s74.2.2 : (List Int))), .val (enc (r28 : (List (Tp Int)))), .dk (encK ((mergeM (v_pairs.map (fun (x31 : (Int × Int)) => ((x31.2, x31.1) : (Int × Int))))) : (List (Int × Int)))), .val (enc (s74.1 : (List Int))), .val (enc (s74.2.1 : Int)), .un, .un, .val (enc (v79 : (List Int))), .val (enc (r81 : (List (Tp Int)))), .val (enc (v87 : (List Int))), .un, .un, .un] := E
      have S : Hx K _ _ _ _ [] _ := S
      obtain ⟨l109, h110, hm0⟩ := bindE hm0
      obtain ⟨t111, h112, hm0⟩ := bindE hm0
      obtain rfl := Option.some.inj hm0
      -- return
      try (with_reducible refine nxD ?_)
      refine st_retO (ds := t111.map enc) (rxo_catO (f := enc) h112 (RXo.s (rxo_filtO (eα := enc) (eβ := enc) (fun x102 => [.val (enc (v_one : (T3 (List (Str × Int)) (List (T3 Str (Tp Int) Bool)) (List (Str × (Tp Int)))))), .val (enc (v_other : (T3 (List (Str × Int)) (List (T3 Str (Tp Int) Bool)) (List (Str × (Tp Int)))))), .val (enc (v_pairs : (List (Int × Int)))), .val (enc (v_bits : (List Int))), .val (enc (v_turned : (Tp Int))), .val (enc (v_bad : (Tp Int))), .val (enc (l26 : (List Int))), .val (enc (x102 : Int)), .un, .un, .val (enc (s74.2.2 : (List Int))), .val (enc (r28 : (List (Tp Int)))), .dk (encK ((mergeM (v_pairs.map (fun (x31 : (Int × Int)) => ((x31.2, x31.1) : (Int × Int))))) : (List (Int × Int)))), .val (enc (s74.1 : (List Int))), .val (enc (s74.2.1 : Int)), .un, .un, .val (enc (v79 : (List Int))), .val (enc (r81 : (List (Tp Int)))), .val (enc (v87 : (List Int))), .un, .un, .un]) [7] (ri_rangeLenM (f := enc) (RX.s (rx_var (d := enc (r28 : (List (Tp Int)))) rfl))) h110 (by decide) (fun x102 _ => (rg_name (i := 7) (d := enc (x102 : Int)))) (fun x102 _ y h101 D103 acc104 => by obtain rfl := Option.some.inj h101; exact (rt_val (rx_inI (neg := true) (rx_var (d := enc (x102 : Int)) rfl) (RX.s (rx_var (d := enc (v87 : (List Int))) rfl))))) (fun x102 _ y h101 D103 acc104 => by obtain ⟨t107, h108, h101⟩ := bindE h101; obtain rfl := Option.some.inj h101; exact (rx_ix (atI_map enc h108) (RX.s (rx_var (d := enc (r28 : (List (Tp Int)))) rfl)) (rx_var (d := enc (x102 : Int)) rfl))))) (RX.s (rx_var (d := enc (r81 : (List (Tp Int)))) rfl))) E S fun p F H f S => ?_
      obtain ⟨n1, n2, n3, zs, n4, n5, n6⟩ := S.get (j := 0) rfl
      exact k _ _ _ zs S.stp (n2 rfl) n1 n4 n5 n6
    · refine ((rg_tup (ds := [enc (x42.1 : Int), enc (x42.2 : (Str × Int))]) (RGs.cons (rg_name (i := 15) (d := enc (x42.1 : Int))) (RGs.cons (rg_tup (ds := [enc (x42.2.1 : Str), enc (x42.2.2 : Int)]) (RGs.cons (rg_name (i := 8) (d := enc (x42.2.1 : Str))) (RGs.cons (rg_name (i := 9) (d := enc (x42.2.2 : Int))) RGs.nil))) RGs.nil)))).run _ _ _ _ _ E r S.fh fun σ E _ => ?_
      have E : EnvR K _ _ [.val (enc (v_one : (T3 (List (Str × Int)) (List (T3 Str (Tp Int) Bool)) (List (Str × (Tp Int)))))), .val (enc (v_other : (T3 (List (Str × Int)) (List (T3 Str (Tp Int) Bool)) (List (Str × (Tp Int)))))), .val (enc (v_pairs : (List (Int × Int)))), .val (enc (v_bits : (List Int))), .val (enc (v_turned : (Tp Int))), .val (enc (v_bad : (Tp Int))), .val (enc (l26 : (List Int))), .un, .val (enc (x42.2.1 : Str)), .val (enc (x42.2.2 : Int)), .val (enc (s41.2.2 : (List Int))), .val (enc (r28 : (List (Tp Int)))), .dk (encK ((mergeM (v_pairs.map (fun (x31 : (Int × Int)) => ((x31.2, x31.1) : (Int × Int))))) : (List (Int × Int)))), .val (enc (s41.1 : (List Int))), .val (enc (s41.2.1 : Int)), .val (enc (x42.1 : Int)), .un, .un, .un, .un, .un, .un, .un] := E
      have S : Hx K _ _ _ _ [] _ := S
      have fc : Same F F := Same.refl F
      obtain ⟨j46, h47, h40⟩ := bindE h40
      try (with_reducible refine nxD ?_)
      refine (st_ifJ (b := (hasM (mergeM (v_pairs.map (fun (x31 : (Int × Int)) => ((x31.2, x31.1) : (Int × Int))))) x42.1)) [.val (enc (v_one : (T3 (List (Str × Int)) (List (T3 Str (Tp Int) Bool)) (List (Str × (Tp Int)))))), .val (enc (v_other : (T3 (List (Str × Int)) (List (T3 Str (Tp Int) Bool)) (List (Str × (Tp Int)))))), .val (enc (v_pairs : (List (Int × Int)))), .val (enc (v_bits : (List Int))), .val (enc (v_turned : (Tp Int))), .val (enc (v_bad : (Tp Int))), .val (enc (l26 : (List Int))), .un, .val (enc (x42.2.1 : Str)), .val (enc (x42.2.2 : Int)), .val (enc (j46.2.2 : (List Int))), .val (enc (r28 : (List (Tp Int)))), .dk (encK ((mergeM (v_pairs.map (fun (x31 : (Int × Int)) => ((x31.2, x31.1) : (Int × Int))))) : (List (Int × Int)))), .val (enc (j46.1 : (List Int))), .val (enc (j46.2.1 : Int)), .val (enc (x42.1 : Int)), .un, .un, .un, .un, .un, .un, .un] [] (rt_b (rx_dkin (i := 12) (rx_var (d := enc (x42.1 : Int)) rfl) (DkAt.frz (i := 12) rfl))) E S (fun σ F H f E S => ?_) (fun hc F H rest f E S => ?_) (fun hc F H rest f E S => ?_))
      · replace fc := fc.trans f
        obtain rfl := Option.some.inj h40
        exact hN _ _ _ fc (E.weak ⟨.inl rfl, .inl rfl, .inl rfl, .inl rfl, .inl rfl, .inl rfl, .inl rfl, .inr rfl, .inr rfl, .inr rfl, .inl rfl, .inl rfl, .inl rfl, .inl rfl, .inl rfl, .inr rfl, .inr rfl, .inr rfl, .inr rfl, .inr rfl, .inr rfl, .inr rfl, .inr rfl, trivial⟩) S
      · rw [if_pos hc] at h47
        have fc := f
        obtain ⟨t48, h49, h47⟩ := bindE h47
        obtain ⟨t50, h51, h47⟩ := bindE h47
        obtain ⟨t52, h53, h47⟩ := bindE h47
        try (with_reducible refine nxD ?_)
        refine (st_set (i := 13) (d := enc (t52 : (List Int))) (RXo.frz (rxo_catO (f := enc) h53 (RX.s (rx_var (d := enc (s41.1 : (List Int))) rfl)) (RXo.s (rxo_listT (rx_ix (atI_map enc h51) (RX.s (rx_var (d := enc (r28 : (List (Tp Int)))) rfl)) (rx_dkget (i := 12) h49 (DkAt.frz (i := 12) rfl) (rx_var (d := enc (x42.1 : Int)) rfl))))))) E S fun σ F H f E S => ?_)
        replace fc := fc.trans f
        have E : EnvR K _ _ [.val (enc (v_one : (T3 (List (Str × Int)) (List (T3 Str (Tp Int) Bool)) (List (Str × (Tp Int)))))), .val (enc (v_other : (T3 (List (Str × Int)) (List (T3 Str (Tp Int) Bool)) (List (Str × (Tp Int)))))), .val (enc (v_pairs : (List (Int × Int)))), .val (enc (v_bits : (List Int))), .val (enc (v_turned : (Tp Int))), .val (enc (v_bad : (Tp Int))), .val (enc (l26 : (List Int))), .un, .val (enc (x42.2.1 : Str)), .val (enc (x42.2.2 : Int)), .val (enc (s41.2.2 : (List Int))), .val (enc (r28 : (List (Tp Int)))), .dk (encK ((mergeM (v_pairs.map (fun (x31 : (Int × Int)) => ((x31.2, x31.1) : (Int × Int))))) : (List (Int × Int)))), .val (enc (t52 : (List Int))), .val (enc (s41.2.1 : Int)), .val (enc (x42.1 : Int)), .un, .un, .un, .un, .un, .un, .un] := E
        have S : Hx K _ _ _ _ [] _ := S
        obtain rfl := Option.some.inj h47
        exact rest _ _ _ fc (E.weak ⟨.inl rfl, .inl rfl, .inl rfl, .inl rfl, .inl rfl, .inl rfl, .inl rfl, .inr rfl, .inl rfl, .inl rfl, .inl rfl, .inl rfl, .inl rfl, .inl rfl, .inl rfl, .inl rfl, .inr rfl, .inr rfl, .inr rfl, .inr rfl, .inr rfl, .inr rfl, .inr rfl, trivial⟩) S
      · rw [if_neg (by rw [hc]; decide)] at h47
        have fc := f
        obtain ⟨t54, h55, h47⟩ := bindE h47
        obtain ⟨t56, h57, h47⟩ := bindE h47
        try (with_reducible refine nxD ?_)
        with_reducible refine sq ?_
        refine st_set (i := 16) (d := enc (t56 : (List Int))) (RXo.frz (rxo_repO (f := enc) h57 (rxo_lst (ds := [enc (t54 : Int)]) (ra_cons (rx_ix (atI_map enc h55) (RX.s (rx_var (d := enc (s41.2.2 : (List Int))) rfl)) rx_int) ra_nil)) (fun _ => (rx_var (d := enc (x42.2.2 : Int)) rfl)))) E S fun σ F H f E S => ?_
        replace fc := fc.trans f
        have E : EnvR K _ _ [.val (enc (v_one : (T3 (List (Str × Int)) (List (T3 Str (Tp Int) Bool)) (List (Str × (Tp Int)))))), .val (enc (v_other : (T3 (List (Str × Int)) (List (T3 Str (Tp Int) Bool)) (List (Str × (Tp Int)))))), .val (enc (v_pairs : (List (Int × Int)))), .val (enc (v_bits : (List Int))), .val (enc (v_turned : (Tp Int))), .val (enc (v_bad : (Tp Int))), .val (enc (l26 : (List Int))), .un, .val (enc (x42.2.1 : Str)), .val (enc (x42.2.2 : Int)), .val (enc (s41.2.2 : (List Int))), .val (enc (r28 : (List (Tp Int)))), .dk (encK ((mergeM (v_pairs.map (fun (x31 : (Int × Int)) => ((x31.2, x31.1) : (Int × Int))))) : (List (Int × Int)))), .val (enc (s41.1 : (List Int))), .val (enc (s41.2.1 : Int)), .val (enc (x42.1 : Int)), .val (enc (t56 : (List Int))), .un, .un, .un, .un, .un, .un] := E
        have S : Hx K _ _ _ _ [] _ := S
        obtain ⟨l66, h67, h47⟩ := bindE h47
        obtain ⟨t68, h69, h47⟩ := bindE h47
        try (with_reducible refine nxD ?_)
        with_reducible refine sq ?_
        refine st_set (i := 13) (d := enc (t68 : (List Int))) (RXo.frz (rxo_catO (f := enc) h69 (RX.s (rx_var (d := enc (s41.1 : (List Int))) rfl)) (RXo.s (rxo_mapO (eα := enc) (eβ := enc) (fun x59 => [.val (enc (v_one : (T3 (List (Str × Int)) (List (T3 Str (Tp Int) Bool)) (List (Str × (Tp Int)))))), .val (enc (v_other : (T3 (List (Str × Int)) (List (T3 Str (Tp Int) Bool)) (List (Str × (Tp Int)))))), .val (enc (v_pairs : (List (Int × Int)))), .val (enc (v_bits : (List Int))), .val (enc (v_turned : (Tp Int))), .val (enc (v_bad : (Tp Int))), .val (enc (l26 : (List Int))), .val (enc (x59.1 : Int)), .val (enc (x42.2.1 : Str)), .val (enc (x42.2.2 : Int)), .val (enc (s41.2.2 : (List Int))), .val (enc (r28 : (List (Tp Int)))), .dk (encK ((mergeM (v_pairs.map (fun (x31 : (Int × Int)) => ((x31.2, x31.1) : (Int × Int))))) : (List (Int × Int)))), .val (enc (s41.1 : (List Int))), .val (enc (s41.2.1 : Int)), .val (enc (x42.1 : Int)), .val (enc (t56 : (List Int))), .un, .un, .un, .un, .val (enc (x59.2 : Int)), .un]) [7, 21] (ri_enumT (rx_var (d := enc (t56 : (List Int))) rfl)) h67 (by decide) (fun x59 _ => (rg_tup (ds := [enc (x59.1 : Int), enc (x59.2 : Int)]) (RGs.cons (rg_name (i := 7) (d := enc (x59.1 : Int))) (RGs.cons (rg_name (i := 21) (d := enc (x59.2 : Int))) RGs.nil)))) (fun x59 _ y h58 D60 acc61 => by obtain ⟨t64, h65, h58⟩ := bindE h58; obtain rfl := Option.some.inj h58; exact (rx_ix (ds := List.map enc ([x59.2, ((1 : Int) - x59.2)] : (List Int))) (d := enc (t64 : Int)) (atI_map enc h65) (RXo.s (rxo_lst (ds := [enc (x59.2 : Int), enc (((1 : Int) - x59.2) : Int)]) (ra_cons (rx_var (d := enc (x59.2 : Int)) rfl) (ra_cons (rx_sub rx_int (rx_var (d := enc (x59.2 : Int)) rfl)) ra_nil)))) (rx_intB (rx_inIT (neg := false) (rx_add (rx_var (d := enc (s41.2.1 : Int)) rfl) (rx_var (d := enc (x59.1 : Int)) rfl)) (rx_var (d := enc (v_bad : (Tp Int))) rfl))))))))) E S fun σ F H f E S => ?_
        replace fc := fc.trans f
        have E : EnvR K _ _ [.val (enc (v_one : (T3 (List (Str × Int)) (List (T3 Str (Tp Int) Bool)) (List (Str × (Tp Int)))))), .val (enc (v_other : (T3 (List (Str × Int)) (List (T3 Str (Tp Int) Bool)) (List (Str × (Tp Int)))))), .val (enc (v_pairs : (List (Int × Int)))), .val (enc (v_bits : (List Int))), .val (enc (v_turned : (Tp Int))), .val (enc (v_bad : (Tp Int))), .val (enc (l26 : (List Int))), .un, .val (enc (x42.2.1 : Str)), .val (enc (x42.2.2 : Int)), .val (enc (s41.2.2 : (List Int))), .val (enc (r28 : (List (Tp Int)))), .dk (encK ((mergeM (v_pairs.map (fun (x31 : (Int × Int)) => ((x31.2, x31.1) : (Int × Int))))) : (List (Int × Int)))), .val (enc (t68 : (List Int))), .val (enc (s41.2.1 : Int)), .val (enc (x42.1 : Int)), .val (enc (t56 : (List Int))), .un, .un, .un, .un, .un, .un] := E
        have S : Hx K _ _ _ _ [] _ := S
        obtain ⟨v70, h71, h47⟩ := letE h47
        try (with_reducible refine nxD ?_)
        with_reducible refine sq ?_
        refine st_set (i := 14) (d := enc (v70 : Int)) (rx_as (x := ((s41.2.1 + x42.2.2) : Int)) h71 (rx_add (rx_var (d := enc (s41.2.1 : Int)) rfl) (rx_var (d := enc (x42.2.2 : Int)) rfl))) E S fun σ F H f E S => ?_
        replace fc := fc.trans f
        have E : EnvR K _ _ [.val (enc (v_one : (T3 (List (Str × Int)) (List (T3 Str (Tp Int) Bool)) (List (Str × (Tp Int)))))), .val (enc (v_other : (T3 (List (Str × Int)) (List (T3 Str (Tp Int) Bool)) (List (Str × (Tp Int)))))), .val (enc (v_pairs : (List (Int × Int)))), .val (enc (v_bits : (List Int))), .val (enc (v_turned : (Tp Int))), .val (enc (v_bad : (Tp Int))), .val (enc (l26 : (List Int))), .un, .val (enc (x42.2.1 : Str)), .val (enc (x42.2.2 : Int)), .val (enc (s41.2.2 : (List Int))), .val (enc (r28 : (List (Tp Int)))), .dk (encK ((mergeM (v_pairs.map (fun (x31 : (Int × Int)) => ((x31.2, x31.1) : (Int × Int))))) : (List (Int × Int)))), .val (enc (t68 : (List Int))), .val (enc (v70 : Int)), .val (enc (x42.1 : Int)), .val (enc (t56 : (List Int))), .un, .un, .un, .un, .un, .un] := E
        have S : Hx K _ _ _ _ [] _ := S
        obtain ⟨v72, h73, h47⟩ := letE h47
        try (with_reducible refine nxD ?_)
        refine (st_set (i := 10) (d := enc (v72 : (List Int))) (rx_as (x := ((cutL s41.2.2 (some (1 : Int)) none) : (List Int))) h73 (RXo.frz (rxo_sliceM (f := enc) (RX.s (rx_var (d := enc (s41.2.2 : (List Int))) rfl)) (ro_some rx_int) ro_none))) E S fun σ F H f E S => ?_)
        replace fc := fc.trans f
        have E : EnvR K _ _ [.val (enc (v_one : (T3 (List (Str × Int)) (List (T3 Str (Tp Int) Bool)) (List (Str × (Tp Int)))))), .val (enc (v_other : (T3 (List (Str × Int)) (List (T3 Str (Tp Int) Bool)) (List (Str × (Tp Int)))))), .val (enc (v_pairs : (List (Int × Int)))), .val (enc (v_bits : (List Int))), .val (enc (v_turned : (Tp Int))), .val (enc (v_bad : (Tp Int))), .val (enc (l26 : (List Int))), .un, .val (enc (x42.2.1 : Str)), .val (enc (x42.2.2 : Int)), .val (enc (v72 : (List Int))), .val (enc (r28 : (List (Tp Int)))), .dk (encK ((mergeM (v_pairs.map (fun (x31 : (Int × Int)) => ((x31.2, x31.1) : (Int × Int))))) : (List (Int × Int)))), .val (enc (t68 : (List Int))), .val (enc (v70 : Int)), .val (enc (x42.1 : Int)), .val (enc (t56 : (List Int))), .un, .un, .un, .un, .un, .un] := E
        have S : Hx K _ _ _ _ [] _ := S
        obtain rfl := Option.some.inj h47
        exact rest _ _ _ fc (E.weak ⟨.inl rfl, .inl rfl, .inl rfl, .inl rfl, .inl rfl, .inl rfl, .inl rfl, .inr rfl, .inl rfl, .inl rfl, .inl rfl, .inl rfl, .inl rfl, .inl rfl, .inl rfl, .inl rfl, .inr rfl, .inr rfl, .inr rfl, .inr rfl, .inr rfl, .inr rfl, .inr rfl, trivial⟩) S
  · refine ((rg_tup (ds := [enc (x5.1 : Int), enc (x5.2 : (Str × Int))]) (RGs.cons (rg_name (i := 7) (d := enc (x5.1 : Int))) (RGs.cons (rg_tup (ds := [enc (x5.2.1 : Str), enc (x5.2.2 : Int)]) (RGs.cons (rg_name (i := 8) (d := enc (x5.2.1 : Str))) (RGs.cons (rg_name (i := 9) (d := enc (x5.2.2 : Int))) RGs.nil))) RGs.nil)))).run _ _ _ _ _ E r S.fh fun σ E _ => ?_
    have E : EnvR K _ _ [.val (enc (v_one : (T3 (List (Str × Int)) (List (T3 Str (Tp Int) Bool)) (List (Str × (Tp Int)))))), .val (enc (v_other : (T3 (List (Str × Int)) (List (T3 Str (Tp Int) Bool)) (List (Str × (Tp Int)))))), .val (enc (v_pairs : (List (Int × Int)))), .val (enc (v_bits : (List Int))), .val (enc (v_turned : (Tp Int))), .val (enc (v_bad : (Tp Int))), .val (enc (s4 : (List Int))), .val (enc (x5.1 : Int)), .val (enc (x5.2.1 : Str)), .val (enc (x5.2.2 : Int)), .un, .un, .un, .un, .un, .un, .un, .un, .un, .un, .un, .un, .un] := E
    have S : Hx K _ _ _ _ [] _ := S
    have fc : Same F F := Same.refl F
    obtain ⟨t9, h10, h3⟩ := bindE h3
    obtain ⟨t11, h12, h3⟩ := bindE h3
    obtain ⟨t13, h14, h3⟩ := bindE h3
    try (with_reducible refine nxD ?_)
    refine (st_set (i := 6) (d := enc (t13 : (List Int))) (RXo.frz (rxo_catO (f := enc) h14 (RX.s (rx_var (d := enc (s4 : (List Int))) rfl)) (RXo.s (rxo_repO (f := enc) h12 (rxo_lst (ds := [enc (t9 : Int)]) (ra_cons (rx_ix (atI_map enc h10) (RX.s (rx_var (d := enc (v_bits : (List Int))) rfl)) (rx_var (d := enc (x5.1 : Int)) rfl)) ra_nil)) (fun _ => (rx_var (d := enc (x5.2.2 : Int)) rfl)))))) E S fun σ F H f E S => ?_)
    replace fc := fc.trans f
    have E : EnvR K _ _ [.val (enc (v_one : (T3 (List (Str × Int)) (List (T3 Str (Tp Int) Bool)) (List (Str × (Tp Int)))))), .val (enc (v_other : (T3 (List (Str × Int)) (List (T3 Str (Tp Int) Bool)) (List (Str × (Tp Int)))))), .val (enc (v_pairs : (List (Int × Int)))), .val (enc (v_bits : (List Int))), .val (enc (v_turned : (Tp Int))), .val (enc (v_bad : (Tp Int))), .val (enc (t13 : (List Int))), .val (enc (x5.1 : Int)), .val (enc (x5.2.1 : Str)), .val (enc (x5.2.2 : Int)), .un, .un, .un, .un, .un, .un, .un, .un, .un, .un, .un, .un, .un] := E
    have S : Hx K _ _ _ _ [] _ := S
    obtain rfl := Option.some.inj h3
    exact hN _ _ _ fc (E.weak ⟨.inl rfl, .inl rfl, .inl rfl, .inl rfl, .inl rfl, .inl rfl, .inl rfl, .inr rfl, .inr rfl, .inr rfl, .inr rfl, .inr rfl, .inr rfl, .inr rfl, .inr rfl, .inr rfl, .inr rfl, .inr rfl, .inr rfl, .inr rfl, .inr rfl, .inr rfl, .inr rfl, trivial⟩) S
theorem sc_law : FnScope ["script", "cell", "one", "other", "pairs", "whole", "many", "gates", "wires", "turned", "bad", "number", "bits", "some", "own", "place", "wire", "k", "name", "width"] ["script"] (defScope (top 28)) := ⟨rfl, rfl, rfl, by decide +kernel, rfl, by decide +kernel, by decide +kernel⟩
theorem ok_law (B : Bi mg) {f_ : Addr} {fd_ : FuncData} (D : Fun K "law" "law" (top 28) f_ fd_) (C__law_any_net : Cal P w K mg base 2 "_law_any_net" ["cell", "first", "letters", "widths"] (SpP K R__law_any_net)) (C__law_due : Cal P w K mg base 3 "_law_due" ["one", "other", "pairs", "bits", "turned", "bad"] (SpN K R__law_due)) (C__law_pairs : Cal P w K mg base 2 "_law_pairs" ["cell", "one", "other"] (SpP K R__law_pairs)) (C__law_stir : Cal P w K mg base 1 "_law_stir" ["cell", "k"] (SpP K R__law_stir)) (C_joined : Cal P w K mg base 2 "joined" ["one", "other", "pairs"] (SpP K R_joined)) (C_run : Cal P w K mg base 3 "run" ["net", "bits", "turned", "bad"] (SpN K R_run)) : FnOk P w K mg base CX0 4 f_ fd_ ["script"] (SpP K R_law) := by
  refine D.ok sc_law (sp_len fun ds d h => by obtain ⟨_, _, rfl, _⟩ := h; rfl) fun cdv A outer s H vs Q E hr h => ?_
  refine ⟨_, (pss_cons (ps_for PassesOwn.never rfl (k_pi_list K (pe_op (k_catR K) (pe_lst (pa_cons pe_int pa_nil)) (pe_slice (k_sl_list K) (pv 0) po_none (po_some pe_int)))) (pg_name (i := 1) sc_law.nd rfl (Or.inl rfl)) (pss_cons (ps_set (i := 2) sc_law.nd rfl (Or.inl rfl) (pe_cal C__law_any_net hr (pa_cons (pv 1) (pa_cons pe_int (pa_cons pe_str (pa_cons (pe_lst (pa_cons pe_int (pa_cons pe_int (pa_cons pe_int pa_nil)))) pa_nil)))))) (pss_cons (ps_set (i := 3) sc_law.nd rfl (Or.inl rfl) (pe_cal C__law_any_net hr (pa_cons (pv 1) (pa_cons pe_int (pa_cons pe_str (pa_cons (pe_lst (pa_cons pe_int (pa_cons pe_int (pa_cons pe_int pa_nil)))) pa_nil)))))) (pss_cons (ps_set (i := 4) sc_law.nd rfl (Or.inl rfl) (pe_cal C__law_pairs hr (pa_cons (pv 1) (pa_cons (pv 2) (pa_cons (pv 3) pa_nil))))) (pss_cons (ps_set (i := 5) sc_law.nd rfl (Or.inl rfl) (pe_cal C_joined hr (pa_cons (pv 2) (pa_cons (pv 3) (pa_cons (pv 4) pa_nil))))) (pss_cons (ps_set (i := 6) sc_law.nd rfl (Or.inr rfl) (pe_callB (k_len_seq K) (by rfl) B.len PySem.boot_len (pa_cons (pe_ix (k_ix_tup K) (pv 5) pe_int (fun _ _ => rfl)) pa_nil))) (pss_cons (ps_setLc (i := 7) (own := [(("place" : Str), 15)]) (g := (gName 15)) (tt := tYes) rfl sc_law.nd rfl rfl (sw_true rfl rfl rfl (by decide +kernel)) (pi_range1 rfl B.range (pa_cons (pe_callB (k_len_seq K) (by rfl) B.len PySem.boot_len (pa_cons (pe_ix (k_ix_tup K) (pv 5) pe_int (fun _ _ => rfl)) pa_nil)) pa_nil)) (blkOk_by (by kernel_rfl)) (fun _ _ _ _ _ => (pg_name (i := 15) sc_law.nd rfl (Or.inl rfl))) (fun _ _ _ _ _ => pts_nil) (fun _ _ _ _ _ => (pe_tup (pa_cons (pv 15) pa_nil)))) (pss_cons (ps_setLc (i := 8) (own := [(("wire" : Str), 16)]) (g := (gName 16)) (tt := tYes) rfl sc_law.nd rfl rfl (sw_true rfl rfl rfl (by decide +kernel)) (pi_range1 rfl B.range (pa_cons (pe_callB (k_sum K rfl) (by rfl) B.sum (by decide +kernel) (pa_cons (pe_lc (own := [(("name" : Str), 18), (("width" : Str), 19)]) (g := (gTup K 2 (gCons (gName 18) (gCons (gName 19) gNil)))) (tt := tYes) rfl sc_law.nd (k_pi_list K (pe_ix (k_ix_tup K) (pv 5) pe_int (fun _ _ => rfl))) (blkOk_by (by kernel_rfl)) (fun _ _ _ _ _ => (pg_tup rfl (pgs_cons (pg_name (i := 18) sc_law.nd rfl (Or.inl rfl)) (pgs_cons (pg_name (i := 19) sc_law.nd rfl (Or.inl rfl)) pgs_nil)))) (fun _ _ _ _ _ => pts_nil) (fun _ _ _ _ _ => (pv 19))) pa_nil)) pa_nil)) (blkOk_by (by kernel_rfl)) (fun _ _ _ _ _ => (pg_name (i := 16) sc_law.nd rfl (Or.inl rfl))) (fun _ _ _ _ _ => pts_nil) (fun _ _ _ _ _ => (pe_tup (pa_cons (pv 16) pa_nil)))) (pss_cons (ps_set (i := 9) sc_law.nd rfl (Or.inl rfl) (pe_ix (k_ix_list K) (pe_op (k_catR K) (pe_lst (pa_cons (pe_tup pa_nil) pa_nil)) (pv 7)) (pe_op op_mod (pe_cal C__law_stir hr (pa_cons (pv 1) (pa_cons pe_int pa_nil))) (pe_op op_add pe_int (pe_callB (k_len_seq K) (by rfl) B.len PySem.boot_len (pa_cons (pv 7) pa_nil)))) (fun _ _ => rfl))) (pss_cons (ps_set (i := 10) sc_law.nd rfl (Or.inl rfl) (pe_ix (k_ix_list K) (pe_op (k_catR K) (pe_lst (pa_cons (pe_tup pa_nil) pa_nil)) (pv 8)) (pe_op op_mod (pe_cal C__law_stir hr (pa_cons (pv 1) (pa_cons pe_int pa_nil))) (pe_op op_add pe_int (pe_callB (k_len_seq K) (by rfl) B.len PySem.boot_len (pa_cons (pv 8) pa_nil)))) (fun _ _ => rfl))) (pss_one (ps_for PassesOwn.never rfl (pi_range1 rfl B.range (pa_cons (pe_op op_shl pe_int (pv 6)) pa_nil)) (pg_name (i := 11) sc_law.nd rfl (Or.inr rfl)) (pss_cons (ps_set (i := 12) sc_law.nd rfl (Or.inl rfl) (pe_callTy (k_tuple_of K) (by rfl) B.tuple (by decide +kernel) (pa_cons (pe_lc (own := [(("k" : Str), 17)]) (g := (gName 17)) (tt := tYes) rfl sc_law.nd (pi_range1 rfl B.range (pa_cons (pv 6) pa_nil)) (blkOk_by (by kernel_rfl)) (fun _ _ _ _ _ => (pg_name (i := 17) sc_law.nd rfl (Or.inl rfl))) (fun _ _ _ _ _ => pts_nil) (fun _ _ _ _ _ => (pe_op op_and (pe_op op_shr (pv 11) (pe_op op_sub (pe_op op_sub (pv 6) pe_int) (pv 17))) pe_int))) pa_nil))) (pss_one (ps_for PassesOwn.never rfl (k_pi_list K (pe_lst (pa_cons (pe_tup (pa_cons (pe_tup pa_nil) (pa_cons (pe_tup pa_nil) pa_nil))) (pa_cons (pe_tup (pa_cons (pv 9) (pa_cons (pe_tup pa_nil) pa_nil))) (pa_cons (pe_tup (pa_cons (pe_tup pa_nil) (pa_cons (pv 10) pa_nil))) (pa_cons (pe_tup (pa_cons (pv 9) (pa_cons (pv 10) pa_nil))) pa_nil)))))) (pg_tup rfl (pgs_cons (pg_name (i := 13) sc_law.nd rfl (Or.inl rfl)) (pgs_cons (pg_name (i := 14) sc_law.nd rfl (Or.inl rfl)) pgs_nil))) (pss_one (ps_if (pt_cmpR (k_neD K hr.units) (pe_cal C_run hr (pa_cons (pv 5) (pa_cons (pv 12) (pa_cons (pv 13) (pa_cons (pv 14) pa_nil))))) (pe_cal C__law_due hr (pa_cons (pv 2) (pa_cons (pv 3) (pa_cons (pv 4) (pa_cons (pe_callTy (k_list_of K) (by rfl) B.list (by decide +kernel) (pa_cons (pv 12) pa_nil)) (pa_cons (pv 13) (pa_cons (pv 14) pa_nil))))))) (nomark _)) (pss_one (ps_ret pe_bl)) pss_nil))))))))))))))))) (pss_one (ps_ret pe_bl))), ?_⟩
  obtain ⟨F, ds, d, hw, hF, ⟨v_script, rr, rfl, rfl, hm0⟩, k⟩ := h
  have E : EnvR K F _ [.val (enc (v_script : (List Int))), .un, .un, .un, .un, .un, .un, .un, .un, .un, .un, .un, .un, .un, .un, .un, .un, .un, .un, .un] := EnvR.start (N := ["script", "cell", "one", "other", "pairs", "whole", "many", "gates", "wires", "turned", "bad", "number", "bits", "some", "own", "place", "wire", "k", "name", "width"]) (AsR.of_all hw)
  have S := Hx.start (K := K) hF
  have fc : Same F F := Same.refl F
  unfold m_law at hm0
  obtain ⟨t1, h2, hm0⟩ := bindE hm0
  obtain ⟨fl6, h7, hm0⟩ := bindE hm0
  try (with_reducible refine nxD ?_)
  with_reducible refine sq ?_
  refine st_forF (eα := enc) (fun s4 => [.val (enc (v_script : (List Int))), .un, .un, .un, .un, .un, .un, .un, .un, .un, .un, .un, .un, .un, .un, .un, .un, .un, .un, .un]) (fun s4 => []) E S (ri_list (ys := t1.map enc) (RXo.frz (rxo_catO (f := enc) h2 (RXo.s (rxo_lst (ds := [enc ((0 : Int) : Int)]) (ra_cons rx_int ra_nil))) (RXo.s (rxo_sliceM (f := enc) (RX.s (rx_var (d := enc (v_script : (List Int))) rfl)) ro_none (ro_some rx_int)))))) h7 ⟨.inl rfl, .inr rfl, .inr rfl, .inr rfl, .inr rfl, .inr rfl, .inr rfl, .inr rfl, .inr rfl, .inr rfl, .inr rfl, .inr rfl, .inr rfl, .inr rfl, .inr rfl, .inr rfl, .inr rfl, .inr rfl, .inr rfl, .inr rfl, trivial⟩ (fun s89 e σ F H f E S => ?_) (fun x5 _ s4 out h3 hrt8 σ F H v _ E S r N B hN hB => ?_)
  · subst e
    replace fc := fc.trans f
    simp only [flK] at hm0
    obtain rfl := Option.some.inj hm0
    -- return
    try (with_reducible refine nxD ?_)
    refine st_ret (d := enc (true : Bool)) rx_bl E S fun v F H f S r => ?_
    exact k v F H S.stp r
  · refine ((rg_name (i := 1) (d := enc (x5 : Int)))).run _ _ _ _ _ E r S.fh fun σ E _ => ?_
    have E : EnvR K _ _ [.val (enc (v_script : (List Int))), .val (enc (x5 : Int)), .un, .un, .un, .un, .un, .un, .un, .un, .un, .un, .un, .un, .un, .un, .un, .un, .un, .un] := E
    have S : Hx K _ _ _ _ [] _ := S
    have fc : Same F F := Same.refl F
    obtain ⟨r9, h10, h3⟩ := bindE h3
    try (with_reducible refine nxD ?_)
    with_reducible refine sq ?_
    refine st_set (i := 2) (d := enc (r9 : (T3 (List (Str × Int)) (List (T3 Str (Tp Int) Bool)) (List (Str × (Tp Int)))))) (rx_call (ds := [enc (x5 : Int), enc ((0 : Int) : Int), enc (("abcdefg" : Str) : Str), enc (([(1 : Int), (2 : Int), (3 : Int)] : (List Int)) : (List Int))]) (d := enc (r9 : (T3 (List (Str × Int)) (List (T3 Str (Tp Int) Bool)) (List (Str × (Tp Int)))))) ⟨_, _, _, _, r9, rfl, rfl, h10⟩ (ra_cons (rx_var (d := enc (x5 : Int)) rfl) (ra_cons rx_int (ra_cons (rx_str (x := ("abcdefg" : Str))) (ra_cons (RXo.frz (rxo_lst (ds := [enc ((1 : Int) : Int), enc ((2 : Int) : Int), enc ((3 : Int) : Int)]) (ra_cons rx_int (ra_cons rx_int (ra_cons rx_int ra_nil))))) ra_nil))))) E S fun σ F H f E S => ?_
    replace fc := fc.trans f
    have E : EnvR K _ _ [.val (enc (v_script : (List Int))), .val (enc (x5 : Int)), .val (enc (r9 : (T3 (List (Str × Int)) (List (T3 Str (Tp Int) Bool)) (List (Str × (Tp Int)))))), .un, .un, .un, .un, .un, .un, .un, .un, .un, .un, .un, .un, .un, .un, .un, .un, .un] := E
    have S : Hx K _ _ _ _ [] _ := S
    obtain ⟨r11, h12, h3⟩ := bindE h3
    try (with_reducible refine nxD ?_)
    with_reducible refine sq ?_
    refine st_set (i := 3) (d := enc (r11 : (T3 (List (Str × Int)) (List (T3 Str (Tp Int) Bool)) (List (Str × (Tp Int)))))) (rx_call (ds := [enc (x5 : Int), enc ((150 : Int) : Int), enc (("nopqrst" : Str) : Str), enc (([(1 : Int), (2 : Int), (3 : Int)] : (List Int)) : (List Int))]) (d := enc (r11 : (T3 (List (Str × Int)) (List (T3 Str (Tp Int) Bool)) (List (Str × (Tp Int)))))) ⟨_, _, _, _, r11, rfl, rfl, h12⟩ (ra_cons (rx_var (d := enc (x5 : Int)) rfl) (ra_cons rx_int (ra_cons (rx_str (x := ("nopqrst" : Str))) (ra_cons (RXo.frz (rxo_lst (ds := [enc ((1 : Int) : Int), enc ((2 : Int) : Int), enc ((3 : Int) : Int)]) (ra_cons rx_int (ra_cons rx_int (ra_cons rx_int ra_nil))))) ra_nil))))) E S fun σ F H f E S => ?_
    replace fc := fc.trans f
    have E : EnvR K _ _ [.val (enc (v_script : (List Int))), .val (enc (x5 : Int)), .val (enc (r9 : (T3 (List (Str × Int)) (List (T3 Str (Tp Int) Bool)) (List (Str × (Tp Int)))))), .val (enc (r11 : (T3 (List (Str × Int)) (List (T3 Str (Tp Int) Bool)) (List (Str × (Tp Int)))))), .un, .un, .un, .un, .un, .un, .un, .un, .un, .un, .un, .un, .un, .un, .un, .un] := E
    have S : Hx K _ _ _ _ [] _ := S
    obtain ⟨r13, h14, h3⟩ := bindE h3
    try (with_reducible refine nxD ?_)
    with_reducible refine sq ?_
    refine st_set (i := 4) (d := enc (r13 : (List (Int × Int)))) (rx_call (ds := [enc (x5 : Int), enc (r9 : (T3 (List (Str × Int)) (List (T3 Str (Tp Int) Bool)) (List (Str × (Tp Int))))), enc (r11 : (T3 (List (Str × Int)) (List (T3 Str (Tp Int) Bool)) (List (Str × (Tp Int)))))]) (d := enc (r13 : (List (Int × Int)))) ⟨_, _, _, r13, rfl, rfl, h14⟩ (ra_cons (rx_var (d := enc (x5 : Int)) rfl) (ra_cons (rx_var (d := enc (r9 : (T3 (List (Str × Int)) (List (T3 Str (Tp Int) Bool)) (List (Str × (Tp Int)))))) rfl) (ra_cons (rx_var (d := enc (r11 : (T3 (List (Str × Int)) (List (T3 Str (Tp Int) Bool)) (List (Str × (Tp Int)))))) rfl) ra_nil)))) E S fun σ F H f E S => ?_
    replace fc := fc.trans f
    have E : EnvR K _ _ [.val (enc (v_script : (List Int))), .val (enc (x5 : Int)), .val (enc (r9 : (T3 (List (Str × Int)) (List (T3 Str (Tp Int) Bool)) (List (Str × (Tp Int)))))), .val (enc (r11 : (T3 (List (Str × Int)) (List (T3 Str (Tp Int) Bool)) (List (Str × (Tp Int)))))), .val (enc (r13 : (List (Int × Int)))), .un, .un, .un, .un, .un, .un, .un, .un, .un, .un, .un, .un, .un, .un, .un] := E
    have S : Hx K _ _ _ _ [] _ := S
    obtain ⟨r15, h16, h3⟩ := bindE h3
    try (with_reducible refine nxD ?_)
    with_reducible refine sq ?_
    refine st_set (i := 5) (d := enc (r15 : (T3 (List (Str × Int)) (List (T3 Str (Tp Int) Bool)) (List (Str × (Tp Int)))))) (rx_call (ds := [enc (r9 : (T3 (List (Str × Int)) (List (T3 Str (Tp Int) Bool)) (List (Str × (Tp Int))))), enc (r11 : (T3 (List (Str × Int)) (List (T3 Str (Tp Int) Bool)) (List (Str × (Tp Int))))), enc (r13 : (List (Int × Int)))]) (d := enc (r15 : (T3 (List (Str × Int)) (List (T3 Str (Tp Int) Bool)) (List (Str × (Tp Int)))))) ⟨_, _, _, r15, rfl, rfl, h16⟩ (ra_cons (rx_var (d := enc (r9 : (T3 (List (Str × Int)) (List (T3 Str (Tp Int) Bool)) (List (Str × (Tp Int)))))) rfl) (ra_cons (rx_var (d := enc (r11 : (T3 (List (Str × Int)) (List (T3 Str (Tp Int) Bool)) (List (Str × (Tp Int)))))) rfl) (ra_cons (rx_var (d := enc (r13 : (List (Int × Int)))) rfl) ra_nil)))) E S fun σ F H f E S => ?_
    replace fc := fc.trans f
    have E : EnvR K _ _ [.val (enc (v_script : (List Int))), .val (enc (x5 : Int)), .val (enc (r9 : (T3 (List (Str × Int)) (List (T3 Str (Tp Int) Bool)) (List (Str × (Tp Int)))))), .val (enc (r11 : (T3 (List (Str × Int)) (List (T3 Str (Tp Int) Bool)) (List (Str × (Tp Int)))))), .val (enc (r13 : (List (Int × Int)))), .val (enc (r15 : (T3 (List (Str × Int)) (List (T3 Str (Tp Int) Bool)) (List (Str × (Tp Int)))))), .un, .un, .un, .un, .un, .un, .un, .un, .un, .un, .un, .un, .un, .un] := E
    have S : Hx K _ _ _ _ [] _ := S
    obtain ⟨v17, h18, h3⟩ := letE h3
    try (with_reducible refine nxD ?_)
    with_reducible refine sq ?_
    refine st_set (i := 6) (d := enc (v17 : Int)) (rx_as (x := ((r15.a.length : Int) : Int)) h18 (len_nat (f := enc) (RX.s (rx_ixT (ds := [enc (r15.a : (List (Str × Int))), enc (r15.b : (List (T3 Str (Tp Int) Bool))), enc (r15.c : (List (Str × (Tp Int))))]) (d := enc (r15.a : (List (Str × Int)))) rfl (rx_var (d := enc (r15 : (T3 (List (Str × Int)) (List (T3 Str (Tp Int) Bool)) (List (Str × (Tp Int)))))) rfl) rx_int)))) E S fun σ F H f E S => ?_
    replace fc := fc.trans f
    have E : EnvR K _ _ [.val (enc (v_script : (List Int))), .val (enc (x5 : Int)), .val (enc (r9 : (T3 (List (Str × Int)) (List (T3 Str (Tp Int) Bool)) (List (Str × (Tp Int)))))), .val (enc (r11 : (T3 (List (Str × Int)) (List (T3 Str (Tp Int) Bool)) (List (Str × (Tp Int)))))), .val (enc (r13 : (List (Int × Int)))), .val (enc (r15 : (T3 (List (Str × Int)) (List (T3 Str (Tp Int) Bool)) (List (Str × (Tp Int)))))), .val (enc (v17 : Int)), .un, .un, .un, .un, .un, .un, .un, .un, .un, .un, .un, .un, .un] := E
    have S : Hx K _ _ _ _ [] _ := S
    obtain ⟨v23, h24, h3⟩ := letE h3
    try (with_reducible refine nxD ?_)
    with_reducible refine sq ?_
    refine st_set (i := 7) (d := enc (v23 : (List (Tp Int)))) (rx_as (x := (((rngL 0 r15.b.length).map (fun (x20 : Int) => (((Tp.mk [x20]) : (Tp Int)) : (Tp Int)))) : (List (Tp Int)))) h24 (RXo.frz (rxo_map (eα := enc) (eβ := enc) (f := (fun (x20 : Int) => (((Tp.mk [x20]) : (Tp Int)) : (Tp Int)))) (fun x20 => [.val (enc (v_script : (List Int))), .val (enc (x5 : Int)), .val (enc (r9 : (T3 (List (Str × Int)) (List (T3 Str (Tp Int) Bool)) (List (Str × (Tp Int)))))), .val (enc (r11 : (T3 (List (Str × Int)) (List (T3 Str (Tp Int) Bool)) (List (Str × (Tp Int)))))), .val (enc (r13 : (List (Int × Int)))), .val (enc (r15 : (T3 (List (Str × Int)) (List (T3 Str (Tp Int) Bool)) (List (Str × (Tp Int)))))), .val (enc (v17 : Int)), .un, .un, .un, .un, .un, .un, .un, .un, .val (enc (x20 : Int)), .un, .un, .un, .un]) [15] (ri_rangeLenM (f := enc) (RX.s (rx_ixT (ds := [enc (r15.a : (List (Str × Int))), enc (r15.b : (List (T3 Str (Tp Int) Bool))), enc (r15.c : (List (Str × (Tp Int))))]) (d := enc (r15.b : (List (T3 Str (Tp Int) Bool)))) rfl (rx_var (d := enc (r15 : (T3 (List (Str × Int)) (List (T3 Str (Tp Int) Bool)) (List (Str × (Tp Int)))))) rfl) rx_int))) (by decide) (fun x20 _ => (rg_name (i := 15) (d := enc (x20 : Int)))) (fun x20 _ D21 acc22 => (rx_tup (ds := [enc (x20 : Int)]) (ra_cons (rx_var (d := enc (x20 : Int)) rfl) ra_nil)))))) E S fun σ F H f E S => ?_
    replace fc := fc.trans f
    have E : EnvR K _ _ [.val (enc (v_script : (List Int))), .val (enc (x5 : Int)), .val (enc (r9 : (T3 (List (Str × Int)) (List (T3 Str (Tp Int) Bool)) (List (Str × (Tp Int)))))), .val (enc (r11 : (T3 (List (Str × Int)) (List (T3 Str (Tp Int) Bool)) (List (Str × (Tp Int)))))), .val (enc (r13 : (List (Int × Int)))), .val (enc (r15 : (T3 (List (Str × Int)) (List (T3 Str (Tp Int) Bool)) (List (Str × (Tp Int)))))), .val (enc (v17 : Int)), .val (enc (v23 : (List (Tp Int)))), .un, .un, .un, .un, .un, .un, .un, .un, .un, .un, .un, .un] := E
    have S : Hx K _ _ _ _ [] _ := S
    obtain ⟨l29, h30, h3⟩ := bindE h3
    obtain ⟨v35, h36, h3⟩ := letE h3
    try (with_reducible refine nxD ?_)
    with_reducible refine sq ?_
    refine st_set (i := 8) (d := enc (v35 : (List (Tp Int)))) (rx_as (x := ((l29.map (fun (x32 : Int) => (((Tp.mk [x32]) : (Tp Int)) : (Tp Int)))) : (List (Tp Int)))) h36 (RXo.frz (rxo_map (eα := enc) (eβ := enc) (f := (fun (x32 : Int) => (((Tp.mk [x32]) : (Tp Int)) : (Tp Int)))) (fun x32 => [.val (enc (v_script : (List Int))), .val (enc (x5 : Int)), .val (enc (r9 : (T3 (List (Str × Int)) (List (T3 Str (Tp Int) Bool)) (List (Str × (Tp Int)))))), .val (enc (r11 : (T3 (List (Str × Int)) (List (T3 Str (Tp Int) Bool)) (List (Str × (Tp Int)))))), .val (enc (r13 : (List (Int × Int)))), .val (enc (r15 : (T3 (List (Str × Int)) (List (T3 Str (Tp Int) Bool)) (List (Str × (Tp Int)))))), .val (enc (v17 : Int)), .val (enc (v23 : (List (Tp Int)))), .un, .un, .un, .un, .un, .un, .un, .un, .val (enc (x32 : Int)), .un, .un, .un]) [16] (ri_range h30 (rx_sum (RXo.s (rxo_map (eα := enc) (eβ := enc) (f := (fun (x26 : (Str × Int)) => (x26.2 : Int))) (fun x26 => [.val (enc (v_script : (List Int))), .val (enc (x5 : Int)), .val (enc (r9 : (T3 (List (Str × Int)) (List (T3 Str (Tp Int) Bool)) (List (Str × (Tp Int)))))), .val (enc (r11 : (T3 (List (Str × Int)) (List (T3 Str (Tp Int) Bool)) (List (Str × (Tp Int)))))), .val (enc (r13 : (List (Int × Int)))), .val (enc (r15 : (T3 (List (Str × Int)) (List (T3 Str (Tp Int) Bool)) (List (Str × (Tp Int)))))), .val (enc (v17 : Int)), .val (enc (v23 : (List (Tp Int)))), .un, .un, .un, .un, .un, .un, .un, .un, .un, .un, .val (enc (x26.1 : Str)), .val (enc (x26.2 : Int))]) [18, 19] (ri_list (ys := r15.a.map enc) (rx_ixT (ds := [enc (r15.a : (List (Str × Int))), enc (r15.b : (List (T3 Str (Tp Int) Bool))), enc (r15.c : (List (Str × (Tp Int))))]) (d := enc (r15.a : (List (Str × Int)))) rfl (rx_var (d := enc (r15 : (T3 (List (Str × Int)) (List (T3 Str (Tp Int) Bool)) (List (Str × (Tp Int)))))) rfl) rx_int)) (by decide) (fun x26 _ => (rg_tup (ds := [enc (x26.1 : Str), enc (x26.2 : Int)]) (RGs.cons (rg_name (i := 18) (d := enc (x26.1 : Str))) (RGs.cons (rg_name (i := 19) (d := enc (x26.2 : Int))) RGs.nil)))) (fun x26 _ D27 acc28 => (rx_var (d := enc (x26.2 : Int)) rfl)))))) (by decide) (fun x32 _ => (rg_name (i := 16) (d := enc (x32 : Int)))) (fun x32 _ D33 acc34 => (rx_tup (ds := [enc (x32 : Int)]) (ra_cons (rx_var (d := enc (x32 : Int)) rfl) ra_nil)))))) E S fun σ F H f E S => ?_
    replace fc := fc.trans f
    have E : EnvR K _ _ [.val (enc (v_script : (List Int))), .val (enc (x5 : Int)), .val (enc (r9 : (T3 (List (Str × Int)) (List (T3 Str (Tp Int) Bool)) (List (Str × (Tp Int)))))), .val (enc (r11 : (T3 (List (Str × Int)) (List (T3 Str (Tp Int) Bool)) (List (Str × (Tp Int)))))), .val (enc (r13 : (List (Int × Int)))), .val (enc (r15 : (T3 (List (Str × Int)) (List (T3 Str (Tp Int) Bool)) (List (Str × (Tp Int)))))), .val (enc (v17 : Int)), .val (enc (v23 : (List (Tp Int)))), .val (enc (v35 : (List (Tp Int)))), .un, .un, .un, .un, .un, .un, .un, .un, .un, .un, .un] := E
    have S : Hx K _ _ _ _ [] _ := S
    obtain ⟨t37, h38, h3⟩ := bindE h3
    obtain ⟨r39, h40, h3⟩ := bindE h3
    obtain ⟨t41, h42, h3⟩ := bindE h3
    obtain ⟨t43, h44, h3⟩ := bindE h3
    try (with_reducible refine nxD ?_)
    with_reducible refine sq ?_
    refine st_set (i := 9) (d := enc (t43 : (Tp Int))) (rx_ix (atI_map enc h44) (RXo.s (rxo_catO (f := enc) h38 (RXo.s (rxo_lst (ds := [enc (((Tp.mk []) : (Tp Int)) : (Tp Int))]) (ra_cons (rx_tup (ds := []) ra_nil) ra_nil))) (RX.s (rx_var (d := enc (v23 : (List (Tp Int)))) rfl)))) (rx_modO h42 (rx_call (ds := [enc (x5 : Int), enc ((96 : Int) : Int)]) (d := enc (r39 : Int)) ⟨_, _, r39, rfl, rfl, h40⟩ (ra_cons (rx_var (d := enc (x5 : Int)) rfl) (ra_cons rx_int ra_nil))) (rx_add rx_int (len_nat (f := enc) (RX.s (rx_var (d := enc (v23 : (List (Tp Int)))) rfl)))))) E S fun σ F H f E S => ?_
    replace fc := fc.trans f
    have E : EnvR K _ _ [.val (enc (v_script : (List Int))), .val (enc (x5 : Int)), .val (enc (r9 : (T3 (List (Str × Int)) (List (T3 Str (Tp Int) Bool)) (List (Str × (Tp Int)))))), .val (enc (r11 : (T3 (List (Str × Int)) (List (T3 Str (Tp Int) Bool)) (List (Str × (Tp Int)))))), .val (enc (r13 : (List (Int × Int)))), .val (enc (r15 : (T3 (List (Str × Int)) (List (T3 Str (Tp Int) Bool)) (List (Str × (Tp Int)))))), .val (enc (v17 : Int)), .val (enc (v23 : (List (Tp Int)))), .val (enc (v35 : (List (Tp Int)))), .val (enc (t43 : (Tp Int))), .un, .un, .un, .un, .un, .un, .un, .un, .un, .un] := E
    have S : Hx K _ _ _ _ [] _ := S
    obtain ⟨t45, h46, h3⟩ := bindE h3
    obtain ⟨r47, h48, h3⟩ := bindE h3
    obtain ⟨t49, h50, h3⟩ := bindE h3
    obtain ⟨t51, h52, h3⟩ := bindE h3
    try (with_reducible refine nxD ?_)
    with_reducible refine sq ?_
    refine st_set (i := 10) (d := enc (t51 : (Tp Int))) (rx_ix (atI_map enc h52) (RXo.s (rxo_catO (f := enc) h46 (RXo.s (rxo_lst (ds := [enc (((Tp.mk []) : (Tp Int)) : (Tp Int))]) (ra_cons (rx_tup (ds := []) ra_nil) ra_nil))) (RX.s (rx_var (d := enc (v35 : (List (Tp Int)))) rfl)))) (rx_modO h50 (rx_call (ds := [enc (x5 : Int), enc ((97 : Int) : Int)]) (d := enc (r47 : Int)) ⟨_, _, r47, rfl, rfl, h48⟩ (ra_cons (rx_var (d := enc (x5 : Int)) rfl) (ra_cons rx_int ra_nil))) (rx_add rx_int (len_nat (f := enc) (RX.s (rx_var (d := enc (v35 : (List (Tp Int)))) rfl)))))) E S fun σ F H f E S => ?_
    replace fc := fc.trans f
    have E : EnvR K _ _ [.val (enc (v_script : (List Int))), .val (enc (x5 : Int)), .val (enc (r9 : (T3 (List (Str × Int)) (List (T3 Str (Tp Int) Bool)) (List (Str × (Tp Int)))))), .val (enc (r11 : (T3 (List (Str × Int)) (List (T3 Str (Tp Int) Bool)) (List (Str × (Tp Int)))))), .val (enc (r13 : (List (Int × Int)))), .val (enc (r15 : (T3 (List (Str × Int)) (List (T3 Str (Tp Int) Bool)) (List (Str × (Tp Int)))))), .val (enc (v17 : Int)), .val (enc (v23 : (List (Tp Int)))), .val (enc (v35 : (List (Tp Int)))), .val (enc (t43 : (Tp Int))), .val (enc (t51 : (Tp Int))), .un, .un, .un, .un, .un, .un, .un, .un, .un] := E
    have S : Hx K _ _ _ _ [] _ := S
    obtain ⟨t53, h54, h3⟩ := bindE h3
    obtain ⟨l55, h56, h3⟩ := bindE h3
    obtain ⟨fl60, h61, h3⟩ := bindE h3
    try (with_reducible refine nxD ?_)
    refine (st_forF (eα := enc) (fun s58 => [.val (enc (v_script : (List Int))), .val (enc (x5 : Int)), .val (enc (r9 : (T3 (List (Str × Int)) (List (T3 Str (Tp Int) Bool)) (List (Str × (Tp Int)))))), .val (enc (r11 : (T3 (List (Str × Int)) (List (T3 Str (Tp Int) Bool)) (List (Str × (Tp Int)))))), .val (enc (r13 : (List (Int × Int)))), .val (enc (r15 : (T3 (List (Str × Int)) (List (T3 Str (Tp Int) Bool)) (List (Str × (Tp Int)))))), .val (enc (v17 : Int)), .val (enc (v23 : (List (Tp Int)))), .val (enc (v35 : (List (Tp Int)))), .val (enc (t43 : (Tp Int))), .val (enc (t51 : (Tp Int))), .un, .un, .un, .un, .un, .un, .un, .un, .un]) (fun s58 => []) E S (ri_range h56 (rx_shlO h54 rx_int (rx_var (d := enc (v17 : Int)) rfl))) h61 ⟨.inl rfl, .inl rfl, .inl rfl, .inl rfl, .inl rfl, .inl rfl, .inl rfl, .inl rfl, .inl rfl, .inl rfl, .inl rfl, .inr rfl, .inr rfl, .inr rfl, .inr rfl, .inr rfl, .inr rfl, .inr rfl, .inr rfl, .inr rfl, trivial⟩ (fun s88 e σ F H f E S => ?_) (fun x59 _ s58 out h57 hrt62 σ F H v _ E S r N B hN hB => ?_))
    · subst e
      replace fc := fc.trans f
      simp only [flK] at h3
      obtain rfl := Option.some.inj h3
      exact hN _ rfl _ _ _ fc (E.weak ⟨.inl rfl, .inr rfl, .inr rfl, .inr rfl, .inr rfl, .inr rfl, .inr rfl, .inr rfl, .inr rfl, .inr rfl, .inr rfl, .inr rfl, .inr rfl, .inr rfl, .inr rfl, .inr rfl, .inr rfl, .inr rfl, .inr rfl, .inr rfl, trivial⟩) S
    · refine ((rg_name (i := 11) (d := enc (x59 : Int)))).run _ _ _ _ _ E r S.fh fun σ E _ => ?_
      have E : EnvR K _ _ [.val (enc (v_script : (List Int))), .val (enc (x5 : Int)), .val (enc (r9 : (T3 (List (Str × Int)) (List (T3 Str (Tp Int) Bool)) (List (Str × (Tp Int)))))), .val (enc (r11 : (T3 (List (Str × Int)) (List (T3 Str (Tp Int) Bool)) (List (Str × (Tp Int)))))), .val (enc (r13 : (List (Int × Int)))), .val (enc (r15 : (T3 (List (Str × Int)) (List (T3 Str (Tp Int) Bool)) (List (Str × (Tp Int)))))), .val (enc (v17 : Int)), .val (enc (v23 : (List (Tp Int)))), .val (enc (v35 : (List (Tp Int)))), .val (enc (t43 : (Tp Int))), .val (enc (t51 : (Tp Int))), .val (enc (x59 : Int)), .un, .un, .un, .un, .un, .un, .un, .un] := E
      have S : Hx K _ _ _ _ [] _ := S
      have fc : Same F F := Same.refl F
      obtain ⟨l63, h64, h57⟩ := bindE h57
      obtain ⟨l73, h74, h57⟩ := bindE h57
      obtain ⟨v75, h76, h57⟩ := letE h57
      try (with_reducible refine nxD ?_)
      with_reducible refine sq ?_
      refine st_set (i := 12) (d := enc (v75 : (Tp Int))) (rx_as (x := ((Tp.mk l73) : (Tp Int))) h76 (rx_tuple (RXo.s (rxo_mapO (eα := enc) (eβ := enc) (fun x66 => [.val (enc (v_script : (List Int))), .val (enc (x5 : Int)), .val (enc (r9 : (T3 (List (Str × Int)) (List (T3 Str (Tp Int) Bool)) (List (Str × (Tp Int)))))), .val (enc (r11 : (T3 (List (Str × Int)) (List (T3 Str (Tp Int) Bool)) (List (Str × (Tp Int)))))), .val (enc (r13 : (List (Int × Int)))), .val (enc (r15 : (T3 (List (Str × Int)) (List (T3 Str (Tp Int) Bool)) (List (Str × (Tp Int)))))), .val (enc (v17 : Int)), .val (enc (v23 : (List (Tp Int)))), .val (enc (v35 : (List (Tp Int)))), .val (enc (t43 : (Tp Int))), .val (enc (t51 : (Tp Int))), .val (enc (x59 : Int)), .un, .un, .un, .un, .un, .val (enc (x66 : Int)), .un, .un]) [17] (ri_range h64 (rx_var (d := enc (v17 : Int)) rfl)) h74 (by decide) (fun x66 _ => (rg_name (i := 17) (d := enc (x66 : Int)))) (fun x66 _ y h65 D67 acc68 => by obtain ⟨t71, h72, h65⟩ := bindE h65; obtain rfl := Option.some.inj h65; exact (rx_band (rx_shrO h72 (rx_var (d := enc (x59 : Int)) rfl) (rx_sub (rx_sub (rx_var (d := enc (v17 : Int)) rfl) rx_int) (rx_var (d := enc (x66 : Int)) rfl))) rx_int)))))) E S fun σ F H f E S => ?_
      replace fc := fc.trans f
      have E : EnvR K _ _ [.val (enc (v_script : (List Int))), .val (enc (x5 : Int)), .val (enc (r9 : (T3 (List (Str × Int)) (List (T3 Str (Tp Int) Bool)) (List (Str × (Tp Int)))))), .val (enc (r11 : (T3 (List (Str × Int)) (List (T3 Str (Tp Int) Bool)) (List (Str × (Tp Int)))))), .val (enc (r13 : (List (Int × Int)))), .val (enc (r15 : (T3 (List (Str × Int)) (List (T3 Str (Tp Int) Bool)) (List (Str × (Tp Int)))))), .val (enc (v17 : Int)), .val (enc (v23 : (List (Tp Int)))), .val (enc (v35 : (List (Tp Int)))), .val (enc (t43 : (Tp Int))), .val (enc (t51 : (Tp Int))), .val (enc (x59 : Int)), .val (enc (v75 : (Tp Int))), .un, .un, .un, .un, .un, .un, .un] := E
      have S : Hx K _ _ _ _ [] _ := S
      obtain ⟨fl80, h81, h57⟩ := bindE h57
      try (with_reducible refine nxD ?_)
      refine (st_forF (eα := enc) (fun s78 => [.val (enc (v_script : (List Int))), .val (enc (x5 : Int)), .val (enc (r9 : (T3 (List (Str × Int)) (List (T3 Str (Tp Int) Bool)) (List (Str × (Tp Int)))))), .val (enc (r11 : (T3 (List (Str × Int)) (List (T3 Str (Tp Int) Bool)) (List (Str × (Tp Int)))))), .val (enc (r13 : (List (Int × Int)))), .val (enc (r15 : (T3 (List (Str × Int)) (List (T3 Str (Tp Int) Bool)) (List (Str × (Tp Int)))))), .val (enc (v17 : Int)), .val (enc (v23 : (List (Tp Int)))), .val (enc (v35 : (List (Tp Int)))), .val (enc (t43 : (Tp Int))), .val (enc (t51 : (Tp Int))), .val (enc (x59 : Int)), .val (enc (v75 : (Tp Int))), .un, .un, .un, .un, .un, .un, .un]) (fun s78 => []) E S (ri_list (ys := ([(((Tp.mk []) : (Tp Int)), ((Tp.mk []) : (Tp Int))), (t43, ((Tp.mk []) : (Tp Int))), (((Tp.mk []) : (Tp Int)), t51), (t43, t51)] : (List ((Tp Int) × (Tp Int)))).map enc) (RXo.frz (rxo_lst (ds := [enc ((((Tp.mk []) : (Tp Int)), ((Tp.mk []) : (Tp Int))) : ((Tp Int) × (Tp Int))), enc ((t43, ((Tp.mk []) : (Tp Int))) : ((Tp Int) × (Tp Int))), enc ((((Tp.mk []) : (Tp Int)), t51) : ((Tp Int) × (Tp Int))), enc ((t43, t51) : ((Tp Int) × (Tp Int)))]) (ra_cons (rx_tup (ds := [enc (((Tp.mk []) : (Tp Int)) : (Tp Int)), enc (((Tp.mk []) : (Tp Int)) : (Tp Int))]) (ra_cons (rx_tup (ds := []) ra_nil) (ra_cons (rx_tup (ds := []) ra_nil) ra_nil))) (ra_cons (rx_tup (ds := [enc (t43 : (Tp Int)), enc (((Tp.mk []) : (Tp Int)) : (Tp Int))]) (ra_cons (rx_var (d := enc (t43 : (Tp Int))) rfl) (ra_cons (rx_tup (ds := []) ra_nil) ra_nil))) (ra_cons (rx_tup (ds := [enc (((Tp.mk []) : (Tp Int)) : (Tp Int)), enc (t51 : (Tp Int))]) (ra_cons (rx_tup (ds := []) ra_nil) (ra_cons (rx_var (d := enc (t51 : (Tp Int))) rfl) ra_nil))) (ra_cons (rx_tup (ds := [enc (t43 : (Tp Int)), enc (t51 : (Tp Int))]) (ra_cons (rx_var (d := enc (t43 : (Tp Int))) rfl) (ra_cons (rx_var (d := enc (t51 : (Tp Int))) rfl) ra_nil))) ra_nil))))))) h81 ⟨.inl rfl, .inl rfl, .inl rfl, .inl rfl, .inl rfl, .inl rfl, .inl rfl, .inl rfl, .inl rfl, .inl rfl, .inl rfl, .inl rfl, .inl rfl, .inr rfl, .inr rfl, .inr rfl, .inr rfl, .inr rfl, .inr rfl, .inr rfl, trivial⟩ (fun s87 e σ F H f E S => ?_) (fun x79 _ s78 out h77 hrt82 σ F H v _ E S r N B hN hB => ?_))
      · subst e
        replace fc := fc.trans f
        simp only [flK] at h57
        obtain rfl := Option.some.inj h57
        exact hN _ rfl _ _ _ fc (E.weak ⟨.inl rfl, .inl rfl, .inl rfl, .inl rfl, .inl rfl, .inl rfl, .inl rfl, .inl rfl, .inl rfl, .inl rfl, .inl rfl, .inr rfl, .inr rfl, .inr rfl, .inr rfl, .inr rfl, .inr rfl, .inr rfl, .inr rfl, .inr rfl, trivial⟩) S
      · refine ((rg_tup (ds := [enc (x79.1 : (Tp Int)), enc (x79.2 : (Tp Int))]) (RGs.cons (rg_name (i := 13) (d := enc (x79.1 : (Tp Int)))) (RGs.cons (rg_name (i := 14) (d := enc (x79.2 : (Tp Int)))) RGs.nil)))).run _ _ _ _ _ E r S.fh fun σ E _ => ?_
        have E : EnvR K _ _ [.val (enc (v_script : (List Int))), .val (enc (x5 : Int)), .val (enc (r9 : (T3 (List (Str × Int)) (List (T3 Str (Tp Int) Bool)) (List (Str × (Tp Int)))))), .val (enc (r11 : (T3 (List (Str × Int)) (List (T3 Str (Tp Int) Bool)) (List (Str × (Tp Int)))))), .val (enc (r13 : (List (Int × Int)))), .val (enc (r15 : (T3 (List (Str × Int)) (List (T3 Str (Tp Int) Bool)) (List (Str × (Tp Int)))))), .val (enc (v17 : Int)), .val (enc (v23 : (List (Tp Int)))), .val (enc (v35 : (List (Tp Int)))), .val (enc (t43 : (Tp Int))), .val (enc (t51 : (Tp Int))), .val (enc (x59 : Int)), .val (enc (v75 : (Tp Int))), .val (enc (x79.1 : (Tp Int))), .val (enc (x79.2 : (Tp Int))), .un, .un, .un, .un, .un] := E
        have S : Hx K _ _ _ _ [] _ := S
        have fc : Same F F := Same.refl F
        obtain ⟨r83, h84, h77⟩ := bindE h77
        obtain ⟨r85, h86, h77⟩ := bindE h77
        try (with_reducible refine nxD ?_)
        refine (st_if (b := (!decide ((r83 : (List (Tp Int))) = r85))) (rt_val (rx_neT (x := (r83 : (List (Tp Int)))) (y := (r85 : (List (Tp Int)))) (RX.h (RXo.frz (rxo_call (ds := [enc (r15 : (T3 (List (Str × Int)) (List (T3 Str (Tp Int) Bool)) (List (Str × (Tp Int))))), enc (v75 : (Tp Int)), enc (x79.1 : (Tp Int)), enc (x79.2 : (Tp Int))]) (es := r83.map enc) ⟨_, _, _, _, r83, rfl, rfl, h84⟩ (ra_cons (rx_var (d := enc (r15 : (T3 (List (Str × Int)) (List (T3 Str (Tp Int) Bool)) (List (Str × (Tp Int)))))) rfl) (ra_cons (rx_var (d := enc (v75 : (Tp Int))) rfl) (ra_cons (rx_var (d := enc (x79.1 : (Tp Int))) rfl) (ra_cons (rx_var (d := enc (x79.2 : (Tp Int))) rfl) ra_nil))))))) (RX.h (RXo.frz (rxo_call (ds := [enc (r9 : (T3 (List (Str × Int)) (List (T3 Str (Tp Int) Bool)) (List (Str × (Tp Int))))), enc (r11 : (T3 (List (Str × Int)) (List (T3 Str (Tp Int) Bool)) (List (Str × (Tp Int))))), enc (r13 : (List (Int × Int))), enc (v75.l : (List Int)), enc (x79.1 : (Tp Int)), enc (x79.2 : (Tp Int))]) (es := r85.map enc) ⟨_, _, _, _, _, _, r85, rfl, rfl, h86⟩ (ra_cons (rx_var (d := enc (r9 : (T3 (List (Str × Int)) (List (T3 Str (Tp Int) Bool)) (List (Str × (Tp Int)))))) rfl) (ra_cons (rx_var (d := enc (r11 : (T3 (List (Str × Int)) (List (T3 Str (Tp Int) Bool)) (List (Str × (Tp Int)))))) rfl) (ra_cons (rx_var (d := enc (r13 : (List (Int × Int)))) rfl) (ra_cons (RXo.frz (rxo_listT (rx_var (d := enc (v75 : (Tp Int))) rfl))) (ra_cons (rx_var (d := enc (x79.1 : (Tp Int))) rfl) (ra_cons (rx_var (d := enc (x79.2 : (Tp Int))) rfl) ra_nil))))))))))) E S (fun hc F H f E S => ?_) (fun hc F H f E S => ?_))
        · rw [if_pos hc] at h77
          replace fc := fc.trans f
          obtain rfl := Option.some.inj h77
          obtain rfl := hrt82 _ rfl
          obtain rfl := Option.some.inj h57
          obtain rfl := hrt62 _ rfl
          obtain rfl := Option.some.inj h3
          obtain rfl := hrt8 _ rfl
          obtain rfl := Option.some.inj hm0
          -- return
          try (with_reducible refine nxD ?_)
          refine st_ret (d := enc (false : Bool)) rx_bl E S fun v F H f S r => ?_
          exact k v F H S.stp r
        · rw [if_neg (by rw [hc]; decide)] at h77
          replace fc := fc.trans f
          refine nxt ?_
          obtain rfl := Option.some.inj h77
          exact hN _ rfl _ _ _ fc (E.weak ⟨.inl rfl, .inl rfl, .inl rfl, .inl rfl, .inl rfl, .inl rfl, .inl rfl, .inl rfl, .inl rfl, .inl rfl, .inl rfl, .inl rfl, .inl rfl, .inr rfl, .inr rfl, .inr rfl, .inr rfl, .inr rfl, .inr rfl, .inr rfl, trivial⟩) S
end
end W

namespace TL
open PySem L2
/-! ### texts as lists of signs -/
def L (s : Str) : List Nat := s.cps.toList
theorem L_ext {s t : Str} (h : L s = L t) : s = t := by
  cases s; cases t
  unfold L at h
  congr 1
  exact Array.toList_inj.mp h
theorem L_cat (s t : Str) : L (s ++ t) = L s ++ L t := by
  show (s.cps ++ t.cps).toList = _
  rw [Array.toList_append]; rfl
theorem len_L (s : Str) : s.length = (L s).length := by unfold L; rw [Array.length_toList]; rfl
theorem L_mk (l : List Nat) : L ⟨l.toArray⟩ = l := by unfold L; simp
theorem len_cat (s t : Str) : (s ++ t).length = s.length + t.length := by rw [len_L, len_L, len_L, L_cat, List.length_append]
theorem L_nil : L ("" : Str) = [] := by decide +kernel
theorem cat_nil (s : Str) : s ++ ("" : Str) = s := L_ext (by rw [L_cat, L_nil, List.append_nil])
theorem nil_cat (s : Str) : ("" : Str) ++ s = s := L_ext (by rw [L_cat, L_nil, List.nil_append])
theorem jn_eq (a : Str) (ys : List Str) : Txt.join a ys = Str.join a ys := by first | exact PySem.StrLaws.glued_eq_join a ys | exact PySem.Str.glued_eq_join a ys
theorem cat_assoc (a b c : Str) : a ++ b ++ c = a ++ (b ++ c) := L_ext (by rw [L_cat, L_cat, L_cat, L_cat, List.append_assoc])
theorem join_cons2 (a x y : Str) (r : List Str) : Txt.join a (x :: y :: r) = x ++ a ++ Txt.join a (y :: r) := by rw [jn_eq, jn_eq]; rfl
theorem join_one (a x : Str) : Txt.join a [x] = x := by rw [jn_eq]; rfl
theorem join_zero (a : Str) : Txt.join a [] = ("" : Str) := by rw [jn_eq]; exact L_ext (by rw [L_nil]; rfl)
theorem join_len (a : Str) (m : Nat) : ∀ ys : List Str, (∀ y ∈ ys, y.length ≤ m) → (Txt.join a ys).length ≤ ys.length * (m + a.length)
  | [], _ => by rw [join_zero, len_L, L_nil]; simp
  | [x], h => by
    rw [join_one]
    have := h x (by simp)
    simp; omega
  | x :: y :: r, h => by
    rw [join_cons2, len_cat, len_cat]
    have h1 := h x (by simp)
    have h2 := join_len a m (y :: r) fun z hz => h z (List.mem_cons_of_mem _ hz)
    have e : (x :: y :: r).length * (m + a.length) = (y :: r).length * (m + a.length) + (m + a.length) := by rw [List.length_cons, Nat.add_mul, Nat.one_mul]
    omega
theorem sum_le (m : Nat) : ∀ ys : List Str, (∀ y ∈ ys, y.length ≤ m) → (ys.map (·.length)).sum ≤ ys.length * m
  | [], _ => by simp
  | x :: r, h => by
    have h1 := h x (by simp)
    have h2 := sum_le m r fun z hz => h z (List.mem_cons_of_mem _ hz)
    have e : (x :: r).length * m = r.length * m + m := by rw [List.length_cons, Nat.add_mul, Nat.one_mul]
    simp only [List.map_cons, List.sum_cons]
    omega
theorem joinO_eq {a : Str} {ys : List Str} (m : Nat) (h : ∀ y ∈ ys, y.length ≤ m) (hm : ys.length * m + ys.length * a.length ≤ 16777216) : joinO a ys = some (Txt.join a ys) := by
  unfold joinO
  have := sum_le m ys h
  exact if_pos (by omega)
theorem catSO_eq {x y : Str} (h : x.length + y.length ≤ 16777216) : catSO x y = some (x ++ y) := if_pos h
theorem cutSO_eq {z : Str} {lo hi : Option Int} (h : z.length ≤ 16777216) : cutSO z lo hi = some (cutS z lo hi) := if_pos h
theorem mulSO_eq {z : Str} {n : Int} (h : z.length ≤ 1000) (h0 : 0 ≤ n) (h1 : n ≤ 1000) : mulSO z n = some (Txt.mul z n) := if_pos ⟨h, h0, h1⟩
theorem L_cutS (z : Str) (lo hi : Option Int) : L (cutS z lo hi) = ((L z).drop (HT.sIx z.length 0 lo)).take (HT.sIx z.length z.length hi - HT.sIx z.length 0 lo) := by
  unfold cutS
  rw [L_mk]; rfl
theorem L_from (z : Str) (n : Int) (h : 0 ≤ n) : L (cutS z (some n) none) = (L z).drop n.toNat := by
  rw [L_cutS]
  unfold HT.sIx
  simp only
  rw [if_neg (by omega)]
  rw [List.take_of_length_le (by rw [List.length_drop, ← len_L]; omega)]
  rcases Nat.le_total n.toNat z.length with q | q
  · rw [Nat.min_eq_left q]
  · rw [Nat.min_eq_right q, List.drop_of_length_le (by rw [← len_L]; omega), List.drop_of_length_le (by rw [← len_L]; omega)]
theorem L_to (z : Str) (n : Int) (h : 0 ≤ n) : L (cutS z none (some n)) = (L z).take n.toNat := by
  rw [L_cutS]
  unfold HT.sIx
  simp only
  rw [if_neg (by omega), List.drop_zero, Nat.sub_zero]
  rcases Nat.le_total n.toNat z.length with q | q
  · rw [Nat.min_eq_left q]
  · rw [Nat.min_eq_right q, List.take_of_length_le (by rw [← len_L]; exact Nat.le_refl _), List.take_of_length_le (by rw [← len_L]; omega)]
theorem L_mulx : ∀ k : Fin 12, L (Txt.mul ("x" : Str) (k.val : Int)) = List.replicate k.val 120 := by decide +kernel
theorem mulx {n : Int} (h0 : 0 ≤ n) (h : n < 12) : Ok (mulSO ("x" : Str) n) fun r => L r = List.replicate n.toNat 120 := by
  refine ⟨_, mulSO_eq (by decide +kernel) h0 (by omega), ?_⟩
  have := L_mulx ⟨n.toNat, by omega⟩
  simp only [Int.toNat_of_nonneg h0] at this
  exact this
abbrev LET : Str := "abcdefghijklmnopqrstuvwxyz"
theorem sign_LET0 : ∀ k : Fin 26, signAt LET (k.val : Int) = some ⟨#[97 + k.val]⟩ := by decide +kernel
theorem sign_LET {i : Int} (h0 : 0 ≤ i) (h : i < 26) : signAt LET i = some ⟨#[97 + i.toNat]⟩ := by
  have := sign_LET0 ⟨i.toNat, by omega⟩
  simp only [Int.toNat_of_nonneg h0] at this
  exact this
theorem L_one (c : Nat) : L ⟨#[c]⟩ = [c] := rfl
/-! ### names -/
def Let (s : Str) : Prop := ∀ c ∈ L s, 97 ≤ c ∧ c ≤ 122
abbrev BAR : List Str := [("in" : Str), ("gate" : Str), ("sure" : Str), ("out" : Str), ("not" : Str), ("and" : Str), ("or" : Str), ("xor" : Str), ("vote" : Str)]
structure Nm (s : Str) : Prop where
  l1 : 1 ≤ s.length
  l8 : s.length ≤ 8
  lt : Let s
  bar : s ∉ BAR
instance (s : Str) : Decidable (Let s) := by unfold Let; infer_instance
theorem Nm.of {s : Str} (h : 1 ≤ s.length ∧ s.length ≤ 8 ∧ Let s ∧ s ∉ BAR) : Nm s := ⟨h.1, h.2.1, h.2.2.1, h.2.2.2⟩
/-- zzaa .. -/
def SPARE : List Str := (List.range 80).map fun n => ⟨#[122, 122, 97 + n / 26, 97 + n % 26]⟩
theorem spare_nm : ∀ s ∈ SPARE, 1 ≤ s.length ∧ s.length ≤ 8 ∧ Let s ∧ s ∉ BAR := by decide +kernel
theorem spare_nd : SPARE.Nodup := by decide +kernel
theorem spare_len : SPARE.length = 80 := rfl
theorem sub_len {α : Type} [DecidableEq α] : ∀ (xs ys : List α), xs.Nodup → (∀ x ∈ xs, x ∈ ys) → xs.length ≤ ys.length
  | [], _, _, _ => Nat.zero_le _
  | x :: xs, ys, hn, h => by
    rw [List.nodup_cons] at hn
    have h1 := sub_len xs (ys.erase x) hn.2 fun y hy => (List.mem_erase_of_ne (fun e => hn.1 (by subst e; exact hy))).mpr (h y (List.mem_cons_of_mem _ hy))
    have h2 := List.length_erase_of_mem (h x (List.mem_cons_self ..))
    have h3 : 0 < ys.length := List.length_pos_of_mem (h x (List.mem_cons_self ..))
    rw [List.length_cons]
    omega
theorem fresh {α : Type} [DecidableEq α] : ∀ (xs ys : List α), xs.Nodup → ys.length < xs.length → ∃ x r, xs.filter (fun x => !decide (x ∈ ys)) = x :: r ∧ x ∈ xs ∧ x ∉ ys := by
  intro xs ys hn hl
  cases e : xs.filter (fun x => !decide (x ∈ ys)) with
  | cons x r =>
    have hx : x ∈ xs.filter (fun x => !decide (x ∈ ys)) := by rw [e]; exact List.mem_cons_self ..
    rw [List.mem_filter] at hx
    exact ⟨x, r, rfl, hx.1, by simpa using hx.2⟩
  | nil =>
    exfalso
    have hs : xs ⊆ ys := fun x hx => by
      rw [List.filter_eq_nil_iff] at e
      simpa using e x hx
    have := sub_len xs ys hn hs
    omega
theorem Ok.is {α : Type} {m : Option α} {x : α} (h : m = some x) : Ok m fun r => r = x := ⟨x, h, rfl⟩
theorem Let.ok {s : Str} (h : Let s) : EqD.ok s = true := by
  show (s.cps.all fun c => _) = true
  rw [← Array.all_toList, List.all_eq_true]
  intro c hc
  have := h c hc
  exact decide_eq_true (by omega)
theorem strs_ok {xs : List Str} (h : ∀ s ∈ xs, Let s) : EqD.ok xs = true := by
  show (xs.all EqD.ok) = true
  rw [List.all_eq_true]
  exact fun s hs => (h s hs).ok
end TL

namespace TL
open PySem L2
/-! ### whole numbers as rows of bits -/
theorem bAnd (x y : Nat) : Builtin.bitAnd (x : Int) (y : Int) = ((x &&& y : Nat) : Int) := by
  unfold Builtin.bitAnd
  rw [decide_eq_true (by omega : (0 : Int) ≤ (x : Int)), decide_eq_true (by omega : (0 : Int) ≤ (y : Int))]
  simp only [Int.toNat_natCast]
theorem bNN (x : Int) : Builtin.bitNot (Builtin.bitNot x) = x := by unfold Builtin.bitNot; omega
theorem bOr (x y : Nat) : Builtin.bitOr (x : Int) (y : Int) = ((x ||| y : Nat) : Int) := by
  unfold Builtin.bitOr Builtin.bitAnd
  have h : ∀ z : Nat, decide ((0 : Int) ≤ Builtin.bitNot (z : Int)) = false := fun z => decide_eq_false (by unfold Builtin.bitNot; omega)
  rw [h, h]
  simp only [bNN, Int.toNat_natCast]
theorem or_xor_and : ∀ (x y : Nat), (x ||| y) = (x ^^^ y) + (x &&& y) := by
  intro x
  induction x using Nat.strongRecOn with
  | _ x ih =>
    intro y
    rcases Nat.eq_zero_or_pos x with e | e
    · subst e; simp
    · have h := ih (x / 2) (by omega) (y / 2)
      have a1 := Nat.div_add_mod (x ||| y) 2
      have a2 := Nat.div_add_mod (x ^^^ y) 2
      have a3 := Nat.div_add_mod (x &&& y) 2
      rw [Nat.or_div_two] at a1
      rw [Nat.xor_div_two] at a2
      rw [Nat.and_div_two] at a3
      have m : (x ||| y) % 2 = (x ^^^ y) % 2 + (x &&& y) % 2 := by
        have b : ∀ z : Nat, z % 2 = (z.testBit 0).toNat := fun z => by
          rw [Nat.testBit_zero]
          rcases Nat.mod_two_eq_zero_or_one z with e | e <;> rw [e] <;> rfl
        rw [b, b, b, Nat.testBit_or, Nat.testBit_xor, Nat.testBit_and]
        cases x.testBit 0 <;> cases y.testBit 0 <;> rfl
      omega
theorem bXor (x y : Nat) : Builtin.bitXor (x : Int) (y : Int) = ((x ^^^ y : Nat) : Int) := by
  unfold Builtin.bitXor
  rw [bOr, bAnd]
  have := or_xor_and x y
  omega
theorem bAndNot (x y : Nat) : Builtin.bitAnd (x : Int) (Builtin.bitNot (y : Int)) = (x : Int) - ((x &&& y : Nat) : Int) := by
  unfold Builtin.bitAnd
  rw [decide_eq_true (by omega : (0 : Int) ≤ (x : Int)), decide_eq_false (by unfold Builtin.bitNot; omega : ¬(0 : Int) ≤ Builtin.bitNot (y : Int))]
  simp only [bNN, Int.toNat_natCast]
/-- the number of n bits -/
def mkN : Nat → (Nat → Bool) → Nat
  | 0, _ => 0
  | n + 1, f => 2 ^ n * (f n).toNat + mkN n f
theorem mkN_lt : ∀ (n : Nat) (f : Nat → Bool), mkN n f < 2 ^ n
  | 0, _ => Nat.one_pos
  | n + 1, f => by
    have := mkN_lt n f
    unfold mkN
    rw [Nat.pow_succ]
    cases f n
    · simp only [Bool.toNat_false]; omega
    · simp only [Bool.toNat_true]; omega
theorem mkN_bit : ∀ (n : Nat) (f : Nat → Bool) (i : Nat), (mkN n f).testBit i = (decide (i < n) && f i)
  | 0, f, i => by unfold mkN; rw [Nat.zero_testBit]; simp
  | n + 1, f, i => by
    unfold mkN
    rw [Nat.testBit_two_pow_mul_add _ (mkN_lt n f), mkN_bit n f i]
    by_cases h : i < n
    · rw [if_pos h, decide_eq_true h, decide_eq_true (by omega)]
    · rw [if_neg h]
      by_cases e : i = n
      · subst e
        rw [decide_eq_true (by omega), Nat.sub_self]
        cases f i <;> rfl
      · rw [decide_eq_false (by omega)]
        obtain ⟨k, hk⟩ : ∃ k, i - n = k + 1 := ⟨i - n - 1, by omega⟩
        rw [hk]
        cases f n
        · simp
        · show Nat.testBit 1 (k + 1) = _
          rw [Nat.testBit_succ]; simp
theorem bits_eq {n x y : Nat} (hx : x < 2 ^ n) (hy : y < 2 ^ n) (h : ∀ i, i < n → x.testBit i = y.testBit i) : x = y := Nat.eq_of_testBit_eq fun i => by
  rcases Nat.lt_or_ge i n with q | q
  · exact h i q
  · rw [Nat.testBit_lt_two_pow (Nat.lt_of_lt_of_le hx (Nat.pow_le_pow_right (by omega) q)), Nat.testBit_lt_two_pow (Nat.lt_of_lt_of_le hy (Nat.pow_le_pow_right (by omega) q))]
theorem mkN_is {n x : Nat} {f : Nat → Bool} (hx : x < 2 ^ n) (h : ∀ i, i < n → x.testBit i = f i) : x = mkN n f := bits_eq hx (mkN_lt n f) fun i q => by rw [h i q, mkN_bit, decide_eq_true q]; rfl
def mk (n : Nat) (f : Nat → Bool) : Int := (mkN n f : Nat)
theorem mk_nn (n : Nat) (f : Nat → Bool) : 0 ≤ mk n f := Int.natCast_nonneg _
theorem mk_congr {n : Nat} {f g : Nat → Bool} (h : ∀ i, i < n → f i = g i) : mk n f = mk n g := by
  unfold mk
  rw [mkN_is (f := g) (mkN_lt n f) fun i q => by rw [mkN_bit, decide_eq_true q, h i q]; rfl]
theorem mk_inj {n : Nat} {f g : Nat → Bool} (h : mk n f = mk n g) : ∀ i, i < n → f i = g i := fun i q => by
  have e : mkN n f = mkN n g := Int.ofNat.inj h
  have := congrArg (fun x => x.testBit i) e
  simp only [mkN_bit, decide_eq_true q, Bool.true_and] at this
  exact this
theorem mk_and (n : Nat) (f g : Nat → Bool) : Builtin.bitAnd (mk n f) (mk n g) = mk n fun i => f i && g i := by
  unfold mk
  rw [bAnd, mkN_is (f := fun i => f i && g i) (Nat.and_lt_two_pow _ (mkN_lt n g)) fun i q => ?_]
  rw [Nat.testBit_and, mkN_bit, mkN_bit, decide_eq_true q]; rfl
theorem mk_or (n : Nat) (f g : Nat → Bool) : Builtin.bitOr (mk n f) (mk n g) = mk n fun i => f i || g i := by
  unfold mk
  rw [bOr, mkN_is (f := fun i => f i || g i) (Nat.or_lt_two_pow (mkN_lt n f) (mkN_lt n g)) fun i q => ?_]
  rw [Nat.testBit_or, mkN_bit, mkN_bit, decide_eq_true q]; rfl
theorem mk_xor (n : Nat) (f g : Nat → Bool) : Builtin.bitXor (mk n f) (mk n g) = mk n fun i => f i ^^ g i := by
  unfold mk
  rw [bXor, mkN_is (f := fun i => f i ^^ g i) (Nat.xor_lt_two_pow (mkN_lt n f) (mkN_lt n g)) fun i q => ?_]
  rw [Nat.testBit_xor, mkN_bit, mkN_bit, decide_eq_true q]; rfl
theorem mk_one (n : Nat) : (2 : Int) ^ n - 1 = mk n fun _ => true := by
  unfold mk
  have h := Nat.two_pow_pos n
  rw [← mkN_is (x := 2 ^ n - 1) (f := fun _ => true) (by omega) fun i q => by rw [Nat.testBit_two_pow_sub_one, decide_eq_true q]]
  rw [Int.natCast_sub h, Int.natCast_pow]; rfl
theorem mk_zero (n : Nat) : (0 : Int) = mk n fun _ => false := by
  unfold mk
  rw [← mkN_is (x := 0) (f := fun _ => false) (Nat.two_pow_pos n) fun i _ => Nat.zero_testBit i]; rfl
theorem mk_not (n : Nat) (f : Nat → Bool) : Builtin.bitXor (mk n fun _ => true) (mk n f) = mk n fun i => !f i := by
  rw [mk_xor]
  exact mk_congr fun i _ => by cases f i <;> rfl
theorem mk_andnot (n : Nat) (f g : Nat → Bool) : Builtin.bitAnd (mk n f) (Builtin.bitNot (mk n g)) = mk n fun i => f i && !g i := by
  have a := mk_and n f g
  unfold mk at a ⊢
  rw [bAndNot]
  rw [bAnd] at a
  rw [a]
  have e : mkN n f = mkN n (fun i => f i && !g i) + mkN n (fun i => f i && g i) := by
    clear a
    induction n with
    | zero => rfl
    | succ n ih =>
      show 2 ^ n * (f n).toNat + mkN n f = 2 ^ n * (f n && !g n).toNat + mkN n (fun i => f i && !g i) + (2 ^ n * (f n && g n).toNat + mkN n fun i => f i && g i)
      rw [ih]
      cases f n <;> cases g n <;> simp <;> omega
  omega
theorem mk_eq0 {n : Nat} {f : Nat → Bool} : mk n f = 0 ↔ ∀ i, i < n → f i = false :=
  ⟨fun h => mk_inj (h.trans (mk_zero n)), fun h => (mk_congr h).trans (mk_zero n).symm⟩
/-- one bit of a number -/
theorem bit1 (x k : Nat) : Builtin.bitAnd ((x : Int) / 2 ^ k) 1 = b2n (x.testBit k) := by
  have e : (x : Int) / 2 ^ k = ((x / 2 ^ k : Nat) : Int) := by rw [Int.natCast_ediv, Int.natCast_pow]; rfl
  rw [e, show (1 : Int) = ((1 : Nat) : Int) from rfl, bAnd, Nat.and_one_is_mod, Nat.testBit_eq_decide_div_mod_eq]
  rcases Nat.mod_two_eq_zero_or_one (x / 2 ^ k) with q | q <;> rw [q] <;> rfl
theorem mk_bit {n : Nat} {f : Nat → Bool} {k : Nat} (h : k < n) : Builtin.bitAnd (mk n f / 2 ^ k) 1 = b2n (f k) := by
  unfold mk
  rw [bit1, mkN_bit, decide_eq_true h]; rfl
theorem mk_succ (n : Nat) (f : Nat → Bool) : mk (n + 1) f = mk n f + b2n (f n) * 2 ^ n := by
  unfold mk
  show ((2 ^ n * (f n).toNat + mkN n f : Nat) : Int) = _
  rw [Int.natCast_add, Int.natCast_mul, Int.natCast_pow]
  cases f n
  · simp [b2n]
  · simp [b2n]; omega
theorem rngL_succ (lo : Int) (n : Nat) : rngL lo (n + 1) = rngL lo n ++ [lo + n] := by
  unfold rngL
  rw [List.range_succ, List.map_append]; rfl
theorem sum_mk (f : Nat → Bool) : ∀ n : Nat, ((rngL 0 n).map fun x : Int => b2n (f x.toNat) * 2 ^ x.toNat).sum = mk n f
  | 0 => rfl
  | n + 1 => by
    rw [rngL_succ, List.map_append, List.sum_append, sum_mk f n, mk_succ]
    simp
/-- how many bits are 1 -/
def cntB : Nat → (Nat → Bool) → Nat
  | 0, _ => 0
  | n + 1, f => cntB n f + (f n).toNat
theorem cntB_le : ∀ (n : Nat) (f : Nat → Bool), cntB n f ≤ n
  | 0, _ => Nat.le_refl _
  | n + 1, f => by have := cntB_le n f; unfold cntB; cases f n <;> simp <;> omega
theorem cntB_congr : ∀ {n : Nat} {f g : Nat → Bool}, (∀ i, i < n → f i = g i) → cntB n f = cntB n g
  | 0, _, _, _ => rfl
  | n + 1, f, g, h => by unfold cntB; rw [cntB_congr fun i q => h i (by omega), h n (by omega)]
theorem cntB_zero {n : Nat} {f : Nat → Bool} (h : ∀ i, i < n → f i = false) : cntB n f = 0 := by
  induction n with
  | zero => rfl
  | succ n ih => unfold cntB; rw [ih fun i q => h i (by omega), h n (by omega)]; rfl
theorem cntB_drop {f : Nat → Bool} {j : Nat} (hj : f j = true) : ∀ {n : Nat}, j < n → cntB n f = cntB n (fun i => f i && decide (i ≠ j)) + 1
  | 0, h => by omega
  | n + 1, h => by
    unfold cntB
    by_cases e : j = n
    · subst e
      rw [cntB_congr (g := fun i => f i && decide (i ≠ j)) fun i q => by rw [decide_eq_true (by omega)]; simp, hj]
      simp
    · rw [cntB_drop hj (by omega : j < n)]
      have z : (fun i => f i && decide (i ≠ j)) n = f n := by
        show (f n && decide (n ≠ j)) = f n
        rw [decide_eq_true (by omega : n ≠ j)]; simp
      rw [z]
      omega
/-- the first bit that is 1 -/
theorem low_bit : ∀ (n : Nat) (f : Nat → Bool), (∃ i, i < n ∧ f i = true) → ∃ j, j < n ∧ f j = true ∧ ∀ i, i < j → f i = false
  | 0, f, ⟨i, h, _⟩ => by omega
  | n + 1, f, ⟨i, h, q⟩ => by
    by_cases c : ∃ i, i < n ∧ f i = true
    · obtain ⟨j, a, b, d⟩ := low_bit n f c
      exact ⟨j, by omega, b, d⟩
    · have e : i = n := by
        rcases Nat.lt_or_ge i n with z | z
        · exact absurd ⟨i, z, q⟩ c
        · omega
      subst e
      refine ⟨i, h, q, fun k hk => ?_⟩
      cases z : f k with
      | false => rfl
      | true => exact absurd ⟨k, hk, z⟩ c
theorem clear_low {n : Nat} {f : Nat → Bool} {j : Nat} (h : j < n) (hj : f j = true) (hl : ∀ i, i < j → f i = false) : Builtin.bitAnd (mk n f) (mk n f - 1) = mk n fun i => f i && decide (i ≠ j) := by
  have x1 : mkN n f % 2 ^ (j + 1) = 2 ^ j := by
    apply Nat.eq_of_testBit_eq
    intro i
    rw [Nat.testBit_mod_two_pow, mkN_bit, Nat.testBit_two_pow]
    by_cases q : i < j
    · rw [hl i q, decide_eq_false (by omega : ¬j = i)]; simp
    · by_cases e : i = j
      · subst e; rw [hj]; simp; omega
      · rw [decide_eq_false (by omega : ¬i < j + 1), decide_eq_false (by omega : ¬j = i)]; simp
  have x2 := Nat.div_add_mod (mkN n f) (2 ^ (j + 1))
  rw [x1] at x2
  generalize ea : mkN n f / 2 ^ (j + 1) = a at x2
  have p := Nat.two_pow_pos j
  have pp : 2 ^ j < 2 ^ (j + 1) := by rw [Nat.pow_succ]; omega
  have x3 : mkN n f - 1 = 2 ^ (j + 1) * a + (2 ^ j - 1) := by omega
  have x4 : mk n f - 1 = ((mkN n f - 1 : Nat) : Int) := by unfold mk; omega
  rw [x4]
  unfold mk
  rw [bAnd]
  refine congrArg _ (mkN_is (Nat.lt_of_le_of_lt Nat.and_le_left (mkN_lt n f)) fun i q => ?_)
  rw [Nat.testBit_and, x3, Nat.testBit_two_pow_mul_add _ (by omega), mkN_bit, decide_eq_true q, Nat.testBit_two_pow_sub_one]
  by_cases c : i < j + 1
  · rw [if_pos c]
    by_cases e : i = j
    · subst e; simp
    · rw [hl i (by omega)]; simp
  · rw [if_neg c]
    have e1 : (mkN n f).testBit i = f i := by rw [mkN_bit, decide_eq_true q]; rfl
    rw [← x2, Nat.testBit_two_pow_mul_add _ pp, if_neg c] at e1
    rw [e1, decide_eq_true (by omega : i ≠ j)]
    cases f i <;> rfl
end TL

namespace W
open PySem L2 TL
open Enc
abbrev Net := T3 (List (Str × Int)) (List (T3 Str (Tp Int) Bool)) (List (Str × (Tp Int)))
abbrev Gt := T3 Str (Tp Int) Bool
theorem bq {α β : Type} {m : Option α} {x : α} {f : α → Option β} {y : Option β} (e : m = some x) (h : f x = y) : m.bind f = y := by
  subst e
  exact h
theorem oq {α β : Type} {m : Option α} {x : α} {f : α → Option β} {P : β → Prop} (e : m = some x) (h : Ok (f x) P) : Ok (m.bind f) P := by
  subst e
  exact h
theorem bsome {α : Type} (m : Option α) : (m.bind fun x => some x) = m := by cases m <;> rfl
theorem rngL_cons (lo : Int) (n : Nat) : rngL lo (n + 1) = lo :: rngL (lo + 1) n := by
  unfold rngL
  rw [List.range_succ_eq_map, List.map_cons, List.map_map]
  congr 1
  · simp
  · refine List.map_congr_left fun i _ => ?_
    show lo + ((i + 1 : Nat) : Int) = lo + 1 + (i : Int)
    omega
def kinds5 : List Str := [("not" : Str), ("and" : Str), ("or" : Str), ("xor" : Str), ("vote" : Str)]
def cnt (kd : Str) : Int := (dlit [(("not" : Str), (1 : Int)), (("vote" : Str), (3 : Int))] kd).getD (2 : Int)
def GtOk (top : Int) (g : Gt) : Prop := g.a ∈ kinds5 ∧ (g.b.l.length : Int) = cnt g.a ∧ ∀ w ∈ g.b.l, 0 ≤ w ∧ w < top
theorem cnt_in {kd : Str} (h : kd ∈ kinds5) : 1 ≤ cnt kd ∧ cnt kd ≤ 3 := mem_dec (xs := kinds5) (fun t => 1 ≤ cnt t ∧ cnt t ≤ 3) (by decide +kernel) kd h
theorem kd_ok {kd : Str} (h : kd ∈ kinds5) : EqD.ok kd = true := mem_dec (xs := kinds5) (fun t => EqD.ok t = true) (by decide +kernel) kd h
theorem gt_ok {top : Int} {g : Gt} (h : GtOk top g) : EqD.ok g = true := by
  show (EqD.ok g.a && (g.b.l.all (fun _ => true) && true)) = true
  rw [kd_ok h.1]; simp
def ah (n : Net) : Int := (n.a.map (fun x => x.2)).sum
/-- a net that can be run -/
structure Wf (n : Net) : Prop where
  al : n.a.length ≤ 6
  w : ∀ x ∈ n.a, 0 ≤ x.2 ∧ x.2 ≤ 3
  gl : n.b.length ≤ 400
  gs : ∀ (i : Nat) g, n.b[i]? = some g → GtOk (ah n + (i : Int)) g
  cl : n.c.length ≤ 1000
  os : ∀ o ∈ n.c, (1 ≤ o.2.l.length ∧ o.2.l.length ≤ 3) ∧ ∀ w ∈ o.2.l, 0 ≤ w ∧ w < ah n + (n.b.length : Int)
theorem sum_le3 {xs : List (Str × Int)} (h : ∀ x ∈ xs, 0 ≤ x.2 ∧ x.2 ≤ 3) : 0 ≤ (xs.map (fun x => x.2)).sum ∧ (xs.map (fun x => x.2)).sum ≤ 3 * (xs.length : Int) := by
  induction xs with
  | nil => simp
  | cons x xs ih =>
    have h1 := ih fun y hy => h y (List.mem_cons_of_mem _ hy)
    have h2 := h x (List.mem_cons_self ..)
    rw [List.map_cons, List.sum_cons, List.length_cons]
    omega
theorem Wf.ah {n : Net} (h : Wf n) : 0 ≤ ah n ∧ ah n ≤ 18 := by
  have := sum_le3 h.w
  have := h.al
  unfold W.ah
  omega
/-! ### what the wires tell at one input -/
abbrev Bs := List Bool
def atB (s : Bs) (w : Int) : Bool := s.getD w.toNat false
def gB (kd : Str) (l : Bs) : Bool :=
  if kd = ("not" : Str) then !l.getD 0 false
  else if kd = ("and" : Str) then l.getD 0 false && l.getD 1 false
  else if kd = ("or" : Str) then l.getD 0 false || l.getD 1 false
  else if kd = ("xor" : Str) then l.getD 0 false ^^ l.getD 1 false
  else (l.getD 0 false && l.getD 1 false || l.getD 0 false && l.getD 2 false) || l.getD 1 false && l.getD 2 false
def goB (T : Int → Bool) : List Gt → Int → Bs → Bs
  | [], _, s => s
  | g :: gs, p, s => goB T gs (p + 1) (s ++ [gB g.a (g.b.l.map (atB s)) ^^ T p])
def repB (B : Int → Bool) (v : Bool) : Nat → Bs → Bs
  | 0, s => s
  | m + 1, s => repB B v m (s ++ [v ^^ B s.length])
def insB (B : Int → Bool) : List (Str × Int) → Nat → Bs → Bs → Bs
  | [], _, _, s => s
  | x :: xs, k, b, s => insB B xs (k + 1) b (repB B (b.getD k false) x.2.toNat s)
def rdB (l : Bs) : Bool × Bool := if l.length = 1 then (l.getD 0 false, false) else if l.length = 2 then (l.getD 0 false && l.getD 1 false, l.getD 0 false ^^ l.getD 1 false) else (gB ("vote" : Str) l, false)
/-- all wires -/
def WB (n : Net) (b : Bs) (T B : Int → Bool) : Bs := goB T n.b 0 (insB B n.a 0 b [])
def no : Int → Bool := fun _ => false
def inT (l : List Int) : Int → Bool := fun p => decide (p ∈ l)
theorem inT_nil : inT [] = no := by funext p; simp [inT, no]
theorem goB_len (T : Int → Bool) : ∀ (gs : List Gt) (p : Int) (s : Bs), (goB T gs p s).length = s.length + gs.length
  | [], _, s => rfl
  | g :: gs, p, s => by unfold goB; rw [goB_len T gs]; simp; omega
theorem getD_app (s : Bs) (v : Bool) (k : Nat) : (s ++ [v]).getD k false = if k < s.length then s.getD k false else if k = s.length then v else false := by
  rw [List.getD_eq_getElem?_getD, List.getD_eq_getElem?_getD, List.getElem?_append]
  split
  · rfl
  · rename_i h
    split
    · rename_i e; subst e; simp
    · rw [List.getElem?_eq_none (by simp; omega)]; rfl
theorem atB_app (s : Bs) (v : Bool) (w : Int) (h0 : 0 ≤ w) : atB (s ++ [v]) w = if w < s.length then atB s w else if w = s.length then v else false := by
  unfold atB
  rw [getD_app]
  by_cases c : w < s.length
  · rw [if_pos c, if_pos (by omega)]
  · rw [if_neg c, if_neg (by omega)]
    by_cases e : w = s.length
    · rw [if_pos e, if_pos (by omega)]
    · rw [if_neg e, if_neg (by omega)]
theorem goB_low (T : Int → Bool) : ∀ (gs : List Gt) (p : Int) (s : Bs) (w : Int), 0 ≤ w → w < s.length → atB (goB T gs p s) w = atB s w
  | [], _, s, w, _, _ => rfl
  | g :: gs, p, s, w, h0, h1 => by
    unfold goB
    rw [goB_low T gs _ _ w h0 (by rw [List.length_append]; omega), atB_app _ _ _ h0, if_pos h1]
theorem goB_app (T : Int → Bool) : ∀ (gs hs : List Gt) (p : Int) (s : Bs), goB T (gs ++ hs) p s = goB T hs (p + gs.length) (goB T gs p s)
  | [], hs, p, s => by simp [goB]
  | g :: gs, hs, p, s => by
    show goB T (gs ++ hs) (p + 1) (s ++ [gB g.a (g.b.l.map (atB s)) ^^ T p]) = goB T hs _ (goB T gs (p + 1) (s ++ [gB g.a (g.b.l.map (atB s)) ^^ T p]))
    rw [goB_app T gs hs, List.length_cons, show p + 1 + (gs.length : Int) = p + ((gs.length + 1 : Nat) : Int) by omega]
theorem goB_congr {T U : Int → Bool} : ∀ (gs : List Gt) (p : Int) (s : Bs), (∀ q : Int, p ≤ q → q < p + gs.length → T q = U q) → goB T gs p s = goB U gs p s
  | [], _, _, _ => rfl
  | g :: gs, p, s, h => by
    unfold goB
    rw [h p (by omega) (by rw [List.length_cons]; omega)]
    exact goB_congr gs (p + 1) _ fun q a c => h q (by omega) (by rw [List.length_cons]; omega)
/-- the gates ahead of a place -/
theorem goB_take (T : Int → Bool) (gs : List Gt) (p : Int) (s : Bs) (k : Nat) (hk : k ≤ gs.length) : (goB T gs p s).take (s.length + k) = goB T (gs.take k) p s := by
  have e := goB_app T (gs.take k) (gs.drop k) p s
  rw [List.take_append_drop] at e
  have pre : ∀ (hs : List Gt) (q : Int) (t : Bs), ∃ u, goB T hs q t = t ++ u := by
    intro hs
    induction hs with
    | nil => exact fun q t => ⟨[], by simp [goB]⟩
    | cons h hs ih =>
      intro q t
      obtain ⟨u, hu⟩ := ih (q + 1) (t ++ [gB h.a (h.b.l.map (atB t)) ^^ T q])
      exact ⟨_, by unfold goB; rw [hu, List.append_assoc]⟩
  obtain ⟨u, hu⟩ := pre (gs.drop k) (p + (gs.take k).length) (goB T (gs.take k) p s)
  rw [e, hu, List.take_append_of_le_length (by rw [goB_len, List.length_take]; omega), List.take_of_length_le (by rw [goB_len, List.length_take]; omega)]
theorem goB_from {T : Int → Bool} (gs : List Gt) (s : Bs) (k : Nat) (hk : k ≤ gs.length) (hT : ∀ q : Int, q < k → T q = false) : goB T (gs.drop k) k ((goB no gs 0 s).take (s.length + k)) = goB T gs 0 s := by
  rw [goB_take no gs 0 s k hk]
  have e := goB_app T (gs.take k) (gs.drop k) 0 s
  rw [List.take_append_drop] at e
  have l : (gs.take k).length = k := by rw [List.length_take]; omega
  rw [e, l, Int.zero_add]
  congr 1
  exact goB_congr _ _ _ fun q a c => by rw [l] at c; rw [hT q (by omega)]; rfl
theorem repB_len (B : Int → Bool) (v : Bool) : ∀ (m : Nat) (s : Bs), (repB B v m s).length = s.length + m
  | 0, s => rfl
  | m + 1, s => by unfold repB; rw [repB_len B v m]; simp; omega
theorem insB_len (B : Int → Bool) : ∀ (xs : List (Str × Int)) (k : Nat) (b s : Bs), (∀ x ∈ xs, 0 ≤ x.2) → ((insB B xs k b s).length : Int) = s.length + (xs.map (fun x => x.2)).sum
  | [], _, _, s, _ => by simp [insB]
  | x :: xs, k, b, s, h => by
    have := h x (List.mem_cons_self ..)
    unfold insB
    rw [insB_len B xs _ _ _ fun y hy => h y (List.mem_cons_of_mem _ hy), repB_len, List.map_cons, List.sum_cons]
    omega
theorem WB_ins {n : Net} (h : Wf n) (b : Bs) (B : Int → Bool) : ((insB B n.a 0 b []).length : Int) = ah n := by
  rw [insB_len B n.a 0 b [] fun x hx => (h.w x hx).1]; simp [ah]
theorem WB_len {n : Net} (h : Wf n) (b : Bs) (T B : Int → Bool) : ((WB n b T B).length : Int) = ah n + n.b.length := by
  unfold WB
  rw [goB_len, Int.natCast_add, WB_ins h]
/-! ### all inputs at once -/
def mkL (N : Nat) (S : Nat → Bs) (L : Nat) : List Int := (List.range L).map fun k => mk N fun i => (S i).getD k false
theorem mkL_len (N : Nat) (S : Nat → Bs) (L : Nat) : (mkL N S L).length = L := by unfold mkL; simp
theorem mkL_get (N : Nat) (S : Nat → Bs) (L k : Nat) (h : k < L) : (mkL N S L)[k]? = some (mk N fun i => (S i).getD k false) := by
  unfold mkL
  rw [List.getElem?_map, List.getElem?_range h]; rfl
theorem mkL_at {N : Nat} {S : Nat → Bs} {L : Nat} {w : Int} (h0 : 0 ≤ w) (h1 : w < L) : L2.atI (mkL N S L) w = some (mk N fun i => atB (S i) w) := by
  unfold L2.atI ixN
  rw [if_pos h0, if_pos (by rw [mkL_len]; exact h1)]
  exact mkL_get N S L w.toNat (by omega)
theorem mkL_app {N : Nat} {S : Nat → Bs} {L : Nat} (f : Nat → Bool) (h : ∀ i, (S i).length = L) : mkL N (fun i => S i ++ [f i]) (L + 1) = mkL N S L ++ [mk N f] := by
  unfold mkL
  rw [List.range_succ, List.map_append]
  congr 1
  · refine List.map_congr_left fun k hk => mk_congr fun i _ => ?_
    rw [getD_app, h i, if_pos (List.mem_range.mp hk)]
  · show [mk N _] = [mk N f]
    congr 1
    exact mk_congr fun i _ => by rw [getD_app, h i, if_neg (by omega), if_pos rfl]
theorem mkL_congr {N : Nat} {S U : Nat → Bs} {L : Nat} (h : ∀ i, i < N → S i = U i) : mkL N S L = mkL N U L := by
  unfold mkL
  exact List.map_congr_left fun k _ => mk_congr fun i q => by rw [h i q]
theorem mkL_take {N : Nat} {S : Nat → Bs} {L m : Nat} (h : m ≤ L) : (mkL N S L).take m = mkL N (fun i => (S i).take m) m := by
  unfold mkL
  rw [← List.map_take, List.take_range, Nat.min_eq_left h]
  refine List.map_congr_left fun k hk => mk_congr fun i _ => ?_
  rw [List.getD_eq_getElem?_getD, List.getD_eq_getElem?_getD, List.getElem?_take_of_lt (List.mem_range.mp hk)]
end W

namespace W
open PySem L2 TL
open Enc
theorem gate_mask {t : Bool} {N : Nat} {kd : Str} {ws : List Int} {S : Nat → Bs} (hk : kd ∈ kinds5) (hl : (ws.length : Int) = cnt kd) :
    m_gate_bits kd (Sq.mk t (ws.map fun w => mk N fun i => atB (S i) w)) (mk N fun _ => true) = some (mk N fun i => gB kd (ws.map (atB (S i)))) := by
  have c : kd = ("not" : Str) ∨ kd = ("and" : Str) ∨ kd = ("or" : Str) ∨ kd = ("xor" : Str) ∨ kd = ("vote" : Str) := by simpa [kinds5] using hk
  rcases c with e | e | e | e | e <;> subst e
  · match ws, hl with
    | [a], _ =>
      show some (Builtin.bitXor (mk N fun _ => true) (mk N fun i => atB (S i) a)) = _
      rw [mk_not]; rfl
    | [], h => exact absurd h (by decide)
    | _ :: _ :: ws, h => exact absurd h (by rw [show cnt ("not" : Str) = 1 by decide]; simp; omega)
  · match ws, hl with
    | [a, b], _ =>
      show some (Builtin.bitAnd (mk N fun i => atB (S i) a) (mk N fun i => atB (S i) b)) = _
      rw [mk_and]; rfl
    | [], h => exact absurd h (by decide)
    | [_], h => exact absurd h (by rw [show cnt ("and" : Str) = 2 by decide]; simp)
    | _ :: _ :: _ :: ws, h => exact absurd h (by rw [show cnt ("and" : Str) = 2 by decide]; simp; omega)
  · match ws, hl with
    | [a, b], _ =>
      show some (Builtin.bitOr (mk N fun i => atB (S i) a) (mk N fun i => atB (S i) b)) = _
      rw [mk_or]; rfl
    | [], h => exact absurd h (by decide)
    | [_], h => exact absurd h (by rw [show cnt ("or" : Str) = 2 by decide]; simp)
    | _ :: _ :: _ :: ws, h => exact absurd h (by rw [show cnt ("or" : Str) = 2 by decide]; simp; omega)
  · match ws, hl with
    | [a, b], _ =>
      show some (Builtin.bitXor (mk N fun i => atB (S i) a) (mk N fun i => atB (S i) b)) = _
      rw [mk_xor]; rfl
    | [], h => exact absurd h (by decide)
    | [_], h => exact absurd h (by rw [show cnt ("xor" : Str) = 2 by decide]; simp)
    | _ :: _ :: _ :: ws, h => exact absurd h (by rw [show cnt ("xor" : Str) = 2 by decide]; simp; omega)
  · match ws, hl with
    | [a, b, c], _ =>
      show some (Builtin.bitOr (Builtin.bitOr (Builtin.bitAnd (mk N fun i => atB (S i) a) (mk N fun i => atB (S i) b)) (Builtin.bitAnd (mk N fun i => atB (S i) a) (mk N fun i => atB (S i) c))) (Builtin.bitAnd (mk N fun i => atB (S i) b) (mk N fun i => atB (S i) c))) = _
      rw [mk_and, mk_and, mk_and, mk_or, mk_or]; rfl
    | [], h => exact absurd h (by decide)
    | [_], h => exact absurd h (by rw [show cnt ("vote" : Str) = 3 by decide]; simp)
    | [_, _], h => exact absurd h (by rw [show cnt ("vote" : Str) = 3 by decide]; simp)
    | _ :: _ :: _ :: _ :: ws, h => exact absurd h (by rw [show cnt ("vote" : Str) = 3 by decide]; simp; omega)
theorem mapO_mask {N L : Nat} {S : Nat → Bs} {l : List Int} (h : ∀ w ∈ l, 0 ≤ w ∧ w < (L : Int)) : mapO (fun (x15 : Int) => (L2.atI (mkL N S L) x15).bind fun t20 => some (t20 : Int)) l = some (l.map fun w => mk N fun i => atB (S i) w) := by
  induction l with
  | nil => rfl
  | cons w l ih =>
    have := h w (List.mem_cons_self ..)
    unfold mapO
    exact bq (bq (mkL_at this.1 this.2) rfl) (bq (ih fun y hy => h y (List.mem_cons_of_mem _ hy)) rfl)
theorem go_mask {n : Net} (hw : Wf n) {N L : Nat} (turned : Tp Int) : ∀ (k p : Nat) (S : Nat → Bs), p + k = n.b.length → (L : Int) = ah n + p → (∀ i, (S i).length = L) → ∀ M, M = L + k →
    forS (S := List Int) (fun (x8 : Int) (s7 : List Int) => (
(atI n.b x8).bind fun t12 =>
(mapO (fun (x15 : Int) => (atI s7 x15).bind fun t20 => some (t20 : Int)) t12.b.l).bind fun l22 =>
(m_gate_bits t12.a (Sq.mk false l22) (mk N fun _ => true)).bind fun r24 =>
(if (decide (x8 ∈ turned.l)) = true then (
(some (Builtin.bitXor (mk N fun _ => true) r24)).bind fun v28 =>
some v28)
else (
some r24) : Option (Int)).bind fun j26 =>
(appO s7 j26).bind fun u30 =>
some u30 : Option (List Int))) (rngL (p : Int) k) (mkL N S L) = some (mkL N (fun i => goB (inT turned.l) (n.b.drop p) p (S i)) M) := by
  intro k
  induction k generalizing L with
  | zero =>
    intro p S hp hL hS M hM
    subst hM
    rw [List.drop_of_length_le (by omega)]
    rfl
  | succ k ih =>
    intro p S hp hL hS M hM
    have hp' : p < n.b.length := by omega
    have eg : n.b[p]? = some n.b[p] := List.getElem?_eq_getElem hp'
    obtain ⟨g1, g2, g3⟩ := hw.gs p _ eg
    have gl := hw.gl
    have a0 := hw.ah
    have a1 : L2.atI n.b (p : Int) = some n.b[p] := by
      unfold L2.atI ixN
      rw [if_pos (by omega), if_pos (by omega)]
      exact eg
    rw [rngL_cons, List.drop_eq_getElem_cons hp']
    have a2 := mapO_mask (N := N) (S := S) (L := L) (l := n.b[p].b.l) fun w hw' => by have := g3 w hw'; omega
    have a3 := gate_mask (t := false) (N := N) (S := S) g1 g2
    generalize n.b[p] = g at a1 a2 a3
    have step : ∀ f : Nat → Bool, appO (mkL N S L) (mk N f) = some (mkL N (fun i => S i ++ [f i]) (L + 1)) := fun f => by
      rw [mkL_app f hS]
      exact if_pos (by rw [mkL_len]; omega)
    have nxt := ih (L := L + 1) (p + 1) (fun i => S i ++ [gB g.a (g.b.l.map (atB (S i))) ^^ inT turned.l p]) (by omega) (by omega) (fun i => by rw [List.length_append, hS i]; rfl) M (by omega)
    unfold forS
    refine bq ?_ nxt
    refine bq a1 (bq a2 (bq a3 (bq (x := mk N fun i => gB g.a (g.b.l.map (atB (S i))) ^^ inT turned.l p) ?_ (bq (step _) rfl))))
    unfold inT
    cases decide ((p : Int) ∈ turned.l) with
    | true =>
      rw [if_pos rfl, mk_not]
      show some _ = some _
      congr 1
      exact mk_congr fun i _ => by simp
    | false =>
      rw [if_neg (by decide)]
      congr 1
      exact mk_congr fun i _ => by simp
theorem gone_mask {n : Net} (hw : Wf n) {N L p : Nat} {S : Nat → Bs} (turned : Tp Int) (hp : p ≤ n.b.length) (hL : (L : Int) = ah n + p) (hS : ∀ i, (S i).length = L) :
    m_gone_on n (mkL N S L) (mk N fun _ => true) turned = some (mkL N (fun i => goB (inT turned.l) (n.b.drop p) p (S i)) (L + (n.b.length - p))) := by
  have gl := hw.gl
  unfold m_gone_on
  refine bq (x := ah n) rfl (bq (x := rngL (p : Int) (n.b.length - p)) ?_ (bq (go_mask hw turned (n.b.length - p) p S (by omega) hL hS _ rfl) rfl))
  unfold rng2O
  rw [mkL_len, if_pos (by omega), show (L : Int) - ah n = p by omega, show ((n.b.length : Int) - (p : Int)).toNat = n.b.length - p by omega]
/-! ### the ins' wires -/
theorem rep_mask {N : Nat} (bad : Tp Int) (f : Nat → Bool) : ∀ (l : List Int) (L : Nat) (S : Nat → Bs), (∀ i, (S i).length = L) → L + l.length ≤ 1000 → forS (S := List Int) (fun (x14 : Int) (s13 : List Int) => (
(if (decide ((s13.length : Int) ∈ bad.l)) = true then (
(appO s13 (Builtin.bitXor (mk N fun _ => true) (mk N f))).bind fun u20 =>
some u20)
else (
(appO s13 (mk N f)).bind fun u22 =>
some u22) : Option (List Int)).bind fun j18 =>
some j18 : Option (List Int))) l (mkL N S L) = some (mkL N (fun i => repB (inT bad.l) (f i) l.length (S i)) (L + l.length))
  | [], L, S, _, _ => rfl
  | y :: l, L, S, h, hl => by
    rw [List.length_cons] at hl
    have ih := rep_mask (N := N) bad f l (L + 1) (fun i => S i ++ [f i ^^ inT bad.l L]) (fun i => by rw [List.length_append, h i]; rfl) (by omega)
    have step : ∀ f : Nat → Bool, appO (mkL N S L) (mk N f) = some (mkL N (fun i => S i ++ [f i]) (L + 1)) := fun f => by
      rw [mkL_app f h]
      exact if_pos (by rw [mkL_len]; omega)
    rw [List.length_cons, show L + (l.length + 1) = L + 1 + l.length by omega]
    have e : (fun i => repB (inT bad.l) (f i) (l.length + 1) (S i)) = fun i => repB (inT bad.l) (f i) l.length (S i ++ [f i ^^ inT bad.l L]) := by
      funext i
      show repB _ _ l.length (S i ++ [f i ^^ inT bad.l (S i).length]) = _
      rw [h i]
    rw [e]
    unfold forS
    refine bq ?_ ih
    rw [bsome, mkL_len]
    unfold inT
    cases decide ((L : Int) ∈ bad.l) with
    | true =>
      rw [if_pos rfl, bsome, mk_not, step]
      congr 3
      funext i
      simp
    | false =>
      rw [if_neg (by decide), bsome, step]
      congr 3
      funext i
      simp
theorem ins_mask {N : Nat} (bad : Tp Int) (b : Nat → Bs) : ∀ (xs : List (Str × Int)) (k L : Nat) (S : Nat → Bs), (∀ i, (S i).length = L) → (∀ x ∈ xs, 0 ≤ x.2 ∧ x.2 ≤ 3) → L + 3 * xs.length ≤ 1000 → ∀ M : Nat, (M : Int) = L + (xs.map (fun x => x.2)).sum →
    forS (S := List Int) (fun (x6 : ((Str × Int) × Int)) (s5 : List Int) => (
(rngO x6.1.2).bind fun l10 =>
(forS (S := List Int) (fun (x14 : Int) (s13 : List Int) => (
(if (decide ((s13.length : Int) ∈ bad.l)) = true then (
(appO s13 (Builtin.bitXor (mk N fun _ => true) x6.2)).bind fun u20 =>
some u20)
else (
(appO s13 x6.2).bind fun u22 =>
some u22) : Option (List Int)).bind fun j18 =>
some j18 : Option (List Int))) l10 s5).bind fun s24 =>
some s24 : Option (List Int))) (xs.zip ((List.range' k xs.length).map fun j => mk N fun i => (b i).getD j false)) (mkL N S L) = some (mkL N (fun i => insB (inT bad.l) xs k (b i) (S i)) M)
  | [], k, L, S, _, _, _, M, hM => by
    have : M = L := by simp at hM; omega
    subst this; rfl
  | x :: xs, k, L, S, h, hx, hl, M, hM => by
    have h1 := hx x (List.mem_cons_self ..)
    rw [List.length_cons] at hl
    rw [List.map_cons, List.sum_cons] at hM
    have ih := ins_mask (N := N) bad b xs (k + 1) (L + x.2.toNat) (fun i => repB (inT bad.l) ((b i).getD k false) x.2.toNat (S i)) (fun i => by rw [repB_len, h i]) (fun y hy => hx y (List.mem_cons_of_mem _ hy)) (by omega) M (by omega)
    have r : rngO x.2 = some (rngL 0 x.2.toNat) := if_pos ⟨by omega, by omega⟩
    have q := rep_mask (N := N) bad (fun i => (b i).getD k false) (rngL 0 x.2.toNat) L S h (by rw [rngL_length]; omega)
    rw [rngL_length] at q
    rw [List.length_cons, List.range'_succ, List.map_cons, List.zip_cons_cons]
    unfold forS
    exact bq (bq r (bq q rfl)) ih
theorem inw_mask {t : Bool} {n : Net} (hw : Wf n) {N : Nat} (b : Nat → Bs) (bad : Tp Int) : m_ins_wires n (Sq.mk t (mkL N b n.a.length)) (mk N fun _ => true) bad = some (mkL N (fun i => insB (inT bad.l) n.a 0 (b i) []) (ah n).toNat) := by
  have al := hw.al
  have a0 := hw.ah
  have q := ins_mask (N := N) bad b n.a 0 0 (fun _ => []) (fun _ => rfl) hw.w (by omega) (ah n).toNat (by simp [ah] at a0 ⊢; omega)
  unfold m_ins_wires
  refine bq rfl (bq (x := mkL N (fun i => insB (inT bad.l) n.a 0 (b i) []) (ah n).toNat) ?_ rfl)
  rw [← q]
  congr 2
  unfold mkL
  rw [List.range_eq_range']
/-! ### all inputs -/
def inB (m i : Nat) : Bs := (List.range m).map fun k => i.testBit (m - 1 - k)
theorem inB_get {m i k : Nat} (h : k < m) : (inB m i).getD k false = i.testBit (m - 1 - k) := by
  unfold inB
  rw [List.getD_eq_getElem?_getD, List.getElem?_map, List.getElem?_range h]; rfl
theorem inB_len (m i : Nat) : (inB m i).length = m := by unfold inB; simp
end W

namespace W
open PySem L2 TL
open Enc
theorem at_b2n {s : Bs} {w : Int} (h0 : 0 ≤ w) (h1 : w < s.length) : L2.atI (s.map b2n) w = some (b2n (atB s w)) := by
  unfold L2.atI ixN
  rw [if_pos h0, if_pos (by rw [List.length_map]; exact h1)]
  show (s.map b2n)[w.toNat]? = _
  rw [List.getElem?_map, List.getElem?_eq_getElem (by omega)]
  unfold atB
  rw [List.getD_eq_getElem?_getD, List.getElem?_eq_getElem (by omega)]; rfl
theorem mapO_b2n {s : Bs} {l : List Int} (h : ∀ w ∈ l, 0 ≤ w ∧ w < (s.length : Int)) : mapO (fun (x15 : Int) => (L2.atI (s.map b2n) x15).bind fun t20 => some (t20 : Int)) l = some ((l.map (atB s)).map b2n) := by
  induction l with
  | nil => rfl
  | cons w l ih =>
    have := h w (List.mem_cons_self ..)
    unfold mapO
    exact bq (bq (at_b2n this.1 this.2) rfl) (bq (ih fun y hy => h y (List.mem_cons_of_mem _ hy)) rfl)
theorem app_b2n {s : Bs} {v : Bool} (h : s.length < 16777216) : appO (s.map b2n) (b2n v) = some ((s ++ [v]).map b2n) := by
  unfold appO
  rw [List.length_map, if_pos h, List.map_append]; rfl
theorem b2n_inj : ∀ {a b : Bool}, b2n a = b2n b → a = b := by decide
theorem flip_at (v b : Bool) : L2.atI [b2n v, (1 : Int) - b2n v] (b2n b) = some (b2n (v ^^ b)) := by cases v <;> cases b <;> rfl
theorem lb1 : ∀ a : Bool, m__law_bit ("not" : Str) [b2n a] = some (b2n (gB ("not" : Str) [a])) := by decide +kernel
theorem lb2 : ∀ a b : Bool, m__law_bit ("and" : Str) [b2n a, b2n b] = some (b2n (gB ("and" : Str) [a, b])) := by decide +kernel
theorem lb3 : ∀ a b : Bool, m__law_bit ("or" : Str) [b2n a, b2n b] = some (b2n (gB ("or" : Str) [a, b])) := by decide +kernel
theorem lb4 : ∀ a b : Bool, m__law_bit ("xor" : Str) [b2n a, b2n b] = some (b2n (gB ("xor" : Str) [a, b])) := by decide +kernel
theorem lb5 : ∀ a b c : Bool, m__law_bit ("vote" : Str) [b2n a, b2n b, b2n c] = some (b2n (gB ("vote" : Str) [a, b, c])) := by decide +kernel
theorem lbit {kd : Str} {l : Bs} (hk : kd ∈ kinds5) (hl : (l.length : Int) = cnt kd) : m__law_bit kd (l.map b2n) = some (b2n (gB kd l)) := by
  have c : kd = ("not" : Str) ∨ kd = ("and" : Str) ∨ kd = ("or" : Str) ∨ kd = ("xor" : Str) ∨ kd = ("vote" : Str) := by simpa [kinds5] using hk
  rcases c with e | e | e | e | e <;> subst e
  · match l, hl with
    | [a], _ => exact lb1 a
    | [], h => exact absurd h (by decide)
    | _ :: _ :: ws, h => exact absurd h (by rw [show cnt ("not" : Str) = 1 by decide]; simp; omega)
  · match l, hl with
    | [a, b], _ => exact lb2 a b
    | [], h => exact absurd h (by decide)
    | [_], h => exact absurd h (by rw [show cnt ("and" : Str) = 2 by decide]; simp)
    | _ :: _ :: _ :: ws, h => exact absurd h (by rw [show cnt ("and" : Str) = 2 by decide]; simp; omega)
  · match l, hl with
    | [a, b], _ => exact lb3 a b
    | [], h => exact absurd h (by decide)
    | [_], h => exact absurd h (by rw [show cnt ("or" : Str) = 2 by decide]; simp)
    | _ :: _ :: _ :: ws, h => exact absurd h (by rw [show cnt ("or" : Str) = 2 by decide]; simp; omega)
  · match l, hl with
    | [a, b], _ => exact lb4 a b
    | [], h => exact absurd h (by decide)
    | [_], h => exact absurd h (by rw [show cnt ("xor" : Str) = 2 by decide]; simp)
    | _ :: _ :: _ :: ws, h => exact absurd h (by rw [show cnt ("xor" : Str) = 2 by decide]; simp; omega)
  · match l, hl with
    | [a, b, c], _ => exact lb5 a b c
    | [], h => exact absurd h (by decide)
    | [_], h => exact absurd h (by rw [show cnt ("vote" : Str) = 3 by decide]; simp)
    | [_, _], h => exact absurd h (by rw [show cnt ("vote" : Str) = 3 by decide]; simp)
    | _ :: _ :: _ :: _ :: ws, h => exact absurd h (by rw [show cnt ("vote" : Str) = 3 by decide]; simp; omega)
/-! ### one input -/
theorem mk_1 (f : Nat → Bool) : mk 1 f = b2n (f 0) := by
  unfold TL.mk TL.mkN TL.mkN
  cases f 0 <;> rfl
theorem mk_11 : (1 : Int) = mk 1 fun _ => true := by rw [mk_1]; rfl
theorem mkL_1 {s : Bs} {L : Nat} (h : s.length = L) : mkL 1 (fun _ => s) L = s.map b2n := by
  apply List.ext_getElem?
  intro k
  rcases Nat.lt_or_ge k L with q | q
  · rw [mkL_get _ _ _ _ q, mk_1, List.getElem?_map, List.getElem?_eq_getElem (by omega), List.getD_eq_getElem?_getD, List.getElem?_eq_getElem (by omega)]
    rfl
  · rw [List.getElem?_eq_none (by rw [mkL_len]; exact q), List.getElem?_eq_none (by rw [List.length_map]; omega)]
theorem run_is {n : Net} (hw : Wf n) {b : Bs} (hb : b.length = n.a.length) (turned bad : Tp Int) : m_run n (Tp.mk (b.map b2n)) turned bad = some (n.c.map fun o => Tp.mk ((o.2.l.map (atB (WB n b (inT turned.l) (inT bad.l)))).map b2n)) := by
  have a0 := hw.ah
  have il := WB_ins hw b (inT bad.l)
  have wl := WB_len hw b (inT turned.l) (inT bad.l)
  have e1 := inw_mask (t := true) hw (N := 1) (fun _ => b) bad
  rw [mkL_1 hb, ← mk_11, mkL_1 (by omega)] at e1
  have e2 := gone_mask hw (N := 1) (L := (ah n).toNat) (p := 0) (S := fun _ => insB (inT bad.l) n.a 0 b []) turned (Nat.zero_le _) (by omega) fun _ => by omega
  rw [← mk_11, mkL_1 (by omega)] at e2
  have e3 : mkL 1 (fun _ => goB (inT turned.l) (n.b.drop 0) 0 (insB (inT bad.l) n.a 0 b [])) ((ah n).toNat + (n.b.length - 0)) = (WB n b (inT turned.l) (inT bad.l)).map b2n := mkL_1 (s := WB n b (inT turned.l) (inT bad.l)) (by omega)
  rw [show (fun (_ : Nat) => goB (inT turned.l) (n.b.drop 0) ((0 : Nat) : Int) (insB (inT bad.l) n.a 0 b [])) = fun _ => goB (inT turned.l) (n.b.drop 0) 0 (insB (inT bad.l) n.a 0 b []) from rfl, e3] at e2
  unfold m_run
  refine bq e1 (bq e2 ?_)
  generalize WB n b (inT turned.l) (inT bad.l) = s at wl
  have : ∀ os : List (Str × Tp Int), (∀ o ∈ os, o ∈ n.c) → mapO (fun (x32 : (Str × (Tp Int))) => (mapO (fun (x46 : Int) => (atI (s.map b2n) x46).bind fun t51 => some (t51 : Int)) x32.2.l).bind fun l53 => some ((Tp.mk l53) : (Tp Int))) os = some (os.map fun o => Tp.mk ((o.2.l.map (atB s)).map b2n)) := fun os ho => by
    induction os with
    | nil => rfl
    | cons o os ih =>
      have h2 := (hw.os o (ho o (List.mem_cons_self ..))).2
      unfold mapO
      exact bq (bq (mapO_b2n fun w hw' => by have := h2 w hw'; omega) rfl) (bq (ih fun y hy => ho y (List.mem_cons_of_mem _ hy)) rfl)
  exact bq (this n.c fun o ho => ho) rfl
end W

set_option synthInstance.maxHeartbeats 400000
set_option synthInstance.maxSize 2000
namespace W
open PySem L2 TL
open Enc
/-! ### two nets as one: what the parts of joined tell -/
abbrev NetJ := T3 (List (Str × Int)) (List (T3 Str (Tp Int) Bool)) (List (Str × Tp Int))
theorem jmapO {α β : Type} {f : α → Option β} (g : α → β) : ∀ (xs : List α), (∀ x ∈ xs, f x = some (g x)) → mapO f xs = some (xs.map g)
  | [], _ => rfl
  | x :: xs, h => by
    unfold mapO
    rw [h x (List.mem_cons_self ..), jmapO g xs fun y hy => h y (List.mem_cons_of_mem _ hy)]
    rfl
theorem jfiltO {α β : Type} {p : α → Option Bool} {f : α → Option β} (q : α → Bool) (g : α → β) : ∀ (xs : List α), (∀ x ∈ xs, p x = some (q x)) → (∀ x ∈ xs, q x = true → f x = some (g x)) → filtO p f xs = some ((xs.filter q).map g)
  | [], _, _ => rfl
  | x :: xs, h, k => by
    unfold filtO
    rw [h x (List.mem_cons_self ..), jfiltO q g xs (fun y hy => h y (List.mem_cons_of_mem _ hy)) fun y hy => k y (List.mem_cons_of_mem _ hy)]
    rw [List.filter_cons]
    cases e : q x with
    | false => rfl
    | true =>
      rw [if_pos rfl, Option.bind_some, if_pos rfl, k x (List.mem_cons_self ..) e]
      rfl
theorem jforF {α R : Type} {f : α → Unit → Option (Fl Unit R)} (c : α → Bool) (r : R) : ∀ (xs : List α), (∀ x ∈ xs, f x () = some (if c x = true then .rt r else .nx ())) → forF f xs () = some (if xs.any c = true then .rt r else .nx ())
  | [], _ => rfl
  | x :: xs, h => by
    have ih := jforF c r xs fun y hy => h y (List.mem_cons_of_mem _ hy)
    unfold forF
    rw [h x (List.mem_cons_self ..), List.any_cons]
    cases e : c x with
    | true => rfl
    | false => exact ih
theorem jatI {α : Type} {xs : List α} {i : Int} (d : α) (h0 : 0 ≤ i) (h1 : i < xs.length) : L2.atI xs i = some ((xs[i.toNat]?).getD d) := by
  obtain ⟨x, e, h⟩ := Ok.atI h0 h1
  rw [e, h]
  rfl
def sumI (a : List (Str × Int)) : Int := (a.map fun x => x.2).sum
def gI (l : List Int) (i : Int) : Int := (l[i.toNat]?).getD 0
def inA (n : NetJ) (k : Int) : Str × Int := (n.a[k.toNat]?).getD (("" : Str), 0)
def outA (n : NetJ) (k : Int) : Str × Tp Int := (n.c[k.toNat]?).getD (("" : Str), ⟨[]⟩)
structure Jn (n : NetJ) : Prop where
  al : n.a.length ≤ 20
  iw : ∀ x ∈ n.a, 1 ≤ x.2 ∧ x.2 ≤ 3
  bl : n.b.length ≤ 100
  gw : ∀ g ∈ n.b, ∀ w ∈ g.b.l, 0 ≤ w ∧ w < sumI n.a + n.b.length
  cl : n.c.length ≤ 20
  ow : ∀ o ∈ n.c, o.2.l.length ≤ 3 ∧ ∀ w ∈ o.2.l, 0 ≤ w ∧ w < sumI n.a + n.b.length
structure Jp (one other : NetJ) (ps : List (Int × Int)) : Prop where
  len : ps.length ≤ 20
  mem : ∀ p ∈ ps, (0 ≤ p.1 ∧ p.1 < one.c.length) ∧ (0 ≤ p.2 ∧ p.2 < other.a.length)
theorem sumI_cons (x : Str × Int) (xs : List (Str × Int)) : sumI (x :: xs) = x.2 + sumI xs := by unfold sumI; rw [List.map_cons, List.sum_cons]
theorem sumI_app (xs ys : List (Str × Int)) : sumI (xs ++ ys) = sumI xs + sumI ys := by unfold sumI; rw [List.map_append, List.sum_append]
theorem sumI_bd : ∀ (xs : List (Str × Int)), (∀ x ∈ xs, 1 ≤ x.2 ∧ x.2 ≤ 3) → 0 ≤ sumI xs ∧ sumI xs ≤ 3 * xs.length
  | [], _ => ⟨Int.le_refl _, Int.le_refl _⟩
  | x :: xs, h => by
    have h1 := h x (List.mem_cons_self ..)
    have h2 := sumI_bd xs fun y hy => h y (List.mem_cons_of_mem _ hy)
    rw [sumI_cons, List.length_cons]
    omega
theorem Jn.sum {n : NetJ} (h : Jn n) : 0 ≤ sumI n.a ∧ sumI n.a ≤ 60 := by
  have := sumI_bd n.a h.iw
  have := h.al
  omega
theorem inA_mem {n : NetJ} {k : Int} (h0 : 0 ≤ k) (h1 : k < n.a.length) : inA n k ∈ n.a := by
  unfold inA
  rw [List.getElem?_eq_getElem (show k.toNat < n.a.length by omega)]
  exact List.getElem_mem _
theorem outA_mem {n : NetJ} {k : Int} (h0 : 0 ≤ k) (h1 : k < n.c.length) : outA n k ∈ n.c := by
  unfold outA
  rw [List.getElem?_eq_getElem (show k.toNat < n.c.length by omega)]
  exact List.getElem_mem _
/-- the new wires of the one's -/
def w1 (one : NetJ) (more : Int) : List Int := rngL 0 (sumI one.a).toNat ++ (rngL 0 one.b.length).map fun x => (sumI one.a + more) + x
theorem w1_len (one : NetJ) (more : Int) (h : Jn one) : ((w1 one more).length : Int) = sumI one.a + one.b.length := by
  have := h.sum
  unfold w1
  rw [List.length_append, List.length_map, rngL_length, rngL_length]
  omega
theorem wires_one_is (one : NetJ) (more : Int) (h : Jn one) : m_wires_of_one one more = some (w1 one more) := by
  have hs := h.sum
  have hb := h.bl
  unfold m_wires_of_one
  rw [Option.bind_some]
  rw [show (one.a.map fun x => x.2).sum = sumI one.a from rfl]
  rw [(Ok.rngO (by omega) (by omega)).eqv fun _ e => e, Option.bind_some]
  unfold extO
  rw [if_pos (by rw [rngL_length, List.length_map, rngL_length]; omega), Option.bind_some]
  rfl
/-- what is fed -/
def jfed (w : List Int) (one : NetJ) : List (Int × Int) → List (Int × List Int) → List (Int × List Int)
  | [], s => s
  | p :: ps, s => jfed w one ps (putM s p.2 ((outA one p.1).2.l.map (gI w)))
theorem jfed_is (w : List Int) (one other : NetJ) (h : Jn one) (hw : (w.length : Int) = sumI one.a + one.b.length) : ∀ (ps : List (Int × Int)) (s : List (Int × List Int)), (∀ p ∈ ps, (0 ≤ p.1 ∧ p.1 < one.c.length) ∧ (0 ≤ p.2 ∧ p.2 < other.a.length)) → s.length + ps.length ≤ 1000 →
    forS (S := List (Int × List Int)) (fun (x74 : Int × Int) (s73 : List (Int × List Int)) => ((atI one.c x74.1).bind fun t78 => (mapO (fun (x81 : Int) => (atI w x81).bind fun t86 => some (t86 : Int)) t78.2.l).bind fun l88 => (putMO s73 x74.2 l88).bind fun u90 => some u90 : Option (List (Int × List Int)))) ps s = some (jfed w one ps s)
  | [], s, _, _ => rfl
  | p :: ps, s, hm, hl => by
    obtain ⟨⟨p1, p2⟩, _⟩ := hm p (List.mem_cons_self ..)
    have ho := (h.ow _ (outA_mem p1 p2)).2
    have e1 : L2.atI one.c p.1 = some (outA one p.1) := jatI _ p1 p2
    have e2 : mapO (fun (x81 : Int) => (L2.atI w x81).bind fun t86 => some (t86 : Int)) (outA one p.1).2.l = some ((outA one p.1).2.l.map (gI w)) := jmapO _ _ fun x hx => by
      have := ho x hx
      rw [jatI 0 this.1 (by omega)]
      rfl
    rw [List.length_cons] at hl
    unfold forS
    rw [e1, Option.bind_some, e2, Option.bind_some]
    unfold putMO
    rw [if_pos (by omega), Option.bind_some, Option.bind_some]
    have hl2 := putM_len s p.2 ((outA one p.1).2.l.map (gI w))
    exact jfed_is w one other h hw ps _ (fun q hq => hm q (List.mem_cons_of_mem _ hq)) (by omega)
/-- each that is fed has its in's width -/
theorem jfed_len (w : List Int) (one other : NetJ) : ∀ (ps : List (Int × Int)) (s : List (Int × List Int)), (∀ p ∈ ps, ((outA one p.1).2.l.length : Int) = (inA other p.2).2) → (∀ k l, getM s k = some l → (l.length : Int) = (inA other k).2) →
    ∀ k l, getM (jfed w one ps s) k = some l → (l.length : Int) = (inA other k).2
  | [], s, _, h => h
  | p :: ps, s, hf, h => jfed_len w one other ps _ (fun q hq => hf q (List.mem_cons_of_mem _ hq)) fun k l e => by
    rw [getM_put] at e
    split at e
    · rename_i q
      have e := Option.some.inj e
      rw [← e, List.length_map, ← q]
      exact hf p (List.mem_cons_self ..)
    · exact h k l e
/-- the wires of the other's ins, from a place on -/
def w2go (fed : List (Int × List Int)) : List (Str × Int) → Int → Int → List Int
  | [], _, _ => []
  | x :: xs, p, f => match getM fed p with
    | some l => l ++ w2go fed xs (p + 1) f
    | none => rngL f x.2.toNat ++ w2go fed xs (p + 1) (f + x.2)
def w2 (other : NetJ) (fed : List (Int × List Int)) (first gf : Int) : List Int := w2go fed other.a 0 first ++ (rngL 0 other.b.length).map fun x => gf + x
theorem w2go_len (fed : List (Int × List Int)) (other : NetJ) (hf : ∀ k l, getM fed k = some l → (l.length : Int) = (inA other k).2) : ∀ (xs : List (Str × Int)) (p : Nat) (f : Int), (∀ i x, xs[i]? = some x → inA other ((p + i : Nat) : Int) = x) → (∀ x ∈ xs, 1 ≤ x.2 ∧ x.2 ≤ 3) →
    ((w2go fed xs (p : Nat) f).length : Int) = sumI xs
  | [], p, f, _, _ => rfl
  | x :: xs, p, f, hx, hw => by
    have h0 := hx 0 x rfl
    have h1 := hw x (List.mem_cons_self ..)
    have e : ((p : Nat) : Int) + 1 = ((p + 1 : Nat) : Int) := by omega
    have ih := fun f => w2go_len fed other hf xs (p + 1) f (fun i y hy => by have := hx (i + 1) y hy; rw [show p + (i + 1) = p + 1 + i by omega] at this; exact this) fun y hy => hw y (List.mem_cons_of_mem _ hy)
    rw [sumI_cons]
    unfold w2go
    rw [e]
    split
    · rename_i l hl
      have := hf _ l hl
      have h0 : inA other (p : Int) = x := h0
      rw [h0] at this
      have ih := ih f
      rw [List.length_append]
      omega
    · have ih := ih (f + x.2)
      rw [List.length_append, rngL_length]
      omega
theorem zipIdx_cons' {α : Type} (x : α) (xs : List α) (n : Nat) : (x :: xs).zipIdx n = (x, n) :: xs.zipIdx (n + 1) := rfl
theorem w2go_is (fed : List (Int × List Int)) (other : NetJ) (hf : ∀ k l, getM fed k = some l → (l.length : Int) = (inA other k).2) : ∀ (xs : List (Str × Int)) (p : Nat) (f : Int) (acc : List Int), (∀ i x, xs[i]? = some x → inA other ((p + i : Nat) : Int) = x) → (∀ x ∈ xs, 1 ≤ x.2 ∧ x.2 ≤ 3) → 0 ≤ f → f + 3 * xs.length ≤ 1000 → acc.length + 3 * xs.length ≤ 1000 →
    Ok (forS (S := Int × List Int) (fun (x6 : Int × (Str × Int)) (s5 : Int × List Int) => (
(if (hasM fed x6.1) = true then (
(getM fed x6.1).bind fun t12 =>
(extO s5.2 t12).bind fun u14 =>
some (s5.1, u14))
else (
(rng2O s5.1 (s5.1 + x6.2.2)).bind fun l16 =>
(extO s5.2 l16).bind fun u18 =>
some ((s5.1 + x6.2.2), u18)) : Option (Int × List Int)).bind fun j10 =>
some (j10.1, j10.2) : Option (Int × List Int))) ((xs.zipIdx p).map fun p => ((p.2 : Nat), p.1)) (f, acc)) fun r => r.2 = acc ++ w2go fed xs (p : Nat) f
  | [], p, f, acc, _, _, _, _, _ => ⟨(f, acc), rfl, by show acc = acc ++ []; rw [List.append_nil]⟩
  | x :: xs, p, f, acc, hx, hw, h0, hl, ha => by
    have hx0 : inA other (p : Int) = x := hx 0 x rfl
    have h1 := hw x (List.mem_cons_self ..)
    rw [List.length_cons] at hl ha
    have e : ((p : Nat) : Int) + 1 = ((p + 1 : Nat) : Int) := by omega
    have ih := fun f acc => w2go_is fed other hf xs (p + 1) f acc (fun i y hy => by have := hx (i + 1) y hy; rw [show p + (i + 1) = p + 1 + i by omega] at this; exact this) fun y hy => hw y (List.mem_cons_of_mem _ hy)
    rw [zipIdx_cons', List.map_cons]
    unfold forS
    unfold w2go
    rw [e]
    refine Ok.bind (P := fun r : Int × List Int => r = match getM fed (p : Int) with | some l => (f, acc ++ l) | none => (f + x.2, acc ++ rngL f x.2.toNat)) ?_ ?_
    · refine Ok.bind (P := fun r : Int × List Int => r = match getM fed (p : Int) with | some l => (f, acc ++ l) | none => (f + x.2, acc ++ rngL f x.2.toNat)) ?_ fun r hr => Ok.pure hr
      show Ok (if hasM fed (p : Int) = true then _ else _) _
      unfold hasM
      cases q : getM fed (p : Int) with
      | some l =>
        have hl2 := hf _ l q
        rw [hx0] at hl2
        rw [if_pos (show (some l).isSome = true from rfl)]
        show Ok ((some l).bind _) _
        rw [Option.bind_some]
        show Ok ((extO acc l).bind _) _
        unfold extO
        rw [if_pos (by omega)]
        exact Ok.pure rfl
      | none =>
        rw [if_neg (show ¬ (none : Option (List Int)).isSome = true by decide)]
        show Ok ((rng2O f (f + x.2)).bind _) _
        unfold rng2O
        rw [if_pos (by omega), Option.bind_some, show f + x.2 - f = x.2 by omega]
        show Ok ((extO acc _).bind _) _
        unfold extO
        rw [if_pos (by rw [rngL_length]; omega)]
        exact Ok.pure rfl
    · rintro r rfl
      split
      · rename_i l q
        have hl2 := hf _ l q
        rw [hx0] at hl2
        refine (ih f (acc ++ l) h0 (by omega) (by rw [List.length_append]; omega)).mono fun r hr => ?_
        rw [hr, List.append_assoc]
      · refine (ih (f + x.2) (acc ++ rngL f x.2.toNat) (by omega) (by omega) (by rw [List.length_append, rngL_length]; omega)).mono fun r hr => ?_
        rw [hr, List.append_assoc]
theorem wires_other_is (other : NetJ) (fed : List (Int × List Int)) (first gf : Int) (h : Jn other) (hf : ∀ k l, getM fed k = some l → (l.length : Int) = (inA other k).2) (h0 : 0 ≤ first) (h1 : first ≤ 100) :
    m_wires_of_other other fed first gf = some (w2 other fed first gf) ∧ ((w2 other fed first gf).length : Int) = sumI other.a + other.b.length := by
  have hal := h.al
  have hbl := h.bl
  have hi : ∀ (i : Nat) x, other.a[i]? = some x → inA other ((0 + i : Nat) : Int) = x := fun i x hx => by
    unfold inA
    rw [show (((0 + i : Nat) : Int)).toNat = i by omega, hx]
    rfl
  have hlen := w2go_len fed other hf other.a 0 first hi h.iw
  have hs := h.sum
  refine ⟨?_, by unfold w2; rw [List.length_append, List.length_map, rngL_length]; have : ((0 : Nat) : Int) = 0 := rfl; rw [this] at hlen; omega⟩
  have key := w2go_is fed other hf other.a 0 first [] hi h.iw h0 (by omega) (by simp; omega)
  unfold m_wires_of_other
  rw [Option.bind_some]
  refine Ok.eqv (P := fun r => r = w2 other fed first gf) (Ok.bind key fun r hr => ?_) fun _ e => e
  rw [List.nil_append] at hr
  have hr : r.2 = w2go fed other.a 0 first := hr
  have hlen : ((w2go fed other.a 0 first).length : Int) = sumI other.a := hlen
  rw [hr]
  unfold extO
  rw [if_pos (by rw [List.length_map, rngL_length]; omega)]
  exact Ok.pure rfl
def mv (gs : List (T3 Str (Tp Int) Bool)) (w : List Int) : List (T3 Str (Tp Int) Bool) := gs.map fun g => T3.mk g.a ⟨g.b.l.map (gI w)⟩ g.c
theorem moved_is (gs : List (T3 Str (Tp Int) Bool)) (w : List Int) (h : ∀ g ∈ gs, ∀ x ∈ g.b.l, 0 ≤ x ∧ x < w.length) : m_moved gs w = some (mv gs w) := by
  unfold m_moved
  rw [jmapO (fun g => (T3.mk g.a ⟨g.b.l.map (gI w)⟩ g.c : T3 Str (Tp Int) Bool)) gs fun g hg => by
    rw [jmapO (gI w) g.b.l fun x hx => by
      have := h g hg x hx
      rw [jatI 0 this.1 this.2]
      rfl]
    rfl]
  rfl
/-! ### the parts -/
def jplaces (ps : List (Int × Int)) : List Int := ps.map fun x => x.2
def jused (ps : List (Int × Int)) : List Int := ps.map fun x => x.1
def jrest (other : NetJ) (ps : List (Int × Int)) : List (Str × Int) := ((rngL 0 other.a.length).filter fun x => !decide (x ∈ jplaces ps)).map (inA other)
def jkept (one : NetJ) (ps : List (Int × Int)) : List Int := (rngL 0 one.c.length).filter fun x => !decide (x ∈ jused ps)
def jins (one other : NetJ) (ps : List (Int × Int)) : List (Str × Int) := one.a ++ jrest other ps
def jr1 (one other : NetJ) (ps : List (Int × Int)) : List Int := w1 one (sumI (jins one other ps) - sumI one.a)
def jfd (one other : NetJ) (ps : List (Int × Int)) : List (Int × List Int) := jfed (jr1 one other ps) one ps []
def jr2 (one other : NetJ) (ps : List (Int × Int)) : List Int := w2 other (jfd one other ps) (sumI one.a) (sumI (jins one other ps) + one.b.length)
def jouts (one other : NetJ) (ps : List (Int × Int)) : List (Str × Tp Int) :=
  ((jkept one ps).map fun k => ((outA one k).1, (⟨(outA one k).2.l.map (gI (jr1 one other ps))⟩ : Tp Int))) ++ other.c.map fun o => (o.1, (⟨o.2.l.map (gI (jr2 one other ps))⟩ : Tp Int))
/-- two nets as one -/
def jNet (one other : NetJ) (ps : List (Int × Int)) : NetJ := T3.mk (jins one other ps) (mv one.b (jr1 one other ps) ++ mv other.b (jr2 one other ps)) (jouts one other ps)
def bFit (one other : NetJ) (ps : List (Int × Int)) : Bool := ps.all fun p => decide (((outA one p.1).2.l.length : Int) = (inA other p.2).2)
theorem bFit_of {one other : NetJ} {ps : List (Int × Int)} (h : bFit one other ps = true) : ∀ p ∈ ps, ((outA one p.1).2.l.length : Int) = (inA other p.2).2 := fun p hp => of_decide_eq_true (List.all_eq_true.mp h p hp)
theorem rng_mem {n : Nat} {x : Int} (h : x ∈ rngL 0 n) : 0 ≤ x ∧ x < n := by
  have := mem_rngL.mp h
  omega
theorem rest_le (other : NetJ) (ps : List (Int × Int)) : (jrest other ps).length ≤ other.a.length := by
  unfold jrest
  rw [List.length_map]
  refine Nat.le_trans (List.length_filter_le _ _) ?_
  rw [rngL_length]
  exact Nat.le_refl _
theorem kept_le (one : NetJ) (ps : List (Int × Int)) : (jkept one ps).length ≤ one.c.length := by
  unfold jkept
  refine Nat.le_trans (List.length_filter_le _ _) ?_
  rw [rngL_length]
  exact Nat.le_refl _
theorem kept_mem {one : NetJ} {ps : List (Int × Int)} {k : Int} (h : k ∈ jkept one ps) : 0 ≤ k ∧ k < one.c.length := rng_mem (List.mem_filter.mp h).1
theorem jins_w {one other : NetJ} {ps : List (Int × Int)} (h1 : Jn one) (h2 : Jn other) : ∀ x ∈ jins one other ps, 1 ≤ x.2 ∧ x.2 ≤ 3 := fun x hx => by
  rcases List.mem_append.mp hx with h | h
  · exact h1.iw x h
  · obtain ⟨k, hk, rfl⟩ := List.mem_map.mp h
    have := rng_mem (List.mem_filter.mp hk).1
    exact h2.iw _ (inA_mem this.1 this.2)
theorem jins_le {one other : NetJ} {ps : List (Int × Int)} (h1 : Jn one) (h2 : Jn other) : (jins one other ps).length ≤ 40 := by
  have := rest_le other ps
  have := h1.al
  have := h2.al
  unfold jins
  rw [List.length_append]
  omega
theorem jcard {α : Type} [DecidableEq α] {xs : List α} (h : xs.length < 64) : cardO xs = some ((cardL xs : Nat) : Int) := if_pos h
theorem card_dec {α : Type} [DecidableEq α] (xs : List α) : (!decide ((xs.length : Int) = ((cardL xs : Nat) : Int))) = !decide xs.Nodup := by
  have := card_nodup xs
  congr 1
  refine decide_eq_decide.mpr ?_
  rw [← this]
  omega
end W

set_option synthInstance.maxHeartbeats 400000
set_option synthInstance.maxSize 2000
namespace W
open PySem L2 TL
open Enc
/-! ### the drawn nets -/
theorem jstir_ok (c k : Int) (h0 : 0 ≤ k) (h1 : k ≤ 1000) : Ok (m__law_stir c k) fun r => 0 ≤ r := by
  unfold m__law_stir
  refine Ok.ite (fun h => ?_) fun _ => ?_
  · refine Ok.bind (P := fun _ => True) ?_ fun t _ => Ok.pure (Int.emod_nonneg _ (by decide))
    unfold shrO
    rw [if_pos (by omega)]
    exact ⟨_, rfl, trivial⟩
  · refine Ok.lt ?_
    have a := Int.emod_nonneg (((c + 1013 * k) + 1) * 16807) (show (2147483647 : Int) ≠ 0 by decide)
    have b := Int.emod_lt_of_pos (((c + 1013 * k) + 1) * 16807) (show (0 : Int) < 2147483647 by decide)
    refine Ok.bind (Ok.mulO (by omega) (by omega)) fun t _ => Ok.lt (Ok.pure ?_)
    have := Int.emod_nonneg ((t % 2147483629) * 39373) (show (2147483587 : Int) ≠ 0 by decide)
    omega
/-- a text of one sign of another -/
def SgOf (z : Str) (i : Nat) (c : Str) : Prop := ∃ k, (L z)[i]? = some k ∧ c = ⟨#[k]⟩
theorem jsign {z : Str} {i : Int} (hz : z.length ≤ 1000) (h0 : 0 ≤ i) (h1 : i < (L z).length) : Ok (signAt z i) fun c => SgOf z i.toNat c := by
  unfold signAt
  rw [if_pos (by have e : sizeLine = 16777216 := by first | exact sizeLine_eq | rfl
                 omega)]
  obtain ⟨k, e, h⟩ := Ok.atI (xs := z.cps.toList) h0 (by unfold L at h1; exact h1)
  rw [e]
  exact ⟨_, rfl, k, h, rfl⟩
theorem sg_ok {z c : Str} {i : Nat} (hz : EqD.ok z = true) (h : SgOf z i c) : EqD.ok c = true := by
  obtain ⟨k, h, rfl⟩ := h
  have hz : z.cps.all (· < 1114112) = true := hz
  have hz := Array.all_eq_true'.mp hz k (by
    have := List.mem_iff_getElem?.mpr ⟨i, h⟩
    unfold L at this
    exact Array.mem_toList_iff.mp this)
  show (#[k] : Array Nat).all (· < 1114112) = true
  simp at hz ⊢
  exact hz
/-- texts within are texts -/
structure Tx (n : NetJ) : Prop where
  a : ∀ x ∈ n.a, EqD.ok x.1 = true
  b : ∀ g ∈ n.b, EqD.ok g.a = true
  c : ∀ o ∈ n.c, EqD.ok o.1 = true
theorem Tx.ok {n : NetJ} (h : Tx n) : EqD.ok n = true := by
  show (n.a.all _ && (n.b.all _ && n.c.all _)) = true
  rw [Bool.and_eq_true, Bool.and_eq_true]
  refine ⟨List.all_eq_true.mpr fun x hx => ?_, List.all_eq_true.mpr fun x hx => ?_, List.all_eq_true.mpr fun x hx => ?_⟩
  · show (EqD.ok x.1 && EqD.ok x.2) = true
    rw [h.a x hx]; rfl
  · show (EqD.ok x.a && (EqD.ok x.b && EqD.ok x.c)) = true
    rw [h.b x hx]
    show (true && ((x.b.l.all fun _ => true) && true)) = true
    simp
  · show (EqD.ok x.1 && EqD.ok x.2) = true
    rw [h.c x hx]
    show (true && (x.2.l.all fun _ => true)) = true
    simp
/-- a net as it is drawn; its names are signs of the letters -/
structure Dn (z : Str) (n : NetJ) : Prop where
  a1 : 1 ≤ n.a.length
  a3 : n.a.length ≤ 3
  b7 : n.b.length ≤ 7
  c1 : 1 ≤ n.c.length
  c3 : n.c.length ≤ 3
  jn : Jn n
  tx : Tx n
  an : ∀ (i : Nat) x, n.a[i]? = some x → SgOf z i x.1
  cn : ∃ o, (o = 0 ∨ o = 4) ∧ ∀ (i : Nat) x, n.c[i]? = some x → SgOf z (o + i) x.1
  gp : ∀ (p : Nat) g, n.b[p]? = some g → (∀ w ∈ g.b.l, 0 ≤ w ∧ w < sumI n.a + p) ∧ g.a ∈ [("and" : Str), ("or" : Str), ("xor" : Str), ("vote" : Str), ("not" : Str)] ∧ (g.b.l.length : Int) = (dlit [(("not" : Str), (1 : Int)), (("vote" : Str), (3 : Int))] g.a).getD 2
  ow : ∀ o ∈ n.c, 1 ≤ o.2.l.length
theorem any_net_ok (c first : Int) (z : Str) (hz : EqD.ok z = true) (hl : (L z).length = 7) (h0 : 0 ≤ first) (h1 : first ≤ 200) : Ok (m__law_any_net c first z ([(1 : Int), (2 : Int), (3 : Int)] : (List Int))) (Dn z) := by
  have hzl : z.length = 7 := by rw [len_L]; exact hl
  unfold m__law_any_net
  refine Ok.bind (jstir_ok c first h0 (by omega)) fun r1 _ => Ok.lt ?_
  refine Ok.bind (Ok.rngO (by omega) (by omega)) fun l5 e5 => ?_
  subst e5
  have h3 : 0 ≤ r1 % 3 ∧ r1 % 3 < 3 := ⟨by omega, by omega⟩
  generalize hv : (1 + r1 % 3).toNat = v
  have hv1 : 1 ≤ v ∧ v ≤ 3 := by omega
  refine Ok.bind (P := fun l : List (Str × Int) => l.length = v ∧ ∀ (i : Nat) x, l[i]? = some x → SgOf z i x.1 ∧ 1 ≤ x.2 ∧ x.2 ≤ 3) ?_ fun l27 hl27 => ?_
  · refine (Ok.mapO (P := fun (i : Int) (x : Str × Int) => SgOf z i.toNat x.1 ∧ 1 ≤ x.2 ∧ x.2 ≤ 3) _ fun x hx => ?_).mono fun ys hy => ⟨by rw [hy.1, rngL_length], fun i x hi => ?_⟩
    · have hx := rng_mem hx
      refine Ok.bind (jsign (by omega) hx.1 (by omega)) fun t19 h19 => ?_
      refine Ok.bind (jstir_ok _ _ (by omega) (by omega)) fun r21 _ => ?_
      refine Ok.bind (Ok.modO (show (0 : Int) < 3 by decide)) fun t23 h23 => ?_
      refine Ok.bind (P := fun w => 1 ≤ w ∧ w ≤ 3) ?_ fun t25 h25 => Ok.pure ⟨h19, h25⟩
      refine (Ok.atI h23.2.1 (by have := h23.2.2; show t23 < 3; exact this)).mono fun w hw => ?_
      have hm := get_mem hw
      simp at hm
      omega
    · have hi2 := get_lt hi
      rw [hy.1, rngL_length] at hi2
      obtain ⟨y, hy2⟩ := lt_get (xs := rngL 0 v) (i := i) (by rw [rngL_length]; exact hi2)
      have := hy.2 i y x hy2 hi
      have e := (rngL_get hy2).2
      have e2 : y.toNat = i := by omega
      rw [e2] at this
      exact this
  obtain ⟨hA, hB⟩ := hl27
  refine Ok.lt ?_
  have es : (l27.map fun x => x.2).sum = sumI l27 := rfl
  have hw : ∀ x ∈ l27, 1 ≤ x.2 ∧ x.2 ≤ 3 := fun x hx => by
    obtain ⟨i, hi⟩ := mem_get hx
    exact (hB i x hi).2
  have hs := sumI_bd l27 hw
  have hs1 : 1 ≤ sumI l27 := by
    cases l27 with
    | nil => simp at hA; omega
    | cons x xs =>
      rw [sumI_cons]
      have := hw x (List.mem_cons_self ..)
      have := sumI_bd xs fun y hy => hw y (List.mem_cons_of_mem _ hy)
      omega
  rw [es]
  generalize hS : sumI l27 = S at hs hs1
  refine Ok.lt ?_
  refine Ok.bind (jstir_ok _ _ (by omega) (by omega)) fun r38 _ => ?_
  refine Ok.bind (Ok.rngO (by omega) (by omega)) fun l40 e40 => ?_
  subst e40
  have h8 : 0 ≤ r38 % 8 ∧ r38 % 8 < 8 := ⟨by omega, by omega⟩
  generalize hN : (r38 % 8).toNat = N
  have hN8 : N ≤ 7 := by omega
  refine Ok.bind (P := fun s : Int × List (T3 Str (Tp Int) Bool) => s.2.length = N ∧ ∀ (p : Nat) g, s.2[p]? = some g → (∀ w ∈ g.b.l, 0 ≤ w ∧ w < S + p) ∧ g.a ∈ [("and" : Str), ("or" : Str), ("xor" : Str), ("vote" : Str), ("not" : Str)] ∧ (g.b.l.length : Int) = (dlit [(("not" : Str), (1 : Int)), (("vote" : Str), (3 : Int))] g.a).getD 2) ?_ fun s72 h72 => ?_
  · have key := Ok.forSi (f := (fun (x44 : Int) (s43 : Int × List (T3 Str (Tp Int) Bool)) => (
(m__law_stir c ((first + (10 : Int)) + ((5 : Int) * x44))).bind fun r48 =>
(atI ([("and" : Str), ("or" : Str), ("xor" : Str), ("vote" : Str), ("not" : Str)] : (List Str)) (r48 % (5 : Int))).bind fun t50 =>
(some ((dlit [(("not" : Str), (1 : Int)), (("vote" : Str), (3 : Int))] t50).getD (2 : Int))).bind fun v52 =>
(rngO v52).bind fun l54 =>
(mapO (fun (x57 : Int) => (m__law_stir c (((first + (11 : Int)) + ((5 : Int) * x44)) + x57)).bind fun r64 => (modO r64 (S + x44)).bind fun t66 => some (t66 : Int)) l54).bind fun l68 =>
(appO s43.2 (T3.mk t50 (Tp.mk l68) (decide (((r48 / (5 : Int)) % (3 : Int)) = (0 : Int))))).bind fun u70 =>
some (v52, u70) : Option (Int × List (T3 Str (Tp Int) Bool)))))
      (fun n (s : Int × List (T3 Str (Tp Int) Bool)) => s.2.length = n ∧ ∀ (p : Nat) g, s.2[p]? = some g → (∀ w ∈ g.b.l, 0 ≤ w ∧ w < S + p) ∧ g.a ∈ [("and" : Str), ("or" : Str), ("xor" : Str), ("vote" : Str), ("not" : Str)] ∧ (g.b.l.length : Int) = (dlit [(("not" : Str), (1 : Int)), (("vote" : Str), (3 : Int))] g.a).getD 2)
      (rngL 0 N) 0 ((1 + r1 % 3), []) ⟨rfl, fun p g h => by simp at h⟩ ?_
    · rw [rngL_length, Nat.zero_add] at key
      exact key
    · intro i x s hx hI
      rw [Nat.zero_add] at hI ⊢
      obtain ⟨hi1, hi2⟩ := rngL_get hx
      rw [Int.zero_add] at hi2
      subst hi2
      refine Ok.bind (jstir_ok _ _ (by omega) (by omega)) fun r48 _ => ?_
      refine Ok.bind (P := fun k => k ∈ [("and" : Str), ("or" : Str), ("xor" : Str), ("vote" : Str), ("not" : Str)]) ?_ fun t50 h50 => ?_
      · exact (Ok.atI (by omega) (by show r48 % 5 < 5; omega)).mono fun k hk => get_mem hk
      refine Ok.lt ?_
      have hd : ∀ k ∈ [("and" : Str), ("or" : Str), ("xor" : Str), ("vote" : Str), ("not" : Str)], 1 ≤ (dlit [(("not" : Str), (1 : Int)), (("vote" : Str), (3 : Int))] k).getD 2 ∧ (dlit [(("not" : Str), (1 : Int)), (("vote" : Str), (3 : Int))] k).getD 2 ≤ 3 := by decide +kernel
      have hd := hd t50 h50
      generalize hv52 : (dlit [(("not" : Str), (1 : Int)), (("vote" : Str), (3 : Int))] t50).getD 2 = v52 at hd
      refine Ok.bind (Ok.rngO (by omega) (by omega)) fun l54 e54 => ?_
      subst e54
      refine Ok.bind (P := fun l : List Int => (l.length : Int) = v52 ∧ ∀ w ∈ l, 0 ≤ w ∧ w < S + i) ?_ fun l68 h68 => ?_
      · refine (Ok.mapO (P := fun (_ : Int) (w : Int) => 0 ≤ w ∧ w < S + i) _ fun x hx => ?_).mono fun ys hy => ⟨by rw [hy.1, rngL_length]; omega, fun w hw => ?_⟩
        · have hx := rng_mem hx
          refine Ok.bind (jstir_ok _ _ (by omega) (by omega)) fun r64 _ => ?_
          exact Ok.bind (Ok.modO (by omega)) fun t66 h66 => Ok.pure h66.2
        · obtain ⟨x, _, hx⟩ := all_of hy.1 hy.2 w hw
          exact hx
      refine Ok.bind (Ok.appO (by rw [hI.1]; omega)) fun u70 e70 => Ok.pure ?_
      subst e70
      refine ⟨by rw [List.length_append, hI.1]; rfl, fun p g hp => ?_⟩
      by_cases hp2 : p < s.2.length
      · rw [List.getElem?_append_left hp2] at hp
        exact hI.2 p g hp
      · rw [List.getElem?_append_right (by omega)] at hp
        have hp3 : p - s.2.length = 0 := by have := get_lt hp; simp at this; omega
        rw [hp3] at hp
        have hp := Option.some.inj hp
        have hpi : p = i := by rw [hI.1] at hp3 hp2; omega
        rw [← hp, hpi]
        exact ⟨h68.2, h50, by rw [hv52]; exact h68.1⟩
  obtain ⟨hG, hH⟩ := h72
  refine Ok.lt ?_
  refine Ok.bind (jstir_ok _ _ (by omega) (by omega)) fun r76 _ => ?_
  refine Ok.bind (P := fun t => ∃ o : Nat, (o = 0 ∨ o = 4) ∧ L t = (L z).drop o) ?_ fun t78 h78 => ?_
  · rw [cutSO_eq (by omega)]
    refine Ok.pure ?_
    by_cases q : r76 % 3 = 0
    · refine ⟨0, .inl rfl, ?_⟩
      rw [decide_eq_true q]
      exact L_from z 0 (by decide)
    · refine ⟨4, .inr rfl, ?_⟩
      rw [decide_eq_false q]
      exact L_from z 4 (by decide)
  obtain ⟨o, ho, hL⟩ := h78
  refine Ok.bind (jstir_ok _ _ (by omega) (by omega)) fun r80 _ => ?_
  refine Ok.bind (Ok.rngO (by omega) (by omega)) fun l82 e82 => ?_
  subst e82
  have h33 : 0 ≤ r80 % 3 ∧ r80 % 3 < 3 := ⟨by omega, by omega⟩
  generalize hM : (1 + r80 % 3).toNat = M
  have hM3 : 1 ≤ M ∧ M ≤ 3 := by omega
  refine Ok.bind (P := fun s : List (Str × Tp Int) => s.length = M ∧ ∀ (i : Nat) x, s[i]? = some x → SgOf z (o + i) x.1 ∧ (1 ≤ x.2.l.length ∧ x.2.l.length ≤ 3) ∧ ∀ w ∈ x.2.l, 0 ≤ w ∧ w < S + N) ?_ fun s116 h116 => ?_
  · have key := Ok.forSi (f := (fun (x86 : Int) (s85 : List (Str × (Tp Int))) => (
(m__law_stir c ((first + (60 : Int)) + ((5 : Int) * x86))).bind fun r90 =>
(modO r90 (([(1 : Int), (2 : Int), (3 : Int)] : (List Int)).length : Int)).bind fun t92 =>
(atI ([(1 : Int), (2 : Int), (3 : Int)] : (List Int)) t92).bind fun t94 =>
(rngO t94).bind fun l96 =>
(mapO (fun (x99 : Int) => (m__law_stir c (((first + (61 : Int)) + ((5 : Int) * x86)) + x99)).bind fun r106 => (modO r106 (S + (s72.2.length : Int))).bind fun t108 => some (t108 : Int)) l96).bind fun l110 =>
(signAt t78 x86).bind fun t112 =>
(appO s85 (t112, (Tp.mk l110))).bind fun u114 =>
some u114 : Option (List (Str × (Tp Int))))))
      (fun n (s : List (Str × Tp Int)) => s.length = n ∧ ∀ (i : Nat) x, s[i]? = some x → SgOf z (o + i) x.1 ∧ (1 ≤ x.2.l.length ∧ x.2.l.length ≤ 3) ∧ ∀ w ∈ x.2.l, 0 ≤ w ∧ w < S + N)
      (rngL 0 M) 0 [] ⟨rfl, fun p g h => by simp at h⟩ ?_
    · rw [rngL_length, Nat.zero_add] at key
      exact key
    · intro i x s hx hI
      rw [Nat.zero_add] at hI ⊢
      obtain ⟨hi1, hi2⟩ := rngL_get hx
      rw [Int.zero_add] at hi2
      subst hi2
      refine Ok.bind (jstir_ok _ _ (by omega) (by omega)) fun r90 _ => ?_
      refine Ok.bind (Ok.modO (show (0 : Int) < 3 by decide)) fun t92 h92 => ?_
      refine Ok.bind (P := fun w => 1 ≤ w ∧ w ≤ 3) ?_ fun t94 h94 => ?_
      · refine (Ok.atI h92.2.1 (by have := h92.2.2; show t92 < 3; exact this)).mono fun w hw => ?_
        have hm := get_mem hw
        simp at hm
        omega
      refine Ok.bind (Ok.rngO (by omega) (by omega)) fun l96 e96 => ?_
      subst e96
      refine Ok.bind (P := fun l : List Int => (l.length : Int) = t94 ∧ ∀ w ∈ l, 0 ≤ w ∧ w < S + N) ?_ fun l110 h110 => ?_
      · refine (Ok.mapO (P := fun (_ : Int) (w : Int) => 0 ≤ w ∧ w < S + N) _ fun x hx => ?_).mono fun ys hy => ⟨by rw [hy.1, rngL_length]; omega, fun w hw => ?_⟩
        · have hx := rng_mem hx
          refine Ok.bind (jstir_ok _ _ (by omega) (by omega)) fun r64 _ => ?_
          exact Ok.bind (Ok.modO (by omega)) fun t66 h66 => Ok.pure ⟨h66.2.1, by have := h66.2.2; rw [hG] at this; exact this⟩
        · obtain ⟨x, _, hx⟩ := all_of hy.1 hy.2 w hw
          exact hx
      have hLl : (L t78).length = 7 - o := by rw [hL, List.length_drop, hl]
      refine Ok.bind (jsign (by rw [len_L]; omega) (by omega) (by omega)) fun t112 h112 => ?_
      refine Ok.bind (Ok.appO (by rw [hI.1]; omega)) fun u114 e114 => Ok.pure ?_
      subst e114
      refine ⟨by rw [List.length_append, hI.1]; rfl, fun p g hp => ?_⟩
      by_cases hp2 : p < s.length
      · rw [List.getElem?_append_left hp2] at hp
        exact hI.2 p g hp
      · rw [List.getElem?_append_right (by omega)] at hp
        have hp3 : p - s.length = 0 := by have := get_lt hp; simp at this; omega
        rw [hp3] at hp
        have hp := Option.some.inj hp
        have hpi : p = i := by rw [hI.1] at hp3 hp2; omega
        rw [← hp, hpi]
        refine ⟨?_, by show 1 ≤ l110.length ∧ l110.length ≤ 3; omega, h110.2⟩
        obtain ⟨k, hk, e⟩ := h112
        refine ⟨k, ?_, e⟩
        rw [hL, List.getElem?_drop] at hk
        rw [show ((i : Nat) : Int).toNat = i by omega] at hk
        exact hk
  obtain ⟨hC, hD⟩ := h116
  refine Ok.pure ⟨by show 1 ≤ l27.length; omega, by show l27.length ≤ 3; omega, by show s72.2.length ≤ 7; omega, by show 1 ≤ s116.length; omega, by show s116.length ≤ 3; omega, ⟨by show l27.length ≤ 20; omega, hw, by show s72.2.length ≤ 100; omega, fun g hg w hw => ?_, by show s116.length ≤ 20; omega, fun x hx => ?_⟩, ⟨fun x hx => ?_, fun g hg => ?_, fun x hx => ?_⟩, fun i x hi => (hB i x hi).1, ⟨o, ho, fun i x hi => (hD i x hi).1⟩, fun p g hp => by
    have := hH p g hp
    show (∀ w ∈ g.b.l, 0 ≤ w ∧ w < sumI l27 + p) ∧ _
    rw [hS]
    exact this, fun x hx => ?_⟩
  · obtain ⟨p, hp⟩ := mem_get hg
    have := (hH p g hp).1 w hw
    have hlt : p < s72.2.length := get_lt hp
    show 0 ≤ w ∧ w < sumI l27 + s72.2.length
    rw [hS]
    omega
  · obtain ⟨i, hi⟩ := mem_get hx
    have := hD i x hi
    refine ⟨this.2.1.2, fun w hw => ?_⟩
    have := this.2.2 w hw
    show 0 ≤ w ∧ w < sumI l27 + s72.2.length
    rw [hS, hG]
    exact this
  · obtain ⟨i, hi⟩ := mem_get hx
    exact sg_ok hz (hB i x hi).1
  · obtain ⟨p, hp⟩ := mem_get hg
    have hk : ∀ k ∈ [("and" : Str), ("or" : Str), ("xor" : Str), ("vote" : Str), ("not" : Str)], EqD.ok k = true := by decide +kernel
    exact hk _ (hH p g hp).2.1
  · obtain ⟨i, hi⟩ := mem_get hx
    exact sg_ok hz (hD i x hi).1
  · obtain ⟨i, hi⟩ := mem_get hx
    exact (hD i x hi).2.1.1
end W

set_option synthInstance.maxHeartbeats 400000
set_option synthInstance.maxSize 2000
namespace W
open PySem L2 TL
open Enc
/-! ### the drawn pairs -/
structure Pr (one other : NetJ) (ps : List (Int × Int)) : Prop where
  jp : Jp one other ps
  fit : bFit one other ps = true
  nd : (jplaces ps).Nodup
  le : ps.length ≤ other.a.length
theorem pairs_ok (c : Int) (one other : NetJ) (h1 : one.c.length ≤ 20) (h2 : other.a.length ≤ 20) : Ok (m__law_pairs c one other) (Pr one other) := by
  unfold m__law_pairs
  refine Ok.lt ?_
  refine Ok.bind (P := fun s : List (Int × Int) => s.length ≤ other.a.length ∧ (∀ p ∈ s, ((0 ≤ p.1 ∧ p.1 < one.c.length) ∧ (0 ≤ p.2 ∧ p.2 < other.a.length)) ∧ ((outA one p.1).2.l.length : Int) = (inA other p.2).2) ∧ (s.map fun x => x.2).Nodup) ?_ fun s hs => ?_
  · have key := Ok.forSi (f := (fun (x6 : Int) (s5 : List (Int × Int)) => (
(filtO (fun (x11 : Int) => (atI one.c x11).bind fun t18 => (atI other.a x6).bind fun t20 => some (decide ((t18.2.l.length : Int) = t20.2))) (fun (x11 : Int) => some (x11 : Int)) (rngL 0 one.c.length)).bind fun l22 =>
(m__law_stir c ((80 : Int) + x6)).bind fun r24 =>
(if ((!decide ((l22 : (List Int)) = ([] : (List Int)))) && (decide ((0 : Int) < (r24 % (4 : Int))))) = true then (
(modO (r24 / (4 : Int)) (l22.length : Int)).bind fun t29 =>
(atI l22 t29).bind fun t31 =>
(appO s5 (t31, x6)).bind fun u33 =>
some u33)
else (
some s5) : Option (List (Int × Int))).bind fun j27 =>
some j27 : Option (List (Int × Int)))))
      (fun n (s : List (Int × Int)) => s.length ≤ n ∧ (∀ p ∈ s, ((0 ≤ p.1 ∧ p.1 < one.c.length) ∧ (0 ≤ p.2 ∧ p.2 < n)) ∧ ((outA one p.1).2.l.length : Int) = (inA other p.2).2) ∧ (s.map fun x => x.2).Nodup)
      (rngL 0 other.a.length) 0 [] ⟨Nat.le_refl _, fun p hp => (by cases hp), List.nodup_nil⟩ ?_
    · rw [rngL_length, Nat.zero_add] at key
      exact key
    · intro i x s hx ⟨I1, I2, I3⟩
      rw [Nat.zero_add] at I1 I2 ⊢
      obtain ⟨hi1, hi2⟩ := rngL_get hx
      rw [Int.zero_add] at hi2
      subst hi2
      have ef : filtO (fun (x11 : Int) => (atI one.c x11).bind fun t18 => (atI other.a ((i : Nat) : Int)).bind fun t20 => some (decide ((t18.2.l.length : Int) = t20.2))) (fun (x11 : Int) => some (x11 : Int)) (rngL 0 one.c.length) = some ((rngL 0 one.c.length).filter (fun k => decide (((outA one k).2.l.length : Int) = (inA other (i : Nat)).2))) := by
        have := jfiltO (p := fun (x11 : Int) => (atI one.c x11).bind fun t18 => (atI other.a ((i : Nat) : Int)).bind fun t20 => some (decide ((t18.2.l.length : Int) = t20.2))) (f := fun (x11 : Int) => some (x11 : Int)) (fun k => decide (((outA one k).2.l.length : Int) = (inA other (i : Nat)).2)) id (rngL 0 one.c.length) (fun k hk => by
          have hk := rng_mem hk
          show ((L2.atI one.c k).bind fun t18 => (L2.atI other.a ((i : Nat) : Int)).bind fun t20 => some (decide ((t18.2.l.length : Int) = t20.2))) = _
          rw [show L2.atI one.c k = some (outA one k) from jatI _ hk.1 hk.2, Option.bind_some, show L2.atI other.a ((i : Nat) : Int) = some (inA other (i : Nat)) from jatI _ (by omega) (by omega)]
          rfl) (fun k hk _ => rfl)
        rw [List.map_id] at this
        exact this
      rw [ef, Option.bind_some]
      generalize hf : (rngL 0 one.c.length).filter (fun k => decide (((outA one k).2.l.length : Int) = (inA other (i : Nat)).2)) = fs
      have hfm : ∀ k ∈ fs, (0 ≤ k ∧ k < one.c.length) ∧ ((outA one k).2.l.length : Int) = (inA other (i : Nat)).2 := fun k hk => by
        rw [← hf] at hk
        obtain ⟨q1, q2⟩ := List.mem_filter.mp hk
        exact ⟨rng_mem q1, of_decide_eq_true q2⟩
      refine Ok.bind (jstir_ok _ _ (by omega) (by omega)) fun r24 _ => ?_
      refine Ok.bind (P := fun s' : List (Int × Int) => s'.length ≤ i + 1 ∧ (∀ p ∈ s', ((0 ≤ p.1 ∧ p.1 < one.c.length) ∧ (0 ≤ p.2 ∧ p.2 < ((i + 1 : Nat) : Int))) ∧ ((outA one p.1).2.l.length : Int) = (inA other p.2).2) ∧ (s'.map fun x => x.2).Nodup) ?_ fun _ h => Ok.pure h
      have old : s.length ≤ i + 1 ∧ (∀ p ∈ s, ((0 ≤ p.1 ∧ p.1 < one.c.length) ∧ (0 ≤ p.2 ∧ p.2 < ((i + 1 : Nat) : Int))) ∧ ((outA one p.1).2.l.length : Int) = (inA other p.2).2) ∧ (s.map fun x => x.2).Nodup :=
        ⟨by omega, fun p hp => by have := I2 p hp; exact ⟨⟨this.1.1, this.1.2.1, by omega⟩, this.2⟩, I3⟩
      refine Ok.ite (fun hc => ?_) fun _ => Ok.pure old
      rw [Bool.and_eq_true] at hc
      have hne : fs.length ≠ 0 := fun z => by
        have : fs = [] := List.length_eq_zero_iff.mp z
        rw [this] at hc
        simp at hc
      refine Ok.bind (Ok.modO (by omega)) fun t29 h29 => ?_
      refine Ok.bind (Ok.atI h29.2.1 h29.2.2) fun t31 h31 => ?_
      have hm := hfm t31 (get_mem h31)
      refine Ok.bind (Ok.appO (by omega)) fun u33 e33 => Ok.pure ?_
      subst e33
      refine ⟨by rw [List.length_append]; exact Nat.succ_le_succ I1, fun p hp => ?_, ?_⟩
      · rcases List.mem_append.mp hp with h | h
        · exact old.2.1 p h
        · rw [List.mem_singleton] at h
          subst h
          exact ⟨⟨hm.1, by show (0 : Int) ≤ (i : Nat); omega, by show ((i : Nat) : Int) < _; omega⟩, hm.2⟩
      · rw [List.map_append, List.nodup_append]
        refine ⟨I3, by simp, fun a ha b hb => ?_⟩
        obtain ⟨p, hp, rfl⟩ := List.mem_map.mp ha
        have hb : b = (i : Int) := by simpa using hb
        have := (I2 p hp).1.2.2
        omega
  · obtain ⟨s1, s2, s3⟩ := hs
    have fin : ∀ t : List (Int × Int), t.length = s.length → (∀ p, p ∈ t ↔ p ∈ s) → (t.map fun x => x.2).Nodup → Pr one other t := fun t ht hm hn =>
      ⟨⟨by omega, fun p hp => (s2 p ((hm p).mp hp)).1⟩, List.all_eq_true.mpr fun p hp => decide_eq_true (s2 p ((hm p).mp hp)).2, hn, by omega⟩
    refine Ok.bind (jstir_ok _ _ (by omega) (by omega)) fun r36 _ => ?_
    refine Ok.bind (P := Pr one other) ?_ fun _ h => Ok.pure h
    refine Ok.ite (fun _ => Ok.pure (fin _ (List.length_reverse) (fun p => List.mem_reverse) ?_)) fun _ => Ok.pure (fin s rfl (fun _ => Iff.rfl) s3)
    rw [List.map_reverse]
    exact (List.reverse_perm _).nodup_iff.mpr s3
end W

set_option synthInstance.maxHeartbeats 400000
set_option synthInstance.maxSize 2000
namespace W
open PySem L2 TL
open Enc
/-! ### joined, where it isn't refused -/
def jinm (one other : NetJ) (ps : List (Int × Int)) : List Str := (jins one other ps).map fun x => x.1
def jonl (one other : NetJ) (ps : List (Int × Int)) : List (Str × Tp Int) := (jkept one ps).map (outA one) ++ other.c
def jonm (one other : NetJ) (ps : List (Int × Int)) : List Str := (jonl one other ps).map fun x => x.1
def bFull (one other : NetJ) (ps : List (Int × Int)) : Bool := decide ((6 : Int) < ((jins one other ps).length : Int)) || (decide ((60 : Int) < ((one.b.length : Int) + (other.b.length : Int))) || decide ((6 : Int) < (((jkept one ps).length : Int) + (other.c.length : Int))))
theorem any_fit (one other : NetJ) (ps : List (Int × Int)) : (ps.any fun x => !decide (((outA one x.1).2.l.length : Int) = (inA other x.2).2)) = !bFit one other ps := by
  unfold bFit
  rw [List.not_all_eq_any_not]
/-- it isn't refused -/
structure JG (one other : NetJ) (ps : List (Int × Int)) : Prop where
  j1 : Jn one
  j2 : Jn other
  jp : Jp one other ps
  fit : bFit one other ps = true
  nd : (jplaces ps).Nodup
  ni : (jinm one other ps).Nodup
  no : (jonm one other ps).Nodup
  nf : bFull one other ps = false
theorem need_fit_is (one other : NetJ) (ps : List (Int × Int)) (h : Jp one other ps) (hf : bFit one other ps = true) (hn : (jplaces ps).Nodup) : m_need_fit one other ps = some () := by
  have hl := h.len
  unfold m_need_fit
  have e : ∀ (xs : List (Int × Int)), (∀ x ∈ xs, x ∈ ps) → forF (S := Unit) (R := Unit) (fun (x3 : (Int × Int)) (s2 : Unit) => (
(atI one.c x3.1).bind fun t7 =>
(atI other.a x3.2).bind fun t9 =>
if (!decide ((t7.2.l.length : Int) = t9.2)) = true then (
none)
else (
some (.nx ())) : Option (Fl (Unit) (Unit)))) xs () = some (.nx ()) := by
    intro xs
    induction xs with
    | nil => intro _; rfl
    | cons x xs ih =>
      intro hx
      have hm := hx x (List.mem_cons_self ..)
      obtain ⟨⟨a1, a2⟩, a3, a4⟩ := h.mem x hm
      have hfx := bFit_of hf x hm
      unfold TL.forF
      rw [show L2.atI one.c x.1 = some (outA one x.1) from jatI _ a1 a2, Option.bind_some, show L2.atI other.a x.2 = some (inA other x.2) from jatI _ a3 a4, Option.bind_some, decide_eq_true hfx, if_neg (by decide)]
      exact ih fun y hy => hx y (List.mem_cons_of_mem _ hy)
  rw [e ps fun _ h => h, Option.bind_some]
  show (cardO (jplaces ps)).bind _ = _
  have hpl : (jplaces ps).length < 64 := by unfold jplaces; rw [List.length_map]; omega
  rw [jcard hpl, Option.bind_some]
  show (if (!decide (((jplaces ps).length : Int) = ((cardL (jplaces ps) : Nat) : Int))) = true then _ else _) = _
  rw [card_dec, decide_eq_true hn]
  rfl
theorem need_names_is (xs : List (Str × IT)) (ns : List Str) (e : (xs.map fun x => x.1) = ns) (h : xs.length < 64) (hn : ns.Nodup) : m_need_names xs = some () := by
  have hl : ns.length < 64 := by rw [← e, List.length_map]; exact h
  unfold m_need_names
  rw [Option.bind_some, e, jcard hl, Option.bind_some, card_dec, decide_eq_true hn]
  rfl
theorem rest_eq (other : NetJ) (ps : List (Int × Int)) : filtO (fun (x12 : Int) => some (!decide (x12 ∈ jplaces ps))) (fun (x12 : Int) => (atI other.a x12).bind fun t17 => some (t17 : (Str × Int))) (rngL 0 other.a.length) = some (jrest other ps) :=
  jfiltO (fun x => !decide (x ∈ jplaces ps)) (inA other) _ (fun _ _ => rfl) fun k hk _ => by
    have := rng_mem hk
    rw [show L2.atI other.a k = some (inA other k) from jatI _ this.1 this.2]
    rfl
theorem kept_map {β : Type} (one : NetJ) (ps : List (Int × Int)) (f : Int → Option β) (g : Int → β) (h : ∀ k : Int, 0 ≤ k → k < one.c.length → f k = some (g k)) : mapO f (jkept one ps) = some ((jkept one ps).map g) :=
  jmapO g _ fun k hk => h k (kept_mem hk).1 (kept_mem hk).2
theorem joined_is (one other : NetJ) (ps : List (Int × Int)) (g : JG one other ps) : m_joined one other ps = some (jNet one other ps) := by
  obtain ⟨h1, h2, h, hfit, hn, hi, ho, hf⟩ := g
  have hil := jins_le (ps := ps) h1 h2
  have hkl := kept_le one ps
  have hc1 := h1.cl
  have hc2 := h2.cl
  have hol : (jonl one other ps).length < 64 := by unfold jonl; rw [List.length_append, List.length_map]; omega
  unfold m_joined
  rw [need_fit_is one other ps h hfit hn, Option.bind_some]
  show (filtO (fun (x12 : Int) => some (!decide (x12 ∈ jplaces ps))) _ _).bind _ = _
  rw [rest_eq, Option.bind_some]
  unfold extO
  rw [if_pos (by have := h1.al; have := rest_le other ps; have := h2.al; omega), Option.bind_some, Option.bind_some, Option.bind_some]
  rw [List.map_id']
  show (m_need_names (itIL (jins one other ps))).bind _ = _
  rw [need_names_is (itIL (jins one other ps)) (jinm one other ps) (by unfold itIL jinm; rw [List.map_map]; rfl) (by unfold itIL; rw [List.length_map]; omega) hi, Option.bind_some]
  show (mapO _ (jkept one ps)).bind _ = _
  rw [kept_map one ps _ (outA one) fun k k0 k1 => by rw [show L2.atI one.c k = some (outA one k) from jatI _ k0 k1]; rfl, Option.bind_some]
  rw [if_pos (by rw [List.length_map]; omega), Option.bind_some]
  show (m_need_names (itTL (jonl one other ps))).bind _ = _
  rw [need_names_is (itTL (jonl one other ps)) (jonm one other ps) (by unfold itTL jonm; rw [List.map_map]; rfl) (by unfold itTL; rw [List.length_map]; omega) ho, Option.bind_some]
  show (if bFull one other ps = true then _ else _) = _
  rw [hf, if_neg (by decide)]
  have fit := bFit_of hfit
  have s1 := h1.sum
  have sJ := sumI_bd _ (jins_w (ps := ps) h1 h2)
  rw [Option.bind_some]
  have eF : filtO (fun (x59 : (Str × Int)) => some true) (fun (x59 : (Str × Int)) => some (x59.2 : Int)) (jins one other ps) = some ((jins one other ps).map fun x => x.2) := by
    have := jfiltO (p := fun (x59 : (Str × Int)) => some true) (f := fun (x59 : (Str × Int)) => some (x59.2 : Int)) (fun _ => true) (fun x => x.2) (jins one other ps) (fun _ _ => rfl) (fun _ _ _ => rfl)
    rw [List.filter_eq_self.mpr fun _ _ => rfl] at this
    exact this
  show (filtO (fun (x59 : (Str × Int)) => some true) (fun (x59 : (Str × Int)) => some (x59.2 : Int)) (jins one other ps)).bind _ = _
  rw [eF, Option.bind_some]
  show (m_wires_of_one one (sumI (jins one other ps) - sumI one.a)).bind _ = _
  rw [wires_one_is one _ h1, Option.bind_some]
  have hw1 : ((jr1 one other ps).length : Int) = sumI one.a + one.b.length := w1_len one _ h1
  show (forS (S := List (Int × List Int)) (fun (x74 : Int × Int) (s73 : List (Int × List Int)) => ((atI one.c x74.1).bind fun t78 => (mapO (fun (x81 : Int) => (atI (jr1 one other ps) x81).bind fun t86 => some (t86 : Int)) t78.2.l).bind fun l88 => (putMO s73 x74.2 l88).bind fun u90 => some u90 : Option (List (Int × List Int)))) ps []).bind _ = _
  rw [jfed_is (jr1 one other ps) one other h1 hw1 ps [] h.mem (by have := h.len; simp; omega), Option.bind_some]
  have hfd := jfed_len (jr1 one other ps) one other ps [] fit fun k l e => by cases e
  have w2i := wires_other_is other (jfd one other ps) (sumI one.a) (sumI (jins one other ps) + one.b.length) h2 hfd s1.1 (by omega)
  show (m_wires_of_other other (jfd one other ps) (sumI one.a) (sumI (jins one other ps) + one.b.length)).bind _ = _
  rw [w2i.1, Option.bind_some]
  have hw2 : ((jr2 one other ps).length : Int) = sumI other.a + other.b.length := w2i.2
  show (mapO (fun (x96 : Int) => (atI one.c x96).bind fun t113 => (atI one.c x96).bind fun t115 => (mapO (fun (x118 : Int) => (atI (jr1 one other ps) x118).bind fun t123 => some (t123 : Int)) t115.2.l).bind fun l125 => some ((t113.1, (Tp.mk l125)) : (Str × (Tp Int)))) (jkept one ps)).bind _ = _
  rw [kept_map one ps _ (fun k => ((outA one k).1, (⟨(outA one k).2.l.map (gI (jr1 one other ps))⟩ : Tp Int))) fun k k0 k1 => by
    rw [show L2.atI one.c k = some (outA one k) from jatI _ k0 k1, Option.bind_some, Option.bind_some]
    rw [jmapO (gI (jr1 one other ps)) (outA one k).2.l fun x hx => by
      have := (h1.ow _ (outA_mem k0 k1)).2 x hx
      rw [jatI 0 this.1 (by omega)]; rfl]
    rfl, Option.bind_some]
  show (mapO (fun (x130 : (Str × (Tp Int))) => (mapO (fun (x144 : Int) => (atI (jr2 one other ps) x144).bind fun t149 => some (t149 : Int)) x130.2.l).bind fun l151 => some ((x130.1, (Tp.mk l151)) : (Str × (Tp Int)))) other.c).bind _ = _
  rw [jmapO (fun o : Str × Tp Int => (o.1, (⟨o.2.l.map (gI (jr2 one other ps))⟩ : Tp Int))) other.c fun o ho => by
    rw [jmapO (gI (jr2 one other ps)) o.2.l fun x hx => by
      have := (h2.ow o ho).2 x hx
      rw [jatI 0 this.1 (by omega)]; rfl]
    rfl, Option.bind_some]
  rw [if_pos (by rw [List.length_map, List.length_map]; omega), Option.bind_some]
  rw [show w1 one (sumI (jins one other ps) - sumI one.a) = jr1 one other ps from rfl, show w2 other (jfd one other ps) (sumI one.a) (sumI (jins one other ps) + one.b.length) = jr2 one other ps from rfl]
  rw [moved_is one.b (jr1 one other ps) fun g hg x hx => by have := h1.gw g hg x hx; omega, Option.bind_some]
  rw [moved_is other.b (jr2 one other ps) fun g hg x hx => by have := h2.gw g hg x hx; omega, Option.bind_some]
  have hb1 := h1.bl
  have hb2 := h2.bl
  rw [if_pos (by unfold mv; rw [List.length_map, List.length_map]; omega), Option.bind_some]
  rfl
end W

set_option synthInstance.maxHeartbeats 400000
set_option synthInstance.maxSize 2000
namespace W
open PySem L2 TL
open Enc
/-! ### gates with other numbers of wires -/
theorem go_ren (r : List Int) (T T' : Int → Bool) : ∀ (gs : List Gt) (p p' : Int) (s S : Bs), (∀ i : Nat, i < gs.length → T (p + i) = T' (p' + i)) → (∀ w : Int, 0 ≤ w → w < s.length → (0 ≤ gI r w ∧ gI r w < S.length) ∧ atB S (gI r w) = atB s w) →
    (∀ (i : Nat) g, gs[i]? = some g → ∀ w ∈ g.b.l, 0 ≤ w ∧ w < (s.length : Int) + i) → (∀ i : Nat, i < gs.length → gI r ((s.length : Int) + i) = (S.length : Int) + i) →
    ∀ w : Int, 0 ≤ w → w < (s.length : Int) + gs.length → (0 ≤ gI r w ∧ gI r w < (S.length : Int) + gs.length) ∧ atB (goB T (mv gs r) p S) (gI r w) = atB (goB T' gs p' s) w
  | [], p, p', s, S, _, hr, _, _ => fun w h0 h1 => by
    have h1 : w < (s.length : Int) + 0 := h1
    have := hr w h0 (by omega)
    exact ⟨⟨this.1.1, by have := this.1.2; show _ < (S.length : Int) + 0; omega⟩, this.2⟩
  | g :: gs, p, p', s, S, hT, hr, hg, ha => by
    have hT0 : T p = T' p' := by have := hT 0 (by simp); simpa using this
    have hg0 := hg 0 g rfl
    have ha0 : gI r (s.length : Int) = (S.length : Int) := by have := ha 0 (by simp); simpa using this
    have ev : ((g.b.l.map (gI r)).map (atB S)) = g.b.l.map (atB s) := by
      rw [List.map_map]
      refine List.map_congr_left fun w hw => ?_
      have := hg0 w hw
      exact (hr w this.1 (by omega)).2
    have step := go_ren r T T' gs (p + 1) (p' + 1) (s ++ [gB g.a (g.b.l.map (atB s)) ^^ T' p']) (S ++ [gB g.a ((g.b.l.map (gI r)).map (atB S)) ^^ T p])
      (fun i hi => by have := hT (i + 1) (by rw [List.length_cons]; omega); rw [show p + 1 + (i : Int) = p + ((i + 1 : Nat) : Int) by omega, show p' + 1 + (i : Int) = p' + ((i + 1 : Nat) : Int) by omega]; exact this)
      (fun w h0 h1 => by
        rw [List.length_append] at h1 ⊢
        have h1 : w < ((s.length + 1 : Nat) : Int) := h1
        by_cases q : w < s.length
        · have := hr w h0 q
          refine ⟨⟨this.1.1, by have := this.1.2; show _ < ((S.length + 1 : Nat) : Int); omega⟩, ?_⟩
          rw [atB_app _ _ _ this.1.1, if_pos this.1.2, atB_app _ _ _ h0, if_pos q]
          exact this.2
        · have e : w = (s.length : Int) := by omega
          subst e
          rw [ha0]
          refine ⟨⟨by omega, by show _ < ((S.length + 1 : Nat) : Int); omega⟩, ?_⟩
          rw [atB_app _ _ _ (by omega), if_neg (by omega), if_pos rfl, atB_app _ _ _ (by omega), if_neg (by omega), if_pos rfl, ev, hT0])
      (fun i g' hg' w hw => by
        have := hg (i + 1) g' (by simpa using hg') w hw
        rw [List.length_append]
        show 0 ≤ w ∧ w < ((s.length + 1 : Nat) : Int) + i
        omega)
      (fun i hi => by
        have := ha (i + 1) (by rw [List.length_cons]; omega)
        rw [List.length_append, List.length_append]
        show gI r (((s.length + 1 : Nat) : Int) + i) = ((S.length + 1 : Nat) : Int) + i
        rw [show ((s.length + 1 : Nat) : Int) + (i : Int) = (s.length : Int) + ((i + 1 : Nat) : Int) by omega, this]
        omega)
    intro w h0 h1
    have := step w h0 (by rw [List.length_append]; rw [List.length_cons] at h1; show w < ((s.length + 1 : Nat) : Int) + gs.length; omega)
    refine ⟨⟨this.1.1, ?_⟩, this.2⟩
    have h := this.1.2
    rw [List.length_append] at h
    have h : gI r w < ((S.length + 1 : Nat) : Int) + gs.length := h
    rw [List.length_cons]
    omega
/-! ### ins -/
def flipB (B : Int → Bool) : Nat → Bs → Bs
  | _, [] => []
  | f, v :: l => (v ^^ B f) :: flipB B (f + 1) l
theorem flipB_len (B : Int → Bool) : ∀ (l : Bs) (f : Nat), (flipB B f l).length = l.length
  | [], _ => rfl
  | v :: l, f => by unfold flipB; rw [List.length_cons, List.length_cons, flipB_len B l (f + 1)]
theorem flipB_app (B : Int → Bool) : ∀ (l m : Bs) (f : Nat), flipB B f (l ++ m) = flipB B f l ++ flipB B (f + l.length) m
  | [], m, f => rfl
  | v :: l, m, f => by
    rw [List.cons_append]
    unfold flipB
    rw [flipB_app B l m (f + 1), List.cons_append, List.length_cons, show f + 1 + l.length = f + (l.length + 1) by omega]
    cases m <;> rfl
theorem repB_is (B : Int → Bool) (v : Bool) : ∀ (m : Nat) (s : Bs), repB B v m s = s ++ flipB B s.length (List.replicate m v)
  | 0, s => by unfold repB flipB; rw [List.replicate_zero, List.append_nil]
  | m + 1, s => by
    unfold repB
    rw [repB_is B v m, List.replicate_succ, List.append_assoc, List.length_append]
    rfl
/-- the bits of the ins' wires, none turned -/
def expB (b : Bs) : List (Str × Int) → Nat → Bs
  | [], _ => []
  | x :: xs, k => List.replicate x.2.toNat (b.getD k false) ++ expB b xs (k + 1)
theorem insB_is (B : Int → Bool) (b : Bs) : ∀ (xs : List (Str × Int)) (k : Nat) (s : Bs), insB B xs k b s = s ++ flipB B s.length (expB b xs k)
  | [], k, s => by unfold insB expB flipB; rw [List.append_nil]
  | x :: xs, k, s => by
    unfold insB expB
    rw [insB_is B b xs (k + 1), repB_is, flipB_app, List.append_assoc, List.length_append, flipB_len]
theorem expB_app (b : Bs) : ∀ (xs ys : List (Str × Int)) (k : Nat), expB b (xs ++ ys) k = expB b xs k ++ expB b ys (k + xs.length)
  | [], ys, k => rfl
  | x :: xs, ys, k => by
    rw [List.cons_append]
    unfold expB
    rw [expB_app b xs ys (k + 1), List.append_assoc, List.length_cons, show k + 1 + xs.length = k + (xs.length + 1) by omega]
    cases ys <;> rfl
theorem expB_len (b : Bs) : ∀ (xs : List (Str × Int)) (k : Nat), (∀ x ∈ xs, 1 ≤ x.2 ∧ x.2 ≤ 3) → ((expB b xs k).length : Int) = sumI xs
  | [], _, _ => rfl
  | x :: xs, k, h => by
    have h1 := h x (List.mem_cons_self ..)
    have ih := expB_len b xs (k + 1) fun y hy => h y (List.mem_cons_of_mem _ hy)
    unfold expB
    rw [List.length_append, List.length_replicate, sumI_cons]
    omega
theorem atB_left {s t : Bs} {w : Int} (h0 : 0 ≤ w) (h : w < s.length) : atB (s ++ t) w = atB s w := by
  unfold atB
  rw [List.getD_eq_getElem?_getD, List.getD_eq_getElem?_getD, List.getElem?_append_left (by omega)]
theorem atB_right {s t : Bs} {i : Nat} : atB (s ++ t) ((s.length : Int) + i) = atB t (i : Int) := by
  unfold atB
  rw [List.getD_eq_getElem?_getD, List.getD_eq_getElem?_getD, List.getElem?_append_right (by omega), show ((s.length : Int) + (i : Int)).toNat - s.length = ((i : Nat) : Int).toNat by omega]
end W

set_option synthInstance.maxHeartbeats 400000
set_option synthInstance.maxSize 2000
namespace W
open PySem L2 TL
open Enc
/-! ### the joined net's wires -/
def FMg (ps : List (Int × Int)) (acc : List (Int × Int)) : List (Int × Int) := (ps.map fun (x31 : (Int × Int)) => ((x31.2, x31.1) : (Int × Int))).foldl (fun acc p => putM acc p.1 p.2) acc
theorem fm_no (j : Int) : ∀ (ps acc : List (Int × Int)), (∀ p ∈ ps, p.2 ≠ j) → getM (FMg ps acc) j = getM acc j
  | [], _, _ => rfl
  | p :: ps, acc, h => by
    show getM (FMg ps (putM acc p.2 p.1)) j = _
    rw [fm_no j ps _ fun q hq => h q (List.mem_cons_of_mem _ hq), getM_put, if_neg (h p (List.mem_cons_self ..))]
theorem fm_yes : ∀ (ps acc : List (Int × Int)), (jplaces ps).Nodup → ∀ p ∈ ps, getM (FMg ps acc) p.2 = some p.1
  | [], _, _, p, hp => by cases hp
  | q :: ps, acc, hn, p, hp => by
    have hn : (q.2 :: jplaces ps).Nodup := hn
    obtain ⟨n1, n2⟩ := List.nodup_cons.mp hn
    show getM (FMg ps (putM acc q.2 q.1)) p.2 = _
    rcases List.mem_cons.mp hp with e | hp
    · subst e
      rw [fm_no _ ps _ fun r hr e => n1 (by rw [← e]; exact List.mem_map.mpr ⟨r, hr, rfl⟩), getM_put, if_pos rfl]
    · exact fm_yes ps _ n2 p hp
def FM (ps : List (Int × Int)) : List (Int × Int) := mergeM (ps.map fun (x31 : (Int × Int)) => ((x31.2, x31.1) : (Int × Int)))
def yGo (one : NetJ) (s1 : Bs) (ps : List (Int × Int)) (B : Int → Bool) (b : Bs) : List (Str × Int) → Nat → Nat → Nat → Bs
  | [], _, _, _ => []
  | x :: xs, p, f, k => match getM (FM ps) (p : Int) with
    | some out => (outA one out).2.l.map (atB s1) ++ yGo one s1 ps B b xs (p + 1) f k
    | none => flipB B f (List.replicate x.2.toNat (b.getD k false)) ++ yGo one s1 ps B b xs (p + 1) (f + x.2.toNat) (k + 1)
def Rel (S : Bs) (ws : List Int) (l : Bs) : Prop := l.length = ws.length ∧ ∀ (i : Nat) w v, ws[i]? = some w → l[i]? = some v → (0 ≤ w ∧ w < S.length) ∧ atB S w = v
theorem Rel.app {S : Bs} {w1 w2 : List Int} {l1 l2 : Bs} (h1 : Rel S w1 l1) (h2 : Rel S w2 l2) : Rel S (w1 ++ w2) (l1 ++ l2) := by
  refine ⟨by rw [List.length_append, List.length_append, h1.1, h2.1], fun i w v hw hv => ?_⟩
  by_cases hi : i < w1.length
  · rw [List.getElem?_append_left hi] at hw
    rw [List.getElem?_append_left (by rw [h1.1]; exact hi)] at hv
    exact h1.2 i w v hw hv
  · rw [List.getElem?_append_right (by omega)] at hw
    rw [List.getElem?_append_right (by rw [h1.1]; omega), h1.1] at hv
    exact h2.2 _ w v hw hv
theorem gI_at {l : List Int} {k : Int} {w : Int} (h : l[k.toNat]? = some w) : gI l k = w := by unfold gI; rw [h]; rfl
theorem atB_get {s : Bs} {k : Nat} {v : Bool} (h : s[k]? = some v) : atB s (k : Int) = v := by
  unfold atB
  rw [List.getD_eq_getElem?_getD, Int.toNat_natCast, h]
  rfl
theorem Rel.at {S : Bs} {ws : List Int} {l : Bs} (h : Rel S ws l) {k : Int} (h0 : 0 ≤ k) (h1 : k < l.length) : (0 ≤ gI ws k ∧ gI ws k < S.length) ∧ atB S (gI ws k) = atB l k := by
  obtain ⟨v, hv⟩ := lt_get (xs := l) (i := k.toNat) (by omega)
  obtain ⟨w, hw⟩ := lt_get (xs := ws) (i := k.toNat) (by rw [← h.1]; omega)
  have := h.2 _ w v hw hv
  rw [gI_at hw, show k = ((k.toNat : Nat) : Int) by omega, atB_get hv]
  exact this
theorem gI_left {a b : List Int} {w : Int} (h0 : 0 ≤ w) (h : w < a.length) : gI (a ++ b) w = gI a w := by
  unfold gI
  rw [List.getElem?_append_left (by omega)]
theorem gI_off {a : List Int} {off : Int} {n i : Nat} (h : i < n) : gI (a ++ (rngL 0 n).map fun x => off + x) ((a.length : Int) + i) = off + i := by
  refine gI_at ?_
  rw [List.getElem?_append_right (by omega), show ((a.length : Int) + (i : Int)).toNat - a.length = i by omega, List.getElem?_map]
  obtain ⟨y, hy⟩ := lt_get (xs := rngL 0 n) (i := i) (by rw [rngL_length]; exact h)
  rw [hy, (rngL_get hy).2, Int.zero_add]
  rfl
theorem flipB_get (B : Int → Bool) : ∀ (l : Bs) (f i : Nat) (v : Bool), l[i]? = some v → (flipB B f l)[i]? = some (v ^^ B ((f + i : Nat) : Int))
  | [], _, _, _, h => by simp at h
  | u :: l, f, 0, v, h => by
    have h : u = v := by simpa using h
    subst h
    rfl
  | u :: l, f, i + 1, v, h => by
    unfold flipB
    rw [List.getElem?_cons_succ, flipB_get B l (f + 1) i v (by simpa using h), show f + 1 + i = f + (i + 1) by omega]
/-- what stays unfed -/
def Rs (ps : List (Int × Int)) (xs : List (Str × Int)) (p : Nat) : List (Str × Int) := ((xs.zipIdx p).filter fun q => !decide (((q.2 : Nat) : Int) ∈ jplaces ps)).map fun q => q.1
section
variable (one other : NetJ) (ps : List (Int × Int)) (g : JG one other ps) (T B : Int → Bool) (b : Bs)
include g
theorem ins_rel (s1 S : Bs) (hs1 : ∀ w : Int, 0 ≤ w → w < sumI one.a + one.b.length → (0 ≤ gI (jr1 one other ps) w ∧ gI (jr1 one other ps) w < S.length) ∧ atB S (gI (jr1 one other ps) w) = atB s1 w) :
    ∀ (xs : List (Str × Int)) (p f k : Nat) (pre : Bs), (∀ (i : Nat) x, xs[i]? = some x → inA other ((p + i : Nat) : Int) = x) → (∀ x ∈ xs, 1 ≤ x.2 ∧ x.2 ≤ 3) → p + xs.length ≤ other.a.length → pre.length = f →
      (∀ w : Int, 0 ≤ w → w < ((pre ++ flipB B f (expB b (Rs ps xs p) k)).length : Nat) → w < S.length ∧ atB S w = atB (pre ++ flipB B f (expB b (Rs ps xs p) k)) w) →
      Rel S (w2go (jfd one other ps) xs (p : Int) (f : Int)) (yGo one s1 ps B b xs p f k)
  | [], p, f, k, pre, _, _, _, _, _ => ⟨rfl, fun i w v h => by simp [w2go] at h⟩
  | x :: xs, p, f, k, pre, hx, hw, hl, hp, hS => by
    have hx0 : inA other (p : Int) = x := hx 0 x rfl
    have h1 := hw x (List.mem_cons_self ..)
    rw [List.length_cons] at hl
    have ih := fun f k pre => ins_rel s1 S hs1 xs (p + 1) f k pre (fun i y hy => by have := hx (i + 1) y hy; rw [show p + (i + 1) = p + 1 + i by omega] at this; exact this) (fun y hy => hw y (List.mem_cons_of_mem _ hy)) (by omega)
    have ep : ((p : Nat) : Int) + 1 = ((p + 1 : Nat) : Int) := by omega
    have eR : Rs ps (x :: xs) p = if (p : Int) ∈ jplaces ps then Rs ps xs (p + 1) else x :: Rs ps xs (p + 1) := by
      unfold Rs
      rw [zipIdx_cons', List.filter_cons]
      by_cases c : (p : Int) ∈ jplaces ps
      · rw [decide_eq_true c, if_pos c]; rfl
      · rw [decide_eq_false c, if_neg c]; rfl
    unfold w2go yGo
    rw [ep]
    by_cases c : (p : Int) ∈ jplaces ps
    · rw [eR, if_pos c] at hS
      obtain ⟨q, hq, eq⟩ := List.mem_map.mp c
      have hj : getM (jfd one other ps) (p : Int) = some ((outA one q.1).2.l.map (gI (jr1 one other ps))) := by
        rw [← eq]
        have jy : ∀ (w : List Int) (ps : List (Int × Int)) (s : List (Int × List Int)), (jplaces ps).Nodup → ∀ p ∈ ps, getM (jfed w one ps s) p.2 = some ((outA one p.1).2.l.map (gI w)) := by
          intro w ps
          have jn : ∀ (j : Int) (ps : List (Int × Int)) (s : List (Int × List Int)), (∀ p ∈ ps, p.2 ≠ j) → getM (jfed w one ps s) j = getM s j := by
            intro j ps
            induction ps with
            | nil => intro s _; rfl
            | cons p ps ih =>
              intro s h
              show getM (jfed w one ps (putM s p.2 _)) j = _
              rw [ih _ fun q hq => h q (List.mem_cons_of_mem _ hq), getM_put, if_neg (h p (List.mem_cons_self ..))]
          induction ps with
          | nil => intro s _ p hp; cases hp
          | cons r ps ih =>
            intro s hn p hp
            have hn : (r.2 :: jplaces ps).Nodup := hn
            obtain ⟨n1, n2⟩ := List.nodup_cons.mp hn
            show getM (jfed w one ps (putM s r.2 _)) p.2 = _
            rcases List.mem_cons.mp hp with e | hp
            · subst e
              rw [jn _ ps _ fun t ht e => n1 (by rw [← e]; exact List.mem_map.mpr ⟨t, ht, rfl⟩), getM_put, if_pos rfl]
            · exact ih _ n2 p hp
        exact jy _ ps [] g.nd q hq
      have hf : getM (FM ps) (p : Int) = some q.1 := by rw [← eq]; exact fm_yes ps [] g.nd q hq
      rw [hj, hf]
      have hm := g.jp.mem q hq
      refine Rel.app ⟨by rw [List.length_map, List.length_map], fun i w v hw' hv => ?_⟩ (ih f k pre hp hS)
      rw [List.getElem?_map] at hw' hv
      cases e : (outA one q.1).2.l[i]? with
      | none => rw [e] at hw'; cases hw'
      | some u =>
        rw [e] at hw' hv
        have hw' : gI (jr1 one other ps) u = w := Option.some.inj hw'
        have hv : atB s1 u = v := Option.some.inj hv
        have := (g.j1.ow _ (outA_mem hm.1.1 hm.1.2)).2 u (get_mem e)
        have := hs1 u this.1 this.2
        rw [← hw', ← hv]
        exact this
    · rw [eR, if_neg c] at hS
      have hj : getM (jfd one other ps) (p : Int) = none := by
        have jn : ∀ (w : List Int) (j : Int) (ps : List (Int × Int)) (s : List (Int × List Int)), (∀ p ∈ ps, p.2 ≠ j) → getM (jfed w one ps s) j = getM s j := by
          intro w j ps
          induction ps with
          | nil => intro s _; rfl
          | cons p ps ih =>
            intro s h
            show getM (jfed w one ps (putM s p.2 _)) j = _
            rw [ih _ fun q hq => h q (List.mem_cons_of_mem _ hq), getM_put, if_neg (h p (List.mem_cons_self ..))]
        exact jn _ _ ps [] fun q hq e => c (by rw [← e]; exact List.mem_map.mpr ⟨q, hq, rfl⟩)
      have hf : getM (FM ps) (p : Int) = none := fm_no _ ps [] fun q hq e => c (by rw [← e]; exact List.mem_map.mpr ⟨q, hq, rfl⟩)
      rw [hj, hf]
      have eX : expB b (x :: Rs ps xs (p + 1)) k = List.replicate x.2.toNat (b.getD k false) ++ expB b (Rs ps xs (p + 1)) (k + 1) := rfl
      rw [eX, flipB_app, List.length_replicate, ← List.append_assoc] at hS
      have hfl : (flipB B f (List.replicate x.2.toNat (b.getD k false))).length = x.2.toNat := by rw [flipB_len, List.length_replicate]
      have ew : (f : Int) + x.2 = ((f + x.2.toNat : Nat) : Int) := by omega
      rw [ew]
      refine Rel.app ⟨by rw [hfl, rngL_length], fun i w v hw' hv => ?_⟩ (ih (f + x.2.toNat) (k + 1) (pre ++ flipB B f (List.replicate x.2.toNat (b.getD k false))) (by rw [List.length_append, hfl, hp]) hS)
      have hi := get_lt hv
      rw [hfl] at hi
      have e := (rngL_get hw').2
      subst e
      have := hS ((f : Int) + i) (by omega) (by rw [List.length_append, List.length_append, hfl, hp]; omega)
      refine ⟨⟨by omega, this.1⟩, ?_⟩
      rw [this.2, atB_left (by omega) (by rw [List.length_append, hfl, hp]; omega), ← hp, atB_right, hp]
      exact atB_get hv
theorem r2_gate {i : Nat} (h : i < other.b.length) : gI (jr2 one other ps) (sumI other.a + i) = (sumI (jins one other ps) + one.b.length) + i := by
  have fit := bFit_of g.fit
  have hfd := jfed_len (jr1 one other ps) one other ps [] fit fun k l e => by cases e
  have hl := w2go_len (jfd one other ps) other hfd other.a 0 (sumI one.a) (fun i x hx => by unfold inA; rw [show (((0 + i : Nat) : Int)).toNat = i by omega, hx]; rfl) g.j2.iw
  have hl : ((w2go (jfd one other ps) other.a 0 (sumI one.a)).length : Int) = sumI other.a := hl
  unfold jr2 w2
  rw [← hl]
  exact gI_off h
theorem r1_gate {i : Nat} (h : i < one.b.length) : gI (jr1 one other ps) (sumI one.a + i) = sumI (jins one other ps) + i := by
  have hs := g.j1.sum
  have hl : ((rngL 0 (sumI one.a).toNat).length : Int) = sumI one.a := by rw [rngL_length]; omega
  have e := gI_off (a := rngL 0 (sumI one.a).toNat) (off := sumI one.a + (sumI (jins one other ps) - sumI one.a)) h
  rw [hl] at e
  unfold jr1 w1
  rw [e]
  omega
theorem r1_in {w : Int} (h0 : 0 ≤ w) (h : w < sumI one.a) : gI (jr1 one other ps) w = w := by
  have hs := g.j1.sum
  unfold jr1 w1
  rw [gI_left h0 (by rw [rngL_length]; omega)]
  obtain ⟨y, hy⟩ := lt_get (xs := rngL 0 (sumI one.a).toNat) (i := w.toNat) (by rw [rngL_length]; omega)
  rw [gI_at hy, (rngL_get hy).2]
  omega
end
end W

set_option synthInstance.maxHeartbeats 400000
set_option synthInstance.maxSize 2000
namespace W
open PySem L2 TL
open Enc
theorem inA_at (n : NetJ) : ∀ (i : Nat) x, n.a[i]? = some x → inA n ((0 + i : Nat) : Int) = x := fun i x hx => by
  unfold inA
  rw [show (((0 + i : Nat) : Int)).toNat = i by omega, hx]
  rfl
theorem rest_go (pl : List Int) (net : NetJ) : ∀ (xs : List (Str × Int)) (p : Nat), (∀ (i : Nat) x, xs[i]? = some x → inA net ((p + i : Nat) : Int) = x) →
    ((rngL (p : Int) xs.length).filter fun x => !decide (x ∈ pl)).map (inA net) = ((xs.zipIdx p).filter fun q => !decide (((q.2 : Nat) : Int) ∈ pl)).map fun q => q.1
  | [], _, _ => rfl
  | x :: xs, p, h => by
    have h0 : inA net (p : Int) = x := h 0 x rfl
    have ih := rest_go pl net xs (p + 1) fun i y hy => by have := h (i + 1) y hy; rw [show p + (i + 1) = p + 1 + i by omega] at this; exact this
    rw [List.length_cons, rngL_cons, zipIdx_cons', List.filter_cons, List.filter_cons, show ((p : Nat) : Int) + 1 = ((p + 1 : Nat) : Int) by omega]
    by_cases c : (p : Int) ∈ pl
    · rw [decide_eq_true c]
      exact ih
    · rw [decide_eq_false c]
      show inA net (p : Int) :: _ = x :: _
      rw [h0]
      exact congrArg _ ih
theorem rest_Rs (other : NetJ) (ps : List (Int × Int)) : Rs ps other.a 0 = jrest other ps := by
  have := rest_go (jplaces ps) other other.a 0 (inA_at other)
  rw [show (((0 : Nat) : Int)) = 0 from rfl] at this
  unfold jrest Rs
  rw [this]
/-- what comes into the other's ins -/
def yIn (one other : NetJ) (ps : List (Int × Int)) (T B : Int → Bool) (b : Bs) : Bs := yGo one (WB one b T B) ps B b other.a 0 (sumI one.a).toNat one.a.length
def yS (one other : NetJ) (ps : List (Int × Int)) (T B : Int → Bool) (b : Bs) : Bs := goB (fun p => T ((one.b.length : Int) + p)) other.b 0 (yIn one other ps T B b)
section
variable (one other : NetJ) (ps : List (Int × Int)) (g : JG one other ps) (T B : Int → Bool) (b : Bs)
  (gw1 : ∀ (p : Nat) x, one.b[p]? = some x → ∀ w ∈ x.b.l, 0 ≤ w ∧ w < sumI one.a + p) (gw2 : ∀ (p : Nat) x, other.b[p]? = some x → ∀ w ∈ x.b.l, 0 ≤ w ∧ w < sumI other.a + p)
include g gw1 gw2
theorem run_join : (((yIn one other ps T B b).length : Int) = sumI other.a) ∧ (∀ w : Int, 0 ≤ w → w < sumI other.a → 0 ≤ gI (jr2 one other ps) w ∧ gI (jr2 one other ps) w < sumI (jins one other ps) + one.b.length) ∧
    (jNet one other ps).c.map (fun o => Tp.mk ((o.2.l.map (atB (WB (jNet one other ps) b T B))).map b2n)) =
    (jkept one ps).map (fun k => Tp.mk (((outA one k).2.l.map (atB (WB one b T B))).map b2n)) ++ other.c.map (fun o => Tp.mk ((o.2.l.map (atB (yS one other ps T B b))).map b2n)) := by
  have hs1 := g.j1.sum
  have hs2 := g.j2.sum
  have hJ := jins_w (ps := ps) g.j1 g.j2
  have hR : ∀ x ∈ jrest other ps, 1 ≤ x.2 ∧ x.2 ≤ 3 := fun x hx => hJ x (List.mem_append_right _ hx)
  have l1 := expB_len b one.a 0 g.j1.iw
  have l2 := expB_len b (jrest other ps) one.a.length hR
  have eI : insB B (jins one other ps) 0 b [] = flipB B 0 (expB b one.a 0) ++ flipB B (sumI one.a).toNat (expB b (jrest other ps) one.a.length) := by
    rw [insB_is, List.nil_append, List.length_nil]
    unfold jins
    rw [expB_app, flipB_app, Nat.zero_add, Nat.zero_add, show (expB b one.a 0).length = (sumI one.a).toNat by omega]
  have eI1 : insB B one.a 0 b [] = flipB B 0 (expB b one.a 0) := by
    rw [insB_is, List.nil_append, List.length_nil]
  have eW : WB (jNet one other ps) b T B = goB T (mv other.b (jr2 one other ps)) ((one.b.length : Nat) : Int) (goB T (mv one.b (jr1 one other ps)) 0 (insB B (jins one other ps) 0 b [])) := by
    show goB T (mv one.b (jr1 one other ps) ++ mv other.b (jr2 one other ps)) 0 (insB B (jins one other ps) 0 b []) = _
    rw [goB_app]
    congr 1
    unfold mv
    rw [List.length_map]
    omega
  have eW1 : WB one b T B = goB T one.b 0 (insB B one.a 0 b []) := rfl
  have eJ : sumI (jins one other ps) = sumI one.a + sumI (jrest other ps) := by unfold jins; rw [sumI_app]
  have p1 : (flipB B 0 (expB b one.a 0)).length = (sumI one.a).toNat := by rw [flipB_len]; omega
  have lI : ((insB B (jins one other ps) 0 b []).length : Int) = sumI (jins one other ps) := by rw [eI, List.length_append, flipB_len, flipB_len]; omega
  generalize hI : insB B (jins one other ps) 0 b [] = I at *
  have lI1 : ((insB B one.a 0 b []).length : Int) = sumI one.a := by rw [eI1, flipB_len]; omega
  have lS1 : ((goB T (mv one.b (jr1 one other ps)) 0 I).length : Int) = sumI (jins one other ps) + one.b.length := by
    rw [goB_len]; unfold mv; rw [List.length_map]; omega
  -- the one's
  have A : ∀ w : Int, 0 ≤ w → w < sumI one.a + one.b.length → (0 ≤ gI (jr1 one other ps) w ∧ gI (jr1 one other ps) w < (goB T (mv one.b (jr1 one other ps)) 0 I).length) ∧ atB (goB T (mv one.b (jr1 one other ps)) 0 I) (gI (jr1 one other ps) w) = atB (WB one b T B) w := by
    intro w h0 h1
    have := go_ren (jr1 one other ps) T T one.b 0 0 (insB B one.a 0 b []) I (fun i _ => rfl) (fun w h0 h1 => by
      rw [r1_in one other ps g h0 (by omega)]
      refine ⟨⟨h0, by have := (sumI_bd _ hR).1; omega⟩, ?_⟩
      rw [eI, eI1, atB_left h0 (by rw [← eI1]; exact h1)]) (fun i x hx w hw => by have := gw1 i x hx w hw; omega) (fun i hi => by rw [lI1, lI]; exact r1_gate one other ps g hi) w h0 (by omega)
    rw [eW1]
    refine ⟨⟨this.1.1, by have := this.1.2; omega⟩, this.2⟩
  -- the other's ins
  have B1 : Rel (goB T (mv one.b (jr1 one other ps)) 0 I) (w2go (jfd one other ps) other.a 0 (sumI one.a)) (yIn one other ps T B b) := by
    have := ins_rel one other ps g B b (WB one b T B) (goB T (mv one.b (jr1 one other ps)) 0 I) A other.a 0 (sumI one.a).toNat one.a.length (flipB B 0 (expB b one.a 0)) (inA_at other) g.j2.iw (by omega) p1 (fun w h0 h1 => by
      rw [rest_Rs, ← eI] at h1 ⊢
      refine ⟨by omega, ?_⟩
      exact goB_low T _ 0 I w h0 h1)
    rw [show (((sumI one.a).toNat : Nat) : Int) = sumI one.a by omega] at this
    exact this
  have fit := bFit_of g.fit
  have hfd := jfed_len (jr1 one other ps) one other ps [] fit fun k l e => by cases e
  have hl2 : ((w2go (jfd one other ps) other.a 0 (sumI one.a)).length : Int) = sumI other.a := w2go_len (jfd one other ps) other hfd other.a 0 (sumI one.a) (inA_at other) g.j2.iw
  have lY : ((yIn one other ps T B b).length : Int) = sumI other.a := by rw [B1.1]; exact hl2
  refine ⟨lY, fun w h0 h1 => ?_, ?_⟩
  · have e : gI (jr2 one other ps) w = gI (w2go (jfd one other ps) other.a 0 (sumI one.a)) w := by unfold jr2 w2; rw [gI_left h0 (by omega)]
    have := (B1.at h0 (by omega)).1
    rw [e]
    omega
  have C : ∀ w : Int, 0 ≤ w → w < sumI other.a + other.b.length → atB (WB (jNet one other ps) b T B) (gI (jr2 one other ps) w) = atB (yS one other ps T B b) w := by
    intro w h0 h1
    rw [eW]
    exact (go_ren (jr2 one other ps) T (fun p => T ((one.b.length : Int) + p)) other.b ((one.b.length : Nat) : Int) 0 (yIn one other ps T B b) (goB T (mv one.b (jr1 one other ps)) 0 I) (fun i _ => by show T _ = T _; rw [Int.zero_add]) (fun w h0 h1 => by
      have e : gI (jr2 one other ps) w = gI (w2go (jfd one other ps) other.a 0 (sumI one.a)) w := by unfold jr2 w2; rw [gI_left h0 (by omega)]
      rw [e]
      exact B1.at h0 h1) (fun i x hx w hw => by have := gw2 i x hx w hw; omega) (fun i hi => by rw [lY, lS1]; exact r2_gate one other ps g hi) w h0 (by omega)).2
  show (jouts one other ps).map _ = _
  unfold jouts
  rw [List.map_append, List.map_map, List.map_map]
  congr 1
  · refine List.map_congr_left fun k hk => ?_
    have hk := kept_mem hk
    have ho := (g.j1.ow _ (outA_mem hk.1 hk.2)).2
    show Tp.mk ((((outA one k).2.l.map (gI (jr1 one other ps))).map (atB (WB (jNet one other ps) b T B))).map b2n) = _
    congr 2
    rw [List.map_map]
    refine List.map_congr_left fun w hw => ?_
    have := ho w hw
    have := A w this.1 this.2
    show atB (WB (jNet one other ps) b T B) (gI (jr1 one other ps) w) = _
    rw [eW, goB_low T _ _ _ _ this.1.1 this.1.2]
    exact this.2
  · refine List.map_congr_left fun o ho => ?_
    have ho := (g.j2.ow _ ho).2
    show Tp.mk (((o.2.l.map (gI (jr2 one other ps))).map (atB (WB (jNet one other ps) b T B))).map b2n) = _
    congr 2
    rw [List.map_map]
    refine List.map_congr_left fun w hw => ?_
    have := ho w hw
    exact C w this.1 this.2
end
end W

set_option synthInstance.maxHeartbeats 400000
set_option synthInstance.maxSize 2000
namespace W
open PySem L2 TL
open Enc
/-! ### what is due, in bits -/
abbrev zi {α : Type} (xs : List α) (p : Nat) : List (Int × α) := (xs.zipIdx p).map fun q => ((q.2 : Nat), q.1)
theorem zi_cons {α : Type} (x : α) (xs : List α) (p : Nat) : zi (x :: xs) p = (((p : Nat) : Int), x) :: zi xs (p + 1) := rfl
def GsOk (n : NetJ) : Prop := ∀ (p : Nat) g, n.b[p]? = some g → (∀ w ∈ g.b.l, 0 ≤ w ∧ w < sumI n.a + p) ∧ g.a ∈ [("and" : Str), ("or" : Str), ("xor" : Str), ("vote" : Str), ("not" : Str)] ∧ (g.b.l.length : Int) = (dlit [(("not" : Str), (1 : Int)), (("vote" : Str), (3 : Int))] g.a).getD 2
theorem k5 : ∀ k ∈ [("and" : Str), ("or" : Str), ("xor" : Str), ("vote" : Str), ("not" : Str)], k ∈ kinds5 := by decide +kernel
theorem gone_loop (tl : List Int) (t : Bool) : ∀ (gs : List Gt) (p : Nat) (s : Bs), (∀ (i : Nat) g, gs[i]? = some g → (∀ w ∈ g.b.l, 0 ≤ w ∧ w < (s.length : Int) + i) ∧ g.a ∈ kinds5 ∧ (g.b.l.length : Int) = cnt g.a) → s.length + gs.length ≤ 1000 →
    forS (S := List Int) (fun (x4 : (Int × (T3 Str (Tp Int) Bool))) (s3 : List Int) => (
(mapO (fun (x9 : Int) => (L2.atI s3 x9).bind fun t14 => some (t14 : Int)) x4.2.b.l).bind fun l16 =>
(m__law_bit x4.2.a l16).bind fun r18 =>
(L2.atI ([r18, ((1 : Int) - r18)] : (List Int)) (b2n (decide (x4.1 ∈ (Sq.mk t tl).l)))).bind fun t20 =>
(appO s3 t20).bind fun u22 =>
some u22 : Option (List Int))) (zi gs p) (s.map b2n) = some ((goB (inT tl) gs p s).map b2n)
  | [], p, s, _, _ => rfl
  | g :: gs, p, s, h, hl => by
    have hg := h 0 g rfl
    rw [List.length_cons] at hl
    have ih := gone_loop tl t gs (p + 1) (s ++ [gB g.a (g.b.l.map (atB s)) ^^ inT tl p]) (fun i g' hg' => by
      have := h (i + 1) g' (by simpa using hg')
      refine ⟨fun w hw => ?_, this.2⟩
      have := this.1 w hw
      rw [List.length_append]
      show 0 ≤ w ∧ w < ((s.length + 1 : Nat) : Int) + i
      omega) (by rw [List.length_append]; show s.length + 1 + _ ≤ _; omega)
    rw [zi_cons]
    unfold forS
    refine bq ?_ ih
    refine bq (mapO_b2n fun w hw => by have := hg.1 w hw; omega) (bq (lbit hg.2.1 (by rw [List.length_map]; exact hg.2.2)) (bq (flip_at _ _) (bq (app_b2n (by omega)) rfl)))
theorem gone_is (n : NetJ) (hj : Jn n) (hg : GsOk n) (tl : List Int) (t : Bool) (s : Bs) (hs : (s.length : Int) = sumI n.a) :
    m__law_gone n (s.map b2n) (Sq.mk t tl) = some (n.c.map fun o => Tp.mk ((o.2.l.map (atB (goB (inT tl) n.b 0 s))).map b2n)) := by
  have h1 := hj.sum
  have h2 := hj.bl
  unfold m__law_gone
  refine bq (gone_loop tl t n.b 0 s (fun i g h => by
    have := hg i g h
    exact ⟨by rw [hs]; exact this.1, k5 _ this.2.1, this.2.2⟩) (by omega)) ?_
  have hl := goB_len (inT tl) n.b ((0 : Nat) : Int) s
  refine bq (jmapO (fun o : Str × Tp Int => Tp.mk ((o.2.l.map (atB (goB (inT tl) n.b 0 s))).map b2n)) n.c fun o ho => ?_) rfl
  have ho := (hj.ow o ho).2
  exact bq (mapO_b2n fun w hw => by have := ho w hw; omega) rfl
theorem rep1 {x : Int} {i : Int} (h : 1 ≤ i) (h1 : i ≤ 3) : repO [x] i = some (List.replicate i.toNat x) := (Ok.repO1 (by omega) (by omega)).eqv fun _ e => e
theorem exp_loop (b : Bs) : ∀ (xs : List (Str × Int)) (k : Nat) (s : Bs), k + xs.length ≤ b.length → (∀ x ∈ xs, 1 ≤ x.2 ∧ x.2 ≤ 3) → s.length + 3 * xs.length ≤ 1000 →
    forS (S := (List Int)) (fun (x5 : (Int × (Str × Int))) (s4 : (List Int)) => (
(L2.atI (b.map b2n) x5.1).bind fun t9 =>
(repO ([t9] : (List Int)) x5.2.2).bind fun t11 =>
(extO s4 t11).bind fun t13 =>
some t13 : Option ((List Int)))) (zi xs k) (s.map b2n) = some ((s ++ expB b xs k).map b2n)
  | [], k, s, _, _, _ => by unfold expB; rw [List.append_nil]; rfl
  | x :: xs, k, s, hk, hw, hl => by
    have h1 := hw x (List.mem_cons_self ..)
    rw [List.length_cons] at hk hl
    have ih := exp_loop b xs (k + 1) (s ++ List.replicate x.2.toNat (b.getD k false)) (by omega) (fun y hy => hw y (List.mem_cons_of_mem _ hy)) (by rw [List.length_append, List.length_replicate]; omega)
    rw [zi_cons]
    unfold forS expB
    rw [← List.append_assoc]
    refine bq ?_ ih
    refine bq (at_b2n (by show (0 : Int) ≤ ((k : Nat) : Int); omega) (by show ((k : Nat) : Int) < _; omega)) (bq (rep1 h1.1 h1.2) ?_)
    unfold extO
    rw [if_pos (by rw [List.length_map, List.length_replicate]; show s.length + x.2.toNat ≤ _; omega), Option.bind_some, List.map_append, List.map_replicate]
    rfl
theorem flip_map (B : List Int) (h : Int → Int) (f : Nat) (hh : ∀ i : Nat, h i = ((f + i : Nat) : Int)) : ∀ (E : Bs) (k : Nat),
    mapO (fun (x19 : (Int × Int)) => (L2.atI ([x19.2, ((1 : Int) - x19.2)] : (List Int)) (b2n (decide (h x19.1 ∈ B)))).bind fun t24 => some (t24 : Int)) (zi (E.map b2n) k) = some ((flipB (inT B) (f + k) E).map b2n)
  | [], k => rfl
  | v :: E, k => by
    have ih := flip_map B h f hh E (k + 1)
    rw [List.map_cons, zi_cons]
    unfold mapO flipB
    refine bq (bq (flip_at _ _) rfl) (bq ih ?_)
    show some (b2n (v ^^ decide (h ((k : Nat) : Int) ∈ B)) :: _) = some (b2n (v ^^ inT B _) :: _)
    rw [hh k]
    rfl
theorem cutL_from {α : Type} (xs : List α) (n : Int) (h : 0 ≤ n) : cutL xs (some n) none = xs.drop n.toNat := by
  unfold cutL HT.sIx
  simp only
  rw [if_neg (by omega)]
  rcases Nat.le_total n.toNat xs.length with q | q
  · rw [Nat.min_eq_left q, List.take_of_length_le (by rw [List.length_drop]; omega)]
  · rw [Nat.min_eq_right q, List.drop_of_length_le (Nat.le_refl _), List.drop_of_length_le q, List.take_nil]
end W

set_option synthInstance.maxHeartbeats 400000
set_option synthInstance.maxSize 2000
namespace W
open PySem L2 TL
open Enc
abbrev oTs (n : NetJ) (s : Bs) : List (Tp Int) := n.c.map fun o => Tp.mk ((o.2.l.map (atB s)).map b2n)
theorem oTs_at (n : NetJ) (s : Bs) {k : Int} (h0 : 0 ≤ k) (h1 : k < n.c.length) : L2.atI (oTs n s) k = some (Tp.mk (((outA n k).2.l.map (atB s)).map b2n)) := by
  rw [jatI ⟨[]⟩ h0 (by rw [List.length_map]; exact h1), List.getElem?_map]
  unfold outA
  obtain ⟨x, hx⟩ := lt_get (xs := n.c) (i := k.toNat) (by omega)
  rw [hx]
  rfl
theorem FM_of {ps : List (Int × Int)} (hn : (jplaces ps).Nodup) {p : Int} {o : Int} (h : getM (FM ps) p = some o) : p ∈ jplaces ps ∧ ∃ q ∈ ps, q.1 = o ∧ q.2 = p := by
  by_cases c : p ∈ jplaces ps
  · obtain ⟨q, hq, e⟩ := List.mem_map.mp c
    have := fm_yes ps [] hn q hq
    rw [e] at this
    rw [show FM ps = FMg ps [] from rfl, this] at h
    exact ⟨c, q, hq, Option.some.inj h, e⟩
  · have := fm_no p ps [] fun q hq e => c (by rw [← e]; exact List.mem_map.mpr ⟨q, hq, rfl⟩)
    rw [show FM ps = FMg ps [] from rfl, this] at h
    cases h
section
variable (one other : NetJ) (ps : List (Int × Int)) (g : JG one other ps) (s1 : Bs) (B : List Int) (b : Bs)
include g
theorem yGo_loop : ∀ (xs : List (Str × Int)) (p f k : Nat) (acc : Bs), (∀ (i : Nat) x, xs[i]? = some x → inA other ((p + i : Nat) : Int) = x) → (∀ x ∈ xs, 1 ≤ x.2 ∧ x.2 ≤ 3) → p + xs.length ≤ other.a.length → k + (Rs ps xs p).length ≤ b.length → acc.length + 3 * xs.length ≤ 1000 →
    Ok (forS (S := (List Int) × Int × (List Int)) (fun (x42 : (Int × (Str × Int))) (s41 : (List Int) × Int × (List Int)) => (
(if (hasM (mergeM (ps.map (fun (x31 : (Int × Int)) => ((x31.2, x31.1) : (Int × Int))))) x42.1) = true then (
(getM (mergeM (ps.map (fun (x31 : (Int × Int)) => ((x31.2, x31.1) : (Int × Int))))) x42.1).bind fun t48 =>
(atI (oTs one s1) t48).bind fun t50 =>
(extO s41.1 t50.l).bind fun t52 =>
some (t52, s41.2.1, s41.2.2))
else (
(atI s41.2.2 (0 : Int)).bind fun t54 =>
(repO ([t54] : (List Int)) x42.2.2).bind fun t56 =>
(mapO (fun (x59 : (Int × Int)) => (atI ([x59.2, ((1 : Int) - x59.2)] : (List Int)) (b2n (decide ((s41.2.1 + x59.1) ∈ B)))).bind fun t64 => some (t64 : Int)) (enumL t56)).bind fun l66 =>
(extO s41.1 l66).bind fun t68 =>
(some (s41.2.1 + x42.2.2)).bind fun v70 =>
(some (cutL s41.2.2 (some (1 : Int)) none)).bind fun v72 =>
some (t68, v70, v72)) : Option ((List Int) × Int × (List Int))).bind fun j46 =>
some (j46.1, j46.2.1, j46.2.2) : Option ((List Int) × Int × (List Int)))) (zi xs p) (acc.map b2n, ((f : Nat) : Int), (b.drop k).map b2n)) fun r => r.1 = (acc ++ yGo one s1 ps (inT B) b xs p f k).map b2n
  | [], p, f, k, acc, _, _, _, _, _ => ⟨_, rfl, by unfold yGo; rw [List.append_nil]⟩
  | x :: xs, p, f, k, acc, hx, hw, hl, hk, ha => by
    have hx0 : inA other (p : Int) = x := hx 0 x rfl
    have h1 := hw x (List.mem_cons_self ..)
    rw [List.length_cons] at hl ha
    have ih := fun f k acc => yGo_loop xs (p + 1) f k acc (fun i y hy => by have := hx (i + 1) y hy; rw [show p + (i + 1) = p + 1 + i by omega] at this; exact this) (fun y hy => hw y (List.mem_cons_of_mem _ hy)) (by omega)
    have eR : Rs ps (x :: xs) p = if (p : Int) ∈ jplaces ps then Rs ps xs (p + 1) else x :: Rs ps xs (p + 1) := by
      unfold Rs
      rw [zipIdx_cons', List.filter_cons]
      by_cases c : (p : Int) ∈ jplaces ps
      · rw [decide_eq_true c, if_pos c]; rfl
      · rw [decide_eq_false c, if_neg c]; rfl
    rw [zi_cons]
    unfold forS
    rw [show mergeM (ps.map (fun (x31 : (Int × Int)) => ((x31.2, x31.1) : (Int × Int)))) = FM ps from rfl] at ih ⊢
    unfold yGo
    cases q : getM (FM ps) (p : Int) with
    | some o =>
      obtain ⟨c, r, hr, e1, e2⟩ := FM_of g.nd q
      rw [eR, if_pos c] at hk
      have hm := g.jp.mem r hr
      rw [e1] at hm
      have ho := (g.j1.ow _ (outA_mem hm.1.1 hm.1.2)).1
      have hfit := bFit_of g.fit r hr
      rw [e1, e2, hx0] at hfit
      refine Ok.bind (P := fun r => r = ((acc ++ (outA one o).2.l.map (atB s1)).map b2n, ((f : Nat) : Int), (b.drop k).map b2n)) ?_ ?_
      · refine Ok.bind (P := fun r => r = ((acc ++ (outA one o).2.l.map (atB s1)).map b2n, ((f : Nat) : Int), (b.drop k).map b2n)) ?_ fun r hr => Ok.pure hr
        show Ok (if hasM (FM ps) (p : Int) = true then (some o).bind _ else _) _
        unfold hasM
        rw [q, if_pos (show (some o).isSome = true from rfl), Option.bind_some, oTs_at one s1 hm.1.1 hm.1.2, Option.bind_some]
        unfold extO
        rw [if_pos (by show (acc.map b2n).length + (((outA one o).2.l.map (atB s1)).map b2n).length ≤ _; rw [List.length_map, List.length_map, List.length_map]; omega), Option.bind_some]
        refine Ok.pure ?_
        rw [List.map_append]
      · rintro r rfl
        refine (ih f k (acc ++ (outA one o).2.l.map (atB s1)) hk (by rw [List.length_append, List.length_map]; omega)).mono fun r hr => ?_
        rw [hr, List.append_assoc]
    | none =>
      have c : ¬ (p : Int) ∈ jplaces ps := fun c => by
        obtain ⟨r, hr, e⟩ := List.mem_map.mp c
        have := fm_yes ps [] g.nd r hr
        rw [e] at this
        rw [show FM ps = FMg ps [] from rfl, this] at q
        cases q
      rw [eR, if_neg c, List.length_cons] at hk
      have ew : ((f : Nat) : Int) + x.2 = ((f + x.2.toNat : Nat) : Int) := by omega
      refine Ok.bind (P := fun r => r = ((acc ++ flipB (inT B) f (List.replicate x.2.toNat (b.getD k false))).map b2n, ((f + x.2.toNat : Nat) : Int), (b.drop (k + 1)).map b2n)) ?_ ?_
      · refine Ok.bind (P := fun r => r = ((acc ++ flipB (inT B) f (List.replicate x.2.toNat (b.getD k false))).map b2n, ((f + x.2.toNat : Nat) : Int), (b.drop (k + 1)).map b2n)) ?_ fun r hr => Ok.pure hr
        show Ok (if hasM (FM ps) (p : Int) = true then (none : Option Int).bind _ else _) _
        unfold hasM
        rw [q, if_neg (show ¬ (none : Option Int).isSome = true by decide)]
        have e0 : L2.atI ((b.drop k).map b2n) (0 : Int) = some (b2n (b.getD k false)) := by
          rw [at_b2n (Int.le_refl 0) (by rw [List.length_drop]; omega)]
          unfold atB
          rw [List.getD_eq_getElem?_getD, List.getElem?_drop, List.getD_eq_getElem?_getD]
          rfl
        refine oq e0 (oq (rep1 h1.1 h1.2) ?_)
        have ef := flip_map B (fun i => ((f : Nat) : Int) + i) f (fun i => by omega) (List.replicate x.2.toNat (b.getD k false)) 0
        rw [List.map_replicate, Nat.add_zero] at ef
        refine oq ef ?_
        unfold extO
        rw [if_pos (by show (acc.map b2n).length + _ ≤ _; rw [List.length_map, List.length_map, flipB_len, List.length_replicate]; omega), Option.bind_some]
        refine Ok.pure ?_
        rw [List.map_append]
        show (_, ((f : Nat) : Int) + x.2, cutL ((b.drop k).map b2n) (some 1) none) = _
        rw [ew, cutL_from _ 1 (by decide)]
        congr 2
        rw [← List.map_drop, List.drop_drop]
        rfl
      · rintro r rfl
        refine (ih (f + x.2.toNat) (k + 1) _ (by omega) (by rw [List.length_append, flipB_len, List.length_replicate]; omega)).mono fun r hr => ?_
        rw [hr, List.append_assoc]
theorem due_is (hb : b.length = (jins one other ps).length) (o1 : GsOk one) (o2 : GsOk other) (T : List Int) :
    m__law_due one other ps (b.map b2n) (Tp.mk T) (Tp.mk B) = some ((jNet one other ps).c.map fun o => Tp.mk ((o.2.l.map (atB (WB (jNet one other ps) b (inT T) (inT B)))).map b2n)) := by
  have rj := run_join one other ps g (inT T) (inT B) b (fun p x h => (o1 p x h).1) (fun p x h => (o2 p x h).1)
  have hs1 := g.j1.sum
  have ha1 := g.j1.al
  have ha2 := g.j2.al
  have l1 := expB_len b one.a 0 g.j1.iw
  have hbl : b.length = one.a.length + (jrest other ps).length := by rw [hb]; unfold jins; rw [List.length_append]
  rw [rj.2.2]
  unfold m__law_due
  refine bq rfl (bq (exp_loop b one.a 0 [] (by omega) g.j1.iw (by simp; omega)) (bq rfl ?_))
  rw [List.nil_append]
  have ef := flip_map B (fun i => i) 0 (fun i => by omega) (expB b one.a 0) 0
  refine bq ef ?_
  have eI1 : insB (inT B) one.a 0 b [] = flipB (inT B) 0 (expB b one.a 0) := by
    rw [insB_is, List.nil_append, List.length_nil]
  rw [Nat.zero_add, ← eI1]
  have lI1 : ((insB (inT B) one.a 0 b []).length : Int) = sumI one.a := by rw [eI1, flipB_len]; omega
  refine bq (gone_is one g.j1 o1 T true _ lI1) ?_
  rw [show goB (inT T) one.b 0 (insB (inT B) one.a 0 b []) = WB one b (inT T) (inT B) from rfl]
  refine bq rfl (bq rfl ?_)
  have key := yGo_loop one other ps g (WB one b (inT T) (inT B)) B b other.a 0 (sumI one.a).toNat one.a.length [] (inA_at other) g.j2.iw (by omega) (by rw [rest_Rs]; omega) (by simp; omega)
  rw [show (((sumI one.a).toNat : Nat) : Int) = (((insB (inT B) one.a 0 b []).map b2n).length : Int) by rw [List.length_map]; omega] at key
  rw [show cutL (b.map b2n) (some (one.a.length : Int)) none = (b.drop one.a.length).map b2n by rw [cutL_from _ _ (by omega), Int.toNat_natCast, List.map_drop]]
  obtain ⟨r, e, hr⟩ := key
  rw [List.nil_append] at hr
  have hr : r.1 = (yIn one other ps (inT T) (inT B) b).map b2n := hr
  refine bq e (bq rfl ?_)
  rw [hr]
  have eT : inT (T.map (fun (x76 : Int) => ((x76 - (one.b.length : Int)) : Int))) = fun p => inT T ((one.b.length : Int) + p) := by
    funext p
    unfold inT
    refine decide_eq_decide.mpr ⟨fun h => ?_, fun h => List.mem_map.mpr ⟨_, h, by omega⟩⟩
    obtain ⟨y, hy, e⟩ := List.mem_map.mp h
    rw [show (one.b.length : Int) + p = y by omega]
    exact hy
  have e2 := gone_is other g.j2 o2 (T.map (fun (x76 : Int) => ((x76 - (one.b.length : Int)) : Int))) false _ rj.1
  rw [eT] at e2
  refine bq e2 (bq rfl ?_)
  have e3 := jfiltO (p := fun (x102 : Int) => some (!decide (x102 ∈ jused ps))) (f := fun (x102 : Int) => (L2.atI (oTs one (WB one b (inT T) (inT B))) x102).bind fun t107 => some (t107 : (Tp Int))) (fun k => !decide (k ∈ jused ps)) (fun k => Tp.mk (((outA one k).2.l.map (atB (WB one b (inT T) (inT B)))).map b2n)) (rngL 0 one.c.length) (fun _ _ => rfl) (fun k hk _ => by
    have := rng_mem hk
    exact bq (oTs_at one _ this.1 this.2) rfl)
  rw [show one.c.length = (oTs one (WB one b (inT T) (inT B))).length by rw [List.length_map]] at e3
  refine bq e3 ?_
  have hc1 := g.j1.cl
  have hc2 := g.j2.cl
  have hkl := kept_le one ps
  unfold extO
  have ek : (List.filter (fun k => !decide (k ∈ jused ps)) (rngL 0 (oTs one (WB one b (inT T) (inT B))).length)) = jkept one ps := by rw [List.length_map]; rfl
  rw [ek, if_pos (by rw [List.length_map, List.length_map]; omega), Option.bind_some]
  rfl
end
end W

set_option synthInstance.maxHeartbeats 400000
set_option synthInstance.maxSize 2000
namespace W
open PySem L2 TL
open Enc
/-! ### names -/
def sgn (z : Str) (i : Nat) : Str := ⟨#[((L z)[i]?).getD 0]⟩
theorem sgn_of {z c : Str} {i : Nat} (h : SgOf z i c) : c = sgn z i := by
  obtain ⟨k, h, rfl⟩ := h
  unfold sgn
  rw [h]
  rfl
theorem names_at {α : Type} (f : α → Str) (sg : Nat → Str) (xs : List α) (h : ∀ (i : Nat) x, xs[i]? = some x → f x = sg i) : xs.map f = (List.range xs.length).map sg := by
  apply List.ext_getElem?
  intro i
  rw [List.getElem?_map, List.getElem?_map]
  by_cases hi : i < xs.length
  · obtain ⟨x, hx⟩ := lt_get hi
    rw [hx, List.getElem?_range hi]
    exact congrArg some (h i x hx)
  · rw [List.getElem?_eq_none_iff.mpr (by omega), List.getElem?_eq_none_iff.mpr (by rw [List.length_range]; omega)]
    rfl
def ABC : Str := "abcdefg"
def NOP : Str := "nopqrst"
def XI : List Str := (List.range 3).map (sgn ABC) ++ (List.range 3).map (sgn NOP)
def XO : List Str := (List.range 7).map (sgn ABC) ++ (List.range 7).map (sgn NOP)
theorem XI_nd : XI.Nodup := by decide +kernel
theorem XO_nd : XO.Nodup := by decide +kernel
theorem o_sub (o n : Nat) (ho : o = 0 ∨ o = 4) (hn : n ≤ 3) (f : Nat → Str) : ((List.range n).map fun i => f (o + i)).Sublist ((List.range 7).map f) := by
  have h : ((List.range n).map fun i => o + i).Sublist (List.range 7) := by
    rcases ho with rfl | rfl <;> rcases (by omega : n = 0 ∨ n = 1 ∨ n = 2 ∨ n = 3) with rfl | rfl | rfl | rfl <;> decide
  have := h.map f
  rw [List.map_map] at this
  exact this
theorem outA_at (n : NetJ) : ∀ (i : Nat) x, n.c[i]? = some x → outA n ((0 + i : Nat) : Int) = x := fun i x hx => by
  unfold outA
  rw [show (((0 + i : Nat) : Int)).toNat = i by omega, hx]
  rfl
theorem outs_all {β : Type} (n : NetJ) (f : Str × Tp Int → β) : ∀ (xs : List (Str × Tp Int)) (p : Nat), (∀ (i : Nat) o, xs[i]? = some o → outA n ((p + i : Nat) : Int) = o) → (rngL (p : Int) xs.length).map (fun k => f (outA n k)) = xs.map f
  | [], _, _ => rfl
  | o :: xs, p, h => by
    have h0 : outA n (p : Int) = o := h 0 o rfl
    have ih := outs_all n f xs (p + 1) fun i y hy => by have := h (i + 1) y hy; rw [show p + (i + 1) = p + 1 + i by omega] at this; exact this
    rw [List.length_cons, rngL_cons, List.map_cons, List.map_cons, h0, show ((p : Nat) : Int) + 1 = ((p + 1 : Nat) : Int) by omega, ih]
theorem c_all {β : Type} (n : NetJ) (f : Str × Tp Int → β) : (rngL 0 n.c.length).map (fun k => f (outA n k)) = n.c.map f := outs_all n f n.c 0 (outA_at n)
theorem rest_sub (n : NetJ) (ps : List (Int × Int)) : (jrest n ps).Sublist n.a := by
  rw [← rest_Rs]
  have h := (List.filter_sublist (p := fun q : (Str × Int) × Nat => !decide (((q.2 : Nat) : Int) ∈ jplaces ps)) (l := n.a.zipIdx 0)).map fun q => q.1
  have e2 : (n.a.zipIdx 0).map (fun q => q.1) = n.a := List.zipIdx_map_fst 0 n.a
  rw [e2] at h
  exact h
theorem kept_sub (n : NetJ) (ps : List (Int × Int)) : ((jkept n ps).map fun k => (outA n k).1).Sublist (n.c.map fun o => o.1) := by
  rw [← c_all n (fun o => o.1)]
  unfold jkept
  exact List.filter_sublist.map _
/-- the names of both are unlike -/
theorem names_ok {one other : NetJ} {ps : List (Int × Int)} (d1 : Dn ABC one) (d2 : Dn NOP other) : (jinm one other ps).Nodup ∧ (jonm one other ps).Nodup := by
  have hA : one.a.map (fun x => x.1) = (List.range one.a.length).map (sgn ABC) := names_at _ _ _ fun i x hx => sgn_of (d1.an i x hx)
  have hB : other.a.map (fun x => x.1) = (List.range other.a.length).map (sgn NOP) := names_at _ _ _ fun i x hx => sgn_of (d2.an i x hx)
  obtain ⟨o, ho, hco⟩ := d1.cn
  obtain ⟨o', ho', hco'⟩ := d2.cn
  have hC : one.c.map (fun x => x.1) = (List.range one.c.length).map fun i => sgn ABC (o + i) := names_at _ _ _ fun i x hx => sgn_of (hco i x hx)
  have hD : other.c.map (fun x => x.1) = (List.range other.c.length).map fun i => sgn NOP (o' + i) := names_at _ _ _ fun i x hx => sgn_of (hco' i x hx)
  constructor
  · refine XI_nd.sublist ?_
    unfold jinm jins XI
    rw [List.map_append, hA]
    refine List.Sublist.append ((List.range_sublist.mpr d1.a3).map _) ?_
    have h := (rest_sub other ps).map fun x => x.1
    rw [hB] at h
    exact h.trans ((List.range_sublist.mpr d2.a3).map _)
  · refine XO_nd.sublist ?_
    unfold jonm jonl XO
    rw [List.map_append, List.map_map, hD]
    refine List.Sublist.append ?_ (o_sub o' _ ho' d2.c3 (sgn NOP))
    have h := kept_sub one ps
    rw [hC] at h
    exact h.trans (o_sub o _ ho d1.c3 (sgn ABC))
theorem jg_of {one other : NetJ} {ps : List (Int × Int)} (d1 : Dn ABC one) (d2 : Dn NOP other) (hp : Pr one other ps) : JG one other ps := by
  have nm := names_ok (ps := ps) d1 d2
  refine ⟨d1.jn, d2.jn, hp.jp, hp.fit, hp.nd, nm.1, nm.2, ?_⟩
  have := rest_le other ps
  have := kept_le one ps
  have := d1.a3
  have := d2.a3
  have := d1.b7
  have := d2.b7
  have := d1.c3
  have := d2.c3
  unfold bFull jins
  rw [List.length_append, decide_eq_false (by omega), decide_eq_false (by omega), decide_eq_false (by omega)]
  rfl
theorem r1_lt {one other : NetJ} {ps : List (Int × Int)} (g : JG one other ps) {w : Int} (h0 : 0 ≤ w) (h1 : w < sumI one.a + one.b.length) : 0 ≤ gI (jr1 one other ps) w ∧ (w < sumI one.a → gI (jr1 one other ps) w = w) ∧ (sumI one.a ≤ w → gI (jr1 one other ps) w = w - sumI one.a + sumI (jins one other ps)) ∧ sumI one.a ≤ sumI (jins one other ps) := by
  have hs := g.j1.sum
  have hR : sumI one.a ≤ sumI (jins one other ps) := by
    have := (sumI_bd (jrest other ps) fun x hx => jins_w (ps := ps) g.j1 g.j2 x (List.mem_append_right _ hx)).1
    unfold jins
    rw [sumI_app]
    omega
  by_cases c : w < sumI one.a
  · have := r1_in one other ps g h0 c
    exact ⟨by omega, fun _ => this, fun _ => by omega, hR⟩
  · have := r1_gate one other ps g (i := (w - sumI one.a).toNat) (by omega)
    rw [show sumI one.a + (((w - sumI one.a).toNat : Nat) : Int) = w by omega] at this
    exact ⟨by omega, fun _ => by omega, fun _ => by omega, hR⟩
theorem r2_lt {one other : NetJ} {ps : List (Int × Int)} (g : JG one other ps) (o1 : GsOk one) (o2 : GsOk other) {w : Int} (h0 : 0 ≤ w) (j : Nat) (hj : j ≤ other.b.length) (h1 : w < sumI other.a + j) : 0 ≤ gI (jr2 one other ps) w ∧ gI (jr2 one other ps) w < sumI (jins one other ps) + one.b.length + j := by
  have hs := g.j2.sum
  have hJ := sumI_bd _ (jins_w (ps := ps) g.j1 g.j2)
  by_cases c : w < sumI other.a
  · have := (run_join one other ps g no no [] (fun p x h => (o1 p x h).1) (fun p x h => (o2 p x h).1)).2.1 w h0 c
    omega
  · have := r2_gate one other ps g (i := (w - sumI other.a).toNat) (by omega)
    rw [show sumI other.a + (((w - sumI other.a).toNat : Nat) : Int) = w by omega] at this
    omega
theorem jwf {one other : NetJ} {ps : List (Int × Int)} (d1 : Dn ABC one) (d2 : Dn NOP other) (g : JG one other ps) : Wf (jNet one other ps) := by
  have hs1 := g.j1.sum
  have hJ := sumI_bd _ (jins_w (ps := ps) g.j1 g.j2)
  have ea : ah (jNet one other ps) = sumI (jins one other ps) := rfl
  have a3 := d1.a3
  have a3' := d2.a3
  have b7 := d1.b7
  have b7' := d2.b7
  have c3 := d1.c3
  have c3' := d2.c3
  have rl := rest_le other ps
  have kl := kept_le one ps
  have le : (jins one other ps).length ≤ 6 := by unfold jins; rw [List.length_append]; omega
  have lb : (jNet one other ps).b.length = one.b.length + other.b.length := by
    show (mv one.b (jr1 one other ps) ++ mv other.b (jr2 one other ps)).length = _
    unfold mv
    rw [List.length_append, List.length_map, List.length_map]
  refine ⟨le, fun x hx => by have := jins_w (ps := ps) g.j1 g.j2 x hx; omega, by omega, fun i x hx => ?_, ?_, fun o ho => ?_⟩
  · rw [ea]
    have hx : (mv one.b (jr1 one other ps) ++ mv other.b (jr2 one other ps))[i]? = some x := hx
    have l1 : (mv one.b (jr1 one other ps)).length = one.b.length := by unfold mv; rw [List.length_map]
    by_cases c : i < one.b.length
    · rw [List.getElem?_append_left (by omega)] at hx
      unfold mv at hx
      rw [List.getElem?_map] at hx
      obtain ⟨y, hy⟩ := lt_get c
      rw [hy] at hx
      have hx := Option.some.inj hx
      subst hx
      have o := d1.gp i y hy
      refine ⟨k5 _ o.2.1, by show (((y.b.l.map _).length : Nat) : Int) = _; rw [List.length_map]; exact o.2.2, fun w hw => ?_⟩
      obtain ⟨u, hu, rfl⟩ := List.mem_map.mp hw
      have hu := o.1 u hu
      have := r1_lt g hu.1 (by omega)
      omega
    · rw [List.getElem?_append_right (by omega), l1] at hx
      unfold mv at hx
      rw [List.getElem?_map] at hx
      cases hy : other.b[i - one.b.length]? with
      | none => rw [hy] at hx; cases hx
      | some y =>
        rw [hy] at hx
        have hx := Option.some.inj hx
        subst hx
        have o := d2.gp _ y hy
        have hlt := get_lt hy
        refine ⟨k5 _ o.2.1, by show (((y.b.l.map _).length : Nat) : Int) = _; rw [List.length_map]; exact o.2.2, fun w hw => ?_⟩
        obtain ⟨u, hu, rfl⟩ := List.mem_map.mp hw
        have hu := o.1 u hu
        have := r2_lt g d1.gp d2.gp hu.1 (i - one.b.length) (by omega) hu.2
        omega
  · show (jouts one other ps).length ≤ 1000
    unfold jouts
    rw [List.length_append, List.length_map, List.length_map]
    omega
  · rw [ea, lb]
    have ho : o ∈ jouts one other ps := ho
    unfold jouts at ho
    rcases List.mem_append.mp ho with q | q
    · obtain ⟨k, hk, rfl⟩ := List.mem_map.mp q
      have hk := kept_mem hk
      have hm := outA_mem hk.1 hk.2
      have h3 := g.j1.ow _ hm
      have h1 := d1.ow _ hm
      refine ⟨by show 1 ≤ (((outA one k).2.l.map _).length) ∧ (((outA one k).2.l.map _).length) ≤ 3; rw [List.length_map]; omega, fun w hw => ?_⟩
      obtain ⟨u, hu, rfl⟩ := List.mem_map.mp hw
      have hu := h3.2 u hu
      have := r1_lt g hu.1 hu.2
      omega
    · obtain ⟨o', ho', rfl⟩ := List.mem_map.mp q
      have h3 := g.j2.ow _ ho'
      have h1 := d2.ow _ ho'
      refine ⟨by show 1 ≤ ((o'.2.l.map _).length) ∧ ((o'.2.l.map _).length) ≤ 3; rw [List.length_map]; omega, fun w hw => ?_⟩
      obtain ⟨u, hu, rfl⟩ := List.mem_map.mp hw
      have hu := h3.2 u hu
      have := r2_lt g d1.gp d2.gp hu.1 other.b.length (by omega) hu.2
      omega
/-! ### the law -/
theorem rngL_0 (N : Nat) : rngL 0 N = (List.range N).map fun i : Nat => (i : Int) := by
  unfold rngL
  exact List.map_congr_left fun i _ => by simp
theorem mapO_map {α β γ : Type} {f : β → Option γ} {g : α → β} {h : α → γ} : ∀ {xs : List α}, (∀ x ∈ xs, f (g x) = some (h x)) → mapO f (xs.map g) = some (xs.map h)
  | [], _ => rfl
  | x :: xs, k => by
    rw [List.map_cons]
    unfold mapO
    exact bq (k x (List.mem_cons_self ..)) (bq (mapO_map fun y hy => k y (List.mem_cons_of_mem _ hy)) rfl)
theorem bits_is {m i : Nat} (hm : m ≤ 6) : mapO (fun (x20 : Int) => (shrO (i : Int) (((m : Int) - (1 : Int)) - x20)).bind fun t25 => some ((Builtin.bitAnd t25 (1 : Int)) : Int)) (rngL 0 m) = some ((inB m i).map b2n) := by
  rw [rngL_0]
  refine (mapO_map (h := fun k : Nat => b2n (i.testBit (m - 1 - k))) fun k hk => ?_).trans ?_
  · have hk := List.mem_range.mp hk
    refine bq (x := (i : Int) / 2 ^ (m - 1 - k)) ?_ ?_
    · unfold shrO
      rw [if_pos (by omega), show ((m : Int) - 1 - (k : Int)).toNat = m - 1 - k by omega]
    · rw [bit1]
  · unfold inB
    rw [List.map_map]
    rfl
theorem forF_nx {α R : Type} {f : α → Unit → Option (Fl Unit R)} : ∀ (xs : List α), (∀ x ∈ xs, f x () = some (.nx ())) → forF f xs () = some (.nx ())
  | [], _ => rfl
  | x :: xs, h => by
    unfold forF
    exact bq (h x (List.mem_cons_self ..)) (forF_nx xs fun y hy => h y (List.mem_cons_of_mem _ hy))
theorem abc_ok : EqD.ok ABC = true ∧ (L ABC).length = 7 ∧ EqD.ok NOP = true ∧ (L NOP).length = 7 := by decide +kernel
theorem law_ok (ns : List Int) (_ : ns.length ≤ 63) : m_law ns = some true := by
  unfold m_law
  unfold extO
  rw [if_pos (by rw [cutL_to _ _ (by decide), List.length_take]; simp; omega), Option.bind_some]
  refine Ok.eqv (P := fun r => r = true) (Ok.bind (Ok.forF (fun _ => True) _ _ trivial fun x _ _ _ => ?_) fun fl hfl => ?_) fun _ e => e
  rotate_left
  · obtain ⟨s, rfl, _⟩ := hfl
    exact Ok.pure rfl
  have nx : Ok (some (.nx ()) : Option (Fl Unit Bool)) fun r => ∃ s', r = .nx s' ∧ True := ⟨_, rfl, (), rfl, trivial⟩
  refine Ok.bind (any_net_ok x 0 ABC abc_ok.1 abc_ok.2.1 (by decide) (by decide)) fun one d1 => ?_
  refine Ok.bind (any_net_ok x 150 NOP abc_ok.2.2.1 abc_ok.2.2.2 (by decide) (by decide)) fun other d2 => ?_
  refine Ok.bind (pairs_ok x one other d1.jn.cl d2.jn.al) fun ps hps => ?_
  have g := jg_of d1 d2 hps
  have wf := jwf d1 d2 g
  have al := wf.al
  have gl := wf.gl
  have hah := wf.ah
  rw [joined_is one other ps g, Option.bind_some]
  refine Ok.lt (Ok.lt ?_)
  refine Ok.bind (Ok.rngO (by have : ah (jNet one other ps) = ((jNet one other ps).a.map (fun (x26 : (Str × Int)) => (x26.2 : Int))).sum := rfl; omega) (by have : ah (jNet one other ps) = ((jNet one other ps).a.map (fun (x26 : (Str × Int)) => (x26.2 : Int))).sum := rfl; omega)) fun l29 e29 => ?_
  refine Ok.lt ?_
  have l29l : l29.length ≤ 18 := by
    rw [e29, rngL_length]
    have : ah (jNet one other ps) = ((jNet one other ps).a.map (fun (x26 : (Str × Int)) => (x26.2 : Int))).sum := rfl
    omega
  rw [if_pos (by rw [List.length_map, rngL_length]; simp; omega), Option.bind_some]
  refine Ok.bind (jstir_ok _ _ (by decide) (by decide)) fun r39 _ => ?_
  refine Ok.bind (Ok.modO (by rw [List.length_map, rngL_length]; omega)) fun t41 h41 => ?_
  refine Ok.bind (Ok.atI h41.2.1 (by have := h41.2.2; rw [List.length_append]; show t41 < ((1 + _ : Nat) : Int); omega)) fun t43 _ => ?_
  rw [if_pos (by rw [List.length_map]; simp; omega), Option.bind_some]
  refine Ok.bind (jstir_ok _ _ (by decide) (by decide)) fun r47 _ => ?_
  refine Ok.bind (Ok.modO (by omega)) fun t49 h49 => ?_
  refine Ok.bind (Ok.atI h49.2.1 (by have := h49.2.2; rw [List.length_append]; show t49 < ((1 + _ : Nat) : Int); omega)) fun t51 _ => ?_
  have sh : shlO (1 : Int) ((jNet one other ps).a.length : Int) = some ((2 ^ (jNet one other ps).a.length : Nat) : Int) := by
    unfold shlO
    rw [if_pos (by omega)]
    simp
  have N64 : 2 ^ (jNet one other ps).a.length ≤ 64 := Nat.le_trans (Nat.pow_le_pow_right (by decide) al) (by decide)
  generalize 2 ^ (jNet one other ps).a.length = M at sh N64
  refine oq sh (oq (x := rngL 0 M) (if_pos (by omega)) ?_)
  refine oq (x := (Fl.nx () : Fl Unit Bool)) ?_ nx
  rw [rngL_0 M]
  refine forF_nx _ fun y hy => ?_
  obtain ⟨i, _, rfl⟩ := List.mem_map.mp hy
  refine bq (x := rngL 0 (jNet one other ps).a.length) (if_pos (by omega)) (bq (bits_is (m := (jNet one other ps).a.length) (i := i) al) (bq rfl ?_))
  refine bq (x := .nx ()) (forF_nx _ fun z _ => ?_) rfl
  have il := inB_len (jNet one other ps).a.length i
  refine bq (run_is wf il z.1 z.2) (bq (due_is one other ps g z.2.l (inB (jNet one other ps).a.length i) il d1.gp d2.gp z.1.l) ?_)
  rw [if_neg (by simp)]
end W

namespace W
open PySem L2 TL
open Enc
theorem dfn_mk {K : Fg} {h : Heap} {mg : Str → Option Value} (X : K.In h) (G : h.Ns mainGlobals mg) {x : Str} {st : Stmt} {ps : List Str} {f : Addr} {od an : Option Addr} {sl : Array (Option Value)} {oc kV dc pm cd ct : Value}
    (a : PySem.W.nsIn K mainGlobals x = some (some (.ref f))) (l : K.lookup f = some ⟨oc, od, .func (PySem.W.fnOf x x (defArgs st) (defBody st) (defScope st) .none kV dc pm an cd ct), sl⟩) (c : PySem.W.codeIn K cd x = true) (k : PySem.W.keepIn K (.ref f) = true)
    (hb : ∀ (kV doc pm : Value) (an : Option Addr) (cdv ct : Value) (us : List Value), us.length = ps.length → bindArgs (PySem.W.fnOf x x (defArgs st) (defBody st) (defScope st) .none kV doc pm an cdv ct) ⟨us, []⟩ = pure (ps.zip us)) : Dfn K mg x st ps :=
  ⟨f, _, fun_mk l c k, PySem.W.mg_of X G a, (fun_mk l c k).binds hb⟩
theorem all_mk {l : PySem.W.OpenLaw} {w : World} {K : Fg} {h : Heap} {mg : Str → Option Value} {fa : Addr} (X : K.In h) (G : h.Ns mainGlobals mg) (hfa : mg "law" = some (.ref fa))
    {f0 : Addr} {od0 an0 : Option Addr} {sl0 : Array (Option Value)} {oc0 kV0 dc0 pm0 cd0 ct0 : Value} (a0 : PySem.W.nsIn K mainGlobals "_law_stir" = some (some (.ref f0))) (l0 : K.lookup f0 = some ⟨oc0, od0, .func (PySem.W.fnOf "_law_stir" "_law_stir" (defArgs (top 22)) (defBody (top 22)) (defScope (top 22)) .none kV0 dc0 pm0 an0 cd0 ct0), sl0⟩) (c0 : PySem.W.codeIn K cd0 "_law_stir" = true) (k0 : PySem.W.keepIn K (.ref f0) = true)
    {f1 : Addr} {od1 an1 : Option Addr} {sl1 : Array (Option Value)} {oc1 kV1 dc1 pm1 cd1 ct1 : Value} (a1 : PySem.W.nsIn K mainGlobals "_law_any_net" = some (some (.ref f1))) (l1 : K.lookup f1 = some ⟨oc1, od1, .func (PySem.W.fnOf "_law_any_net" "_law_any_net" (defArgs (top 23)) (defBody (top 23)) (defScope (top 23)) .none kV1 dc1 pm1 an1 cd1 ct1), sl1⟩) (c1 : PySem.W.codeIn K cd1 "_law_any_net" = true) (k1 : PySem.W.keepIn K (.ref f1) = true)
    {f2 : Addr} {od2 an2 : Option Addr} {sl2 : Array (Option Value)} {oc2 kV2 dc2 pm2 cd2 ct2 : Value} (a2 : PySem.W.nsIn K mainGlobals "_law_pairs" = some (some (.ref f2))) (l2 : K.lookup f2 = some ⟨oc2, od2, .func (PySem.W.fnOf "_law_pairs" "_law_pairs" (defArgs (top 24)) (defBody (top 24)) (defScope (top 24)) .none kV2 dc2 pm2 an2 cd2 ct2), sl2⟩) (c2 : PySem.W.codeIn K cd2 "_law_pairs" = true) (k2 : PySem.W.keepIn K (.ref f2) = true)
    {f3 : Addr} {od3 an3 : Option Addr} {sl3 : Array (Option Value)} {oc3 kV3 dc3 pm3 cd3 ct3 : Value} (a3 : PySem.W.nsIn K mainGlobals "need_fit" = some (some (.ref f3))) (l3 : K.lookup f3 = some ⟨oc3, od3, .func (PySem.W.fnOf "need_fit" "need_fit" (defArgs (top 15)) (defBody (top 15)) (defScope (top 15)) .none kV3 dc3 pm3 an3 cd3 ct3), sl3⟩) (c3 : PySem.W.codeIn K cd3 "need_fit" = true) (k3 : PySem.W.keepIn K (.ref f3) = true)
    {f4 : Addr} {od4 an4 : Option Addr} {sl4 : Array (Option Value)} {oc4 kV4 dc4 pm4 cd4 ct4 : Value} (a4 : PySem.W.nsIn K mainGlobals "need_names" = some (some (.ref f4))) (l4 : K.lookup f4 = some ⟨oc4, od4, .func (PySem.W.fnOf "need_names" "need_names" (defArgs (top 16)) (defBody (top 16)) (defScope (top 16)) .none kV4 dc4 pm4 an4 cd4 ct4), sl4⟩) (c4 : PySem.W.codeIn K cd4 "need_names" = true) (k4 : PySem.W.keepIn K (.ref f4) = true)
    {f5 : Addr} {od5 an5 : Option Addr} {sl5 : Array (Option Value)} {oc5 kV5 dc5 pm5 cd5 ct5 : Value} (a5 : PySem.W.nsIn K mainGlobals "wires_of_one" = some (some (.ref f5))) (l5 : K.lookup f5 = some ⟨oc5, od5, .func (PySem.W.fnOf "wires_of_one" "wires_of_one" (defArgs (top 18)) (defBody (top 18)) (defScope (top 18)) .none kV5 dc5 pm5 an5 cd5 ct5), sl5⟩) (c5 : PySem.W.codeIn K cd5 "wires_of_one" = true) (k5 : PySem.W.keepIn K (.ref f5) = true)
    {f6 : Addr} {od6 an6 : Option Addr} {sl6 : Array (Option Value)} {oc6 kV6 dc6 pm6 cd6 ct6 : Value} (a6 : PySem.W.nsIn K mainGlobals "wires_of_other" = some (some (.ref f6))) (l6 : K.lookup f6 = some ⟨oc6, od6, .func (PySem.W.fnOf "wires_of_other" "wires_of_other" (defArgs (top 19)) (defBody (top 19)) (defScope (top 19)) .none kV6 dc6 pm6 an6 cd6 ct6), sl6⟩) (c6 : PySem.W.codeIn K cd6 "wires_of_other" = true) (k6 : PySem.W.keepIn K (.ref f6) = true)
    {f7 : Addr} {od7 an7 : Option Addr} {sl7 : Array (Option Value)} {oc7 kV7 dc7 pm7 cd7 ct7 : Value} (a7 : PySem.W.nsIn K mainGlobals "moved" = some (some (.ref f7))) (l7 : K.lookup f7 = some ⟨oc7, od7, .func (PySem.W.fnOf "moved" "moved" (defArgs (top 17)) (defBody (top 17)) (defScope (top 17)) .none kV7 dc7 pm7 an7 cd7 ct7), sl7⟩) (c7 : PySem.W.codeIn K cd7 "moved" = true) (k7 : PySem.W.keepIn K (.ref f7) = true)
    {f8 : Addr} {od8 an8 : Option Addr} {sl8 : Array (Option Value)} {oc8 kV8 dc8 pm8 cd8 ct8 : Value} (a8 : PySem.W.nsIn K mainGlobals "joined" = some (some (.ref f8))) (l8 : K.lookup f8 = some ⟨oc8, od8, .func (PySem.W.fnOf "joined" "joined" (defArgs (top 20)) (defBody (top 20)) (defScope (top 20)) .none kV8 dc8 pm8 an8 cd8 ct8), sl8⟩) (c8 : PySem.W.codeIn K cd8 "joined" = true) (k8 : PySem.W.keepIn K (.ref f8) = true)
    {f9 : Addr} {od9 an9 : Option Addr} {sl9 : Array (Option Value)} {oc9 kV9 dc9 pm9 cd9 ct9 : Value} (a9 : PySem.W.nsIn K mainGlobals "gate_bits" = some (some (.ref f9))) (l9 : K.lookup f9 = some ⟨oc9, od9, .func (PySem.W.fnOf "gate_bits" "gate_bits" (defArgs (top 6)) (defBody (top 6)) (defScope (top 6)) .none kV9 dc9 pm9 an9 cd9 ct9), sl9⟩) (c9 : PySem.W.codeIn K cd9 "gate_bits" = true) (k9 : PySem.W.keepIn K (.ref f9) = true)
    {f10 : Addr} {od10 an10 : Option Addr} {sl10 : Array (Option Value)} {oc10 kV10 dc10 pm10 cd10 ct10 : Value} (a10 : PySem.W.nsIn K mainGlobals "how_many_ahead" = some (some (.ref f10))) (l10 : K.lookup f10 = some ⟨oc10, od10, .func (PySem.W.fnOf "how_many_ahead" "how_many_ahead" (defArgs (top 8)) (defBody (top 8)) (defScope (top 8)) .none kV10 dc10 pm10 an10 cd10 ct10), sl10⟩) (c10 : PySem.W.codeIn K cd10 "how_many_ahead" = true) (k10 : PySem.W.keepIn K (.ref f10) = true)
    {f11 : Addr} {od11 an11 : Option Addr} {sl11 : Array (Option Value)} {oc11 kV11 dc11 pm11 cd11 ct11 : Value} (a11 : PySem.W.nsIn K mainGlobals "gone_on" = some (some (.ref f11))) (l11 : K.lookup f11 = some ⟨oc11, od11, .func (PySem.W.fnOf "gone_on" "gone_on" (defArgs (top 9)) (defBody (top 9)) (defScope (top 9)) .none kV11 dc11 pm11 an11 cd11 ct11), sl11⟩) (c11 : PySem.W.codeIn K cd11 "gone_on" = true) (k11 : PySem.W.keepIn K (.ref f11) = true)
    {f12 : Addr} {od12 an12 : Option Addr} {sl12 : Array (Option Value)} {oc12 kV12 dc12 pm12 cd12 ct12 : Value} (a12 : PySem.W.nsIn K mainGlobals "ins_wires" = some (some (.ref f12))) (l12 : K.lookup f12 = some ⟨oc12, od12, .func (PySem.W.fnOf "ins_wires" "ins_wires" (defArgs (top 7)) (defBody (top 7)) (defScope (top 7)) .none kV12 dc12 pm12 an12 cd12 ct12), sl12⟩) (c12 : PySem.W.codeIn K cd12 "ins_wires" = true) (k12 : PySem.W.keepIn K (.ref f12) = true)
    {f13 : Addr} {od13 an13 : Option Addr} {sl13 : Array (Option Value)} {oc13 kV13 dc13 pm13 cd13 ct13 : Value} (a13 : PySem.W.nsIn K mainGlobals "run" = some (some (.ref f13))) (l13 : K.lookup f13 = some ⟨oc13, od13, .func (PySem.W.fnOf "run" "run" (defArgs (top 10)) (defBody (top 10)) (defScope (top 10)) .none kV13 dc13 pm13 an13 cd13 ct13), sl13⟩) (c13 : PySem.W.codeIn K cd13 "run" = true) (k13 : PySem.W.keepIn K (.ref f13) = true)
    {f14 : Addr} {od14 an14 : Option Addr} {sl14 : Array (Option Value)} {oc14 kV14 dc14 pm14 cd14 ct14 : Value} (a14 : PySem.W.nsIn K mainGlobals "_law_bit" = some (some (.ref f14))) (l14 : K.lookup f14 = some ⟨oc14, od14, .func (PySem.W.fnOf "_law_bit" "_law_bit" (defArgs (top 25)) (defBody (top 25)) (defScope (top 25)) .none kV14 dc14 pm14 an14 cd14 ct14), sl14⟩) (c14 : PySem.W.codeIn K cd14 "_law_bit" = true) (k14 : PySem.W.keepIn K (.ref f14) = true)
    {f15 : Addr} {od15 an15 : Option Addr} {sl15 : Array (Option Value)} {oc15 kV15 dc15 pm15 cd15 ct15 : Value} (a15 : PySem.W.nsIn K mainGlobals "_law_gone" = some (some (.ref f15))) (l15 : K.lookup f15 = some ⟨oc15, od15, .func (PySem.W.fnOf "_law_gone" "_law_gone" (defArgs (top 26)) (defBody (top 26)) (defScope (top 26)) .none kV15 dc15 pm15 an15 cd15 ct15), sl15⟩) (c15 : PySem.W.codeIn K cd15 "_law_gone" = true) (k15 : PySem.W.keepIn K (.ref f15) = true)
    {f16 : Addr} {od16 an16 : Option Addr} {sl16 : Array (Option Value)} {oc16 kV16 dc16 pm16 cd16 ct16 : Value} (a16 : PySem.W.nsIn K mainGlobals "_law_due" = some (some (.ref f16))) (l16 : K.lookup f16 = some ⟨oc16, od16, .func (PySem.W.fnOf "_law_due" "_law_due" (defArgs (top 27)) (defBody (top 27)) (defScope (top 27)) .none kV16 dc16 pm16 an16 cd16 ct16), sl16⟩) (c16 : PySem.W.codeIn K cd16 "_law_due" = true) (k16 : PySem.W.keepIn K (.ref f16) = true)
    {f17 : Addr} {od17 an17 : Option Addr} {sl17 : Array (Option Value)} {oc17 kV17 dc17 pm17 cd17 ct17 : Value} (a17 : PySem.W.nsIn K mainGlobals "law" = some (some (.ref f17))) (l17 : K.lookup f17 = some ⟨oc17, od17, .func (PySem.W.fnOf "law" "law" (defArgs (top 28)) (defBody (top 28)) (defScope (top 28)) .none kV17 dc17 pm17 an17 cd17 ct17), sl17⟩) (c17 : PySem.W.codeIn K cd17 "law" = true) (k17 : PySem.W.keepIn K (.ref f17) = true)
    {t_MOST_GATES : Tok} (zc_MOST_GATES : PySem.W.nsIn K mainGlobals "MOST_GATES" = some (some (.int 60 t_MOST_GATES)))
    {t_MOST_INS : Tok} (zc_MOST_INS : PySem.W.nsIn K mainGlobals "MOST_INS" = some (some (.int 6 t_MOST_INS)))
    {t_MOST_OUTS : Tok} (zc_MOST_OUTS : PySem.W.nsIn K mainGlobals "MOST_OUTS" = some (some (.int 6 t_MOST_OUTS)))
    (z_dict : PySem.W.nsIn K mainGlobals "dict" = some none)
    (z_enumerate : PySem.W.nsIn K mainGlobals "enumerate" = some none)
    (z_int : PySem.W.nsIn K mainGlobals "int" = some none)
    (z_len : PySem.W.nsIn K mainGlobals "len" = some none)
    (z_list : PySem.W.nsIn K mainGlobals "list" = some none)
    (z_max : PySem.W.nsIn K mainGlobals "max" = some none)
    (z_min : PySem.W.nsIn K mainGlobals "min" = some none)
    (z_range : PySem.W.nsIn K mainGlobals "range" = some none)
    (z_set : PySem.W.nsIn K mainGlobals "set" = some none)
    (z_sorted : PySem.W.nsIn K mainGlobals "sorted" = some none)
    (z_sum : PySem.W.nsIn K mainGlobals "sum" = some none)
    (z_tuple : PySem.W.nsIn K mainGlobals "tuple" = some none)
    (z_zip : PySem.W.nsIn K mainGlobals "zip" = some none) :
    ∃ fd : FuncData, (∀ (s : Shared) (v : Value), BindsTo s fd ⟨[v], []⟩ [("script", v)]) ∧ ∀ base : Heap, K.In base → base.Ns mainGlobals mg → FnOk l.prog w K mg base CX0 4 fa fd ["script"] (SpP K R_law) := by
  have e := hfa.symm.trans (PySem.W.mg_of X G a17)
  cases e
  have B : Bi mg := { triv := trivial, c_MOST_GATES := ⟨_, PySem.W.mg_of X G zc_MOST_GATES⟩, c_MOST_INS := ⟨_, PySem.W.mg_of X G zc_MOST_INS⟩, c_MOST_OUTS := ⟨_, PySem.W.mg_of X G zc_MOST_OUTS⟩, dict := PySem.W.mg_none_of X G z_dict, enumerate := PySem.W.mg_none_of X G z_enumerate, int := PySem.W.mg_none_of X G z_int, len := PySem.W.mg_none_of X G z_len, list := PySem.W.mg_none_of X G z_list, max := PySem.W.mg_none_of X G z_max, min := PySem.W.mg_none_of X G z_min, range := PySem.W.mg_none_of X G z_range, set := PySem.W.mg_none_of X G z_set, sorted := PySem.W.mg_none_of X G z_sorted, sum := PySem.W.mg_none_of X G z_sum, tuple := PySem.W.mg_none_of X G z_tuple, zip := PySem.W.mg_none_of X G z_zip }
  have d0 : Dfn K mg "_law_stir" (top 22) ["cell", "k"] := dfn_mk X G a0 l0 c0 k0 fun _ _ _ _ _ _ us hl => match us, hl with | [_, _], _ => rfl
  have d1 : Dfn K mg "_law_any_net" (top 23) ["cell", "first", "letters", "widths"] := dfn_mk X G a1 l1 c1 k1 fun _ _ _ _ _ _ us hl => match us, hl with | [_, _, _, _], _ => rfl
  have d2 : Dfn K mg "_law_pairs" (top 24) ["cell", "one", "other"] := dfn_mk X G a2 l2 c2 k2 fun _ _ _ _ _ _ us hl => match us, hl with | [_, _, _], _ => rfl
  have d3 : Dfn K mg "need_fit" (top 15) ["one", "other", "pairs"] := dfn_mk X G a3 l3 c3 k3 fun _ _ _ _ _ _ us hl => match us, hl with | [_, _, _], _ => rfl
  have d4 : Dfn K mg "need_names" (top 16) ["some"] := dfn_mk X G a4 l4 c4 k4 fun _ _ _ _ _ _ us hl => match us, hl with | [_], _ => rfl
  have d5 : Dfn K mg "wires_of_one" (top 18) ["one", "more"] := dfn_mk X G a5 l5 c5 k5 fun _ _ _ _ _ _ us hl => match us, hl with | [_, _], _ => rfl
  have d6 : Dfn K mg "wires_of_other" (top 19) ["other", "fed", "first", "gates_first"] := dfn_mk X G a6 l6 c6 k6 fun _ _ _ _ _ _ us hl => match us, hl with | [_, _, _, _], _ => rfl
  have d7 : Dfn K mg "moved" (top 17) ["gates", "wires"] := dfn_mk X G a7 l7 c7 k7 fun _ _ _ _ _ _ us hl => match us, hl with | [_, _], _ => rfl
  have d8 : Dfn K mg "joined" (top 20) ["one", "other", "pairs"] := dfn_mk X G a8 l8 c8 k8 fun _ _ _ _ _ _ us hl => match us, hl with | [_, _, _], _ => rfl
  have d9 : Dfn K mg "gate_bits" (top 6) ["kind", "some", "ones"] := dfn_mk X G a9 l9 c9 k9 fun _ _ _ _ _ _ us hl => match us, hl with | [_, _, _], _ => rfl
  have d10 : Dfn K mg "how_many_ahead" (top 8) ["net"] := dfn_mk X G a10 l10 c10 k10 fun _ _ _ _ _ _ us hl => match us, hl with | [_], _ => rfl
  have d11 : Dfn K mg "gone_on" (top 9) ["net", "first", "ones", "turned"] := dfn_mk X G a11 l11 c11 k11 fun _ _ _ _ _ _ us hl => match us, hl with | [_, _, _, _], _ => rfl
  have d12 : Dfn K mg "ins_wires" (top 7) ["net", "own", "ones", "bad"] := dfn_mk X G a12 l12 c12 k12 fun _ _ _ _ _ _ us hl => match us, hl with | [_, _, _, _], _ => rfl
  have d13 : Dfn K mg "run" (top 10) ["net", "bits", "turned", "bad"] := dfn_mk X G a13 l13 c13 k13 fun _ _ _ _ _ _ us hl => match us, hl with | [_, _, _, _], _ => rfl
  have d14 : Dfn K mg "_law_bit" (top 25) ["kind", "some"] := dfn_mk X G a14 l14 c14 k14 fun _ _ _ _ _ _ us hl => match us, hl with | [_, _], _ => rfl
  have d15 : Dfn K mg "_law_gone" (top 26) ["net", "wires", "turned"] := dfn_mk X G a15 l15 c15 k15 fun _ _ _ _ _ _ us hl => match us, hl with | [_, _, _], _ => rfl
  have d16 : Dfn K mg "_law_due" (top 27) ["one", "other", "pairs", "bits", "turned", "bad"] := dfn_mk X G a16 l16 c16 k16 fun _ _ _ _ _ _ us hl => match us, hl with | [_, _, _, _, _, _], _ => rfl
  refine ⟨PySem.W.fnOf "law" "law" (defArgs (top 28)) (defBody (top 28)) (defScope (top 28)) .none kV17 dc17 pm17 an17 cd17 ct17, fun s v => .of_eq rfl, fun base _ _ => ?_⟩
  have b0 := ok__law_stir (P := l.prog) (w := w) (base := base) d0
  have b1 := ok__law_any_net (P := l.prog) (w := w) (base := base) B d1 (b0.mono (by decide))
  have b2 := ok__law_pairs (P := l.prog) (w := w) (base := base) B d2 (b0.mono (by decide))
  have b3 := ok_need_fit (P := l.prog) (w := w) (base := base) B d3
  have b4 := ok_need_names (P := l.prog) (w := w) (base := base) B d4
  have b5 := ok_wires_of_one (P := l.prog) (w := w) (base := base) B d5
  have b6 := ok_wires_of_other (P := l.prog) (w := w) (base := base) B d6
  have b7 := ok_moved (P := l.prog) (w := w) (base := base) B d7
  have b8 := ok_joined (P := l.prog) (w := w) (base := base) B d8 (b7.mono (by decide)) (b3.mono (by decide)) (b4.mono (by decide)) (b5.mono (by decide)) (b6.mono (by decide))
  have b9 := ok_gate_bits (P := l.prog) (w := w) (base := base) d9
  have b10 := ok_how_many_ahead (P := l.prog) (w := w) (base := base) B d10
  have b11 := ok_gone_on (P := l.prog) (w := w) (base := base) B d11 (b9.mono (by decide)) (b10.mono (by decide))
  have b12 := ok_ins_wires (P := l.prog) (w := w) (base := base) B d12
  have b13 := ok_run (P := l.prog) (w := w) (base := base) B d13 (b11.mono (by decide)) (b12.mono (by decide))
  have b14 := ok__law_bit (P := l.prog) (w := w) (base := base) B d14
  have b15 := ok__law_gone (P := l.prog) (w := w) (base := base) B d15 (b14.mono (by decide))
  have b16 := ok__law_due (P := l.prog) (w := w) (base := base) B d16 (b15.mono (by decide))
  exact ok_law B (fun_mk l17 c17 k17) (b1.mono (by decide)) (b16.mono (by decide)) (b2.mono (by decide)) (b0.mono (by decide)) ((b8.imp (SpT.toP RT_joined.to)).mono (by decide)) (b13.mono (by decide))
theorem walk {l : PySem.W.OpenLaw} {q : Program} {loose : List Str} {XP : (Str → Option Value) → Heap → Prop} {YP : World → Heap → Prop} {d : DefRec} {K : Params → Fg} (hn : l.most = some 63) (hdf : d.params.defaults = [])
    (hY : ∀ (w : World) (h : Heap), YP w h → (K w.params).In h)
    (F : ∀ (w : World) (mg : Str → Option Value) (fa : Addr) (h : Heap), (K w.params).In h → h.Ns mainGlobals mg → mg d.name = some (.ref fa) →
      ∃ fd : FuncData, (∀ (s : Shared) (u : Value), BindsTo s fd ⟨[u], []⟩ [("script", u)]) ∧ ∀ base : Heap, (K w.params).In base → base.Ns mainGlobals mg → FnOk l.prog w (K w.params) mg base CX0 4 fa fd ["script"] (SpP (K w.params) R_law)) :
    PySem.W.WalkO q loose XP YP l.row.toRowW d [] (fun f vs => PySem.call f vs) :=
  L2.walk_of (n := 63) (k := 4) (x := "script") (CX := fun _ => CX0) (sp := fun w => SpP (K w.params) R_law) hn (by decide) hdf ⟨rfl, by decide, by decide⟩ hY F
    (fun w H a ns hl _ hS => ⟨H, [.list (ns.map .int)], .bool true, .cons (.lst hS (by rw [List.length_map]; exact Nat.le_trans hl (by decide)) (RpAll.of_ints ns)) .nil, Same.refl H, ⟨ns, true, by simp [enc], rfl, law_ok ns hl⟩, fun v F H _ r => by cases r; rfl⟩) fun _ _ _ _ _ z => z
end W

open PySem PySem.W PyProof.Rows in
set_option maxRecDepth 100000 in
set_option maxHeartbeats 0 in
theorem PySem.Challenge.cw_bearfaults_k36_whole_joined_runs_on_holds : PySem.Challenge.rw_bearfaults_k36_whole_joined_runs_on.Holds := by
  w_on; o_law; k_head; (case hw => w_witness2)
  k_fill
  refine W.walk (l := PySem.Challenge.rw_bearfaults_k36_whole_joined_runs_on) rfl rfl (fun w h Y => PySem.W.kIn_of Y) ?F
  case F =>
    intro w mg fa h KX G hmg
    refine' W.all_mk KX G hmg ?a0 ?l0 ?c0 ?k0 ?a1 ?l1 ?c1 ?k1 ?a2 ?l2 ?c2 ?k2 ?a3 ?l3 ?c3 ?k3 ?a4 ?l4 ?c4 ?k4 ?a5 ?l5 ?c5 ?k5 ?a6 ?l6 ?c6 ?k6 ?a7 ?l7 ?c7 ?k7 ?a8 ?l8 ?c8 ?k8 ?a9 ?l9 ?c9 ?k9 ?a10 ?l10 ?c10 ?k10 ?a11 ?l11 ?c11 ?k11 ?a12 ?l12 ?c12 ?k12 ?a13 ?l13 ?c13 ?k13 ?a14 ?l14 ?c14 ?k14 ?a15 ?l15 ?c15 ?k15 ?a16 ?l16 ?c16 ?k16 ?a17 ?l17 ?c17 ?k17 ?zc_MOST_GATES ?zc_MOST_INS ?zc_MOST_OUTS ?z_dict ?z_enumerate ?z_int ?z_len ?z_list ?z_max ?z_min ?z_range ?z_set ?z_sorted ?z_sum ?z_tuple ?z_zip
    (case a0 => k_is)
    (case l0 => k_is)
    (case c0 => k_is)
    (case k0 => k_is)
    (case a1 => k_is)
    (case l1 => k_is)
    (case c1 => k_is)
    (case k1 => k_is)
    (case a2 => k_is)
    (case l2 => k_is)
    (case c2 => k_is)
    (case k2 => k_is)
    (case a3 => k_is)
    (case l3 => k_is)
    (case c3 => k_is)
    (case k3 => k_is)
    (case a4 => k_is)
    (case l4 => k_is)
    (case c4 => k_is)
    (case k4 => k_is)
    (case a5 => k_is)
    (case l5 => k_is)
    (case c5 => k_is)
    (case k5 => k_is)
    (case a6 => k_is)
    (case l6 => k_is)
    (case c6 => k_is)
    (case k6 => k_is)
    (case a7 => k_is)
    (case l7 => k_is)
    (case c7 => k_is)
    (case k7 => k_is)
    (case a8 => k_is)
    (case l8 => k_is)
    (case c8 => k_is)
    (case k8 => k_is)
    (case a9 => k_is)
    (case l9 => k_is)
    (case c9 => k_is)
    (case k9 => k_is)
    (case a10 => k_is)
    (case l10 => k_is)
    (case c10 => k_is)
    (case k10 => k_is)
    (case a11 => k_is)
    (case l11 => k_is)
    (case c11 => k_is)
    (case k11 => k_is)
    (case a12 => k_is)
    (case l12 => k_is)
    (case c12 => k_is)
    (case k12 => k_is)
    (case a13 => k_is)
    (case l13 => k_is)
    (case c13 => k_is)
    (case k13 => k_is)
    (case a14 => k_is)
    (case l14 => k_is)
    (case c14 => k_is)
    (case k14 => k_is)
    (case a15 => k_is)
    (case l15 => k_is)
    (case c15 => k_is)
    (case k15 => k_is)
    (case a16 => k_is)
    (case l16 => k_is)
    (case c16 => k_is)
    (case k16 => k_is)
    (case a17 => k_is)
    (case l17 => k_is)
    (case c17 => k_is)
    (case k17 => k_is)
    (case zc_MOST_GATES => k_is)
    (case zc_MOST_INS => k_is)
    (case zc_MOST_OUTS => k_is)
    (case z_dict => k_is)
    (case z_enumerate => k_is)
    (case z_int => k_is)
    (case z_len => k_is)
    (case z_list => k_is)
    (case z_max => k_is)
    (case z_min => k_is)
    (case z_range => k_is)
    (case z_set => k_is)
    (case z_sorted => k_is)
    (case z_sum => k_is)
    (case z_tuple => k_is)
    (case z_zip => k_is)
