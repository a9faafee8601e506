import PyProof.Rows.All
import Wide.All
import OpenK.AllK
import Wide.FinOn
import HandS.ForMost
import HandS.Walk
import HandS.TupAny
import HandS.Style
import HandS.IsInst
import HandS.Zip
import KE.GoesMore
import HandS.Wide
import HandS.SortInts
import HandS.Conv
import HandS.SetFor
import PyProof.Rows.SumAny
import HandS.TryOnly
import HandS.TupMul
import HandS.More
import HandS.Dict
import HandS.Exc
import HandS.ExcOwn
import HandS.ExcIs
import HandS.WordsExc
import HandS.Text
import PyProof.StrBlock2
import HandS.SortKw
import HandS.NamedTupSort
import HandS.ExcValue
import HandS.WideBits
import HandS.Deep
import HandS.Strs
import KE.GoesEnum
import HandS.Comp
import HandS.WordsDict
import HandS.Steps
import PySem.Challenge.RW_bearfaults_k02_whole_nets_read
import PyProof.StrLaws
set_option Elab.async false
set_option linter.all false
set_option maxRecDepth 100000
set_option maxHeartbeats 4000000
/-! TL: data over the hand layer's readings: what a reading evaluates to, by plain data; a frozen part of the heap, own lists, the whole. -/
namespace TL
open PySem L2
abbrev Fg := PySem.W.Frag

/-! ### data in a heap -/
mutual
inductive Rp (K : Fg) (F : Hp) : V → PyData → Prop
  | non : Rp K F .non .none
  | bl (b : Bool) : Rp K F (.bl b) (.bool b)
  | int (i : Int) : Rp K F (.int i) (.int i)
  | str (x : Str) : Rp K F (.str x) (.str x)
  | lst {a : Addr} {xs : List V} {ds : List PyData} : SqL K F a xs → xs.length ≤ sizeLine → RpAll K F xs ds → Rp K F (.ref a) (.list ds)
  | tup {a : Addr} {xs : List V} {ds : List PyData} : SqT K F a xs → xs.length ≤ sizeLine → RpAll K F xs ds → Rp K F (.ref a) (.tuple ds)
inductive RpAll (K : Fg) (F : Hp) : List V → List PyData → Prop
  | nil : RpAll K F [] []
  | cons {v : V} {vs : List V} {d : PyData} {ds : List PyData} : Rp K F v d → RpAll K F vs ds → RpAll K F (v :: vs) (d :: ds)
end
theorem same_rd {H H' : Hp} {a : Addr} {u : HO} (e : Same H H') (h : Rd H a u) : Rd H' a u := by
  rcases h with h | ⟨o, h⟩
  · exact .inl (e _ _ h)
  · exact .inr ⟨o, e _ _ h⟩
theorem same_t {K : Fg} {H H' : Hp} {a : Addr} {xs : List V} (e : Same H H') (h : SqT K H a xs) : SqT K H' a xs := by
  rcases h with h | h
  · exact .inl (same_rd e h)
  · exact .inr h
section
variable {K : Fg} {F F' : Hp}
mutual
theorem Rp.mono (e : Same F F') : ∀ (d : PyData) (v : V), Rp K F v d → Rp K F' v d
  | .none, _, h => by cases h; exact .non
  | .bool b, _, h => by cases h; exact .bl b
  | .int i, _, h => by cases h; exact .int i
  | .str x, _, h => by cases h; exact .str x
  | .list ds, _, h => by
    cases h with
    | lst h1 h2 h3 => exact .lst (e.seq h1) h2 (RpAll.mono e ds _ h3)
  | .tuple ds, _, h => by
    cases h with
    | tup h1 h2 h3 => exact .tup (same_t e h1) h2 (RpAll.mono e ds _ h3)
  | .dict _, _, h => by cases h
theorem RpAll.mono (e : Same F F') : ∀ (ds : List PyData) (vs : List V), RpAll K F vs ds → RpAll K F' vs ds
  | [], _, h => by cases h; exact .nil
  | d :: ds, _, h => by
    cases h with
    | cons h1 h2 => exact .cons (Rp.mono e d _ h1) (RpAll.mono e ds _ h2)
end
theorem Rp.up {d : PyData} {v : V} (h : Rp K F v d) (e : Same F F') : Rp K F' v d := Rp.mono e d v h
theorem RpAll.up {ds : List PyData} {vs : List V} (h : RpAll K F vs ds) (e : Same F F') : RpAll K F' vs ds := RpAll.mono e ds vs h
mutual
theorem Rp.dp : ∀ (d : PyData) (v : V), Rp K F v d → Dp K F v d
  | .none, _, h => by cases h; exact .non
  | .bool b, _, h => by cases h; exact .bl b
  | .int i, _, h => by cases h; exact .int i
  | .str x, _, h => by cases h; exact .str x
  | .list ds, _, h => by
    cases h with
    | lst h1 h2 h3 => exact .lst h1 (RpAll.dp ds _ h3)
  | .tuple ds, _, h => by
    cases h with
    | tup h1 h2 h3 => exact .tup h1 (RpAll.dp ds _ h3)
  | .dict _, _, h => by cases h
theorem RpAll.dp : ∀ (ds : List PyData) (vs : List V), RpAll K F vs ds → DpAll K F vs ds
  | [], _, h => by cases h; exact .nil
  | d :: ds, _, h => by
    cases h with
    | cons h1 h2 => exact .cons (Rp.dp d _ h1) (RpAll.dp ds _ h2)
end
theorem RpAll.length : ∀ {vs : List V} {ds : List PyData}, RpAll K F vs ds → vs.length = ds.length
  | _, _, .nil => rfl
  | _, _, .cons _ t => by rw [List.length_cons, List.length_cons, RpAll.length t]
theorem RpAll.get : ∀ {vs : List V} {ds : List PyData} {i : Nat} {d : PyData}, RpAll K F vs ds → ds[i]? = some d → ∃ v, vs[i]? = some v ∧ Rp K F v d
  | _, _, _, _, .nil, e => by simp at e
  | _, _, 0, _, .cons r _, e => by simp at e; subst e; exact ⟨_, rfl, r⟩
  | _, _, i + 1, d, .cons _ t, e => by
    obtain ⟨v, h1, h2⟩ := RpAll.get (i := i) (d := d) t (by simpa using e)
    exact ⟨v, by simpa using h1, h2⟩
theorem RpAll.getV : ∀ {vs : List V} {ds : List PyData} {i : Nat} {v : V}, RpAll K F vs ds → vs[i]? = some v → ∃ d, ds[i]? = some d ∧ Rp K F v d
  | _, _, _, _, .nil, e => by simp at e
  | _, _, 0, _, .cons r _, e => by simp at e; subst e; exact ⟨_, rfl, r⟩
  | _, _, i + 1, v, .cons _ t, e => by
    obtain ⟨d, h1, h2⟩ := RpAll.getV (i := i) (v := v) t (by simpa using e)
    exact ⟨d, by simpa using h1, h2⟩
theorem RpAll.append : ∀ {vs ws : List V} {ds es : List PyData}, RpAll K F vs ds → RpAll K F ws es → RpAll K F (vs ++ ws) (ds ++ es)
  | _, _, _, _, .nil, s => s
  | _, _, _, _, .cons r t, s => .cons r (RpAll.append t s)
theorem RpAll.take : ∀ {vs : List V} {ds : List PyData} (n : Nat), RpAll K F vs ds → RpAll K F (vs.take n) (ds.take n)
  | _, _, 0, _ => .nil
  | _, _, _ + 1, .nil => .nil
  | _, _, n + 1, .cons r t => .cons r (RpAll.take n t)
theorem RpAll.drop : ∀ {vs : List V} {ds : List PyData} (n : Nat), RpAll K F vs ds → RpAll K F (vs.drop n) (ds.drop n)
  | _, _, 0, r => r
  | _, _, _ + 1, .nil => .nil
  | _, _, n + 1, .cons _ t => RpAll.drop n t
theorem RpAll.set {v : V} {d : PyData} (r : Rp K F v d) : ∀ {vs : List V} {ds : List PyData} (i : Nat), RpAll K F vs ds → RpAll K F (vs.set i v) (ds.set i d)
  | _, _, _, .nil => .nil
  | _, _, 0, .cons _ t => .cons r t
  | _, _, i + 1, .cons q t => .cons q (RpAll.set r i t)
theorem RpAll.reverse {vs : List V} {ds : List PyData} (h : RpAll K F vs ds) : RpAll K F vs.reverse ds.reverse := by
  induction vs generalizing ds with
  | nil => cases h; exact .nil
  | cons v vs ih =>
    cases h with
    | cons r t =>
      rw [List.reverse_cons, List.reverse_cons]
      exact (ih t).append (.cons r .nil)
theorem RpAll.rep {vs : List V} {ds : List PyData} (h : RpAll K F vs ds) : ∀ k : Nat, RpAll K F (List.replicate k vs).flatten (List.replicate k ds).flatten
  | 0 => .nil
  | k + 1 => by
    rw [List.replicate_succ, List.replicate_succ, List.flatten_cons, List.flatten_cons]
    exact h.append (RpAll.rep h k)
theorem RpAll.ints : ∀ {vs : List V} {ns : List Int}, RpAll K F vs (ns.map PyData.int) → vs = ns.map V.int
  | _, [], h => by cases h; rfl
  | _, n :: ns, h => by
    cases h with
    | cons r t => cases r; rw [RpAll.ints t]; rfl
theorem RpAll.bools : ∀ {vs : List V} {ns : List Bool}, RpAll K F vs (ns.map PyData.bool) → vs = ns.map V.bl
  | _, [], h => by cases h; rfl
  | _, n :: ns, h => by
    cases h with
    | cons r t => cases r; rw [RpAll.bools t]; rfl
theorem RpAll.strs : ∀ {vs : List V} {ns : List Str}, RpAll K F vs (ns.map PyData.str) → vs = ns.map V.str
  | _, [], h => by cases h; rfl
  | _, n :: ns, h => by
    cases h with
    | cons r t => cases r; rw [RpAll.strs t]; rfl
theorem RpAll.of_ints : ∀ (ns : List Int), RpAll K F (ns.map V.int) (ns.map PyData.int)
  | [] => .nil
  | n :: ns => .cons (.int n) (RpAll.of_ints ns)
end

/-! ### the slots -/
/-- pairs of a dict, by their data -/
def KD {κ : Type} (K : Fg) (F : Hp) (vs : List (κ × V)) (kvs : List (κ × PyData)) : Prop := vs.map (·.1) = kvs.map (·.1) ∧ RpAll K F (vs.map (·.2)) (kvs.map (·.2))
theorem KD.up {κ : Type} {K : Fg} {F F' : Hp} {vs : List (κ × V)} {kvs : List (κ × PyData)} (h : KD K F vs kvs) (e : Same F F') : KD K F' vs kvs := ⟨h.1, h.2.up e⟩
inductive Sl where
  | un
  | val (d : PyData)
  | adr (a : Addr)
  | tow (ps : List Addr)
  | dic (kvs : List (Str × Str))
  | lol (ps : List Addr)
  | dii (kvs : List (Str × Int))
  | dkb (ks : List Int)
  | dk (kvs : List (Key × PyData))
  | dt (kvs : List (List Key × PyData))
  | obj (a : Addr) (u : HO)
def keyB (ks : List Int) : List (Key × V) := ks.map fun k => ((Sum.inl k : Key), V.bl true)
def litI (kvs : List (Str × Int)) : List (Key × V) := kvs.map fun p => (Sum.inr p.1, V.int p.2)
def litS (kvs : List (Str × Str)) : List (Key × V) := kvs.map fun p => (Sum.inr p.1, V.str p.2)
def SlR (K : Fg) (F : Hp) : Option V → Sl → Prop
  | _, .un => True
  | s, .val d => ∃ v, s = some v ∧ Rp K F v d
  | s, .adr a => s = some (.ref a)
  | s, .tow ps => ∃ t, s = some (.ref t) ∧ SqT K F t (ps.map .ref)
  | s, .dic kvs => ∃ t, s = some (.ref t) ∧ F t = some (.dK (litS kvs))
  | s, .lol ps => ∃ t, s = some (.ref t) ∧ SqL K F t (ps.map .ref) ∧ ps.length ≤ sizeLine
  | s, .dii kvs => ∃ t, s = some (.ref t) ∧ F t = some (.dK (litI kvs))
  | s, .dkb ks => ∃ t, s = some (.ref t) ∧ F t = some (.dK (keyB ks))
  | s, .dk kvs => ∃ t vs, s = some (.ref t) ∧ F t = some (.dK vs) ∧ vs.length ≤ sizeLine ∧ KD K F vs kvs
  | s, .dt kvs => ∃ t vs, s = some (.ref t) ∧ F t = some (.dT vs) ∧ vs.length ≤ sizeLine ∧ KD K F vs kvs
  | s, .obj a u => s = some (.ref a) ∧ F a = some u
inductive EnvR (K : Fg) (F : Hp) : L2.St → List Sl → Prop
  | nil : EnvR K F [] []
  | cons {s : Option V} {σ : L2.St} {r : Sl} {ρ : List Sl} : SlR K F s r → EnvR K F σ ρ → EnvR K F (s :: σ) (r :: ρ)
section
variable {K : Fg} {F F' : Hp} {σ : L2.St} {ρ : List Sl}
theorem SlR.up {s : Option V} {r : Sl} (h : SlR K F s r) (e : Same F F') : SlR K F' s r := by
  cases r with
  | un => trivial
  | val d => obtain ⟨v, h1, h2⟩ := h; exact ⟨v, h1, h2.up e⟩
  | adr a => exact h
  | tow ps => obtain ⟨t, h1, h2⟩ := h; exact ⟨t, h1, same_t e h2⟩
  | dic kvs => obtain ⟨t, h1, h2⟩ := h; exact ⟨t, h1, e _ _ h2⟩
  | lol ps => obtain ⟨t, h1, h2, h3⟩ := h; exact ⟨t, h1, e.seq h2, h3⟩
  | dii kvs => obtain ⟨t, h1, h2⟩ := h; exact ⟨t, h1, e _ _ h2⟩
  | dkb ks => obtain ⟨t, h1, h2⟩ := h; exact ⟨t, h1, e _ _ h2⟩
  | dk kvs => obtain ⟨t, vs, h1, h2, h3, h4⟩ := h; exact ⟨t, vs, h1, e _ _ h2, h3, h4.up e⟩
  | dt kvs => obtain ⟨t, vs, h1, h2, h3, h4⟩ := h; exact ⟨t, vs, h1, e _ _ h2, h3, h4.up e⟩
  | obj a u => exact ⟨h.1, e _ _ h.2⟩
theorem EnvR.up (h : EnvR K F σ ρ) (e : Same F F') : EnvR K F' σ ρ := by
  induction h with
  | nil => exact .nil
  | cons r _ ih => exact .cons (r.up e) ih
theorem EnvR.at : ∀ {σ : L2.St} {ρ : List Sl} {i : Nat} {r : Sl}, EnvR K F σ ρ → ρ[i]? = some r → ∃ s, σ[i]? = some s ∧ SlR K F s r
  | _, _, _, _, .nil, e => by simp at e
  | _, _, 0, _, .cons r _, e => by simp at e; subst e; exact ⟨_, rfl, r⟩
  | _, _, i + 1, r, .cons _ t, e => by
    obtain ⟨v, h1, h2⟩ := EnvR.at (i := i) (r := r) t (by simpa using e)
    exact ⟨v, by simpa using h1, h2⟩
theorem EnvR.val {i : Nat} {d : PyData} (h : EnvR K F σ ρ) (e : ρ[i]? = some (.val d)) : ∃ v, σ[i]? = some (some v) ∧ Rp K F v d := by
  obtain ⟨s, h1, v, rfl, h2⟩ := h.at e
  exact ⟨v, h1, h2⟩
theorem EnvR.adr {i : Nat} {a : Addr} (h : EnvR K F σ ρ) (e : ρ[i]? = some (.adr a)) : σ[i]? = some (some (.ref a)) := by
  obtain ⟨s, h1, h2⟩ := h.at e
  cases h2
  exact h1
theorem EnvR.set {s : Option V} {r : Sl} (q : SlR K F s r) : ∀ {σ : L2.St} {ρ : List Sl} (i : Nat), EnvR K F σ ρ → EnvR K F (σ.set i s) (ρ.set i r)
  | _, _, _, .nil => .nil
  | _, _, 0, .cons _ t => .cons q t
  | _, _, i + 1, .cons p t => .cons p (EnvR.set q i t)
theorem EnvR.setv {v : V} {d : PyData} (h : EnvR K F σ ρ) (q : Rp K F v d) (i : Nat) : EnvR K F (σ.set i (some v)) (ρ.set i (.val d)) := EnvR.set (s := some v) (r := .val d) ⟨v, rfl, q⟩ i h
theorem EnvR.seta {a : Addr} (h : EnvR K F σ ρ) (i : Nat) : EnvR K F (σ.set i (some (.ref a))) (ρ.set i (.adr a)) := EnvR.set (s := some (.ref a)) (r := .adr a) rfl i h
theorem EnvR.blank : ∀ (n : Nat), EnvR K F (List.replicate n none) (List.replicate n .un)
  | 0 => .nil
  | n + 1 => .cons trivial (EnvR.blank n)
theorem EnvR.app : ∀ {σ τ : L2.St} {ρ π : List Sl}, EnvR K F σ ρ → EnvR K F τ π → EnvR K F (σ ++ τ) (ρ ++ π)
  | _, _, _, _, .nil, s => s
  | _, _, _, _, .cons r t, s => .cons r (EnvR.app t s)
/-- arguments: data, or own lists by their addresses -/
inductive AsR (K : Fg) (F : Hp) : List V → List Sl → Prop
  | nil : AsR K F [] []
  | val {v : V} {d : PyData} {vs : List V} {as : List Sl} : Rp K F v d → AsR K F vs as → AsR K F (v :: vs) (.val d :: as)
  | adr {a : Addr} {vs : List V} {as : List Sl} : AsR K F vs as → AsR K F (.ref a :: vs) (.adr a :: as)
  | dk {a : Addr} {ps : List (Key × V)} {kvs : List (Key × PyData)} {vs : List V} {as : List Sl} : F a = some (.dK ps) → ps.length ≤ sizeLine → KD K F ps kvs → AsR K F vs as → AsR K F (.ref a :: vs) (.dk kvs :: as)
  | obj {a : Addr} {u : HO} {vs : List V} {as : List Sl} : F a = some u → AsR K F vs as → AsR K F (.ref a :: vs) (.obj a u :: as)
theorem AsR.up {vs : List V} {as : List Sl} (h : AsR K F vs as) (e : Same F F') : AsR K F' vs as := by
  induction h with
  | nil => exact .nil
  | val r _ ih => exact .val (r.up e) ih
  | adr _ ih => exact .adr ih
  | dk h1 h2 h3 _ ih => exact .dk (e _ _ h1) h2 (h3.up e) ih
  | obj h1 _ ih => exact .obj (e _ _ h1) ih
theorem AsR.env : ∀ {vs : List V} {as : List Sl}, AsR K F vs as → EnvR K F (vs.map some) as
  | _, _, .nil => .nil
  | _, _, .val r t => .cons ⟨_, rfl, r⟩ t.env
  | _, _, .adr t => .cons rfl t.env
  | _, _, .dk h1 h2 h3 t => .cons ⟨_, _, rfl, h1, h2, h3⟩ t.env
  | _, _, .obj h1 t => .cons ⟨rfl, h1⟩ t.env
theorem AsR.length : ∀ {vs : List V} {as : List Sl}, AsR K F vs as → vs.length = as.length
  | _, _, .nil => rfl
  | _, _, .val _ t => by rw [List.length_cons, List.length_cons, AsR.length t]
  | _, _, .adr t => by rw [List.length_cons, List.length_cons, AsR.length t]
  | _, _, .dk _ _ _ t => by rw [List.length_cons, List.length_cons, AsR.length t]
  | _, _, .obj _ t => by rw [List.length_cons, List.length_cons, AsR.length t]
theorem AsR.all : ∀ {vs : List V} {ds : List PyData}, AsR K F vs (ds.map .val) → RpAll K F vs ds
  | _, [], h => by cases h; exact .nil
  | _, d :: ds, h => by
    cases h with
    | val r t => exact .cons r (AsR.all t)
theorem EnvR.start {N : List Str} {vs : List V} {as : List Sl} (h : AsR K F vs as) : EnvR K F (start N vs) (as ++ List.replicate (N.length - as.length) .un) := by
  unfold L2.start
  rw [h.length]
  exact h.env.app (EnvR.blank _)
/-- forgetting slots -/
def Wk : List Sl → List Sl → Prop
  | [], [] => True
  | r :: ρ, r' :: ρ' => (r' = r ∨ r' = .un) ∧ Wk ρ ρ'
  | _, _ => False
theorem EnvR.weak : ∀ {σ : L2.St} {ρ ρ' : List Sl}, EnvR K F σ ρ → Wk ρ ρ' → EnvR K F σ ρ'
  | _, _, [], .nil, _ => .nil
  | _, _, r' :: ρ', .cons r t, ⟨h1, h2⟩ => by
    refine .cons ?_ (EnvR.weak t h2)
    rcases h1 with rfl | rfl
    · exact r
    · trivial
  | _, _, _ :: _, .nil, h => h.elim
  | _, _, [], .cons _ _, h => h.elim
def wipeS (ρ : List Sl) : List Nat → List Sl
  | [] => ρ
  | v :: vs => (wipeS ρ vs).set v .un
theorem EnvR.wipe (h : EnvR K F σ ρ) : ∀ vs : List Nat, EnvR K F (L2.wipe σ vs) (wipeS ρ vs)
  | [] => h
  | v :: vs => by
    unfold L2.wipe wipeS
    exact EnvR.set (r := .un) trivial v (EnvR.wipe h vs)
theorem wipe_at (σ : L2.St) (i : Nat) : ∀ vs : List Nat, (L2.wipe σ vs)[i]? = if i ∈ vs then (if i < σ.length then some none else none) else σ[i]?
  | [] => by simp [L2.wipe]
  | v :: vs => by
    unfold L2.wipe
    rw [List.getElem?_set, wipe_at σ i vs, wipe_length]
    by_cases h : v = i
    · subst h; simp
    · have h' : ¬ i = v := fun e => h e.symm
      simp [h, h']
theorem wipe_wipe (σ : L2.St) (vs : List Nat) : L2.wipe (L2.wipe σ vs) vs = L2.wipe σ vs := by
  apply List.ext_getElem?
  intro i
  rw [wipe_at, wipe_at, wipe_length]
  split <;> rfl
theorem wipe_set (σ : L2.St) {i : Nat} {s : Option V} {vs : List Nat} (h : i ∈ vs) : L2.wipe (σ.set i s) vs = L2.wipe σ vs := by
  apply List.ext_getElem?
  intro j
  rw [wipe_at, wipe_at, List.length_set]
  by_cases e : j ∈ vs
  · rw [if_pos e, if_pos e]
  · rw [if_neg e, if_neg e, List.getElem?_set_ne (fun (q : i = j) => e (q ▸ h))]
end

/-! ### the heap's parts: F0, H0: frozen and whole at the entry; D0: lists at the entry that may be changed; F: frozen; O: own lists; H: the whole -/
/-- what an own object holds: a list's items; a dict's pairs, by flat keys, by tuples -/
inductive OD where
  | l (ds : List PyData)
  | k (kvs : List (Key × PyData))
  | t (kvs : List (List Key × PyData))
instance : Coe (List PyData) OD := ⟨OD.l⟩
structure OE where
  a : Addr
  nw : Bool
  ds : OD
@[reducible] def OwnAt (K : Fg) (F H : Hp) (a : Addr) : OD → Prop
  | .l ds => ∃ vs, H a = some (.lst vs) ∧ vs.length ≤ sizeLine ∧ RpAll K F vs ds
  | .k kvs => ∃ vs, H a = some (.dK vs) ∧ vs.length ≤ sizeLine ∧ KD K F vs kvs
  | .t kvs => ∃ vs, H a = some (.dT vs) ∧ vs.length ≤ sizeLine ∧ KD K F vs kvs
theorem OwnAt.live {K : Fg} {F H : Hp} {a : Addr} {o : OD} (h : OwnAt K F H a o) : ∃ u, H a = some u := by
  cases o with
  | l ds => obtain ⟨vs, h, _⟩ := h; exact ⟨_, h⟩
  | k kvs => obtain ⟨vs, h, _⟩ := h; exact ⟨_, h⟩
  | t kvs => obtain ⟨vs, h, _⟩ := h; exact ⟨_, h⟩
theorem OwnAt.up {K : Fg} {F F' H : Hp} {a : Addr} {o : OD} (h : OwnAt K F H a o) (e : Same F F') : OwnAt K F' H a o := by
  cases o with
  | l ds => obtain ⟨vs, h, z, r⟩ := h; exact ⟨vs, h, z, r.up e⟩
  | k kvs => obtain ⟨vs, h, z, r1, r2⟩ := h; exact ⟨vs, h, z, r1, r2.up e⟩
  | t kvs => obtain ⟨vs, h, z, r1, r2⟩ := h; exact ⟨vs, h, z, r1, r2.up e⟩
theorem OwnAt.at {K : Fg} {F H H' : Hp} {a : Addr} {o : OD} (h : OwnAt K F H a o) (e : H' a = H a) : OwnAt K F H' a o := by
  cases o with
  | l ds => obtain ⟨vs, h, z, r⟩ := h; exact ⟨vs, e.trans h, z, r⟩
  | k kvs => obtain ⟨vs, h, z, r1, r2⟩ := h; exact ⟨vs, e.trans h, z, r1, r2⟩
  | t kvs => obtain ⟨vs, h, z, r1, r2⟩ := h; exact ⟨vs, e.trans h, z, r1, r2⟩
abbrev Os := List OE
structure Hx (K : Fg) (F0 H0 : Hp) (D0 : List Addr) (F : Hp) (O : Os) (H : Hp) : Prop where
  f0 : Same F0 F
  fh : Same F H
  keep : ∀ a o, H0 a = some o → a ∉ D0 → H a = some o
  live : ∀ a o, H0 a = some o → ∃ o', H a = some o'
  new : ∀ a o, H0 a = some o → F0 a = none → F a = none
  own : ∀ p ∈ O, F p.a = none ∧ (p.nw = true → H0 p.a = none) ∧ (p.nw = false → p.a ∈ D0) ∧ OwnAt K F H p.a p.ds
  nd : (O.map OE.a).Nodup
/-- what a call leaves: D the lists that it may have changed -/
structure Stp (D : List Addr) (F H F' H' : Hp) : Prop where
  ff : Same F F'
  fh : Same F' H'
  keep : ∀ a o, H a = some o → a ∉ D → H' a = some o
  live : ∀ a o, H a = some o → ∃ o', H' a = some o'
  new : ∀ a o, H a = some o → F a = none → F' a = none
section
variable {K : Fg} {F0 H0 F H F' H' : Hp} {D0 : List Addr} {O : Os}
theorem Hx.start (h : Same F H) : Hx K F H [] F [] H := ⟨Same.refl _, h, fun _ _ e _ => e, fun _ o e => ⟨o, e⟩, fun _ _ _ e => e, fun p h => by simp at h, List.nodup_nil⟩
theorem Hx.start1 {p : Addr} {vs : List V} {ds : List PyData} (h : Same F H) (n : F p = none) (hp : H p = some (.lst vs)) (hz : vs.length ≤ sizeLine) (r : RpAll K F vs ds) : Hx K F H [p] F [⟨p, false, ds⟩] H := by
  refine ⟨Same.refl _, h, fun _ _ e _ => e, fun _ o e => ⟨o, e⟩, fun _ _ _ e => e, fun q hq => ?_, by simp⟩
  have e : q = ⟨p, false, ds⟩ := by simpa using hq
  subst e
  exact ⟨n, fun z => (Bool.false_ne_true z).elim, fun _ => by simp, vs, hp, hz, r⟩
theorem Hx.ownL (S : Hx K F0 H0 D0 F O H) {q : OE} (h : q ∈ O) : ∃ u, H q.a = some u := (S.own q h).2.2.2.live
theorem Hx.stp (S : Hx K F0 H0 D0 F O H) : Stp D0 F0 H0 F H := ⟨S.f0, S.fh, S.keep, S.live, S.new⟩
theorem Hx.nof (S : Hx K F0 H0 D0 F O H) {p : Addr} (h : H p = none) : F p = none := S.fh.free h
theorem Hx.noh0 (S : Hx K F0 H0 D0 F O H) {p : Addr} (h : H p = none) : H0 p = none := by
  cases e : H0 p with
  | none => rfl
  | some o =>
    obtain ⟨o', e'⟩ := S.live _ _ e
    rw [h] at e'
    cases e'
theorem same_upd {H : Hp} {p : Addr} {o : HO} (h : H p = none) : Same H (upd H p o) := fun a u e => by
  rw [upd_ne (ne_of_none e h)]
  exact e
theorem same_upd2 {F H : Hp} {p : Addr} {o : HO} (h : Same F H) : Same (upd F p o) (upd H p o) := fun a u e => by
  unfold upd at e ⊢
  split at e
  · rw [if_pos (by assumption)]; exact e
  · rw [if_neg (by assumption)]; exact h _ _ e
/-- a new object, frozen -/
theorem Hx.put (S : Hx K F0 H0 D0 F O H) {p : Addr} {o : HO} (h : H p = none) : Hx K F0 H0 D0 (upd F p o) O (upd H p o) := by
  have hF := S.nof h
  refine ⟨S.f0.trans (same_upd hF), same_upd2 S.fh, fun a u e n => ?_, fun a u e => ?_, fun a u e n => ?_, fun q hq => ?_, S.nd⟩
  · have := S.keep a u e n
    rw [upd_ne (ne_of_none this h)]
    exact this
  · obtain ⟨u', e'⟩ := S.live a u e
    exact ⟨u', by rw [upd_ne (ne_of_none e' h)]; exact e'⟩
  · obtain ⟨u', e'⟩ := S.live a u e
    rw [upd_ne (ne_of_none e' h)]
    exact S.new a u e n
  · obtain ⟨h1, h2, h3, h4⟩ := S.own q hq
    obtain ⟨u, h5⟩ := h4.live
    have ne := ne_of_none h5 h
    exact ⟨by rw [upd_ne ne]; exact h1, h2, h3, (h4.at (upd_ne ne)).up (same_upd hF)⟩
/-- a new own object -/
theorem Hx.mineD (S : Hx K F0 H0 D0 F O H) {p : Addr} {u : HO} {ds : OD} (h : H p = none) (hz : OwnAt K F (upd H p u) p ds) : Hx K F0 H0 D0 F (⟨p, true, ds⟩ :: O) (upd H p u) := by
  have hF := S.nof h
  refine ⟨S.f0, S.fh.trans (same_upd h), fun a u e n => ?_, fun a u e => ?_, S.new, fun q hq => ?_, ?_⟩
  · have := S.keep a u e n
    rw [upd_ne (ne_of_none this h)]
    exact this
  · obtain ⟨u', e'⟩ := S.live a u e
    exact ⟨u', by rw [upd_ne (ne_of_none e' h)]; exact e'⟩
  · rcases List.mem_cons.mp hq with rfl | hq
    · exact ⟨hF, fun _ => S.noh0 h, fun z => (Bool.false_ne_true z.symm).elim, hz⟩
    · obtain ⟨h1, h2, h3, h4⟩ := S.own q hq
      obtain ⟨u, h5⟩ := h4.live
      exact ⟨h1, h2, h3, h4.at (upd_ne (ne_of_none h5 h))⟩
  · rw [List.map_cons, List.nodup_cons]
    refine ⟨fun hm => ?_, S.nd⟩
    obtain ⟨q, hq, e⟩ := List.mem_map.mp hm
    obtain ⟨_, _, _, h4⟩ := S.own q hq
    obtain ⟨u, h5⟩ := h4.live
    have e' : q.a = p := e
    rw [e', h] at h5
    cases h5
theorem Hx.mine (S : Hx K F0 H0 D0 F O H) {p : Addr} {vs : List V} {ds : List PyData} (h : H p = none) (hz : vs.length ≤ sizeLine) (r : RpAll K F vs ds) : Hx K F0 H0 D0 F (⟨p, true, ds⟩ :: O) (upd H p (.lst vs)) := S.mineD h ⟨vs, upd_same, hz, r⟩
theorem Hx.getD (S : Hx K F0 H0 D0 F O H) {j : Nat} {q : OE} (h : O[j]? = some q) : F q.a = none ∧ (q.nw = true → H0 q.a = none) ∧ (q.nw = false → q.a ∈ D0) ∧ OwnAt K F H q.a q.ds := S.own q (List.mem_of_getElem? h)
theorem Hx.get (S : Hx K F0 H0 D0 F O H) {j : Nat} {a : Addr} {nw : Bool} {ds : List PyData} (h : O[j]? = some ⟨a, nw, ds⟩) : F a = none ∧ (nw = true → H0 a = none) ∧ (nw = false → a ∈ D0) ∧ ∃ vs, H a = some (.lst vs) ∧ vs.length ≤ sizeLine ∧ RpAll K F vs ds := S.getD h
theorem nodup_at {α : Type} {l : List α} (h : l.Nodup) {i j : Nat} {x : α} (a : l[i]? = some x) (b : l[j]? = some x) : i = j := by
  obtain ⟨h1, e1⟩ := List.getElem?_eq_some_iff.mp a
  obtain ⟨h2, e2⟩ := List.getElem?_eq_some_iff.mp b
  exact (List.getElem_inj h).mp (e1.trans e2.symm)
/-- an own object is changed -/
theorem Hx.mutD (S : Hx K F0 H0 D0 F O H) {j : Nat} {l : Addr} {nw : Bool} {ds ds' : OD} {v : HO} (h : O[j]? = some ⟨l, nw, ds⟩) (hz : OwnAt K F (upd H l v) l ds') :
    Hx K F0 H0 D0 F (O.set j ⟨l, nw, ds'⟩) (upd H l v) := by
  obtain ⟨h1, h2, h3, h4⟩ := S.getD h
  refine ⟨S.f0, fun a u e => ?_, fun a u e n => ?_, fun a u e => ?_, S.new, fun q hq => ?_, ?_⟩
  · rw [upd_ne (ne_of_none e h1)]
    exact S.fh _ _ e
  · have ne : a ≠ l := by
      rintro rfl
      cases nw with
      | true => rw [h2 rfl] at e; cases e
      | false => exact n (h3 rfl)
    rw [upd_ne ne]
    exact S.keep a u e n
  · by_cases ne : a = l
    · subst ne; exact ⟨_, upd_same⟩
    · rw [upd_ne ne]; exact S.live a u e
  · obtain ⟨i, hi⟩ := List.mem_iff_getElem?.mp hq
    by_cases e : j = i
    · subst e
      have hj : j < O.length := (List.getElem?_eq_some_iff.mp h).1
      rw [List.getElem?_set_self hj] at hi
      cases hi
      exact ⟨h1, h2, h3, hz⟩
    · rw [List.getElem?_set_ne e] at hi
      obtain ⟨g1, g2, g3, g4⟩ := S.getD hi
      have ne : q.a ≠ l := by
        intro z
        refine e (nodup_at S.nd (x := l) ?_ ?_)
        · rw [List.getElem?_map, h]; rfl
        · rw [List.getElem?_map, hi]; simp [z]
      exact ⟨g1, g2, g3, g4.at (upd_ne ne)⟩
  · have e : (O.set j ⟨l, nw, ds'⟩).map OE.a = O.map OE.a := by
      rw [List.map_set]
      apply List.ext_getElem?
      intro i
      by_cases e : j = i
      · subst e
        have hj : j < O.length := (List.getElem?_eq_some_iff.mp h).1
        rw [List.getElem?_set_self (by simpa using hj), List.getElem?_map, h]; rfl
      · rw [List.getElem?_set_ne e]
    rw [e]
    exact S.nd
theorem Hx.mut (S : Hx K F0 H0 D0 F O H) {j : Nat} {l : Addr} {nw : Bool} {ds : OD} {ds' : List PyData} {vs : List V} (h : O[j]? = some ⟨l, nw, ds⟩) (hz : vs.length ≤ sizeLine) (r : RpAll K F vs ds') :
    Hx K F0 H0 D0 F (O.set j ⟨l, nw, ds'⟩) (upd H l (.lst vs)) := S.mutD h ⟨vs, upd_same, hz, r⟩
/-- an own object is frozen -/
theorem Hx.frzD (S : Hx K F0 H0 D0 F O H) {j : Nat} {l : Addr} {ds : OD} {v : HO} (h : O[j]? = some ⟨l, true, ds⟩) (h4 : H l = some v) :
    Same F (upd F l v) ∧ Hx K F0 H0 D0 (upd F l v) (O.eraseIdx j) H := by
  obtain ⟨h1, h2, h3, h5⟩ := S.getD h
  refine ⟨same_upd h1, ⟨S.f0.trans (same_upd h1), fun a u e => ?_, S.keep, S.live, fun a u e n => ?_, fun q hq => ?_, ?_⟩⟩
  · unfold upd at e
    split at e
    · rename_i z
      subst z
      cases e
      exact h4
    · exact S.fh _ _ e
  · have ne : a ≠ l := by rintro rfl; rw [h2 rfl] at e; cases e
    rw [upd_ne ne]
    exact S.new a u e n
  · have hq' := List.mem_of_mem_eraseIdx hq
    obtain ⟨g1, g2, g3, g4⟩ := S.own q hq'
    have ne : q.a ≠ l := by
      intro z
      obtain ⟨i, hi⟩ := List.mem_iff_getElem?.mp hq
      rw [List.getElem?_eraseIdx] at hi
      split at hi
      · rename_i hlt
        have := nodup_at S.nd (x := l) (i := j) (j := i) (by rw [List.getElem?_map, h]; rfl) (by rw [List.getElem?_map, hi]; simp [z])
        omega
      · rename_i hlt
        have := nodup_at S.nd (x := l) (i := j) (j := i + 1) (by rw [List.getElem?_map, h]; rfl) (by rw [List.getElem?_map, hi]; simp [z])
        omega
    exact ⟨by rw [upd_ne ne]; exact g1, g2, g3, g4.up (same_upd h1)⟩
  · exact S.nd.sublist ((List.eraseIdx_sublist O j).map OE.a)
theorem Hx.frz (S : Hx K F0 H0 D0 F O H) {j : Nat} {l : Addr} {ds : List PyData} (h : O[j]? = some ⟨l, true, ds⟩) :
    ∃ F', Same F F' ∧ Hx K F0 H0 D0 F' (O.eraseIdx j) H ∧ Rp K F' (.ref l) (.list ds) := by
  obtain ⟨h1, h2, h3, vs, h4, h5, h6⟩ := S.get h
  obtain ⟨q1, q2⟩ := S.frzD h h4
  exact ⟨_, q1, q2, .lst (SqL.of upd_same) h5 (h6.up (same_upd h1))⟩
/-- behind a call that changes nothing that was there -/
theorem Hx.call (S : Hx K F0 H0 D0 F O H) (q : Stp [] F H F' H') : Hx K F0 H0 D0 F' O H' := by
  refine ⟨S.f0.trans q.ff, q.fh, fun a u e n => q.keep _ _ (S.keep a u e n) (by simp), fun a u e => ?_, fun a u e n => ?_, fun p hp => ?_, S.nd⟩
  · obtain ⟨u', e'⟩ := S.live a u e
    exact q.live _ _ e'
  · obtain ⟨u', e'⟩ := S.live a u e
    exact q.new _ _ e' (S.new a u e n)
  · obtain ⟨h1, h2, h3, h4⟩ := S.own p hp
    obtain ⟨u, h5⟩ := h4.live
    exact ⟨q.new _ _ h5 h1, h2, h3, (h4.at ((q.keep _ _ h5 (by simp)).trans h5.symm)).up q.ff⟩
/-- .. that changes one own list -/
theorem Hx.call1D (S : Hx K F0 H0 D0 F O H) {j : Nat} {l : Addr} {nw : Bool} {ds ds' : OD} (h : O[j]? = some ⟨l, nw, ds⟩) (q : Stp [l] F H F' H') (hl : OwnAt K F' H' l ds') :
    Hx K F0 H0 D0 F' (O.set j ⟨l, nw, ds'⟩) H' := by
  obtain ⟨h1, h2, h3, h40⟩ := S.getD h
  obtain ⟨u0, h4⟩ := h40.live
  refine ⟨S.f0.trans q.ff, q.fh, fun a u e n => ?_, fun a u e => ?_, fun a u e n => ?_, fun p hp => ?_, ?_⟩
  · have ne : a ≠ l := by
      rintro rfl
      cases nw with
      | true => rw [h2 rfl] at e; cases e
      | false => exact n (h3 rfl)
    exact q.keep _ _ (S.keep a u e n) (by simpa using ne)
  · obtain ⟨u', e'⟩ := S.live a u e
    exact q.live _ _ e'
  · obtain ⟨u', e'⟩ := S.live a u e
    exact q.new _ _ e' (S.new a u e n)
  · obtain ⟨i, hi⟩ := List.mem_iff_getElem?.mp hp
    by_cases e : j = i
    · subst e
      have hj : j < O.length := (List.getElem?_eq_some_iff.mp h).1
      rw [List.getElem?_set_self hj] at hi
      cases hi
      exact ⟨q.new _ _ h4 h1, h2, h3, hl⟩
    · rw [List.getElem?_set_ne e] at hi
      obtain ⟨g1, g2, g3, g40⟩ := S.getD hi
      obtain ⟨u1, g4⟩ := g40.live
      have ne : p.a ≠ l := by
        intro z
        refine e (nodup_at S.nd (x := l) ?_ ?_)
        · rw [List.getElem?_map, h]; rfl
        · rw [List.getElem?_map, hi]; simp [z]
      exact ⟨q.new _ _ g4 g1, g2, g3, (g40.at ((q.keep _ _ g4 (by simpa using ne)).trans g4.symm)).up q.ff⟩
  · have e : (O.set j ⟨l, nw, ds'⟩).map OE.a = O.map OE.a := by
      rw [List.map_set]
      apply List.ext_getElem?
      intro i
      by_cases e : j = i
      · subst e
        have hj : j < O.length := (List.getElem?_eq_some_iff.mp h).1
        rw [List.getElem?_set_self (by simpa using hj), List.getElem?_map, h]; rfl
      · rw [List.getElem?_set_ne e]
    rw [e]
    exact S.nd
theorem Hx.call1 (S : Hx K F0 H0 D0 F O H) {j : Nat} {l : Addr} {nw : Bool} {ds : OD} {ds' : List PyData} {vs : List V} (h : O[j]? = some ⟨l, nw, ds⟩) (q : Stp [l] F H F' H') (hl : H' l = some (.lst vs)) (hz : vs.length ≤ sizeLine) (r : RpAll K F' vs ds') :
    Hx K F0 H0 D0 F' (O.set j ⟨l, nw, ds'⟩) H' := S.call1D h q ⟨vs, hl, hz, r⟩
end
end TL

namespace TL
open PySem L2

/-! ### encodings -/
class Enc (α : Type) where
  enc : α → PyData
open Enc
@[reducible] instance : Enc Int := ⟨.int⟩
@[reducible] instance : Enc Bool := ⟨.bool⟩
@[reducible] instance : Enc Str := ⟨.str⟩
@[reducible] instance : Enc Unit := ⟨fun _ => .none⟩
@[reducible] instance {α : Type} [Enc α] : Enc (List α) := ⟨fun xs => .list (xs.map enc)⟩
@[reducible] instance {α β : Type} [Enc α] [Enc β] : Enc (α × β) := ⟨fun p => .tuple [enc p.1, enc p.2]⟩
/-- a tuple of any length, its items of one kind -/
structure Tp (α : Type) where
  l : List α
  deriving DecidableEq
@[reducible] instance {α : Type} [Enc α] : Enc (Tp α) := ⟨fun t => .tuple (t.l.map enc)⟩
structure T3 (α β γ : Type) where
  a : α
  b : β
  c : γ
  deriving DecidableEq
structure T4 (α β γ δ : Type) where
  a : α
  b : β
  c : γ
  d : δ
  deriving DecidableEq
@[reducible] instance {α β γ : Type} [Enc α] [Enc β] [Enc γ] : Enc (T3 α β γ) := ⟨fun p => .tuple [enc p.a, enc p.b, enc p.c]⟩
@[reducible] instance {α β γ δ : Type} [Enc α] [Enc β] [Enc γ] [Enc δ] : Enc (T4 α β γ δ) := ⟨fun p => .tuple [enc p.a, enc p.b, enc p.c, enc p.d]⟩
def encO {α : Type} [Enc α] : Option α → PyData
  | none => .none
  | some x => enc x
@[reducible] instance {α : Type} [Enc α] : Enc (Option α) := ⟨encO⟩

/-! ### judgements -/
section
variable (K : Fg)
structure RX (t : TE) (ρ : List Sl) (O : Os) (d : PyData) (O' : Os) : Prop where
  run : ∀ (F0 H0 : Hp) (D0 : List Addr) (σ : L2.St) (F H : Hp) (Q : VK), EnvR K F σ ρ → Hx K F0 H0 D0 F O H →
    (∀ v F' H', Same F F' → Hx K F0 H0 D0 F' O' H' → Rp K F' v d → Q v H') → t σ H Q
/-- a new list, own -/
structure RXo (t : TE) (ρ : List Sl) (O : Os) (ds : List PyData) (O' : Os) : Prop where
  run : ∀ (F0 H0 : Hp) (D0 : List Addr) (σ : L2.St) (F H : Hp) (Q : VK), EnvR K F σ ρ → Hx K F0 H0 D0 F O H →
    (∀ p F' H', Same F F' → Hx K F0 H0 D0 F' (⟨p, true, ds⟩ :: O') H' → Q (.ref p) H') → t σ H Q
/-- a list that is read -/
structure RXs (t : TE) (ρ : List Sl) (O : Os) (ds : List PyData) (O' : Os) : Prop where
  run : ∀ (F0 H0 : Hp) (D0 : List Addr) (σ : L2.St) (F H : Hp) (Q : VK), EnvR K F σ ρ → Hx K F0 H0 D0 F O H →
    (∀ a F' H', Same F F' → Hx K F0 H0 D0 F' O' H' → (∀ F2 H2, Same F' F2 → Hx K F0 H0 D0 F2 O' H2 → ∃ vs, SqL K H2 a vs ∧ vs.length ≤ sizeLine ∧ RpAll K F2 vs ds) → Q (.ref a) H') → t σ H Q
/-- what is read, by the whole heap -/
structure RXh (t : TE) (ρ : List Sl) (O : Os) (d : PyData) (O' : Os) : Prop where
  run : ∀ (F0 H0 : Hp) (D0 : List Addr) (σ : L2.St) (F H : Hp) (Q : VK), EnvR K F σ ρ → Hx K F0 H0 D0 F O H →
    (∀ v F' H', Same F F' → Hx K F0 H0 D0 F' O' H' → (∀ F2 H2, Same F' F2 → Hx K F0 H0 D0 F2 O' H2 → Rp K H2 v d) → Q v H') → t σ H Q
structure RA (t : TA) (ρ : List Sl) (O : Os) (as : List Sl) (O' : Os) : Prop where
  run : ∀ (F0 H0 : Hp) (D0 : List Addr) (σ : L2.St) (F H : Hp) (Q : List V → Hp → Prop), EnvR K F σ ρ → Hx K F0 H0 D0 F O H →
    (∀ vs F' H', Same F F' → Hx K F0 H0 D0 F' O' H' → AsR K F' vs as → Q vs H') → t σ H Q
structure RT (t : TT) (ρ : List Sl) (O : Os) (b : Bool) (O' : Os) : Prop where
  run : ∀ (F0 H0 : Hp) (D0 : List Addr) (σ : L2.St) (F H : Hp) (Q : Bool → Hp → Prop), EnvR K F σ ρ → Hx K F0 H0 D0 F O H →
    (∀ F' H', Same F F' → Hx K F0 H0 D0 F' O' H' → Q b H') → t σ H Q
structure RO (t : TO) (ρ : List Sl) (O : Os) (o : Option Int) (O' : Os) : Prop where
  run : ∀ (F0 H0 : Hp) (D0 : List Addr) (σ : L2.St) (F H : Hp) (Q : Option Int → Hp → Prop), EnvR K F σ ρ → Hx K F0 H0 D0 F O H →
    (∀ F' H', Same F F' → Hx K F0 H0 D0 F' O' H' → Q o H') → t σ H Q
/-- a target; ts its slots -/
structure RG (g : TG) (d : PyData) (ρ ρ' : List Sl) (ts : List Nat) : Prop where
  run : ∀ (σ : L2.St) (F H : Hp) (v : V) (Q : L2.St → Hp → Prop), EnvR K F σ ρ → Rp K F v d → Same F H →
    (∀ σ', EnvR K F σ' ρ' → (∀ vs : List Nat, (∀ t ∈ ts, t ∈ vs) → L2.wipe σ' vs = L2.wipe σ vs) → Q σ' H) → g v σ H Q
structure WalkD (J : It) (ys : List PyData) (F1 : Hp) : Prop where
  sz : ys.length ≤ sizeLine
  go : ∀ (F0 H0 : Hp) (D0 : List Addr) (F : Hp) (O : Os) (H : Hp) (i : Nat), i < ys.length → Same F1 F → Hx K F0 H0 D0 F O H → J.go i H
  stop : ∀ (F0 H0 : Hp) (D0 : List Addr) (F : Hp) (O : Os) (H : Hp), Same F1 F → Hx K F0 H0 D0 F O H → J.stop ys.length H
  yld : ∀ (F0 H0 : Hp) (D0 : List Addr) (F : Hp) (O : Os) (H : Hp) (i : Nat) (x : V) (H' : Hp), i < ys.length → Same F1 F → Hx K F0 H0 D0 F O H → J.yld i H x H' →
    ∃ F' y, Same F F' ∧ Hx K F0 H0 D0 F' O H' ∧ ys[i]? = some y ∧ Rp K F' x y
structure RI (wi : TI) (ρ : List Sl) (O : Os) (ys : List PyData) (O' : Os) : Prop where
  run : ∀ (F0 H0 : Hp) (D0 : List Addr) (σ : L2.St) (F H : Hp) (R : It → Hp → Prop), EnvR K F σ ρ → Hx K F0 H0 D0 F O H →
    (∀ J F' H', Same F F' → Hx K F0 H0 D0 F' O' H' → WalkD K J ys F' → R J H') → wi σ H R
/-- an own object's address -/
structure RAd (t : TE) (ρ : List Sl) (O : Os) (a : Addr) : Prop where
  run : ∀ (F0 H0 : Hp) (D0 : List Addr) (σ : L2.St) (F H : Hp) (Q : VK), EnvR K F σ ρ → Hx K F0 H0 D0 F O H → Q (.ref a) H → t σ H Q
end
section
variable {K : Fg} {t : TE} {ρ : List Sl} {O O' : Os} {d : PyData} {ds : List PyData} {F0 H0 : Hp} {D0 : List Addr} {σ : L2.St} {F H : Hp}
theorem rad_var {i : Nat} {a : Addr} (h : ρ[i]? = some (.adr a)) : RAd K (tVar i) ρ O a := ⟨fun _ _ _ _ _ _ Q E S k => ⟨_, E.adr h, k⟩⟩
/-- the evaluation is used -/
theorem RX.go (h : RX K t ρ O d O') {Q : VK} (E : EnvR K F σ ρ) (S : Hx K F0 H0 D0 F O H)
    (k : ∀ v F' H', Same F F' → EnvR K F' σ ρ → Hx K F0 H0 D0 F' O' H' → Rp K F' v d → Q v H') : t σ H Q := h.run _ _ _ _ _ _ Q E S fun v F' H' f S' r => k v F' H' f (E.up f) S' r
theorem RXo.go (h : RXo K t ρ O ds O') {Q : VK} (E : EnvR K F σ ρ) (S : Hx K F0 H0 D0 F O H)
    (k : ∀ p F' H', Same F F' → EnvR K F' σ ρ → Hx K F0 H0 D0 F' (⟨p, true, ds⟩ :: O') H' → Q (.ref p) H') : t σ H Q := h.run _ _ _ _ _ _ Q E S fun v F' H' f S' => k v F' H' f (E.up f) S'
theorem RXs.go (h : RXs K t ρ O ds O') {Q : VK} (E : EnvR K F σ ρ) (S : Hx K F0 H0 D0 F O H)
    (k : ∀ a F' H', Same F F' → EnvR K F' σ ρ → Hx K F0 H0 D0 F' O' H' → (∀ F2 H2, Same F' F2 → Hx K F0 H0 D0 F2 O' H2 → ∃ vs, SqL K H2 a vs ∧ vs.length ≤ sizeLine ∧ RpAll K F2 vs ds) → Q (.ref a) H') : t σ H Q :=
  h.run _ _ _ _ _ _ Q E S fun a F' H' f S' q => k a F' H' f (E.up f) S' q
theorem RXh.go (h : RXh K t ρ O d O') {Q : VK} (E : EnvR K F σ ρ) (S : Hx K F0 H0 D0 F O H)
    (k : ∀ v F' H', Same F F' → EnvR K F' σ ρ → Hx K F0 H0 D0 F' O' H' → (∀ F2 H2, Same F' F2 → Hx K F0 H0 D0 F2 O' H2 → Rp K H2 v d) → Q v H') : t σ H Q :=
  h.run _ _ _ _ _ _ Q E S fun v F' H' f S' q => k v F' H' f (E.up f) S' q
theorem RT.go {t : TT} {b : Bool} (h : RT K t ρ O b O') {Q : Bool → Hp → Prop} (E : EnvR K F σ ρ) (S : Hx K F0 H0 D0 F O H)
    (k : ∀ F' H', Same F F' → EnvR K F' σ ρ → Hx K F0 H0 D0 F' O' H' → Q b H') : t σ H Q := h.run _ _ _ _ _ _ Q E S fun F' H' f S' => k F' H' f (E.up f) S'
theorem RA.go {t : TA} {as : List Sl} (h : RA K t ρ O as O') {Q : List V → Hp → Prop} (E : EnvR K F σ ρ) (S : Hx K F0 H0 D0 F O H)
    (k : ∀ vs F' H', Same F F' → EnvR K F' σ ρ → Hx K F0 H0 D0 F' O' H' → AsR K F' vs as → Q vs H') : t σ H Q := h.run _ _ _ _ _ _ Q E S fun v F' H' f S' r => k v F' H' f (E.up f) S' r
theorem RO.go {t : TO} {o : Option Int} (h : RO K t ρ O o O') {Q : Option Int → Hp → Prop} (E : EnvR K F σ ρ) (S : Hx K F0 H0 D0 F O H)
    (k : ∀ F' H', Same F F' → EnvR K F' σ ρ → Hx K F0 H0 D0 F' O' H' → Q o H') : t σ H Q := h.run _ _ _ _ _ _ Q E S fun F' H' f S' => k F' H' f (E.up f) S'
theorem RI.go {t : TI} {ys : List PyData} (h : RI K t ρ O ys O') {Q : It → Hp → Prop} (E : EnvR K F σ ρ) (S : Hx K F0 H0 D0 F O H)
    (k : ∀ J F' H', Same F F' → EnvR K F' σ ρ → Hx K F0 H0 D0 F' O' H' → WalkD K J ys F' → Q J H') : t σ H Q := h.run _ _ _ _ _ _ Q E S fun J F' H' f S' r => k J F' H' f (E.up f) S' r
theorem RXo.frz (h : RXo K t ρ O ds O') : RX K t ρ O (.list ds) O' := ⟨fun _ _ _ _ _ _ Q E S k => h.go E S fun p F' H' f _ S' => by
  obtain ⟨F2, f2, S2, r⟩ := S'.frz (j := 0) (l := p) (ds := ds) rfl
  exact k _ F2 H' (f.trans f2) S2 r⟩
theorem RX.s (h : RX K t ρ O (.list ds) O') : RXs K t ρ O ds O' := ⟨fun _ _ _ _ _ _ Q E S k => h.go E S fun v F' H' f _ S' r => by
  cases r with
  | lst h1 h2 h3 => exact k _ F' H' f S' fun F2 H2 f2 S2 => ⟨_, (f2.trans S2.fh).seq h1, h2, h3.up f2⟩⟩
theorem RXo.s (h : RXo K t ρ O ds O') : RXs K t ρ O ds O' := RX.s (RXo.frz h)
theorem RX.h (h : RX K t ρ O d O') : RXh K t ρ O d O' := ⟨fun _ _ _ _ _ _ Q E S k => h.go E S fun v F' H' f _ S' r => k v F' H' f S' fun F2 H2 f2 S2 => r.up (f2.trans S2.fh)⟩
theorem RXs.h (h : RXs K t ρ O ds O') : RXh K t ρ O (.list ds) O' := ⟨fun _ _ _ _ _ _ Q E S k => h.go E S fun a F' H' f _ S' h1 => k _ F' H' f S' fun F2 H2 f2 S2 => by
  obtain ⟨vs, q1, q2, q3⟩ := h1 F2 H2 f2 S2
  exact .lst q1 q2 (q3.up S2.fh)⟩

/-! ### names, constants -/
theorem rx_var {i : Nat} (h : ρ[i]? = some (.val d)) : RX K (tVar i) ρ O d O := ⟨fun _ _ _ _ _ _ Q E S k => by
  obtain ⟨v, h1, h2⟩ := E.val h
  exact ⟨v, h1, k v _ _ (Same.refl _) S h2⟩⟩
theorem rxs_own {i j : Nat} {a : Addr} {nw : Bool} (h : ρ[i]? = some (.adr a)) (ho : O[j]? = some ⟨a, nw, ds⟩) : RXs K (tVar i) ρ O ds O := ⟨fun _ _ _ _ _ _ Q E S k => by
  refine ⟨_, E.adr h, k a _ _ (Same.refl _) S fun F2 H2 f2 S2 => ?_⟩
  obtain ⟨_, _, _, vs', h4', h5', h6'⟩ := S2.get ho
  exact ⟨vs', SqL.of h4', h5', h6'⟩⟩
theorem rx_int {i : Int} : RX K (tC (.int i)) ρ O (.int i) O := ⟨fun _ _ _ _ _ _ Q E S k => k _ _ _ (Same.refl _) S (.int i)⟩
theorem rx_bl {b : Bool} : RX K (tC (.bl b)) ρ O (.bool b) O := ⟨fun _ _ _ _ _ _ Q E S k => k _ _ _ (Same.refl _) S (.bl b)⟩
theorem rx_str {x : Str} : RX K (tC (.str x)) ρ O (.str x) O := ⟨fun _ _ _ _ _ _ Q E S k => k _ _ _ (Same.refl _) S (.str x)⟩
theorem rx_non : RX K (tC .non) ρ O .none O := ⟨fun _ _ _ _ _ _ Q E S k => k _ _ _ (Same.refl _) S .non⟩
end
end TL

namespace TL
open PySem L2
open Enc

/-! ### operators -/
section
variable {K : Fg} {ta tb tc : TE} {ρ : List Sl} {O O1 O2 O3 : Os}
/-- two-place rules by values -/
theorem rx_op {r : R2} {d e f : PyData} (ha : RX K ta ρ O d O1) (hb : RX K tb ρ O1 e O2)
    (hr : ∀ (F H : Hp) (x y : V) (Q : VK), Same F H → Rp K F x d → Rp K F y e → (∀ v, Rp K F v f → Q v H) → r x y H Q) : RX K (tOp r ta tb) ρ O f O2 := ⟨fun _ _ _ _ _ _ Q E S k =>
  ha.go E S fun x F1 H1 f1 E1 S1 r1 => hb.go E1 S1 fun y F2 H2 f2 E2 S2 r2 => hr F2 H2 x y Q S2.fh (r1.up f2) r2 fun v r3 => k v F2 H2 (f1.trans f2) S2 r3⟩
theorem rx_ii {g : Int → Int → V} {i j : Int} {f : PyData} (hg : ∀ F, Rp K F (g i j) f) (ha : RX K ta ρ O (.int i) O1) (hb : RX K tb ρ O1 (.int j) O2) : RX K (tOp (rI0 g) ta tb) ρ O f O2 :=
  rx_op ha hb fun F H x y Q _ rx ry k => by
    cases rx
    cases ry
    exact ⟨i, j, rfl, rfl, k _ (hg F)⟩
theorem rx_iiC {C : Int → Int → Prop} {g : Int → Int → V} {i j : Int} {f : PyData} (hg : ∀ F, Rp K F (g i j) f) (hc : C i j) (ha : RX K ta ρ O (.int i) O1) (hb : RX K tb ρ O1 (.int j) O2) : RX K (tOp (rI C g) ta tb) ρ O f O2 :=
  rx_op ha hb fun F H x y Q _ rx ry k => by
    cases rx
    cases ry
    exact ⟨i, j, rfl, rfl, hc, k _ (hg F)⟩
variable {i j : Int}
theorem rx_add (ha : RX K ta ρ O (.int i) O1) (hb : RX K tb ρ O1 (.int j) O2) : RX K (tOp (rI0 fun i j => .int (i + j)) ta tb) ρ O (.int (i + j)) O2 := rx_ii (fun _ => .int _) ha hb
theorem rx_sub (ha : RX K ta ρ O (.int i) O1) (hb : RX K tb ρ O1 (.int j) O2) : RX K (tOp (rI0 fun i j => .int (i - j)) ta tb) ρ O (.int (i - j)) O2 := rx_ii (fun _ => .int _) ha hb
theorem rx_band (ha : RX K ta ρ O (.int i) O1) (hb : RX K tb ρ O1 (.int j) O2) : RX K (tOp (rI0 fun i j => .int (Builtin.bitAnd i j)) ta tb) ρ O (.int (Builtin.bitAnd i j)) O2 := rx_ii (fun _ => .int _) ha hb
theorem rx_bor (ha : RX K ta ρ O (.int i) O1) (hb : RX K tb ρ O1 (.int j) O2) : RX K (tOp (rI0 fun i j => .int (Builtin.bitOr i j)) ta tb) ρ O (.int (Builtin.bitOr i j)) O2 := rx_ii (fun _ => .int _) ha hb
theorem rx_bxor (ha : RX K ta ρ O (.int i) O1) (hb : RX K tb ρ O1 (.int j) O2) : RX K (tOp (rI0 fun i j => .int (Builtin.bitXor i j)) ta tb) ρ O (.int (Builtin.bitXor i j)) O2 := rx_ii (fun _ => .int _) ha hb
theorem rx_mul (ha : RX K ta ρ O (.int i) O1) (hb : RX K tb ρ O1 (.int j) O2) (hc : CMul i j) : RX K (tOp (rI CMul fun i j => .int (i * j)) ta tb) ρ O (.int (i * j)) O2 := rx_iiC (fun _ => .int _) hc ha hb
theorem rx_mod (ha : RX K ta ρ O (.int i) O1) (hb : RX K tb ρ O1 (.int j) O2) (hc : 0 < j) : RX K (tOp (rI (fun _ j => 0 < j) fun i j => .int (i % j)) ta tb) ρ O (.int (i % j)) O2 := rx_iiC (C := fun _ j => 0 < j) (fun _ => .int _) hc ha hb
theorem rx_fdiv (ha : RX K ta ρ O (.int i) O1) (hb : RX K tb ρ O1 (.int j) O2) (hc : CDiv i j) : RX K (tOp (rI CDiv fun i j => .int (i / j)) ta tb) ρ O (.int (i / j)) O2 := rx_iiC (fun _ => .int _) hc ha hb
theorem rx_pow (ha : RX K ta ρ O (.int i) O1) (hb : RX K tb ρ O1 (.int j) O2) (hc : CPow i j) : RX K (tOp (rI CPow fun i j => .int (i ^ j.toNat)) ta tb) ρ O (.int (i ^ j.toNat)) O2 := rx_iiC (fun _ => .int _) hc ha hb
theorem rx_shl (ha : RX K ta ρ O (.int i) O1) (hb : RX K tb ρ O1 (.int j) O2) (hc : CPow i j) : RX K (tOp (rI CPow fun i j => .int (i * 2 ^ j.toNat)) ta tb) ρ O (.int (i * 2 ^ j.toNat)) O2 := rx_iiC (fun _ => .int _) hc ha hb
theorem rx_shr (ha : RX K ta ρ O (.int i) O1) (hb : RX K tb ρ O1 (.int j) O2) (hc : 0 ≤ j) : RX K (tOp (rI (fun _ j => 0 ≤ j) fun i j => .int (i / 2 ^ j.toNat)) ta tb) ρ O (.int (i / 2 ^ j.toNat)) O2 := rx_iiC (C := fun _ j => 0 ≤ j) (fun _ => .int _) hc ha hb
theorem rx_lt (ha : RX K ta ρ O (.int i) O1) (hb : RX K tb ρ O1 (.int j) O2) : RX K (tOp (rI0 fun i j => .bl (decide (i < j))) ta tb) ρ O (.bool (decide (i < j))) O2 := rx_ii (fun _ => .bl _) ha hb
theorem rx_le (ha : RX K ta ρ O (.int i) O1) (hb : RX K tb ρ O1 (.int j) O2) : RX K (tOp (rI0 fun i j => .bl (decide (i ≤ j))) ta tb) ρ O (.bool (decide (i ≤ j))) O2 := rx_ii (fun _ => .bl _) ha hb
theorem rx_gt (ha : RX K ta ρ O (.int i) O1) (hb : RX K tb ρ O1 (.int j) O2) : RX K (tOp (rI0 fun i j => .bl (decide (j < i))) ta tb) ρ O (.bool (decide (j < i))) O2 := rx_ii (fun _ => .bl _) ha hb
theorem rx_ge (ha : RX K ta ρ O (.int i) O1) (hb : RX K tb ρ O1 (.int j) O2) : RX K (tOp (rI0 fun i j => .bl (decide (j ≤ i))) ta tb) ρ O (.bool (decide (j ≤ i))) O2 := rx_ii (fun _ => .bl _) ha hb
theorem rx_neg {g : Int → V} {f : PyData} (ha : RX K ta ρ O (.int i) O1) (hg : ∀ F, Rp K F (g i) f) : RX K (tUn (rU g) ta) ρ O f O1 := ⟨fun _ _ _ _ _ _ Q E S k =>
  ha.go E S fun x F1 H1 f1 E1 S1 r1 => by
    cases r1
    exact ⟨i, rfl, k _ _ _ f1 S1 (hg _)⟩⟩
theorem rx_usub (ha : RX K ta ρ O (.int i) O1) : RX K (tUn (rU fun i => .int (-i)) ta) ρ O (.int (-i)) O1 := rx_neg ha fun _ => .int _
theorem rx_inv (ha : RX K ta ρ O (.int i) O1) : RX K (tUn (rU fun i => .int (Builtin.bitNot i)) ta) ρ O (.int (Builtin.bitNot i)) O1 := rx_neg ha fun _ => .int _

/-! ### == -/
/-- kinds whose data == tells apart as Lean's = does; ok: the texts within are texts -/
class EqD (α : Type) [Enc α] [DecidableEq α] where
  ok : α → Bool
  eqv : ∀ x y : α, PyData.eqv (enc x) (enc y) = decide (x = y)
  dp : Nat
  dep : ∀ x : α, (enc x).depth ≤ dp
  lay : ∀ x : α, ok x = true → (enc x).canLay0 = true
theorem eqvAll_map {α : Type} [Enc α] [DecidableEq α] [EqD α] : ∀ xs ys : List α, PyData.eqvAll (xs.map enc) (ys.map enc) = decide (xs = ys)
  | [], [] => by simp [PyData.eqvAll]
  | [], y :: ys => by simp [PyData.eqvAll]
  | x :: xs, [] => by simp [PyData.eqvAll]
  | x :: xs, y :: ys => by
    rw [List.map_cons, List.map_cons, PyData.eqvAll, EqD.eqv, eqvAll_map xs ys]
    rw [Bool.eq_iff_iff]
    simp
end

theorem canLayAll_map {α : Type} [Enc α] [DecidableEq α] [EqD α] : ∀ xs : List α, xs.all EqD.ok = true → PyData.canLayAll0 (xs.map enc) = true
  | [], _ => rfl
  | x :: xs, h => by
    rw [List.all_cons, Bool.and_eq_true] at h
    rw [List.map_cons, PyData.canLayAll0, EqD.lay x h.1, canLayAll_map xs h.2]
    rfl
theorem depthAll_map {α : Type} [Enc α] [DecidableEq α] [EqD α] : ∀ xs : List α, PyData.depthAll (xs.map enc) ≤ EqD.dp α
  | [] => Nat.zero_le _
  | x :: xs => by
    rw [List.map_cons, PyData.depthAll]
    have h1 := EqD.dep x
    have h2 := depthAll_map xs
    omega
instance : EqD Int := ⟨fun _ => true, fun x y => by simp [enc, PyData.eqv, Bool.beq_eq_decide_eq], 0, fun _ => Nat.le_refl _, fun _ _ => rfl⟩
instance : EqD Bool := ⟨fun _ => true, fun x y => by simp [enc, PyData.eqv, Bool.beq_eq_decide_eq], 0, fun _ => Nat.le_refl _, fun _ _ => rfl⟩
instance : EqD Str := ⟨PyData.strOk, fun x y => by simp [enc, PyData.eqv, Bool.beq_eq_decide_eq], 0, fun _ => Nat.le_refl _, fun x h => by simpa [enc, PyData.canLay0] using h⟩
instance {α : Type} [Enc α] [DecidableEq α] [EqD α] : EqD (List α) := ⟨fun xs => xs.all EqD.ok, fun x y => by simp only [enc, PyData.eqv, eqvAll_map], EqD.dp α + 1, fun x => by
  have := depthAll_map x
  simp only [enc, PyData.depth]; omega, fun x h => by
  simp only [enc, PyData.canLay0]
  exact canLayAll_map x h⟩
instance {α : Type} [Enc α] [DecidableEq α] [EqD α] : EqD (Tp α) := ⟨fun xs => xs.l.all EqD.ok, fun x y => by
  simp only [enc, PyData.eqv, eqvAll_map]
  cases x; cases y; simp, EqD.dp α + 1, fun x => by
  have := depthAll_map x.l
  simp only [enc, PyData.depth]; omega, fun x h => by
  simp only [enc, PyData.canLay0]
  exact canLayAll_map x.l h⟩
instance {α β : Type} [Enc α] [DecidableEq α] [EqD α] [Enc β] [DecidableEq β] [EqD β] : EqD (α × β) := ⟨fun p => EqD.ok p.1 && EqD.ok p.2, fun x y => by
  simp only [enc, PyData.eqv, PyData.eqvAll, EqD.eqv, Bool.and_true]
  cases x; cases y; rw [Bool.eq_iff_iff]; simp, max (EqD.dp α) (EqD.dp β) + 1, fun x => by
  have h1 := EqD.dep x.1
  have h2 := EqD.dep x.2
  simp only [enc, PyData.depth, PyData.depthAll] at *; omega, fun x h => by
  rw [Bool.and_eq_true] at h
  simp only [enc, PyData.canLay0, PyData.canLayAll0, Bool.and_true, Bool.and_eq_true]
  exact ⟨EqD.lay _ h.1, EqD.lay _ h.2⟩⟩
instance {α β γ : Type} [Enc α] [DecidableEq α] [EqD α] [Enc β] [DecidableEq β] [EqD β] [Enc γ] [DecidableEq γ] [EqD γ] : EqD (T3 α β γ) := ⟨fun p => EqD.ok p.a && (EqD.ok p.b && EqD.ok p.c), fun x y => by
  simp only [enc, PyData.eqv, PyData.eqvAll, EqD.eqv, Bool.and_true]
  cases x; cases y; rw [Bool.eq_iff_iff]; simp, max (EqD.dp α) (max (EqD.dp β) (EqD.dp γ)) + 1, fun x => by
  have h1 := EqD.dep x.a
  have h2 := EqD.dep x.b
  have h3 := EqD.dep x.c
  simp only [enc, PyData.depth, PyData.depthAll] at *; omega, fun x h => by
  rw [Bool.and_eq_true, Bool.and_eq_true] at h
  simp only [enc, PyData.canLay0, PyData.canLayAll0, Bool.and_true, Bool.and_eq_true]
  exact ⟨EqD.lay _ h.1, EqD.lay _ h.2.1, EqD.lay _ h.2.2⟩⟩
instance {α β γ δ : Type} [Enc α] [DecidableEq α] [EqD α] [Enc β] [DecidableEq β] [EqD β] [Enc γ] [DecidableEq γ] [EqD γ] [Enc δ] [DecidableEq δ] [EqD δ] : EqD (T4 α β γ δ) := ⟨fun p => EqD.ok p.a && (EqD.ok p.b && (EqD.ok p.c && EqD.ok p.d)), fun x y => by
  simp only [enc, PyData.eqv, PyData.eqvAll, EqD.eqv, Bool.and_true]
  cases x; cases y; rw [Bool.eq_iff_iff]; simp, max (EqD.dp α) (max (EqD.dp β) (max (EqD.dp γ) (EqD.dp δ))) + 1, fun x => by
  have h1 := EqD.dep x.a
  have h2 := EqD.dep x.b
  have h3 := EqD.dep x.c
  have h4 := EqD.dep x.d
  simp only [enc, PyData.depth, PyData.depthAll] at *; omega, fun x h => by
  rw [Bool.and_eq_true, Bool.and_eq_true, Bool.and_eq_true] at h
  simp only [enc, PyData.canLay0, PyData.canLayAll0, Bool.and_true, Bool.and_eq_true]
  exact ⟨EqD.lay _ h.1, EqD.lay _ h.2.1, EqD.lay _ h.2.2.1, EqD.lay _ h.2.2.2⟩⟩
instance : EqD (Option Int) := ⟨fun _ => true, fun x y => by cases x <;> cases y <;> simp [enc, encO, PyData.eqv, Bool.beq_eq_decide_eq], 0, fun x => by cases x <;> exact Nat.le_refl _, fun x _ => by cases x <;> rfl⟩

section
variable {K : Fg} {ta tb tc : TE} {ρ : List Sl} {O O1 O2 O3 : Os}
/-- two-place rules that read the whole heap -/
theorem rx_opH {r : R2} {d e f : PyData} (ha : RXh K ta ρ O d O1) (hb : RXh K tb ρ O1 e O1)
    (hr : ∀ (H : Hp) (x y : V) (Q : VK), Rp K H x d → Rp K H y e → (∀ v, (∀ F, Rp K F v f) → Q v H) → r x y H Q) : RX K (tOp r ta tb) ρ O f O1 := ⟨fun _ _ _ _ _ _ Q E S k =>
  ha.go E S fun x F1 H1 f1 E1 S1 r1 => hb.go E1 S1 fun y F2 H2 f2 E2 S2 r2 => hr H2 x y Q (r1 F2 H2 f2 S2) (r2 F2 H2 (Same.refl _) S2) fun v r3 => k v F2 H2 (f1.trans f2) S2 (r3 F2)⟩
theorem rx_eqD {α : Type} [Enc α] [DecidableEq α] [EqD α] {x y : α} (ha : RXh K ta ρ O (enc x) O1) (hb : RXh K tb ρ O1 (enc y) O1) (hd : EqD.dp α ≤ 64) (hx : EqD.ok x = true) (hy : EqD.ok y = true) :
    RX K (tOp (rEqD K) ta tb) ρ O (.bool (decide (x = y))) O1 := rx_opH ha hb fun H u v Q ru rv k => by
  have s : ∀ z : α, EqD.ok z = true → SeqAt.shaped (enc z) = true := fun z h => by
    unfold SeqAt.shaped
    rw [EqD.lay z h, Bool.true_and]
    exact decide_eq_true (Nat.le_trans (EqD.dep z) hd)
  refine ⟨enc x, enc y, ru.dp _ _, rv.dp _ _, s x hx, s y hy, ?_⟩
  rw [EqD.eqv]
  exact k _ fun _ => .bl _
theorem rx_neD {α : Type} [Enc α] [DecidableEq α] [EqD α] {x y : α} (ha : RXh K ta ρ O (enc x) O1) (hb : RXh K tb ρ O1 (enc y) O1) (hd : EqD.dp α ≤ 64) (hx : EqD.ok x = true) (hy : EqD.ok y = true) :
    RX K (tOp (rNeD K) ta tb) ρ O (.bool (!decide (x = y))) O1 := rx_opH ha hb fun H u v Q ru rv k => by
  have s : ∀ z : α, EqD.ok z = true → SeqAt.shaped (enc z) = true := fun z h => by
    unfold SeqAt.shaped
    rw [EqD.lay z h, Bool.true_and]
    exact decide_eq_true (Nat.le_trans (EqD.dep z) hd)
  refine ⟨enc x, enc y, ru.dp _ _, rv.dp _ _, s x hx, s y hy, ?_⟩
  rw [EqD.eqv]
  exact k _ fun _ => .bl _
/-- == of texts -/
theorem rx_eqs {i j : Str} (ha : RX K ta ρ O (.str i) O1) (hb : RX K tb ρ O1 (.str j) O2) : RX K (tOp rEq ta tb) ρ O (.bool (decide (i = j))) O2 := rx_op ha hb fun F H x y Q _ rx ry k => by
  cases rx
  cases ry
  refine ⟨rfl, ?_⟩
  rw [show decide (V.str i = V.str j) = decide (i = j) from by simp]
  exact k _ (.bl _)
theorem rx_nes {i j : Str} (ha : RX K ta ρ O (.str i) O1) (hb : RX K tb ρ O1 (.str j) O2) : RX K (tOp rNe ta tb) ρ O (.bool (!decide (i = j))) O2 := rx_op ha hb fun F H x y Q _ rx ry k => by
  cases rx
  cases ry
  refine ⟨rfl, ?_⟩
  rw [show decide (V.str i = V.str j) = decide (i = j) from by simp]
  exact k _ (.bl _)
theorem rx_eqi {i j : Int} (ha : RX K ta ρ O (.int i) O1) (hb : RX K tb ρ O1 (.int j) O2) : RX K (tOp rEq ta tb) ρ O (.bool (decide (i = j))) O2 := rx_op ha hb fun F H x y Q _ rx ry k => by
  cases rx
  cases ry
  refine ⟨rfl, ?_⟩
  rw [show decide (V.int i = V.int j) = decide (i = j) from by simp]
  exact k _ (.bl _)
theorem rx_nei {i j : Int} (ha : RX K ta ρ O (.int i) O1) (hb : RX K tb ρ O1 (.int j) O2) : RX K (tOp rNe ta tb) ρ O (.bool (!decide (i = j))) O2 := rx_op ha hb fun F H x y Q _ rx ry k => by
  cases rx
  cases ry
  refine ⟨rfl, ?_⟩
  rw [show decide (V.int i = V.int j) = decide (i = j) from by simp]
  exact k _ (.bl _)
theorem rx_eqb {i j : Bool} (ha : RX K ta ρ O (.bool i) O1) (hb : RX K tb ρ O1 (.bool j) O2) : RX K (tOp rEq ta tb) ρ O (.bool (decide (i = j))) O2 := rx_op ha hb fun F H x y Q _ rx ry k => by
  cases rx
  cases ry
  refine ⟨rfl, ?_⟩
  rw [show decide (V.bl i = V.bl j) = decide (i = j) from by simp]
  exact k _ (.bl _)
theorem rx_neb {i j : Bool} (ha : RX K ta ρ O (.bool i) O1) (hb : RX K tb ρ O1 (.bool j) O2) : RX K (tOp rNe ta tb) ρ O (.bool (!decide (i = j))) O2 := rx_op ha hb fun F H x y Q _ rx ry k => by
  cases rx
  cases ry
  refine ⟨rfl, ?_⟩
  rw [show decide (V.bl i = V.bl j) = decide (i = j) from by simp]
  exact k _ (.bl _)
/-- is None of what may be None -/
theorem rx_isN {α : Type} [Enc α] {o : Option α} (hn : ∀ x : α, enc x ≠ .none) (ha : RX K ta ρ O (enc o) O1) : RX K (tIsN ta) ρ O (.bool o.isNone) O1 := ⟨fun _ _ _ _ _ _ Q E S k => ha.go E S fun x F1 H1 f1 E1 S1 r1 => by
  have e : decide (x = V.non) = o.isNone := by
    cases o with
    | none => cases r1; rfl
    | some z =>
      have r1 : Rp K F1 x (enc z) := r1
      refine decide_eq_false fun q => ?_
      subst q
      generalize h : enc z = d at r1
      cases r1
      exact hn z h
  rw [e]
  exact k _ _ _ f1 S1 (.bl _)⟩
theorem rx_notN {α : Type} [Enc α] {o : Option α} (hn : ∀ x : α, enc x ≠ .none) (ha : RX K ta ρ O (enc o) O1) : RX K (tNotN ta) ρ O (.bool o.isSome) O1 := ⟨fun _ _ _ _ _ _ Q E S k => ha.go E S fun x F1 H1 f1 E1 S1 r1 => by
  have e : (!decide (x = V.non)) = o.isSome := by
    cases o with
    | none => cases r1; rfl
    | some z =>
      have r1 : Rp K F1 x (enc z) := r1
      have : decide (x = V.non) = false := decide_eq_false fun q => by
        subst q
        generalize h : enc z = d at r1
        cases r1
        exact hn z h
      rw [this]; rfl
  rw [e]
  exact k _ _ _ f1 S1 (.bl _)⟩
end
end TL

namespace TL
open PySem L2
open Enc
/-! ### displays, arguments -/
section
variable {K : Fg} {ta tb tc : TE} {ρ : List Sl} {O O1 O2 O3 : Os} {t : TA}
theorem ra_nil : RA K tNil ρ O [] O := ⟨fun _ _ _ _ _ _ Q E S k => k _ _ _ (Same.refl _) S .nil⟩
theorem ra_cons {d : PyData} {as : List Sl} (ha : RX K ta ρ O d O1) (hr : RA K t ρ O1 as O2) : RA K (tCons ta t) ρ O (.val d :: as) O2 := ⟨fun _ _ _ _ _ _ Q E S k =>
  ha.go E S fun x F1 H1 f1 E1 S1 r1 => hr.go E1 S1 fun xs F2 H2 f2 E2 S2 r2 => k _ F2 H2 (f1.trans f2) S2 (.val (r1.up f2) r2)⟩
theorem ra_own {i : Nat} {a : Addr} {as : List Sl} (h : ρ[i]? = some (.adr a)) (hr : RA K t ρ O as O2) : RA K (tCons (tVar i) t) ρ O (.adr a :: as) O2 := ⟨fun _ _ _ _ _ _ Q E S k =>
  ⟨_, E.adr h, hr.go E S fun xs F2 H2 f2 E2 S2 r2 => k _ F2 H2 f2 S2 (.adr r2)⟩⟩
theorem rx_tup {ds : List PyData} (h : RA K t ρ O (ds.map .val) O1) (hz : ds.length ≤ 1000 := by exact Nat.le_of_ble_eq_true rfl) : RX K (tTup t) ρ O (.tuple ds) O1 := ⟨fun _ _ _ _ _ _ Q E S k => h.go E S fun vs F1 H1 f1 E1 S1 r1 => by
  have r := r1.all
  have hl := r.length
  have hz' : vs.length ≤ sizeLine := Nat.le_trans (by omega : vs.length ≤ 1000) (by decide)
  refine ⟨hz', fun p hp => ?_⟩
  have f2 := same_upd (o := .tup vs) (S1.nof hp)
  exact k _ _ _ (f1.trans f2) (S1.put hp) (.tup (SqT.of upd_same) hz' (r.up f2))⟩
theorem rxo_lst {ds : List PyData} (h : RA K t ρ O (ds.map .val) O1) (hz : ds.length ≤ 1000 := by exact Nat.le_of_ble_eq_true rfl) : RXo K (tLst t) ρ O ds O1 := ⟨fun _ _ _ _ _ _ Q E S k => h.go E S fun vs F1 H1 f1 E1 S1 r1 => by
  have r := r1.all
  have hl := r.length
  have hz' : vs.length ≤ sizeLine := Nat.le_trans (by omega : vs.length ≤ 1000) (by decide)
  exact ⟨hz', fun p hp => k _ _ _ f1 (S1.mine hp hz' r)⟩⟩

/-! ### calls of built-ins, by values -/
theorem rx_cb1 {r : List V → Hp → VK → Prop} {d f : PyData} (ha : RX K ta ρ O d O1) (hr : ∀ (F H : Hp) (x : V) (Q : VK), Same F H → Rp K F x d → (∀ v, Rp K F v f → Q v H) → r [x] H Q) : RX K (tCB r (tCons ta tNil)) ρ O f O1 := ⟨fun _ _ _ _ _ _ Q E S k =>
  ha.go E S fun x F1 H1 f1 E1 S1 r1 => hr F1 H1 x Q S1.fh r1 fun v r3 => k v F1 H1 f1 S1 r3⟩
theorem rx_cb2 {r : List V → Hp → VK → Prop} {d e f : PyData} (ha : RX K ta ρ O d O1) (hb : RX K tb ρ O1 e O2) (hr : ∀ (F H : Hp) (x y : V) (Q : VK), Same F H → Rp K F x d → Rp K F y e → (∀ v, Rp K F v f → Q v H) → r [x, y] H Q) :
    RX K (tCB r (tCons ta (tCons tb tNil))) ρ O f O2 := ⟨fun _ _ _ _ _ _ Q E S k =>
  ha.go E S fun x F1 H1 f1 E1 S1 r1 => hb.go E1 S1 fun y F2 H2 f2 E2 S2 r2 => hr F2 H2 x y Q S2.fh (r1.up f2) r2 fun v r3 => k v F2 H2 (f1.trans f2) S2 r3⟩
/-- over a list that is read -/
theorem rx_cbs {r : List V → Hp → VK → Prop} {ds : List PyData} {f : PyData} (ha : RXs K ta ρ O ds O1)
    (hr : ∀ (F H : Hp) (a : Addr) (vs : List V) (Q : VK), Same F H → SqL K H a vs → vs.length ≤ sizeLine → RpAll K F vs ds → (∀ v, (∀ F, Rp K F v f) → Q v H) → r [.ref a] H Q) : RX K (tCB r (tCons ta tNil)) ρ O f O1 := ⟨fun _ _ _ _ _ _ Q E S k =>
  ha.go E S fun a F1 H1 f1 E1 S1 r1 => by
    obtain ⟨vs, q1, q2, q3⟩ := r1 F1 H1 (Same.refl _) S1
    exact hr F1 H1 a vs Q S1.fh q1 q2 q3 fun v r3 => k v F1 H1 f1 S1 (r3 F1)⟩
abbrev rLenQ (K : Fg) : List V → Hp → VK → Prop := fun xs H Q => ∃ p ys, xs = [.ref p] ∧ (SqL K H p ys ∨ SqT K H p ys) ∧ Q (.int ys.length) H
theorem rx_len {ds : List PyData} (ha : RXs K ta ρ O ds O1) : RX K (tCB (rLenQ K) (tCons ta tNil)) ρ O (.int (ds.length : Nat)) O1 := rx_cbs ha fun F H a vs Q _ h1 h2 h3 k =>
  ⟨a, vs, rfl, .inl h1, by rw [h3.length]; exact k _ fun _ => .int _⟩
theorem rx_lenT {ds : List PyData} (ha : RX K ta ρ O (.tuple ds) O1) : RX K (tCB (rLenQ K) (tCons ta tNil)) ρ O (.int (ds.length : Nat)) O1 := rx_cb1 ha fun F H x Q f r k => by
  cases r with
  | tup h1 h2 h3 => exact ⟨_, _, rfl, .inr (same_t f h1), by rw [h3.length]; exact k _ (.int _)⟩
theorem rx_lenS {z : Str} (ha : RX K ta ρ O (.str z) O1) (hz : z.length ≤ sizeLine) : RX K (tCB (fun xs H Q => ∃ z, xs = [.str z] ∧ z.length ≤ sizeLine ∧ Q (.int z.length) H) (tCons ta tNil)) ρ O (.int z.length) O1 := rx_cb1 ha fun F H x Q f r k => by
  cases r
  exact ⟨_, rfl, hz, k _ (.int _)⟩
theorem rx_sum {ns : List Int} (ha : RXs K ta ρ O (ns.map .int) O1) : RX K (tCB (rSum K) (tCons ta tNil)) ρ O (.int ns.sum) O1 := rx_cbs ha fun F H a vs Q _ h1 h2 h3 k =>
  ⟨a, ns, rfl, (by rw [← h3.ints]; exact h1), k _ fun _ => .int _⟩
theorem rx_all {ns : List Bool} (ha : RXs K ta ρ O (ns.map .bool) O1) : RX K (tCB (rAll K) (tCons ta tNil)) ρ O (.bool (ns.all id)) O1 := rx_cbs ha fun F H a vs Q _ h1 h2 h3 k =>
  ⟨a, ns, rfl, (by rw [← h3.bools]; exact h1), k _ fun _ => .bl _⟩
def maxO (ns : List Int) : Option Int := ns.max?
def minO (ns : List Int) : Option Int := ns.min?
theorem rx_max {ns : List Int} {m : Int} (hm : maxO ns = some m) (ha : RXs K ta ρ O (ns.map .int) O1) : RX K (tCB (rMax K) (tCons ta tNil)) ρ O (.int m) O1 := rx_cbs ha fun F H a vs Q _ h1 h2 h3 k => by
  have hm' : ns.max? = some m := hm
  rw [List.max?_eq_some_iff] at hm'
  refine ⟨a, ns, rfl, (by rw [← h3.ints]; exact h1), ?_, fun m' h4 h5 => ?_⟩
  · cases ns with
    | nil => simp at hm'
    | cons _ _ => exact Nat.succ_pos _
  · have e : m' = m := Int.le_antisymm (hm'.2 _ h4) (h5 _ hm'.1)
    subst e
    exact k _ fun _ => .int _
theorem rx_min {ns : List Int} {m : Int} (hm : minO ns = some m) (ha : RXs K ta ρ O (ns.map .int) O1) : RX K (tCB (rMin K) (tCons ta tNil)) ρ O (.int m) O1 := rx_cbs ha fun F H a vs Q _ h1 h2 h3 k => by
  have hm' : ns.min? = some m := hm
  rw [List.min?_eq_some_iff] at hm'
  refine ⟨a, ns, rfl, (by rw [← h3.ints]; exact h1), ?_, fun m' h4 h5 => ?_⟩
  · cases ns with
    | nil => simp at hm'
    | cons _ _ => exact Nat.succ_pos _
  · have e : m' = m := Int.le_antisymm (h5 _ hm'.1) (hm'.2 _ h4)
    subst e
    exact k _ fun _ => .int _
def max2 (i j : Int) : Int := if j > i then j else i
def min2 (i j : Int) : Int := if j < i then j else i
def abs1 (i : Int) : Int := if i < 0 then -i else i
theorem rx_max2 {i j : Int} (ha : RX K ta ρ O (.int i) O1) (hb : RX K tb ρ O1 (.int j) O2) : RX K (tCB (fun xs H Q => ∃ i j, xs = [.int i, .int j] ∧ Q (.int (if j > i then j else i)) H) (tCons ta (tCons tb tNil))) ρ O (.int (max2 i j)) O2 := rx_cb2 ha hb fun F H x y Q f r s k => by
  cases r
  cases s
  exact ⟨i, j, rfl, k _ (.int _)⟩
theorem rx_min2 {i j : Int} (ha : RX K ta ρ O (.int i) O1) (hb : RX K tb ρ O1 (.int j) O2) : RX K (tCB (fun xs H Q => ∃ i j, xs = [.int i, .int j] ∧ Q (.int (if j < i then j else i)) H) (tCons ta (tCons tb tNil))) ρ O (.int (min2 i j)) O2 := rx_cb2 ha hb fun F H x y Q f r s k => by
  cases r
  cases s
  exact ⟨i, j, rfl, k _ (.int _)⟩
theorem rx_abs {i : Int} (ha : RX K ta ρ O (.int i) O1) : RX K (tCB (fun xs H Q => ∃ i, xs = [.int i] ∧ Q (.int (if i < 0 then -i else i)) H) (tCons ta tNil)) ρ O (.int (abs1 i)) O1 := rx_cb1 ha fun F H x Q f r k => by
  cases r
  exact ⟨i, rfl, k _ (.int _)⟩

/-! ### items -/
theorem atI_map {α β : Type} (f : α → β) {xs : List α} {i : Int} {x : α} (h : atI xs i = some x) : atI (xs.map f) i = some (f x) := by
  unfold atI at h ⊢
  rw [List.length_map]
  cases e : ixN xs.length i with
  | none => rw [e] at h; simp at h
  | some j =>
    rw [e] at h
    simp only [Option.bind_some] at h ⊢
    rw [List.getElem?_map, h]
    rfl
theorem RpAll.atI {K : Fg} {F : Hp} {vs : List V} {ds : List PyData} (r : RpAll K F vs ds) {i : Int} {d : PyData} (h : L2.atI ds i = some d) : ∃ v, L2.atI vs i = some v ∧ Rp K F v d := by
  unfold L2.atI at h ⊢
  rw [r.length]
  cases e : ixN ds.length i with
  | none => rw [e] at h; simp at h
  | some j =>
    rw [e] at h
    simp only [Option.bind_some] at h ⊢
    exact r.get h
theorem rx_ix {ds : List PyData} {i : Int} {d : PyData} (h : atI ds i = some d) (ha : RXs K ta ρ O ds O1) (hb : RX K tb ρ O1 (.int i) O1) : RX K (tOp (rIxL K) ta tb) ρ O d O1 := ⟨fun _ _ _ _ _ _ Q E S k =>
  ha.go E S fun a F1 H1 f1 E1 S1 r1 => hb.go E1 S1 fun y F2 H2 f2 E2 S2 r2 => by
    cases r2
    obtain ⟨vs, q1, q2, q3⟩ := r1 F2 H2 f2 S2
    obtain ⟨v, e, r⟩ := q3.atI h
    exact ⟨a, vs, i, v, rfl, rfl, q1, e, k v F2 H2 (f1.trans f2) S2 r⟩⟩
/-- a list just made, its place reckoned with changes -/
theorem rx_ixF {ds : List PyData} {i : Int} {d : PyData} (h : atI ds i = some d) (ha : RX K ta ρ O (.list ds) O1) (hb : RX K tb ρ O1 (.int i) O2) : RX K (tOp (rIxL K) ta tb) ρ O d O2 := ⟨fun _ _ _ _ _ _ Q E S k =>
  ha.go E S fun x F1 H1 f1 E1 S1 r1 => hb.go E1 S1 fun y F2 H2 f2 E2 S2 r2 => by
    cases r2
    have r1' := r1.up f2
    cases r1' with
    | lst q1 q2 q3 =>
      obtain ⟨v, e, r⟩ := q3.atI h
      exact ⟨_, _, i, v, rfl, rfl, S2.fh.seq q1, e, k v F2 H2 (f1.trans f2) S2 r⟩⟩
theorem rx_ixT {ds : List PyData} {i : Int} {d : PyData} (h : atI ds i = some d) (ha : RX K ta ρ O (.tuple ds) O1) (hb : RX K tb ρ O1 (.int i) O2) : RX K (tOp (rIxT K) ta tb) ρ O d O2 := ⟨fun _ _ _ _ _ _ Q E S k =>
  ha.go E S fun x F1 H1 f1 E1 S1 r1 => hb.go E1 S1 fun y F2 H2 f2 E2 S2 r2 => by
    cases r2
    have r1' := r1.up f2
    cases r1' with
    | tup q1 q2 q3 =>
      obtain ⟨v, e, r⟩ := q3.atI h
      exact ⟨_, _, i, v, rfl, rfl, same_t S2.fh q1, e, k v F2 H2 (f1.trans f2) S2 r⟩⟩
def signAt (z : Str) (i : Int) : Option Str := if z.length ≤ sizeLine then (atI z.cps.toList i).map fun c => ⟨#[c]⟩ else none
theorem rx_ixS {z : Str} {i : Int} {c : Str} (h : signAt z i = some c) (ha : RX K ta ρ O (.str z) O1) (hb : RX K tb ρ O1 (.int i) O2) : RX K (tOp rIxS ta tb) ρ O (.str c) O2 := rx_op ha hb fun F H x y Q f r s k => by
  cases r
  cases s
  unfold signAt at h
  split at h
  · rename_i hz
    cases e : atI z.cps.toList i with
    | none => rw [e] at h; cases h
    | some n =>
      rw [e] at h
      cases h
      exact ⟨z, i, n, rfl, rfl, hz, e, k _ (.str _)⟩
  · cases h

/-! ### in -/
theorem inV_ints (x : Int) (xs : List Int) : inV (.int x) (xs.map V.int) = decide (x ∈ xs) := by
  induction xs with
  | nil => rfl
  | cons a xs ih =>
    show (eqV (.int a) (.int x) || inV (.int x) (xs.map V.int)) = _
    rw [ih, show eqV (.int a) (.int x) = (a == x) from rfl, Bool.eq_iff_iff]
    simp only [Bool.or_eq_true, beq_iff_eq, decide_eq_true_eq, List.mem_cons]
    exact ⟨fun h => h.imp Eq.symm id, fun h => h.imp Eq.symm id⟩
theorem flat_ints (xs : List Int) : (xs.map V.int).all flatV = true := by simp [flatV]
theorem inV_strs (x : Str) (xs : List Str) : inV (.str x) (xs.map V.str) = decide (x ∈ xs) := by
  induction xs with
  | nil => rfl
  | cons a xs ih =>
    show (eqV (.str a) (.str x) || inV (.str x) (xs.map V.str)) = _
    rw [ih, show eqV (.str a) (.str x) = (a == x) from rfl, Bool.eq_iff_iff]
    simp only [Bool.or_eq_true, beq_iff_eq, decide_eq_true_eq, List.mem_cons]
    exact ⟨fun h => h.imp Eq.symm id, fun h => h.imp Eq.symm id⟩
theorem flat_strs (xs : List Str) : (xs.map V.str).all flatV = true := by simp [flatV]
theorem rx_inI {x : Int} {xs : List Int} {neg : Bool} (ha : RX K ta ρ O (.int x) O1) (hb : RXs K tb ρ O1 (xs.map .int) O2) : RX K (tOp (rIn K neg) ta tb) ρ O (.bool (if neg then !decide (x ∈ xs) else decide (x ∈ xs))) O2 := ⟨fun _ _ _ _ _ _ Q E S k =>
  ha.go E S fun v F1 H1 f1 E1 S1 r1 => hb.go E1 S1 fun a F2 H2 f2 E2 S2 r2 => by
    cases r1
    obtain ⟨vs, q1, q2, q3⟩ := r2 F2 H2 (Same.refl _) S2
    have e := q3.ints
    subst e
    refine ⟨a, _, rfl, .inl q1, rfl, flat_ints xs, ?_⟩
    rw [inV_ints]
    exact k _ F2 H2 (f1.trans f2) S2 (.bl _)⟩
theorem rx_inS {x : Str} {xs : List Str} {neg : Bool} (ha : RX K ta ρ O (.str x) O1) (hb : RXs K tb ρ O1 (xs.map .str) O2) : RX K (tOp (rIn K neg) ta tb) ρ O (.bool (if neg then !decide (x ∈ xs) else decide (x ∈ xs))) O2 := ⟨fun _ _ _ _ _ _ Q E S k =>
  ha.go E S fun v F1 H1 f1 E1 S1 r1 => hb.go E1 S1 fun a F2 H2 f2 E2 S2 r2 => by
    cases r1
    obtain ⟨vs, q1, q2, q3⟩ := r2 F2 H2 (Same.refl _) S2
    have e := q3.strs
    subst e
    refine ⟨a, _, rfl, .inl q1, rfl, flat_strs xs, ?_⟩
    rw [inV_strs]
    exact k _ F2 H2 (f1.trans f2) S2 (.bl _)⟩
theorem rx_inIT {x : Int} {xs : List Int} {neg : Bool} (ha : RX K ta ρ O (.int x) O1) (hb : RX K tb ρ O1 (.tuple (xs.map .int)) O2) : RX K (tOp (rIn K neg) ta tb) ρ O (.bool (if neg then !decide (x ∈ xs) else decide (x ∈ xs))) O2 := rx_op ha hb fun F H u v Q f r s k => by
  cases r
  cases s with
  | tup q1 q2 q3 =>
    have e := q3.ints
    subst e
    refine ⟨_, _, rfl, .inr (same_t f q1), rfl, flat_ints xs, ?_⟩
    rw [inV_ints]
    exact k _ (.bl _)
theorem rx_inST {x : Str} {xs : List Str} {neg : Bool} (ha : RX K ta ρ O (.str x) O1) (hb : RX K tb ρ O1 (.tuple (xs.map .str)) O2) : RX K (tOp (rIn K neg) ta tb) ρ O (.bool (if neg then !decide (x ∈ xs) else decide (x ∈ xs))) O2 := rx_op ha hb fun F H u v Q f r s k => by
  cases r
  cases s with
  | tup q1 q2 q3 =>
    have e := q3.strs
    subst e
    refine ⟨_, _, rfl, .inr (same_t f q1), rfl, flat_strs xs, ?_⟩
    rw [inV_strs]
    exact k _ (.bl _)

/-! ### slices -/
theorem ro_none : RO K tNoPart ρ O none O := ⟨fun _ _ _ _ _ _ Q E S k => k _ _ (Same.refl _) S⟩
theorem ro_some {i : Int} (h : RX K ta ρ O (.int i) O1) : RO K (tPart ta) ρ O (some i) O1 := ⟨fun _ _ _ _ _ _ Q E S k => h.go E S fun x F1 H1 f1 E1 S1 r1 => by
  cases r1
  exact ⟨i, rfl, k _ _ f1 S1⟩⟩
def cutL {α : Type} (xs : List α) (lo hi : Option Int) : List α := (xs.drop (HT.sIx xs.length 0 lo)).take (HT.sIx xs.length xs.length hi - HT.sIx xs.length 0 lo)
theorem cutL_map {α β : Type} (f : α → β) (xs : List α) (lo hi : Option Int) : (cutL xs lo hi).map f = cutL (xs.map f) lo hi := by
  unfold cutL
  rw [List.map_take, List.map_drop, List.length_map]
theorem RpAll.cut {K : Fg} {F : Hp} {vs : List V} {ds : List PyData} (r : RpAll K F vs ds) (lo hi : Option Int) : RpAll K F (cutV vs lo hi) (cutL ds lo hi) := by
  unfold cutV cutL
  rw [r.length]
  exact (r.drop _).take _
theorem rxo_slice {ds : List PyData} {tl th : TO} {lo hi : Option Int} (ha : RXs K ta ρ O ds O1) (hl : RO K tl ρ O1 lo O1) (hh : RO K th ρ O1 hi O1) : RXo K (tSl (rSlL K) ta tl th) ρ O (cutL ds lo hi) O1 := ⟨fun _ _ _ _ _ _ Q E S k =>
  ha.go E S fun a F1 H1 f1 E1 S1 r1 => hl.go E1 S1 fun F2 H2 f2 E2 S2 => hh.go E2 S2 fun F3 H3 f3 E3 S3 => by
    obtain ⟨vs, q1, q2, q3⟩ := r1 F3 H3 (f2.trans f3) S3
    exact ⟨a, vs, rfl, q1, fun p hp => k p F3 _ ((f1.trans f2).trans f3) (S3.mine hp (Nat.le_trans (cutV_length _ _ _) q2) (q3.cut lo hi))⟩⟩
/-- .. its bounds reckoned with changes -/
theorem rxo_sliceF {ds : List PyData} {tl th : TO} {lo hi : Option Int} (ha : RX K ta ρ O (.list ds) O1) (hl : RO K tl ρ O1 lo O2) (hh : RO K th ρ O2 hi O3) : RXo K (tSl (rSlL K) ta tl th) ρ O (cutL ds lo hi) O3 := ⟨fun _ _ _ _ _ _ Q E S k =>
  ha.go E S fun x F1 H1 f1 E1 S1 r1 => hl.go E1 S1 fun F2 H2 f2 E2 S2 => hh.go E2 S2 fun F3 H3 f3 E3 S3 => by
    have r1' := r1.up (f2.trans f3)
    cases r1' with
    | lst q1 q2 q3 => exact ⟨_, _, rfl, S3.fh.seq q1, fun p hp => k p F3 _ ((f1.trans f2).trans f3) (S3.mine hp (Nat.le_trans (cutV_length _ _ _) q2) (q3.cut lo hi))⟩⟩
theorem rxo_rev {ds : List PyData} (ha : RXs K ta ρ O ds O1) : RXo K (tRevL K ta) ρ O ds.reverse O1 := ⟨fun _ _ _ _ _ _ Q E S k =>
  ha.go E S fun a F1 H1 f1 E1 S1 r1 => by
    obtain ⟨vs, q1, q2, q3⟩ := r1 F1 H1 (Same.refl _) S1
    exact ⟨a, vs, rfl, q1, fun p hp => k p F1 _ f1 (S1.mine hp (by rw [List.length_reverse]; exact q2) q3.reverse)⟩⟩
theorem cutV_whole {α : Type} (xs : List α) {lo hi : Option Int} (h : HT.sIx xs.length 0 lo = 0 ∧ HT.sIx xs.length xs.length hi = xs.length) : cutL xs lo hi = xs := by
  unfold cutL
  rw [h.1, h.2]
  simp
theorem rx_sliceT {ds : List PyData} {tl th : TO} {lo hi : Option Int} (ha : RX K ta ρ O (.tuple ds) O1) (hl : RO K tl ρ O1 lo O2) (hh : RO K th ρ O2 hi O3) : RX K (tSl (rSlA K) ta tl th) ρ O (.tuple (cutL ds lo hi)) O3 := ⟨fun _ _ _ _ _ _ Q E S k =>
  ha.go E S fun x F1 H1 f1 E1 S1 r1 => hl.go E1 S1 fun F2 H2 f2 E2 S2 => hh.go E2 S2 fun F3 H3 f3 E3 S3 => by
    have r1' := r1.up (f2.trans f3)
    cases r1' with
    | @tup _ xs _ q1 q2 q3 =>
      refine ⟨_, _, rfl, same_t S3.fh q1, fun hw => ?_, fun _ p hp => ?_⟩
      · rw [cutV_whole ds (by rw [← q3.length]; exact hw)] at k
        exact k _ F3 _ ((f1.trans f2).trans f3) S3 (.tup q1 q2 q3)
      · have f4 := same_upd (o := .tup (cutV xs lo hi)) (S3.nof hp)
        exact k _ _ _ (((f1.trans f2).trans f3).trans f4) (S3.put hp) (.tup (SqT.of upd_same) (Nat.le_trans (cutV_length _ _ _) q2) ((q3.cut lo hi).up f4))⟩

/-! ### list(), tuple(), + -/
abbrev rListOf (K : Fg) : List V → Hp → VK → Prop := fun xs H Q => ∃ p ys, xs = [.ref p] ∧ (SqL K H p ys ∨ SqT K H p ys) ∧ ∀ l, H l = none → Q (.ref l) (upd H l (.lst ys))
theorem rxo_list {ds : List PyData} (ha : RXs K ta ρ O ds O1) : RXo K (tCB (rListOf K) (tCons ta tNil)) ρ O ds O1 := ⟨fun _ _ _ _ _ _ Q E S k =>
  ha.go E S fun a F1 H1 f1 E1 S1 r1 => by
    obtain ⟨vs, q1, q2, q3⟩ := r1 F1 H1 (Same.refl _) S1
    exact ⟨a, vs, rfl, .inl q1, fun p hp => k p F1 _ f1 (S1.mine hp q2 q3)⟩⟩
theorem rxo_listT {ds : List PyData} (ha : RX K ta ρ O (.tuple ds) O1) : RXo K (tCB (rListOf K) (tCons ta tNil)) ρ O ds O1 := ⟨fun _ _ _ _ _ _ Q E S k =>
  ha.go E S fun x F1 H1 f1 E1 S1 r1 => by
    cases r1 with
    | tup q1 q2 q3 => exact ⟨_, _, rfl, .inr (same_t S1.fh q1), fun p hp => k p F1 _ f1 (S1.mine hp q2 q3)⟩⟩
abbrev rTupleOf (K : Fg) : List V → Hp → VK → Prop := fun xs H Q => ∃ p ys, xs = [.ref p] ∧ ((SqL K H p ys ∧ ∀ l, H l = none → Q (.ref l) (upd H l (.tup ys))) ∨ (SqT K H p ys ∧ Q (.ref p) H))
theorem rx_tuple {ds : List PyData} (ha : RXs K ta ρ O ds O1) : RX K (tCB (rTupleOf K) (tCons ta tNil)) ρ O (.tuple ds) O1 := ⟨fun _ _ _ _ _ _ Q E S k =>
  ha.go E S fun a F1 H1 f1 E1 S1 r1 => by
    obtain ⟨vs, q1, q2, q3⟩ := r1 F1 H1 (Same.refl _) S1
    refine ⟨a, vs, rfl, .inl ⟨q1, fun p hp => ?_⟩⟩
    have f2 := same_upd (o := .tup vs) (S1.nof hp)
    exact k _ _ _ (f1.trans f2) (S1.put hp) (.tup (SqT.of upd_same) q2 (q3.up f2))⟩
/-- lists of any making -/
def rCatR (K : Fg) : R2 := fun x y H Q => ∃ l b xs zs, x = .ref l ∧ y = .ref b ∧ SqL K H l xs ∧ SqL K H b zs ∧ xs.length + zs.length ≤ sizeLine ∧ ∀ p, H p = none → Q (.ref p) (upd H p (.lst (xs ++ zs)))
theorem op_catR {X : Cx} : OpR X (binaryOp .Add) (rCatR X.K) := by
  intro pins s σ H x y v u Q I rx ry h
  obtain ⟨l, b, xs, zs, rfl, rfl, hH, hB, hz, q⟩ := h
  cases rx
  cases ry
  obtain ⟨its, r, ⟨⟨cls, dd, data, sl⟩, n, ho, hc, hd, hx⟩, z⟩ := I.list hH
  obtain ⟨its2, r2, ⟨⟨cls2, dd2, data2, sl2⟩, n2, ho2, hc2, hd2, hx2⟩, z2⟩ := I.list hB
  have hl := r.length
  have hl2 := r2.length
  simp only at hc hd hx hc2 hd2 hx2
  subst hc hx hc2 hx2
  have e : its.toArray ++ its2.toArray = (its ++ its2).toArray := by simp
  refine concat_meets ⟨_, ho, rfl⟩ ⟨_, ho2, rfl⟩ noFill_list_add seq_list_add PySem.F.slot_list_add PySem.F.entry_list_add (PySem.F.args_list_add_2 _ _)
    (PyProof.Rows.list_addW l b its.toArray its2.toArray n n2 dd dd2 sl sl2 (by rw [List.size_toArray, List.size_toArray]; omega)) ⟨ho, ho2, ?_⟩
  rw [e]
  exact ⟨.ref _, _, I.lnew (t' := s.toks) (r.append r2) (by rw [List.length_append]; omega), rfl, q _ I.fresh⟩
theorem rxo_cat {ds es : List PyData} (ha : RXs K ta ρ O ds O1) (hb : RXs K tb ρ O1 es O1) (hz : ds.length + es.length ≤ sizeLine) : RXo K (tOp (rCatR K) ta tb) ρ O (ds ++ es) O1 := ⟨fun _ _ _ _ _ _ Q E S k =>
  ha.go E S fun a F1 H1 f1 E1 S1 r1 => hb.go E1 S1 fun b F2 H2 f2 E2 S2 r2 => by
    obtain ⟨vs, q1, q2, q3⟩ := r1 F2 H2 f2 S2
    obtain ⟨ws, p1, p2, p3⟩ := r2 F2 H2 (Same.refl _) S2
    have e1 := q3.length
    have e2 := p3.length
    exact ⟨a, b, vs, ws, rfl, rfl, q1, p1, by omega, fun p hp => k p F2 _ (f1.trans f2) (S2.mine hp (by rw [List.length_append]; omega) (q3.append p3))⟩⟩
theorem rxo_catF {ds es : List PyData} (ha : RX K ta ρ O (.list ds) O1) (hb : RX K tb ρ O1 (.list es) O2) (hz : ds.length + es.length ≤ sizeLine) : RXo K (tOp (rCatR K) ta tb) ρ O (ds ++ es) O2 := ⟨fun _ _ _ _ _ _ Q E S k =>
  ha.go E S fun x F1 H1 f1 E1 S1 r1 => hb.go E1 S1 fun y F2 H2 f2 E2 S2 r2 => by
    have r1' := r1.up f2
    cases r1' with
    | lst q1 q2 q3 =>
      cases r2 with
      | lst p1 p2 p3 =>
        have e1 := q3.length
        have e2 := p3.length
        exact ⟨_, _, _, _, rfl, rfl, S2.fh.seq q1, S2.fh.seq p1, by omega, fun p hp => k p F2 _ (f1.trans f2) (S2.mine hp (by rw [List.length_append]; omega) (q3.append p3))⟩⟩
theorem rx_catT {ds es : List PyData} (ha : RX K ta ρ O (.tuple ds) O1) (hb : RX K tb ρ O1 (.tuple es) O2) (hz : ds.length + es.length ≤ sizeLine) : RX K (tOp (rCatA K) ta tb) ρ O (.tuple (ds ++ es)) O2 := ⟨fun _ _ _ _ _ _ Q E S k =>
  ha.go E S fun x F1 H1 f1 E1 S1 r1 => hb.go E1 S1 fun y F2 H2 f2 E2 S2 r2 => by
    have r1' := r1.up f2
    cases r1' with
    | @tup _ xs _ q1 q2 q3 =>
      cases r2 with
      | @tup _ ys _ p1 p2 p3 =>
        have e1 := q3.length
        have e2 := p3.length
        refine ⟨_, _, _, _, rfl, rfl, same_t S2.fh q1, same_t S2.fh p1, by omega, fun e => ?_, fun _ e => ?_, fun _ _ p hp => ?_⟩
        · subst e
          cases q3
          exact k _ F2 _ (f1.trans f2) S2 (.tup p1 p2 p3)
        · subst e
          cases p3
          rw [List.append_nil] at k
          exact k _ F2 _ (f1.trans f2) S2 (.tup q1 q2 q3)
        · have f3 := same_upd (o := .tup (xs ++ ys)) (S2.nof hp)
          exact k _ _ _ ((f1.trans f2).trans f3) (S2.put hp) (.tup (SqT.of upd_same) (by rw [List.length_append]; omega) ((q3.append p3).up f3))⟩
/-- list * int, the list just made -/
theorem rxo_rep {ds : List PyData} {i : Int} (ha : RXo K ta ρ O ds O1) (hb : ∀ p, RX K tb ρ (⟨p, true, ds⟩ :: O1) (.int i) (⟨p, true, ds⟩ :: O1)) (hz : ds.length * i.toNat ≤ sizeLine) (hi : -(2 ^ 63) ≤ i ∧ i < 2 ^ 63) :
    RXo K (tOp rRep ta tb) ρ O (List.replicate i.toNat ds).flatten O1 := ⟨fun _ _ _ _ _ _ Q E S k =>
  ha.go E S fun l F1 H1 f1 E1 S1 => (hb l).go E1 S1 fun y F2 H2 f2 E2 S2 r2 => by
    cases r2
    obtain ⟨_, _, _, vs, g4, g5, g6⟩ := S2.get (j := 0) rfl
    have g4 : H2 l = some (.lst vs) := g4
    have e1 : vs.length = ds.length := RpAll.length g6
    have S3 : Hx K _ _ _ F2 O1 H2 := ⟨S2.f0, S2.fh, S2.keep, S2.live, S2.new, fun p hp => S2.own p (List.mem_cons_of_mem _ hp), (List.nodup_cons.mp S2.nd).2⟩
    exact ⟨l, i, vs, rfl, rfl, g4, hi.1, hi.2, by rw [e1]; exact hz, fun p hp => k p F2 _ (f1.trans f2) (S3.mine hp (by simp only [List.length_flatten, List.map_replicate, List.sum_replicate_nat]; rw [e1, Nat.mul_comm]; exact hz) (RpAll.rep g6 _))⟩⟩
end
end TL

namespace TL
open PySem L2
open Enc
theorem Hx.drop {K : Fg} {F0 H0 F H : Hp} {D0 : List Addr} {O : Os} (S : Hx K F0 H0 D0 F O H) (j : Nat) : Hx K F0 H0 D0 F (O.eraseIdx j) H :=
  ⟨S.f0, S.fh, S.keep, S.live, S.new, fun p hp => S.own p (List.mem_of_mem_eraseIdx hp), S.nd.sublist ((List.eraseIdx_sublist O j).map OE.a)⟩
/-- a thing that is made and not looked at again -/
theorem Hx.junk {K : Fg} {F0 H0 F H : Hp} {D0 : List Addr} {O : Os} (S : Hx K F0 H0 D0 F O H) {p : Addr} {o : HO} (h : H p = none) : Hx K F0 H0 D0 F O (upd H p o) := by
  refine ⟨S.f0, S.fh.trans (same_upd h), fun a u e n => ?_, fun a u e => ?_, S.new, fun q hq => ?_, S.nd⟩
  · have := S.keep a u e n
    rw [upd_ne (ne_of_none this h)]
    exact this
  · obtain ⟨u', e'⟩ := S.live a u e
    exact ⟨u', by rw [upd_ne (ne_of_none e' h)]; exact e'⟩
  · obtain ⟨h1, h2, h3, h4⟩ := S.own q hq
    obtain ⟨u, h5⟩ := h4.live
    exact ⟨h1, h2, h3, h4.at (upd_ne (ne_of_none h5 h))⟩
section
variable {K : Fg} {ta tb tc : TE} {ρ : List Sl} {O O1 O2 O3 : Os} {t : TA} {tt tu : TT}
/-! ### tests, truth values -/
theorem rt_val {b : Bool} (h : RX K ta ρ O (.bool b) O1) : RT K (tTest ta) ρ O b O1 := ⟨fun _ _ _ _ _ _ Q E S k => h.go E S fun x F1 H1 f1 E1 S1 r1 => by
  cases r1
  exact ⟨b, rfl, k F1 H1 f1 S1⟩⟩
theorem rt_b {b : Bool} (h : RX K ta ρ O (.bool b) O1) : RT K (tB ta) ρ O b O1 := ⟨fun _ _ _ _ _ _ Q E S k => h.go E S fun x F1 H1 f1 E1 S1 r1 => by
  cases r1
  exact ⟨b, rfl, k F1 H1 f1 S1⟩⟩
theorem rt_and {a c : Bool} (ha : RT K tt ρ O a O1) (h1 : a = true → RT K tu ρ O1 c O2) (h0 : a = false → c = false ∧ O2 = O1) : RT K (tAnd tt tu) ρ O c O2 := ⟨fun _ _ _ _ _ _ Q E S k => ha.go E S fun F1 H1 f1 E1 S1 => by
  cases a with
  | true =>
    have r := h1 rfl
    exact iteT (r.go E1 S1 fun F2 H2 f2 E2 S2 => k F2 H2 (f1.trans f2) S2)
  | false =>
    obtain ⟨e, e2⟩ := h0 rfl
    subst e
    subst e2
    exact iteF (k F1 H1 f1 S1)⟩
theorem rt_or {a c : Bool} (ha : RT K tt ρ O a O1) (h1 : a = false → RT K tu ρ O1 c O2) (h0 : a = true → c = true ∧ O2 = O1) : RT K (tOr tt tu) ρ O c O2 := ⟨fun _ _ _ _ _ _ Q E S k => ha.go E S fun F1 H1 f1 E1 S1 => by
  cases a with
  | false =>
    have r := h1 rfl
    exact iteF (r.go E1 S1 fun F2 H2 f2 E2 S2 => k F2 H2 (f1.trans f2) S2)
  | true =>
    obtain ⟨e, e2⟩ := h0 rfl
    subst e
    subst e2
    exact iteT (k F1 H1 f1 S1)⟩
theorem rt_and2 {a b : Bool} (ha : RT K tt ρ O a O) (hb : RT K tu ρ O b O) : RT K (tAnd tt tu) ρ O (a && b) O := rt_and ha (fun e => by rw [e]; exact hb) fun e => ⟨by rw [e]; rfl, rfl⟩
theorem rt_or2 {a b : Bool} (ha : RT K tt ρ O a O) (hb : RT K tu ρ O b O) : RT K (tOr tt tu) ρ O (a || b) O := rt_or ha (fun e => by rw [e]; exact hb) fun e => ⟨by rw [e]; rfl, rfl⟩
theorem rt_not {a : Bool} (ha : RT K tt ρ O a O1) : RT K (tNot tt) ρ O (!a) O1 := ⟨fun _ _ _ _ _ _ Q E S k => ha.go E S fun F1 H1 f1 E1 S1 => k F1 H1 f1 S1⟩
theorem rx_and {a c : Bool} (ha : RX K ta ρ O (.bool a) O1) (h1 : a = true → RX K tb ρ O1 (.bool c) O2) (h0 : a = false → c = false ∧ O2 = O1) : RX K (tAndV ta tb) ρ O (.bool c) O2 := ⟨fun _ _ _ _ _ _ Q E S k => ha.go E S fun x F1 H1 f1 E1 S1 r1 => by
  cases r1
  refine ⟨a, rfl, ?_⟩
  cases a with
  | true =>
    have r := h1 rfl
    exact iteT (r.go E1 S1 fun v F2 H2 f2 E2 S2 r2 => k v F2 H2 (f1.trans f2) S2 r2)
  | false =>
    obtain ⟨e, e2⟩ := h0 rfl
    subst e
    subst e2
    exact iteF (k _ F1 H1 f1 S1 (.bl false))⟩
theorem rx_or {a c : Bool} (ha : RX K ta ρ O (.bool a) O1) (h1 : a = false → RX K tb ρ O1 (.bool c) O2) (h0 : a = true → c = true ∧ O2 = O1) : RX K (tOrV ta tb) ρ O (.bool c) O2 := ⟨fun _ _ _ _ _ _ Q E S k => ha.go E S fun x F1 H1 f1 E1 S1 r1 => by
  cases r1
  refine ⟨a, rfl, ?_⟩
  cases a with
  | false =>
    have r := h1 rfl
    exact iteF (r.go E1 S1 fun v F2 H2 f2 E2 S2 r2 => k v F2 H2 (f1.trans f2) S2 r2)
  | true =>
    obtain ⟨e, e2⟩ := h0 rfl
    subst e
    subst e2
    exact iteT (k _ F1 H1 f1 S1 (.bl true))⟩
theorem rx_and2 {a b : Bool} (ha : RX K ta ρ O (.bool a) O) (hb : RX K tb ρ O (.bool b) O) : RX K (tAndV ta tb) ρ O (.bool (a && b)) O := rx_and ha (fun e => by rw [e]; exact hb) fun e => ⟨by rw [e]; rfl, rfl⟩
theorem rx_or2 {a b : Bool} (ha : RX K ta ρ O (.bool a) O) (hb : RX K tb ρ O (.bool b) O) : RX K (tOrV ta tb) ρ O (.bool (a || b)) O := rx_or ha (fun e => by rw [e]; exact hb) fun e => ⟨by rw [e]; rfl, rfl⟩
theorem rx_not {a : Bool} (ha : RX K ta ρ O (.bool a) O1) : RX K (tNotV ta) ρ O (.bool (!a)) O1 := ⟨fun _ _ _ _ _ _ Q E S k => ha.go E S fun x F1 H1 f1 E1 S1 r1 => by
  cases r1
  exact ⟨a, rfl, k _ F1 H1 f1 S1 (.bl _)⟩⟩
theorem rx_if {b : Bool} {d : PyData} (hc : RT K tt ρ O b O1) (h1 : b = true → RX K ta ρ O1 d O2) (h0 : b = false → RX K tb ρ O1 d O2) : RX K (tIf tt ta tb) ρ O d O2 := ⟨fun _ _ _ _ _ _ Q E S k => hc.go E S fun F1 H1 f1 E1 S1 => by
  cases b with
  | true => exact iteT ((h1 rfl).go E1 S1 fun v F2 H2 f2 E2 S2 r2 => k v F2 H2 (f1.trans f2) S2 r2)
  | false => exact iteF ((h0 rfl).go E1 S1 fun v F2 H2 f2 E2 S2 r2 => k v F2 H2 (f1.trans f2) S2 r2)⟩
/-- 0 <= n <= 8: a chain -/
theorem rx_chain {r r' : R2} {d e f : PyData} {a b : Bool} (ha : RX K ta ρ O d O) (hb : RX K tb ρ O e O) (hc : RX K tc ρ O f O)
    (hr : ∀ (F H : Hp) (x y : V) (Q : VK), Rp K F x d → Rp K F y e → Q (.bl a) H → r x y H Q) (hr' : ∀ (F H : Hp) (x y : V) (Q : VK), Rp K F x e → Rp K F y f → Q (.bl b) H → r' x y H Q) : RX K (tChain r r' ta tb tc) ρ O (.bool (a && b)) O := ⟨fun _ _ _ _ _ _ Q E S k =>
  ha.go E S fun x F1 H1 f1 E1 S1 r1 => hb.go E1 S1 fun y F2 H2 f2 E2 S2 r2 => hr F2 H2 x y _ (r1.up f2) r2 ⟨a, rfl, by
    cases a with
    | true => exact iteT (hc.go E2 S2 fun z F3 H3 f3 E3 S3 r3 => hr' F3 H3 y z Q (r2.up f3) r3 (k _ F3 H3 ((f1.trans f2).trans f3) S3 (.bl _)))
    | false => exact iteF (k _ F2 H2 (f1.trans f2) S2 (.bl _))⟩⟩
theorem ch_le {F H : Hp} {i j : Int} {x y : V} {Q : VK} (r : Rp K F x (.int i)) (s : Rp K F y (.int j)) (k : Q (.bl (decide (i ≤ j))) H) : rI0 (fun i j => .bl (decide (i ≤ j))) x y H Q := by
  cases r
  cases s
  exact ⟨i, j, rfl, rfl, k⟩
theorem ch_lt {F H : Hp} {i j : Int} {x y : V} {Q : VK} (r : Rp K F x (.int i)) (s : Rp K F y (.int j)) (k : Q (.bl (decide (i < j))) H) : rI0 (fun i j => .bl (decide (i < j))) x y H Q := by
  cases r
  cases s
  exact ⟨i, j, rfl, rfl, k⟩
theorem rx_chLE {i j l : Int} (ha : RX K ta ρ O (.int i) O) (hb : RX K tb ρ O (.int j) O) (hc : RX K tc ρ O (.int l) O) : RX K (tChain (rI0 fun i j => .bl (decide (i ≤ j))) (rI0 fun i j => .bl (decide (i ≤ j))) ta tb tc) ρ O (.bool (decide (i ≤ j) && decide (j ≤ l))) O :=
  rx_chain ha hb hc (fun _ _ _ _ _ => ch_le) fun _ _ _ _ _ => ch_le
theorem rx_chLtLE {i j l : Int} (ha : RX K ta ρ O (.int i) O) (hb : RX K tb ρ O (.int j) O) (hc : RX K tc ρ O (.int l) O) : RX K (tChain (rI0 fun i j => .bl (decide (i < j))) (rI0 fun i j => .bl (decide (i ≤ j))) ta tb tc) ρ O (.bool (decide (i < j) && decide (j ≤ l))) O :=
  rx_chain ha hb hc (fun _ _ _ _ _ => ch_lt) fun _ _ _ _ _ => ch_le
/-- int(flag), int(n) -/
def b2n (b : Bool) : Int := if b then 1 else 0

/-! ### {..}.get(k, x) over a written dict of ints by texts -/
def dlit (kvs : List (Str × Int)) (k : Str) : Option Int := (kvs.find? fun kv => decide (kv.1 = k)).map (·.2)
theorem pairs_lit : ∀ (kvs : List (Str × Int)) {σ : L2.St} {H : Hp} {Q : List (V × V) → Hp → Prop}, Q (kvs.map fun p => (V.str p.1, V.int p.2)) H → tPairs (kvs.map fun p => (tC (.str p.1), tC (.int p.2))) σ H Q
  | [], _, _, _, h => h
  | (k, v) :: r, σ, H, Q, h => by
    show tC (.str k) σ H fun x H1 => tC (.int v) σ H1 fun y H2 => tPairs (r.map fun p => (tC (.str p.1), tC (.int p.2))) σ H2 fun ps H3 => Q ((x, y) :: ps) H3
    exact pairs_lit r (Q := fun ps H3 => Q ((V.str k, V.int v) :: ps) H3) h
def litV (kvs : List (Str × Int)) : List (Key × V) := kvs.map fun p => (Sum.inr p.1, V.int p.2)
theorem valV_lit {k : Str} : ∀ (kvs : List (Str × Int)), valV (litV kvs) (Sum.inr k : Key) = (dlit kvs k).map V.int
  | [] => rfl
  | (a, v) :: r => by
    have ih := valV_lit (k := k) r
    unfold valV dlit litV at ih ⊢
    rw [List.map_cons, List.find?_cons, List.find?_cons]
    by_cases e : a = k
    · subst e
      simp
    · have e1 : decide ((Sum.inr a : Key) = Sum.inr k) = false := decide_eq_false fun q => e (Sum.inr.inj q)
      have e2 : decide (a = k) = false := decide_eq_false e
      rw [e1, e2]
      exact ih
theorem merge_lit {kvs : List (Str × Int)} (h : mergeK [] (litV kvs) = litV kvs) (k : Str) : valV (mergeK [] (litV kvs)) (Sum.inr k : Key) = (dlit kvs k).map V.int := by rw [h, valV_lit]
theorem upd_over {H : Hp} {p : Addr} {o o' : HO} : upd (upd H p o) p o' = upd H p o' := upd_upd
/-- {..}.get(k, d) -/
theorem rx_lget {kvs : List (Str × Int)} {k : Str} {i : Int} (hl : kvs.length ≤ 15) (hm : mergeK [] (litV kvs) = litV kvs) (hk : RX K ta ρ O (.str k) O1) (hd : RX K tb ρ O1 (.int i) O2) :
    RX K (tDGet2 (tDisp (kvs.map fun p => (tC (.str p.1), tC (.int p.2)))) ta tb) ρ O (.int ((dlit kvs k).getD i)) O2 := ⟨fun _ _ _ _ _ _ Q E S kk => by
  intro p hp
  refine pairs_lit kvs ⟨upd_same, litV kvs, ?_, ?_, ?_⟩
  · unfold litV; rw [List.map_map]; rfl
  · unfold litV; rw [List.length_map]; exact hl
  · rw [upd_upd, hm]
    have f0 := same_upd (o := .dK (litV kvs)) (S.nof hp)
    refine ⟨p, rfl, .inl ⟨_, .inl upd_same⟩, hk.go (E.up f0) (S.put (o := .dK (litV kvs)) hp) fun y F1 H1 f1 E1 S1 r1 => hd.go E1 S1 fun z F2 H2 f2 E2 S2 r2 => ?_⟩
    cases r1
    cases r2
    have hp2 : H2 p = some (.dK (litV kvs)) := S2.fh _ _ (f2 _ _ (f1 _ _ upd_same))
    refine ⟨_, DGet.k (k := Sum.inr k) hp2, ?_⟩
    rw [valV_lit]
    have e : (((dlit kvs k).map V.int).getD (V.int i)) = V.int ((dlit kvs k).getD i) := by cases dlit kvs k <;> rfl
    rw [e]
    exact kk _ F2 H2 ((f0.trans f1).trans f2) S2 (.int _)⟩

/-! ### calls of the text's defs -/
/-- R ds d: called with the data ds the def hands back d -/
def SpP (K : Fg) (R : List PyData → PyData → Prop) : Sp := fun vs H Q _ => ∃ F ds d, RpAll K F vs ds ∧ Same F H ∧ R ds d ∧ ∀ v F' H', Stp [] F H F' H' → Rp K F' v d → Q v H'
/-- .. a new list of the data es -/
def SpN (K : Fg) (R : List PyData → List PyData → Prop) : Sp := fun vs H Q _ => ∃ F ds es, RpAll K F vs ds ∧ Same F H ∧ R ds es ∧
  ∀ p F' H' xs, Stp [] F H F' H' → H p = none → F' p = none → H' p = some (.lst xs) → xs.length ≤ sizeLine → RpAll K F' xs es → Q (.ref p) H'
/-- the first argument an own list, of the data c, that is changed to c' -/
def SpPo (K : Fg) (R : List PyData → List PyData → PyData → List PyData → Prop) : Sp := fun vs H Q _ => ∃ F p ws xs c ds d c', vs = .ref p :: ws ∧ RpAll K F ws ds ∧ Same F H ∧ F p = none ∧ H p = some (.lst xs) ∧ xs.length ≤ sizeLine ∧ RpAll K F xs c ∧ R c ds d c' ∧
  ∀ v F' H' ys, Stp [p] F H F' H' → F' p = none → H' p = some (.lst ys) → ys.length ≤ sizeLine → RpAll K F' ys c' → Rp K F' v d → Q v H'
def SpNo (K : Fg) (R : List PyData → List PyData → List PyData → List PyData → Prop) : Sp := fun vs H Q _ => ∃ F p ws xs c ds es c', vs = .ref p :: ws ∧ RpAll K F ws ds ∧ Same F H ∧ F p = none ∧ H p = some (.lst xs) ∧ xs.length ≤ sizeLine ∧ RpAll K F xs c ∧ R c ds es c' ∧
  ∀ q F' H' ys zs, Stp [p] F H F' H' → F' p = none → H' p = some (.lst ys) → ys.length ≤ sizeLine → RpAll K F' ys c' → H q = none → F' q = none → H' q = some (.lst zs) → zs.length ≤ sizeLine → RpAll K F' zs es → Q (.ref q) H'
variable {E0 : XK}
theorem rx_call {R : List PyData → PyData → Prop} {ds : List PyData} {d : PyData} (hR : R ds d) (ha : RA K t ρ O (ds.map .val) O1) : RX K (tCall (SpP K R) [] E0 t) ρ O d O1 := ⟨fun _ _ _ _ _ _ Q E S k => ha.go E S fun vs F1 H1 f1 E1 S1 r1 => by
  rw [List.append_nil]
  exact ⟨F1, ds, d, r1.all, S1.fh, hR, fun v F' H' st r => k v F' H' (f1.trans st.ff) (S1.call st) r⟩⟩
theorem rxo_call {R : List PyData → List PyData → Prop} {ds es : List PyData} (hR : R ds es) (ha : RA K t ρ O (ds.map .val) O1) : RXo K (tCall (SpN K R) [] E0 t) ρ O es O1 := ⟨fun _ _ _ _ _ _ Q E S k => ha.go E S fun vs F1 H1 f1 E1 S1 r1 => by
  rw [List.append_nil]
  refine ⟨F1, ds, es, r1.all, S1.fh, hR, fun p F' H' xs st h1 h2 h3 h4 h5 => k p F' H' (f1.trans st.ff) ?_⟩
  have S2 := S1.call st
  refine ⟨S2.f0, S2.fh, S2.keep, S2.live, S2.new, fun q hq => ?_, ?_⟩
  · rcases List.mem_cons.mp hq with rfl | hq
    · exact ⟨h2, fun _ => S1.noh0 h1, fun z => (Bool.false_ne_true z.symm).elim, xs, h3, h4, h5⟩
    · exact S2.own q hq
  · rw [List.map_cons, List.nodup_cons]
    refine ⟨fun hm => ?_, S2.nd⟩
    obtain ⟨q, hq, e⟩ := List.mem_map.mp hm
    obtain ⟨vs', g4⟩ := S1.ownL hq
    have e' : q.a = p := e
    rw [e', h1] at g4
    cases g4⟩
theorem rx_callo {R : List PyData → List PyData → PyData → List PyData → Prop} {a : Addr} {nw : Bool} {j : Nat} {c c' ds : List PyData} {d : PyData} (ha : RA K t ρ O (.adr a :: ds.map .val) O1) (hj : O1[j]? = some ⟨a, nw, c⟩) (hR : R c ds d c') :
    RX K (tCall (SpPo K R) [] E0 t) ρ O d (O1.set j ⟨a, nw, c'⟩) := ⟨fun _ _ _ _ _ _ Q E S k => ha.go E S fun vs F1 H1 f1 E1 S1 r1 => by
  rw [List.append_nil]
  obtain ⟨g1, g2, g3, xs, g4, g5, g6⟩ := S1.get hj
  cases r1 with
  | adr r1 =>
    exact ⟨F1, a, _, xs, c, ds, d, c', rfl, r1.all, S1.fh, g1, g4, g5, g6, hR, fun v F' H' ys st h1 h2 h3 h4 r => k v F' H' (f1.trans st.ff) (S1.call1 hj st h2 h3 h4) r⟩⟩
theorem rxo_callo {R : List PyData → List PyData → List PyData → List PyData → Prop} {a : Addr} {nw : Bool} {j : Nat} {c c' ds es : List PyData} (ha : RA K t ρ O (.adr a :: ds.map .val) O1) (hj : O1[j]? = some ⟨a, nw, c⟩) (hR : R c ds es c') :
    RXo K (tCall (SpNo K R) [] E0 t) ρ O es (O1.set j ⟨a, nw, c'⟩) := ⟨fun _ _ _ _ _ _ Q E S k => ha.go E S fun vs F1 H1 f1 E1 S1 r1 => by
  rw [List.append_nil]
  obtain ⟨g1, g2, g3, xs, g4, g5, g6⟩ := S1.get hj
  cases r1 with
  | adr r1 =>
    refine ⟨F1, a, _, xs, c, ds, es, c', rfl, r1.all, S1.fh, g1, g4, g5, g6, hR, fun q F' H' ys zs st h1 h2 h3 h4 n1 n2 n3 n4 n5 => k q F' H' (f1.trans st.ff) ?_⟩
    have S2 := S1.call1 hj st h2 h3 h4
    refine ⟨S2.f0, S2.fh, S2.keep, S2.live, S2.new, fun w hw => ?_, ?_⟩
    · rcases List.mem_cons.mp hw with rfl | hw
      · exact ⟨n2, fun _ => S1.noh0 n1, fun z => (Bool.false_ne_true z.symm).elim, zs, n3, n4, n5⟩
      · exact S2.own w hw
    · rw [List.map_cons, List.nodup_cons]
      refine ⟨fun hm => ?_, S2.nd⟩
      have e : (O1.set j ⟨a, nw, c'⟩).map OE.a = O1.map OE.a := by
        rw [List.map_set]
        apply List.ext_getElem?
        intro i
        by_cases e : j = i
        · subst e
          have hj' : j < O1.length := (List.getElem?_eq_some_iff.mp hj).1
          rw [List.getElem?_set_self (by simpa using hj'), List.getElem?_map, hj]; rfl
        · rw [List.getElem?_set_ne e]
      rw [e] at hm
      obtain ⟨w, hw, e'⟩ := List.mem_map.mp hm
      obtain ⟨vs', k4⟩ := S1.ownL hw
      have e2 : w.a = q := e'
      rw [e2, n1] at k4
      cases k4⟩

/-! ### targets -/
theorem rg_name {i : Nat} {d : PyData} : RG K (gName i) d ρ (ρ.set i (.val d)) [i] := ⟨fun σ F H v Q E r f k => k _ (E.setv r i) fun vs h => wipe_set _ (h i (by simp))⟩
inductive RGs (K : Fg) : TGs → List PyData → List Sl → List Sl → List Nat → Prop
  | nil {ρ : List Sl} : RGs K gNil [] ρ ρ []
  | cons {g : TG} {gs : TGs} {d : PyData} {ds : List PyData} {ρ ρ1 ρ2 : List Sl} {ts us : List Nat} : RG K g d ρ ρ1 ts → RGs K gs ds ρ1 ρ2 us → RGs K (gCons g gs) (d :: ds) ρ ρ2 (ts ++ us)
theorem RGs.run {g : TGs} {ds : List PyData} {ρ ρ' : List Sl} {ts : List Nat} (h : RGs K g ds ρ ρ' ts) : ∀ (σ : L2.St) (F H : Hp) (vs : List V) (Q : L2.St → Hp → Prop), EnvR K F σ ρ → RpAll K F vs ds → Same F H →
    (∀ σ', EnvR K F σ' ρ' → (∀ ws : List Nat, (∀ t ∈ ts, t ∈ ws) → L2.wipe σ' ws = L2.wipe σ ws) → Q σ' H) → g vs σ H Q := by
  induction h with
  | nil =>
    intro σ F H vs Q E r f k
    cases r
    exact ⟨rfl, k σ E fun _ _ => rfl⟩
  | cons h1 _ ih =>
    intro σ F H vs Q E r f k
    cases r with
    | cons r1 r2 =>
      refine ⟨_, _, rfl, h1.run σ F H _ _ E r1 f fun σ1 E1 w1 => ih σ1 F H _ Q E1 r2 f fun σ2 E2 w2 => k σ2 E2 fun ws hw => ?_⟩
      rw [w2 ws fun t ht => hw t (List.mem_append_right _ ht), w1 ws fun t ht => hw t (List.mem_append_left _ ht)]
theorem rg_tup {gs : TGs} {n : Nat} {ds : List PyData} {ρ ρ' : List Sl} {ts : List Nat} (h : RGs K gs ds ρ ρ' ts) (hn : ds.length = n := by rfl) : RG K (gTup K n gs) (.tuple ds) ρ ρ' ts := ⟨fun σ F H v Q E r f k => by
  cases r with
  | tup q1 q2 q3 => exact ⟨_, _, rfl, same_t f q1, by rw [q3.length, hn], h.run σ F H _ Q E q3 f k⟩⟩
end
end TL

namespace TL
open PySem L2
open Enc
/-! ### what loops walk -/
section
variable {K : Fg} {ta tb tc : TE} {ρ : List Sl} {O O1 O2 O3 : Os} {t : TA} {ys : List PyData}
theorem ri_list (h : RX K ta ρ O (.list ys) O1) : RI K (iList K ta) ρ O ys O1 := ⟨fun _ _ _ _ _ _ R E S k => h.go E S fun x F1 H1 f1 E1 S1 r1 => by
  cases r1 with
  | @lst a xs _ q1 q2 q3 =>
    refine ⟨a, rfl, ⟨xs, S1.fh.seq q1⟩, k _ F1 H1 f1 S1 ⟨by rw [← q3.length]; exact q2, fun _ _ _ F O H i hi f S => ?_, fun _ _ _ F O H f S => ?_, fun _ _ _ F O H i x H' hi f S y => ?_⟩⟩
    · rw [← q3.length] at hi
      exact ⟨xs, xs[i], (f.trans S.fh).seq q1, by simp [hi]⟩
    · exact ⟨xs, (f.trans S.fh).seq q1, by rw [q3.length]; exact Nat.le_refl _⟩
    · obtain ⟨e, y⟩ := y
      subst e
      obtain ⟨d, e, r⟩ := (q3.up f).getV (y xs ((f.trans S.fh).seq q1))
      exact ⟨F, d, Same.refl _, S, e, r⟩⟩
theorem ri_tup (h : RX K ta ρ O (.tuple ys) O1) : RI K (iTup K ta) ρ O ys O1 := ⟨fun _ _ _ _ _ _ R E S k => h.go E S fun x F1 H1 f1 E1 S1 r1 => by
  cases r1 with
  | @tup a xs _ q1 q2 q3 =>
    refine ⟨a, rfl, ⟨xs, same_t S1.fh q1⟩, k _ F1 H1 f1 S1 ⟨by rw [← q3.length]; exact q2, fun _ _ _ F O H i hi f S => ?_, fun _ _ _ F O H f S => ?_, fun _ _ _ F O H i x H' hi f S y => ?_⟩⟩
    · rw [← q3.length] at hi
      exact ⟨xs, xs[i], same_t (f.trans S.fh) q1, by simp [hi]⟩
    · exact ⟨xs, same_t (f.trans S.fh) q1, by rw [q3.length]; exact Nat.le_refl _⟩
    · obtain ⟨e, y⟩ := y
      subst e
      obtain ⟨d, e, r⟩ := (q3.up f).getV (y xs (same_t (f.trans S.fh) q1))
      exact ⟨F, d, Same.refl _, S, e, r⟩⟩
/-- lo, lo + 1, .. n of them -/
def rngL (lo : Int) (n : Nat) : List Int := (List.range n).map fun i => lo + (i : Nat)
theorem rngL_length (lo : Int) (n : Nat) : (rngL lo n).length = n := by unfold rngL; simp
theorem walk_rng {F1 : Hp} (lo : Int) (n : Nat) (hn : n ≤ sizeLine) : WalkD K (Itr lo n) ((rngL lo n).map .int) F1 := by
  have hl : ((rngL lo n).map PyData.int).length = n := by rw [List.length_map, rngL_length]
  refine ⟨by rw [hl]; exact hn, fun _ _ _ F O H i hi f S => ?_, fun _ _ _ F O H f S => ?_, fun _ _ _ F O H i x H' hi f S y => ?_⟩
  · rw [hl] at hi; exact hi
  · show n ≤ _; rw [hl]; exact Nat.le_refl _
  · obtain ⟨e, y⟩ := y
    subst e
    subst y
    rw [hl] at hi
    exact ⟨F, .int (lo + i), Same.refl _, S, by unfold rngL; simp [hi], .int _⟩
def rngO (n : Int) : Option (List Int) := if -4611686018427387904 ≤ n ∧ n ≤ 16777216 then some (rngL 0 n.toNat) else none
def rng2O (a b : Int) : Option (List Int) := if -4611686018427387904 ≤ a ∧ a ≤ 16777216 ∧ -4611686018427387904 ≤ b ∧ b - a ≤ 16777216 ∧ b ≤ 16777216 then some (rngL a (b - a).toNat) else none
theorem rngO_some {n : Int} {r : List Int} (h : rngO n = some r) : (-4611686018427387904 ≤ n ∧ n ≤ 16777216) ∧ r = rngL 0 n.toNat := by
  unfold rngO at h
  split at h
  · cases h; exact ⟨by assumption, rfl⟩
  · cases h
theorem ri_range {n : Int} {r : List Int} (hr : rngO n = some r) (h : RX K ta ρ O (.int n) O1) : RI K (iRng1 (tCons ta tNil)) ρ O (r.map .int) O1 := ⟨fun _ _ _ _ _ _ R E S k => h.go E S fun x F1 H1 f1 E1 S1 r1 => by
  obtain ⟨⟨h1, h2⟩, rfl⟩ := rngO_some hr
  cases r1
  have hs : sizeLine = 16777216 := sizeLine_eq
  exact ⟨n, rfl, by omega, by omega, k _ F1 H1 f1 S1 (walk_rng 0 n.toNat (by omega))⟩⟩
theorem ri_range2 {a b : Int} {r : List Int} (hr : rng2O a b = some r) (h : RX K ta ρ O (.int a) O1) (h' : RX K tb ρ O1 (.int b) O2) : RI K (iRng2 (tCons ta (tCons tb tNil))) ρ O (r.map .int) O2 := ⟨fun _ _ _ _ _ _ R E S k =>
  h.go E S fun x F1 H1 f1 E1 S1 r1 => h'.go E1 S1 fun y F2 H2 f2 E2 S2 r2 => by
    unfold rng2O at hr
    split at hr
    · rename_i hc
      obtain ⟨c1, c2, c3, c4, c5⟩ := hc
      cases hr
      cases r1
      cases r2
      have hs : sizeLine = 16777216 := sizeLine_eq
      exact ⟨a, b, rfl, ⟨by omega, by omega, by omega, by omega⟩, k _ F2 H2 (f1.trans f2) S2 (walk_rng a (b - a).toNat (by omega))⟩
    · cases hr⟩
/-- range(len(x)) and the like: what is known to be small -/
theorem ri_rangeN {n : Nat} (hn : n ≤ sizeLine) (h : RX K ta ρ O (.int (n : Nat)) O1) : RI K (iRng1 (tCons ta tNil)) ρ O ((rngL 0 n).map .int) O1 := ⟨fun _ _ _ _ _ _ R E S k => h.go E S fun x F1 H1 f1 E1 S1 r1 => by
  cases r1
  have hs : sizeLine = 16777216 := sizeLine_eq
  refine ⟨(n : Nat), rfl, by omega, by omega, k _ F1 H1 f1 S1 ?_⟩
  rw [Int.toNat_natCast]
  exact walk_rng 0 n hn⟩
theorem ri_rangeLen {ds : List PyData} (ha : RXs K ta ρ O ds O1) : RI K (iRng1 (tCons (tCB (rLenQ K) (tCons ta tNil)) tNil)) ρ O ((rngL 0 ds.length).map .int) O1 := ⟨fun _ _ _ _ _ _ R E S k => by
  refine ha.go E S fun a F1 H1 f1 E1 S1 r1 => ?_
  obtain ⟨vs, q1, q2, q3⟩ := r1 F1 H1 (Same.refl _) S1
  have hs : sizeLine = 16777216 := sizeLine_eq
  refine ⟨a, vs, rfl, .inl q1, (vs.length : Nat), rfl, by omega, by omega, k _ F1 H1 f1 S1 ?_⟩
  rw [Int.toNat_natCast, q3.length]
  exact walk_rng 0 _ (by rw [← q3.length]; exact q2)⟩
theorem ri_rangeLenT {ds : List PyData} (ha : RX K ta ρ O (.tuple ds) O1) : RI K (iRng1 (tCons (tCB (rLenQ K) (tCons ta tNil)) tNil)) ρ O ((rngL 0 ds.length).map .int) O1 := ⟨fun _ _ _ _ _ _ R E S k => by
  refine ha.go E S fun x F1 H1 f1 E1 S1 r1 => ?_
  cases r1 with
  | @tup a xs _ q1 q2 q3 =>
    have hs : sizeLine = 16777216 := sizeLine_eq
    refine ⟨a, xs, rfl, .inr (same_t S1.fh q1), (xs.length : Nat), rfl, by omega, by omega, k _ F1 H1 f1 S1 ?_⟩
    rw [Int.toNat_natCast, q3.length]
    exact walk_rng 0 _ (by rw [← q3.length]; exact q2)⟩
/-- a, a + c, .. -/
def rngC (a c : Int) (n : Nat) : List Int := (List.range n).map fun i => a + (i : Nat) * c
theorem walk_rngC {F1 : Hp} (lo c : Int) (n : Nat) (hn : n ≤ sizeLine) : WalkD K (Itc lo c n) ((rngC lo c n).map .int) F1 := by
  have hl : ((rngC lo c n).map PyData.int).length = n := by unfold rngC; simp
  refine ⟨by rw [hl]; exact hn, fun _ _ _ F O H i hi f S => ?_, fun _ _ _ F O H f S => ?_, fun _ _ _ F O H i x H' hi f S y => ?_⟩
  · rw [hl] at hi; exact hi
  · show n ≤ _; rw [hl]; exact Nat.le_refl _
  · obtain ⟨e, y⟩ := y
    subst e
    subst y
    rw [hl] at hi
    exact ⟨F, .int (lo + i * c), Same.refl _, S, by unfold rngC; simp [hi], .int _⟩
def rngDownO (a b : Int) : Option (List Int) := if -16777216 ≤ a ∧ a ≤ 16777216 ∧ -16777216 ≤ b ∧ b ≤ 16777216 ∧ a - b ≤ 16777216 then some (rngC a (-1) (a - b).toNat) else none
/-- range(a, b, -1) -/
theorem ri_rangeDown {a b : Int} {r : List Int} (hr : rngDownO a b = some r) (h : RX K ta ρ O (.int a) O1) (h' : RX K tb ρ O1 (.int b) O2) (h2 : RX K tc ρ O2 (.int (-1)) O3) : RI K (iRng3 (tCons ta (tCons tb (tCons tc tNil)))) ρ O (r.map .int) O3 := ⟨fun _ _ _ _ _ _ R E S k =>
  h.go E S fun x F1 H1 f1 E1 S1 r1 => h'.go E1 S1 fun y F2 H2 f2 E2 S2 r2 => h2.go E2 S2 fun z F3 H3 f3 E3 S3 r3 => by
    unfold rngDownO at hr
    split at hr
    · rename_i hc
      obtain ⟨c1, c2, c3, c4, c5⟩ := hc
      cases hr
      cases r1
      cases r2
      cases r3
      have hs : sizeLine = 16777216 := sizeLine_eq
      exact ⟨a, b, -1, (a - b).toNat, rfl, RgC.neg (by omega) (by omega) (by omega) (by omega), k _ F3 H3 ((f1.trans f2).trans f3) S3 (walk_rngC a (-1) _ (by omega))⟩
    · cases hr⟩
/-- a pair that an iterator makes -/
theorem pair_put {F0 H0 F H : Hp} {D0 : List Addr} {x y : V} {d e : PyData} {T : Addr} (S : Hx K F0 H0 D0 F O H) (hT : H T = none) (r1 : Rp K F x d) (r2 : Rp K F y e) :
    ∃ F', Same F F' ∧ Hx K F0 H0 D0 F' O (upd H T (.tup [x, y])) ∧ Rp K F' (.ref T) (.tuple [d, e]) := by
  have f := same_upd (o := .tup [x, y]) (S.nof hT)
  exact ⟨_, f, S.put hT, .tup (SqT.of upd_same) (by show 2 ≤ sizeLine; decide) (.cons (r1.up f) (.cons (r2.up f) .nil))⟩
def enumD (ys : List PyData) : List PyData := ys.zipIdx.map fun p => .tuple [.int (p.2 : Nat), p.1]
theorem ri_enum (h : RX K ta ρ O (.list ys) O1) : RI K (iEnum K (tCons ta tNil)) ρ O (enumD ys) O1 := ⟨fun _ _ _ _ _ _ R E S k => h.go E S fun x F1 H1 f1 E1 S1 r1 => by
  cases r1 with
  | @lst a xs _ q1 q2 q3 =>
    have hl : (enumD ys).length = ys.length := by unfold enumD; simp
    refine ⟨a, xs, rfl, S1.fh.seq q1, k _ F1 H1 f1 S1 ⟨by rw [hl, ← q3.length]; exact q2, fun _ _ _ F O H i hi f S => ?_, fun _ _ _ F O H f S => ?_, fun _ _ _ F O H i x H' hi f S y => ?_⟩⟩
    · rw [hl, ← q3.length] at hi
      exact ⟨xs, xs[i], (f.trans S.fh).seq q1, by simp [hi]⟩
    · exact ⟨xs, (f.trans S.fh).seq q1, by rw [q3.length, hl]; exact Nat.le_refl _⟩
    · obtain ⟨T, z, rfl, hT, rfl, y⟩ := y
      obtain ⟨d, e, r⟩ := (q3.up f).getV (y xs ((f.trans S.fh).seq q1))
      obtain ⟨F2, f2, S2, r2⟩ := pair_put S hT (.int (i : Nat)) r
      exact ⟨F2, _, f2, S2, by unfold enumD; simp [e], r2⟩⟩
def zipD (ys zs : List PyData) : List PyData := (ys.zip zs).map fun p => .tuple [p.1, p.2]
theorem ri_zip {zs : List PyData} (h : RX K ta ρ O (.list ys) O1) (h' : RX K tb ρ O1 (.list zs) O2) : RI K (iZip K (tCons ta (tCons tb tNil))) ρ O (zipD ys zs) O2 := ⟨fun _ _ _ _ _ _ R E S k =>
  h.go E S fun x F1 H1 f1 E1 S1 r1 => h'.go E1 S1 fun y F2 H2 f2 E2 S2 r2 => by
    have r1' := r1.up f2
    cases r1' with
    | @lst a xs _ q1 q2 q3 =>
      cases r2 with
      | @lst b ws _ p1 p2 p3 =>
        have hl : (zipD ys zs).length = min xs.length ws.length := by unfold zipD; rw [List.length_map, List.length_zip, q3.length, p3.length]
        refine ⟨a, b, xs, ws, rfl, S2.fh.seq q1, S2.fh.seq p1, k _ F2 H2 (f1.trans f2) S2 ⟨by omega, fun _ _ _ F O H i hi f S => ?_, fun _ _ _ F O H f S => ?_, fun _ _ _ F O H i x H' hi f S y => ?_⟩⟩
        · have h1 : i < xs.length := by omega
          have h2 : i < ws.length := by omega
          exact ⟨xs, ws, xs[i], ws[i], (f.trans S.fh).seq q1, (f.trans S.fh).seq p1, by simp [h1], by simp [h2]⟩
        · exact ⟨xs, ws, (f.trans S.fh).seq q1, (f.trans S.fh).seq p1, by omega⟩
        · obtain ⟨T, u, v, rfl, hT, rfl, y1, y2⟩ := y
          obtain ⟨d, e, r⟩ := (q3.up f).getV (y1 xs ((f.trans S.fh).seq q1))
          obtain ⟨d', e', r'⟩ := (p3.up f).getV (y2 ws ((f.trans S.fh).seq p1))
          obtain ⟨F3, f3, S3, r3⟩ := pair_put S hT r r'
          refine ⟨F3, _, f3, S3, ?_, r3⟩
          unfold zipD
          have ez : (ys.zip zs)[i]? = some (d, d') := List.getElem?_zip_eq_some.mpr ⟨e, e'⟩
          rw [List.getElem?_map, ez]
          rfl⟩
/-- a text, sign by sign -/
def signs (z : Str) : List Str := z.cps.toList.map fun c => ⟨#[c]⟩
theorem ri_str {z : Str} (hz : z.length ≤ sizeLine) (h : RX K ta ρ O (.str z) O1) : RI K (iStr ta) ρ O ((signs z).map .str) O1 := ⟨fun _ _ _ _ _ _ R E S k => h.go E S fun x F1 H1 f1 E1 S1 r1 => by
  cases r1
  have hl : ((signs z).map PyData.str).length = z.cps.size := by unfold signs; simp
  refine ⟨z, rfl, k _ F1 H1 f1 S1 ⟨by rw [hl]; exact hz, fun _ _ _ F O H i hi f S => ?_, fun _ _ _ F O H f S => ?_, fun _ _ _ F O H i x H' hi f S y => ?_⟩⟩
  · rw [hl] at hi; exact hi
  · show z.cps.size ≤ _; rw [hl]; exact Nat.le_refl _
  · obtain ⟨e, c, hc, y⟩ := y
    subst e
    subst y
    refine ⟨F, .str ⟨#[c]⟩, Same.refl _, S, ?_, .str _⟩
    unfold signs
    rw [List.map_map, List.getElem?_map, Array.getElem?_toList, hc]
    rfl⟩
end

/-! ### loops in plain data -/
/-- [f x for x in xs if ..], a state handed on; none within: left out -/
def fmS {α β S : Type} (g : α → S → Option (Option β × S)) : List α → S → Option (List β × S)
  | [], s => some ([], s)
  | x :: xs, s => (g x s).bind fun r => (fmS g xs r.2).bind fun q => some (match r.1 with | none => q.1 | some y => y :: q.1, q.2)
def forS {α S : Type} (f : α → S → Option S) : List α → S → Option S
  | [], s => some s
  | x :: xs, s => (f x s).bind fun s' => forS f xs s'
inductive Fl (S R : Type) where
  | nx (s : S)
  | bk (s : S)
  | rt (r : R)
def forF {α S R : Type} (f : α → S → Option (Fl S R)) : List α → S → Option (Fl S R)
  | [], s => some (.nx s)
  | x :: xs, s => (f x s).bind fun r => match r with
    | .nx s' => forF f xs s'
    | .bk s' => some (.nx s')
    | .rt r => some (.rt r)
def whileS {S : Type} (c : S → Option Bool) (f : S → Option S) : Nat → S → Option S
  | 0, _ => none
  | n + 1, s => (c s).bind fun b => if b = true then (f s).bind fun s' => whileS c f n s' else some s
def whileF {S R : Type} (c : S → Option Bool) (f : S → Option (Fl S R)) : Nat → S → Option (Fl S R)
  | 0, _ => none
  | n + 1, s => (c s).bind fun b => if b = true then (f s).bind fun r => match r with
    | .nx s' => whileF c f n s'
    | .bk s' => some (.nx s')
    | .rt r => some (.rt r) else some (.nx s)
theorem bindE {α β : Type} {m : Option α} {f : α → Option β} {r : β} (h : m.bind f = some r) : ∃ x, m = some x ∧ f x = some r := by
  cases m with
  | none => cases h
  | some x => exact ⟨x, rfl, h⟩

/-! ### comprehensions -/
section
variable {K : Fg} {ρ : List Sl} {O : Os}
theorem rxo_lcS {α β S : Type} {eα : α → PyData} {eβ : β → PyData} {wi : TI} {g : TG} {tt : TT} {te : TE} {vs : List Nat} {xs : List α} {Of : S → Os} {s0 s1 : S} {zs : List β} {f : α → S → Option (Option β × S)} (ρx : α → List Sl) (ts : List Nat)
    (hI : RI K wi ρ O (xs.map eα) (Of s0)) (hf : fmS f xs s0 = some (zs, s1)) (hts : ∀ t ∈ ts, t ∈ vs) (hg : ∀ x ∈ xs, RG K g (eα x) (wipeS ρ vs) (ρx x) ts)
    (step : ∀ x ∈ xs, ∀ s o s', f x s = some (o, s') → ∃ b s2, (∀ D acc, RT K tt (ρx x) (⟨D, true, acc⟩ :: Of s) b (⟨D, true, acc⟩ :: Of s2)) ∧
      (b = true → ∃ y, o = some y ∧ ∀ D acc, RX K te (ρx x) (⟨D, true, acc⟩ :: Of s2) (eβ y) (⟨D, true, acc⟩ :: Of s')) ∧ (b = false → o = none ∧ s2 = s')) :
    RXo K (tLc wi g tt te vs) ρ O (zs.map eβ) (Of s1) := ⟨fun F0 H0 D0 σ F H Q E S k => hI.go E S fun J F1 H1 f1 E1 S1 w => by
  intro D hD
  have hl : (xs.map eα).length = xs.length := List.length_map _
  have W : Walk J xs.length (fun H => ∃ F O, Same F1 F ∧ Hx K F0 H0 D0 F O H) (fun i H x H' => ∀ F O, Same F1 F → Hx K F0 H0 D0 F O H → ∃ F' y, Same F F' ∧ Hx K F0 H0 D0 F' O H' ∧ xs[i]? = some y ∧ Rp K F' x (eα y)) := by
    refine ⟨fun i H hi q => ?_, fun H q => ?_, fun i H x H' hi _ y F O f S => ?_⟩
    · obtain ⟨F, O, f, S⟩ := q
      exact w.go F0 H0 D0 F O H i (by rw [hl]; exact hi) f S
    · obtain ⟨F, O, f, S⟩ := q
      have := w.stop F0 H0 D0 F O H f S
      rw [hl] at this
      exact this
    · obtain ⟨F', y', f', S', e, r⟩ := w.yld F0 H0 D0 F O H i x H' (by rw [hl]; exact hi) f S y
      rw [List.getElem?_map] at e
      cases e2 : xs[i]? with
      | none => rw [e2] at e; cases e
      | some z =>
        rw [e2] at e
        have e3 : eα z = y' := Option.some.inj e
        subst e3
        exact ⟨F', z, f', S', rfl, r⟩
  refine lc_it W (fun i H => ∃ s F, ∃ acc : List PyData, ∃ zr, Same F1 F ∧ Hx K F0 H0 D0 F (⟨D, true, acc⟩ :: Of s) H ∧ fmS f (xs.drop i) s = some (zr, s1) ∧ acc ++ zr.map eβ = zs.map eβ ∧ acc.length ≤ i) ⟨s0, F1, [], zs, Same.refl _, S1.mine hD (Nat.zero_le _) .nil, hf, rfl, Nat.le_refl _⟩
    (fun i H _ q => by obtain ⟨s, F, acc, zr, q1, q2, _⟩ := q; exact ⟨F, _, q1, q2⟩) (fun i x H H' hi q y => ?_) (fun H q => ?_)
  · obtain ⟨s, F, acc, zr, q1, q2, q3, q4, q5⟩ := q
    obtain ⟨F2, z, f2, S2, ez, rz⟩ := y F _ q1 q2
    have hm : z ∈ xs := List.mem_of_getElem? ez
    have hi' : xs[i] = z := by
      rw [List.getElem?_eq_getElem hi] at ez
      exact Option.some.inj ez
    rw [List.drop_eq_getElem_cons hi, hi'] at q3
    obtain ⟨⟨o, s'⟩, e1, q3⟩ := bindE q3
    obtain ⟨⟨zr', s1'⟩, e2, q3⟩ := bindE q3
    obtain ⟨b, s2, hb, ht, hn⟩ := step z hm s o s' e1
    have q3 := Option.some.inj q3
    have es : s1' = s1 := congrArg Prod.snd q3
    subst es
    refine (hg z hm).run _ F2 H' x _ ((E1.wipe vs).up (q1.trans f2)) rz S2.fh fun σ' E' wq => ⟨(wq vs hts).trans (wipe_wipe σ vs), (hb D acc).go E' S2 fun F3 H3 f3 E3 S3 => ?_⟩
    cases b with
    | true =>
      obtain ⟨y, eo, hy⟩ := ht rfl
      subst eo
      refine iteT ((hy D acc).go E3 S3 fun v F4 H4 f4 E4 S4 r4 => ?_)
      obtain ⟨g1, g2, g3, us, g4, g5, g6⟩ := S4.get (j := 0) rfl
      have g4' : H4 D = some (.lst us) := g4
      have gl : us.length = acc.length := RpAll.length g6
      have hlt : us.length < sizeLine := by
        have := w.sz
        rw [hl] at this
        omega
      refine ⟨us, g4', hlt, s', F4, acc ++ [eβ y], zr', ((q1.trans f2).trans f3).trans f4, ?_, e2, ?_, ?_⟩
      · exact S4.mut (j := 0) (l := D) (nw := true) (ds := acc) (ds' := acc ++ [eβ y]) rfl (by rw [List.length_append, List.length_singleton]; omega) (RpAll.append g6 (.cons r4 .nil))
      · have ez' : zr = y :: zr' := (congrArg Prod.fst q3).symm
        rw [← q4, ez', List.map_cons, List.append_assoc]
        rfl
      · rw [List.length_append, List.length_singleton]; omega
    | false =>
      obtain ⟨eo, es⟩ := hn rfl
      subst eo
      subst es
      have ez' : zr = zr' := (congrArg Prod.fst q3).symm
      exact iteF ⟨s2, F3, acc, zr', (q1.trans f2).trans f3, S3, e2, by rw [← q4, ez'], by omega⟩
  · obtain ⟨s, F, acc, zr, q1, q2, q3, q4, q5⟩ := q
    rw [List.drop_length] at q3
    have q3' := Option.some.inj q3
    have e1 : zr = [] := (congrArg Prod.fst q3').symm
    have e2 : s = s1 := congrArg Prod.snd q3'
    subst e1
    subst e2
    rw [List.map_nil, List.append_nil] at q4
    rw [← q4] at k
    exact k D F H (f1.trans q1) q2⟩
end
end TL

namespace TL
open PySem L2
open Enc
/-! ### comprehensions, plain -/
def mapO {α β : Type} (f : α → Option β) : List α → Option (List β)
  | [] => some []
  | x :: xs => (f x).bind fun y => (mapO f xs).bind fun ys => some (y :: ys)
def filtO {α β : Type} (p : α → Option Bool) (f : α → Option β) : List α → Option (List β)
  | [] => some []
  | x :: xs => (p x).bind fun b => if b = true then (f x).bind fun y => (filtO p f xs).bind fun ys => some (y :: ys) else filtO p f xs
/-- with a state, all kept -/
def mapS {α β S : Type} (f : α → S → Option (β × S)) : List α → S → Option (List β × S)
  | [], s => some ([], s)
  | x :: xs, s => (f x s).bind fun r => (mapS f xs r.2).bind fun q => some (r.1 :: q.1, q.2)
def filtS {α β S : Type} (p : α → S → Option (Bool × S)) (f : α → S → Option (β × S)) : List α → S → Option (List β × S)
  | [], s => some ([], s)
  | x :: xs, s => (p x s).bind fun b => if b.1 = true then (f x b.2).bind fun r => (filtS p f xs r.2).bind fun q => some (r.1 :: q.1, q.2) else filtS p f xs b.2
section
variable {K : Fg} {ρ : List Sl} {O O1 : Os} {α β S : Type} {eα : α → PyData} {eβ : β → PyData} {wi : TI} {g : TG} {tt : TT} {te : TE} {vs : List Nat} {xs : List α}
theorem mapS_fm {f : α → S → Option (β × S)} : ∀ (xs : List α) (s : S), fmS (fun x s => (f x s).bind fun r => some (some r.1, r.2)) xs s = mapS f xs s
  | [], s => rfl
  | x :: xs, s => by
    unfold fmS mapS
    cases f x s with
    | none => rfl
    | some r =>
      simp only [Option.bind_some]
      rw [mapS_fm xs r.2]
theorem filtS_fm {p : α → S → Option (Bool × S)} {f : α → S → Option (β × S)} : ∀ (xs : List α) (s : S), fmS (fun x s => (p x s).bind fun b => if b.1 = true then (f x b.2).bind fun r => some (some r.1, r.2) else some (none, b.2)) xs s = filtS p f xs s
  | [], s => rfl
  | x :: xs, s => by
    unfold fmS filtS
    cases p x s with
    | none => rfl
    | some b =>
      simp only [Option.bind_some]
      cases b.1 with
      | true =>
        simp only [if_true]
        cases f x b.2 with
        | none => rfl
        | some r =>
          simp only [Option.bind_some]
          rw [filtS_fm xs r.2]
      | false =>
        simp only [Bool.false_eq_true, if_false, Option.bind_some]
        rw [filtS_fm xs b.2]
        cases filtS p f xs b.2 with
        | none => rfl
        | some q => rfl
theorem rt_yes : RT K tYes ρ O true O := ⟨fun _ _ _ _ _ _ Q E S k => k _ _ (Same.refl _) S⟩
theorem rxo_mapS {Of : S → Os} {s0 s1 : S} {zs : List β} {f : α → S → Option (β × S)} (ρx : α → List Sl) (ts : List Nat) (hI : RI K wi ρ O (xs.map eα) (Of s0)) (hf : mapS f xs s0 = some (zs, s1)) (hts : ∀ t ∈ ts, t ∈ vs)
    (hg : ∀ x ∈ xs, RG K g (eα x) (wipeS ρ vs) (ρx x) ts) (he : ∀ x ∈ xs, ∀ s y s', f x s = some (y, s') → ∀ D acc, RX K te (ρx x) (⟨D, true, acc⟩ :: Of s) (eβ y) (⟨D, true, acc⟩ :: Of s')) :
    RXo K (tLc wi g tYes te vs) ρ O (zs.map eβ) (Of s1) :=
  rxo_lcS ρx ts hI ((mapS_fm xs s0).trans hf) hts hg fun x hx s o s' e => by
    obtain ⟨r, e1, e2⟩ := bindE e
    have e2 := Option.some.inj e2
    refine ⟨true, s, fun D acc => rt_yes, fun _ => ⟨r.1, (congrArg Prod.fst e2).symm, fun D acc => ?_⟩, fun q => (Bool.false_ne_true q.symm).elim⟩
    have e3 : r.2 = s' := congrArg Prod.snd e2
    subst e3
    exact he x hx s r.1 r.2 e1 D acc
theorem rxo_filtS {Of : S → Os} {s0 s1 : S} {zs : List β} {p : α → S → Option (Bool × S)} {f : α → S → Option (β × S)} (ρx : α → List Sl) (ts : List Nat) (hI : RI K wi ρ O (xs.map eα) (Of s0)) (hf : filtS p f xs s0 = some (zs, s1)) (hts : ∀ t ∈ ts, t ∈ vs)
    (hg : ∀ x ∈ xs, RG K g (eα x) (wipeS ρ vs) (ρx x) ts) (ht : ∀ x ∈ xs, ∀ s b s', p x s = some (b, s') → ∀ D acc, RT K tt (ρx x) (⟨D, true, acc⟩ :: Of s) b (⟨D, true, acc⟩ :: Of s'))
    (he : ∀ x ∈ xs, ∀ s y s', f x s = some (y, s') → ∀ D acc, RX K te (ρx x) (⟨D, true, acc⟩ :: Of s) (eβ y) (⟨D, true, acc⟩ :: Of s')) :
    RXo K (tLc wi g tt te vs) ρ O (zs.map eβ) (Of s1) :=
  rxo_lcS ρx ts hI ((filtS_fm xs s0).trans hf) hts hg fun x hx s o s' e => by
    obtain ⟨⟨b, s2⟩, e1, e2⟩ := bindE e
    refine ⟨b, s2, ht x hx s b s2 e1, fun q => ?_, fun q => ?_⟩
    · subst q
      have e2 : ((f x s2).bind fun r => some (some r.1, r.2)) = some (o, s') := e2
      obtain ⟨r, e3, e4⟩ := bindE e2
      have e4 := Option.some.inj e4
      have e5 : r.2 = s' := congrArg Prod.snd e4
      subst e5
      exact ⟨r.1, (congrArg Prod.fst e4).symm, he x hx s2 r.1 r.2 e3⟩
    · subst q
      have e2 : (some (none, s2) : Option (Option β × S)) = some (o, s') := e2
      have e2 := Option.some.inj e2
      exact ⟨(congrArg Prod.fst e2).symm, congrArg Prod.snd e2⟩
theorem mapO_S {f : α → Option β} : ∀ (xs : List α), mapS (fun x (_ : Unit) => (f x).bind fun y => some (y, ())) xs () = (mapO f xs).bind fun ys => some (ys, ())
  | [] => rfl
  | x :: xs => by
    unfold mapS mapO
    cases f x with
    | none => rfl
    | some r =>
      simp only [Option.bind_some]
      rw [mapO_S xs]
      cases mapO f xs with
      | none => rfl
      | some ys => rfl
theorem filtO_S {p : α → Option Bool} {f : α → Option β} : ∀ (xs : List α), filtS (fun x (_ : Unit) => (p x).bind fun y => some (y, ())) (fun x (_ : Unit) => (f x).bind fun y => some (y, ())) xs () = (filtO p f xs).bind fun ys => some (ys, ())
  | [] => rfl
  | x :: xs => by
    unfold filtS filtO
    cases p x with
    | none => rfl
    | some b =>
      simp only [Option.bind_some]
      cases b with
      | true =>
        simp only [if_true]
        cases f x with
        | none => rfl
        | some r =>
          simp only [Option.bind_some]
          rw [filtO_S xs]
          cases filtO p f xs with
          | none => rfl
          | some ys => rfl
      | false =>
        simp only [Bool.false_eq_true, if_false]
        rw [filtO_S xs]
theorem rxo_mapO {zs : List β} {f : α → Option β} (ρx : α → List Sl) (ts : List Nat) (hI : RI K wi ρ O (xs.map eα) O1) (hf : mapO f xs = some zs) (hts : ∀ t ∈ ts, t ∈ vs)
    (hg : ∀ x ∈ xs, RG K g (eα x) (wipeS ρ vs) (ρx x) ts) (he : ∀ x ∈ xs, ∀ y, f x = some y → ∀ D acc, RX K te (ρx x) (⟨D, true, acc⟩ :: O1) (eβ y) (⟨D, true, acc⟩ :: O1)) :
    RXo K (tLc wi g tYes te vs) ρ O (zs.map eβ) O1 :=
  rxo_mapS (S := Unit) (Of := fun _ => O1) (s0 := ()) (s1 := ()) (f := fun x (_ : Unit) => (f x).bind fun y => some (y, ())) ρx ts hI (by rw [mapO_S, hf]; rfl) hts hg fun x hx s y s' e D acc => by
    obtain ⟨z, e1, e2⟩ := bindE e
    have e2 := Option.some.inj e2
    have e3 : z = y := congrArg Prod.fst e2
    subst e3
    exact he x hx z e1 D acc
theorem rxo_filtO {zs : List β} {p : α → Option Bool} {f : α → Option β} (ρx : α → List Sl) (ts : List Nat) (hI : RI K wi ρ O (xs.map eα) O1) (hf : filtO p f xs = some zs) (hts : ∀ t ∈ ts, t ∈ vs)
    (hg : ∀ x ∈ xs, RG K g (eα x) (wipeS ρ vs) (ρx x) ts) (ht : ∀ x ∈ xs, ∀ b, p x = some b → ∀ D acc, RT K tt (ρx x) (⟨D, true, acc⟩ :: O1) b (⟨D, true, acc⟩ :: O1))
    (he : ∀ x ∈ xs, ∀ y, f x = some y → ∀ D acc, RX K te (ρx x) (⟨D, true, acc⟩ :: O1) (eβ y) (⟨D, true, acc⟩ :: O1)) :
    RXo K (tLc wi g tt te vs) ρ O (zs.map eβ) O1 :=
  rxo_filtS (S := Unit) (Of := fun _ => O1) (s0 := ()) (s1 := ()) (p := fun x (_ : Unit) => (p x).bind fun y => some (y, ())) (f := fun x (_ : Unit) => (f x).bind fun y => some (y, ())) ρx ts hI (by rw [filtO_S, hf]; rfl) hts hg (fun x hx s y s' e D acc => by
    obtain ⟨z, e1, e2⟩ := bindE e
    have e2 := Option.some.inj e2
    have e3 : z = y := congrArg Prod.fst e2
    subst e3
    exact ht x hx z e1 D acc) fun x hx s y s' e D acc => by
    obtain ⟨z, e1, e2⟩ := bindE e
    have e2 := Option.some.inj e2
    have e3 : z = y := congrArg Prod.fst e2
    subst e3
    exact he x hx z e1 D acc
theorem mapO_some {f : α → β} : ∀ xs : List α, mapO (fun x => some (f x)) xs = some (xs.map f)
  | [] => rfl
  | x :: xs => by unfold mapO; rw [mapO_some xs]; rfl
theorem filtO_some {p : α → Bool} {f : α → β} : ∀ xs : List α, filtO (fun x => some (p x)) (fun x => some (f x)) xs = some ((xs.filter p).map f)
  | [] => rfl
  | x :: xs => by
    unfold filtO
    rw [filtO_some xs, List.filter_cons]
    simp only [Option.bind_some]
    cases p x <;> rfl
theorem rxo_map {f : α → β} (ρx : α → List Sl) (ts : List Nat) (hI : RI K wi ρ O (xs.map eα) O1) (hts : ∀ t ∈ ts, t ∈ vs)
    (hg : ∀ x ∈ xs, RG K g (eα x) (wipeS ρ vs) (ρx x) ts) (he : ∀ x ∈ xs, ∀ D acc, RX K te (ρx x) (⟨D, true, acc⟩ :: O1) (eβ (f x)) (⟨D, true, acc⟩ :: O1)) :
    RXo K (tLc wi g tYes te vs) ρ O ((xs.map f).map eβ) O1 :=
  rxo_mapO (f := fun x => some (f x)) ρx ts hI (mapO_some xs) hts hg fun x hx y e D acc => by
    have e := Option.some.inj e
    subst e
    exact he x hx D acc
theorem rxo_filt {p : α → Bool} {f : α → β} (ρx : α → List Sl) (ts : List Nat) (hI : RI K wi ρ O (xs.map eα) O1) (hts : ∀ t ∈ ts, t ∈ vs)
    (hg : ∀ x ∈ xs, RG K g (eα x) (wipeS ρ vs) (ρx x) ts) (ht : ∀ x ∈ xs, ∀ D acc, RT K tt (ρx x) (⟨D, true, acc⟩ :: O1) (p x) (⟨D, true, acc⟩ :: O1))
    (he : ∀ x ∈ xs, ∀ D acc, RX K te (ρx x) (⟨D, true, acc⟩ :: O1) (eβ (f x)) (⟨D, true, acc⟩ :: O1)) :
    RXo K (tLc wi g tt te vs) ρ O (((xs.filter p).map f).map eβ) O1 :=
  rxo_filtO (p := fun x => some (p x)) (f := fun x => some (f x)) ρx ts hI (filtO_some xs) hts hg (fun x hx y e D acc => by
    have e := Option.some.inj e
    subst e
    exact ht x hx D acc) fun x hx y e D acc => by
    have e := Option.some.inj e
    subst e
    exact he x hx D acc
/-- sources by kinds -/
def enumL (xs : List α) : List (Int × α) := xs.zipIdx.map fun p => ((p.2 : Nat), p.1)
theorem ri_enumT [Enc α] {ta : TE} (h : RX K ta ρ O (.list (xs.map enc)) O1) : RI K (iEnum K (tCons ta tNil)) ρ O ((enumL xs).map enc) O1 := by
  have e : (enumL xs).map enc = enumD (xs.map enc) := by
    unfold enumL enumD
    rw [List.map_map, List.zipIdx_map, List.map_map]
    rfl
  rw [e]
  exact ri_enum h
theorem ri_zipT [Enc α] [Enc β] {ta tb : TE} {ys : List β} {O2 : Os} (h : RX K ta ρ O (.list (xs.map enc)) O1) (h' : RX K tb ρ O1 (.list (ys.map enc)) O2) : RI K (iZip K (tCons ta (tCons tb tNil))) ρ O ((xs.zip ys).map enc) O2 := by
  have e : (xs.zip ys).map enc = zipD (xs.map enc) (ys.map enc) := by
    unfold zipD
    rw [List.zip_map, List.map_map]
    rfl
  rw [e]
  exact ri_zip h h'
end

/-! ### statements -/
theorem sq {t u : TS} {D : Ends} {σ : L2.St} {H : Hp} (h : t { D with nx := u D } σ H) : tSeq t u D σ H := h
section
variable {K : Fg} {ta tb tc te : TE} {ρ ρ' : List Sl} {O O' O1 O2 O3 : Os} {F0 H0 F H : Hp} {D0 : List Addr} {σ : L2.St} {D : Ends} {d : PyData} {ds : List PyData}
theorem st_set {i : Nat} (h : RX K te ρ O d O') (E : EnvR K F σ ρ) (S : Hx K F0 H0 D0 F O H) (k : ∀ σ' F' H', Same F F' → EnvR K F' σ' (ρ.set i (.val d)) → Hx K F0 H0 D0 F' O' H' → D.nx σ' H') : tAsg te (gName i) D σ H :=
  h.go E S fun v F' H' f E' S' r => k _ F' H' f (E'.setv r i) S'
theorem st_setO {i : Nat} (h : RXo K te ρ O ds O') (E : EnvR K F σ ρ) (S : Hx K F0 H0 D0 F O H) (k : ∀ p σ' F' H', Same F F' → EnvR K F' σ' (ρ.set i (.adr p)) → Hx K F0 H0 D0 F' (⟨p, true, ds⟩ :: O') H' → D.nx σ' H') : tAsg te (gName i) D σ H :=
  h.go E S fun p F' H' f E' S' => k p _ F' H' f (E'.seta i) S'
theorem st_unp {g : TG} {ts : List Nat} (h : RX K te ρ O d O') (hg : RG K g d ρ ρ' ts) (E : EnvR K F σ ρ) (S : Hx K F0 H0 D0 F O H) (k : ∀ σ' F' H', Same F F' → EnvR K F' σ' ρ' → Hx K F0 H0 D0 F' O' H' → D.nx σ' H') : tAsg te g D σ H :=
  h.go E S fun v F' H' f E' S' r => hg.run _ F' H' v _ E' r S'.fh fun σ' E2 _ => k σ' F' H' f E2 S'
def setO {α : Type} (xs : List α) (i : Int) (x : α) : Option (List α) := (ixN xs.length i).map fun j => xs.set j x
theorem setO_map {α β : Type} (f : α → β) {xs : List α} {i : Int} {x : α} {r : List α} (h : setO xs i x = some r) : setO (xs.map f) i (f x) = some (r.map f) := by
  unfold setO at h ⊢
  rw [List.length_map]
  cases e : ixN xs.length i with
  | none => rw [e] at h; cases h
  | some j =>
    rw [e] at h
    cases h
    show some ((xs.map f).set j (f x)) = some ((xs.set j x).map f)
    rw [List.map_set]
/-- xs[i] = e, xs an own list -/
theorem st_put {i j : Nat} {a : Addr} {nw : Bool} {n : Int} {ds' : List PyData} (hn : setO ds n d = some ds') (h : RX K te ρ O d O1) (hs : ρ[i]? = some (.adr a)) (hi : RX K ta ρ O1 (.int n) O2) (hj : O2[j]? = some ⟨a, nw, ds⟩) (E : EnvR K F σ ρ) (S : Hx K F0 H0 D0 F O H)
    (k : ∀ F' H', Same F F' → EnvR K F' σ ρ → Hx K F0 H0 D0 F' (O2.set j ⟨a, nw, ds'⟩) H' → D.nx σ H') : tAsg te (gSub (tVar i) ta rSetL) D σ H :=
  h.go E S fun v F1 H1 f1 E1 S1 r1 => ⟨_, E1.adr hs, hi.go E1 S1 fun y F2 H2 f2 E2 S2 r2 => by
    cases r2
    obtain ⟨g1, g2, g3, vs, g4, g5, g6⟩ := S2.get hj
    have g4 : H2 a = some (.lst vs) := g4
    have g6 : RpAll K F2 vs ds := g6
    unfold setO at hn
    cases e : ixN ds.length n with
    | none => rw [e] at hn; cases hn
    | some m =>
      rw [e] at hn
      cases hn
      exact ⟨a, vs, n, m, rfl, rfl, g4, by rw [g6.length]; exact e, k F2 _ (f1.trans f2) E2 (S2.mut hj (by rw [List.length_set]; exact g5) (RpAll.set (r1.up f2) m g6))⟩⟩
def appO {α : Type} (xs : List α) (x : α) : Option (List α) := if xs.length < 16777216 then some (xs ++ [x]) else none
theorem appO_map {α β : Type} (f : α → β) {xs : List α} {x : α} {r : List α} (h : appO xs x = some r) : appO (xs.map f) (f x) = some (r.map f) := by
  unfold appO at h ⊢
  rw [List.length_map]
  split at h
  · rename_i hc
    cases h
    rw [if_pos hc]
    simp
  · cases h
def extO {α : Type} (xs ys : List α) : Option (List α) := if xs.length + ys.length ≤ 16777216 then some (xs ++ ys) else none
theorem extO_map {α β : Type} (f : α → β) {xs ys : List α} {r : List α} (h : extO xs ys = some r) : extO (xs.map f) (ys.map f) = some (r.map f) := by
  unfold extO at h ⊢
  rw [List.length_map, List.length_map]
  split at h
  · rename_i hc
    cases h
    rw [if_pos hc]
    simp
  · cases h
/-- xs.append(e) -/
theorem st_app {i j : Nat} {a : Addr} {nw : Bool} {ds' : List PyData} (hn : appO ds d = some ds') (hs : ρ[i]? = some (.adr a)) (h : RX K te ρ O d O1) (hj0 : ∃ e : List PyData, O[j]? = some ⟨a, nw, e⟩) (hj : O1[j]? = some ⟨a, nw, ds⟩) (E : EnvR K F σ ρ) (S : Hx K F0 H0 D0 F O H)
    (k : ∀ F' H', Same F F' → EnvR K F' σ ρ → Hx K F0 H0 D0 F' (O1.set j ⟨a, nw, ds'⟩) H' → D.nx σ H') : tDrop (tBM K "list" rAppend (tVar i) (tCons te tNil)) D σ H := by
  obtain ⟨e0, hj0⟩ := hj0
  obtain ⟨_, _, _, vs0, g0, _⟩ := S.get hj0
  refine ⟨_, E.adr hs, .inl ⟨rfl, _, .inl (.inl g0)⟩, h.go E S fun v F1 H1 f1 E1 S1 r1 => ?_⟩
  obtain ⟨g1, g2, g3, vs, g4, g5, g6⟩ := S1.get hj
  have g4 : H1 a = some (.lst vs) := g4
  have g6 : RpAll K F1 vs ds := g6
  unfold appO at hn
  split at hn
  · rename_i hc
    cases hn
    have hz : vs.length < sizeLine := by rw [g6.length, sizeLine_eq]; exact hc
    exact ⟨a, vs, v, rfl, rfl, g4, hz, k F1 _ f1 E1 (S1.mut hj (by rw [List.length_append, List.length_singleton]; omega) (g6.append (.cons r1 .nil)))⟩
  · cases hn
theorem list_extendW (l : Addr) (items : Array Value) (n : Nat) (b : Addr) (items2 : Array Value) (n2 : Nat) (dd2 : Option Addr) (sl2 : Array (Option Value)) (hc0 : ¬(!items.isEmpty && Builtin.List.listTooLong (items.size + items2.size)) = true) (hc1 : items.size ≤ sizeLine) (hs2 : items.size + items2.size ≤ sizeLine + 1) :
    Meets (Builtin.«list.extend» ⟨[.ref l, .ref b], []⟩) (fun _ R s => s.heap.get? l = some { cls := .type "list", dict := none, data := .seq items n, slots := #[] } ∧ s.heap.get? b = some { cls := .type "list", dict := dd2, data := .seq items2 n2, slots := sl2 } ∧ R (.ok (.ret Value.none)) { s with heap := s.heap.update l (Obj.mapSeq fun x => x ++ items2), toks := s.toks }) :=
  .of_wp fun prog w A R s h => by
    obtain ⟨hp, g, d, tk, os⟩ := s; obtain ⟨hl, hb, h⟩ := h; have f1 := AutoSeq1.idx_int; have f2 := AutoSeq1.sub_tuple_tuple; have f3 := AutoSeq1.sub_list_list; have f4 := AutoSeq1.sub_tuple_list; have f5 := AutoSeq1.sub_list_tuple;
    have hz' : (items ++ items2).size ≤ sizeLine + 1 := by rw [Array.size_append]; exact hs2
    wp_walk using (wpAny_updateSeq hl rfl (hz := hc1) (_hz' := hz')), wpAny_loadPart' hl, wpAny_loadPart' hb; exact ⟨_, rfl, h⟩
def rExtR (K : Fg) : V → List V → Hp → VK → Prop := fun x vs H Q => ∃ l b xs zs, x = .ref l ∧ vs = [.ref b] ∧ H l = some (.lst xs) ∧ SqL K H b zs ∧ xs.length + zs.length ≤ sizeLine ∧ Q .non (upd H l (.lst (xs ++ zs)))
theorem mt_extR {X : Cx} : MtM X "list.extend" (rExtR X.K) := by
  intro pins s σ H x vs v us Q I rx rv h
  obtain ⟨l, b, xs, zs, rfl, rfl, hH, hB, hz, q⟩ := h
  cases rx
  obtain ⟨u, rfl, ru⟩ := rv.one
  cases ru
  obtain ⟨z, its, n, r, hl, e⟩ := I.lstM hH
  obtain ⟨its2, r2, ⟨⟨cls2, dd2, data2, sl2⟩, n2, e2, hc2, hd2, hx2⟩, z2⟩ := I.list hB
  simp only at hc2 hd2 hx2
  subst hc2 hx2
  have hl2 := r2.length
  have hsz : its.toArray.size + its2.toArray.size ≤ sizeLine := by rw [List.size_toArray, List.size_toArray]; omega
  have hlong : ¬ (!its.toArray.isEmpty && Builtin.List.listTooLong (its.toArray.size + its2.toArray.size)) = true := by
    rw [notLongL hsz, Bool.and_false]
    exact Bool.false_ne_true
  refine call_meets F.slot_list_extend ⟨_, e, rfl⟩ F.entry_list_extend (F.args_list_extend_2 _ _)
    (list_extendW l its.toArray n b its2.toArray n2 dd2 sl2 hlong (by rw [List.size_toArray]; omega) (by omega)) ⟨e, e2, ?_⟩
  refine ⟨.non, _, I.lset (its' := its ++ its2) hH e (by simp) (r.append r2) ?_, rfl, q⟩
  rw [List.length_append]
  omega
/-- xs.extend(e) -/
theorem st_ext {i j : Nat} {a : Addr} {nw : Bool} {es ds' : List PyData} (hn : extO ds es = some ds') (hs : ρ[i]? = some (.adr a)) (h : RX K te ρ O (.list es) O1) (hj0 : ∃ e : List PyData, O[j]? = some ⟨a, nw, e⟩) (hj : O1[j]? = some ⟨a, nw, ds⟩) (E : EnvR K F σ ρ) (S : Hx K F0 H0 D0 F O H)
    (k : ∀ F' H', Same F F' → EnvR K F' σ ρ → Hx K F0 H0 D0 F' (O1.set j ⟨a, nw, ds'⟩) H' → D.nx σ H') : tDrop (tBM K "list" (rExtR K) (tVar i) (tCons te tNil)) D σ H := by
  obtain ⟨e0, hj0⟩ := hj0
  obtain ⟨_, _, _, vs0, g0, _⟩ := S.get hj0
  refine ⟨_, E.adr hs, .inl ⟨rfl, _, .inl (.inl g0)⟩, h.go E S fun v F1 H1 f1 E1 S1 r1 => ?_⟩
  obtain ⟨g1, g2, g3, vs, g4, g5, g6⟩ := S1.get hj
  have g4 : H1 a = some (.lst vs) := g4
  have g6 : RpAll K F1 vs ds := g6
  cases r1 with
  | @lst b zs _ q1 q2 q3 =>
    unfold extO at hn
    split at hn
    · rename_i hc
      cases hn
      have hz : vs.length + zs.length ≤ sizeLine := by rw [g6.length, q3.length, sizeLine_eq]; exact hc
      exact ⟨a, b, vs, zs, rfl, rfl, g4, S1.fh.seq q1, hz, k F1 _ f1 E1 (S1.mut hj (by rw [List.length_append]; omega) (g6.append q3))⟩
    · cases hn
theorem st_expr (h : RX K te ρ O d O') (E : EnvR K F σ ρ) (S : Hx K F0 H0 D0 F O H) (k : ∀ F' H', Same F F' → EnvR K F' σ ρ → Hx K F0 H0 D0 F' O' H' → D.nx σ H') : tDrop te D σ H :=
  h.go E S fun v F' H' f E' S' r => k F' H' f E' S'
theorem st_ret (h : RX K te ρ O d O') (E : EnvR K F σ ρ) (S : Hx K F0 H0 D0 F O H) (k : ∀ v F' H', Same F F' → Hx K F0 H0 D0 F' O' H' → Rp K F' v d → D.rt v H') : tRet te D σ H :=
  h.go E S fun v F' H' f E' S' r => k v F' H' f S' r
theorem st_retO (h : RXo K te ρ O ds O') (E : EnvR K F σ ρ) (S : Hx K F0 H0 D0 F O H) (k : ∀ p F' H', Same F F' → Hx K F0 H0 D0 F' (⟨p, true, ds⟩ :: O') H' → D.rt (.ref p) H') : tRet te D σ H :=
  h.go E S fun v F' H' f E' S' => k v F' H' f S'
/-- return xs, xs an own list -/
theorem st_retA {i : Nat} {a : Addr} (hs : ρ[i]? = some (.adr a)) (E : EnvR K F σ ρ) (k : D.rt (.ref a) H) : tRet (tVar i) D σ H := ⟨_, E.adr hs, k⟩
/-- an own list is frozen -/
theorem frz_at {i j : Nat} {a : Addr} (hs : ρ[i]? = some (.adr a)) (hj : O[j]? = some ⟨a, true, ds⟩) (E : EnvR K F σ ρ) (S : Hx K F0 H0 D0 F O H) :
    ∃ F', Same F F' ∧ EnvR K F' σ (ρ.set i (.val (.list ds))) ∧ Hx K F0 H0 D0 F' (O.eraseIdx j) H := by
  obtain ⟨F', f, S', r⟩ := S.frz hj
  have q := E.adr hs
  have E2 := EnvR.setv (E.up f) r i
  have e : σ.set i (some (.ref a)) = σ := by
    apply List.ext_getElem?
    intro n
    by_cases e : i = n
    · subst e
      rw [List.getElem?_set_self (List.getElem?_eq_some_iff.mp q).1, q]
    · rw [List.getElem?_set_ne e]
  rw [e] at E2
  exact ⟨F', f, E2, S'⟩
theorem st_if {c : TT} {t u : TS} {b : Bool} (hc : RT K c ρ O b O') (E : EnvR K F σ ρ) (S : Hx K F0 H0 D0 F O H) (h1 : b = true → ∀ F' H', Same F F' → EnvR K F' σ ρ → Hx K F0 H0 D0 F' O' H' → t D σ H')
    (h0 : b = false → ∀ F' H', Same F F' → EnvR K F' σ ρ → Hx K F0 H0 D0 F' O' H' → u D σ H') : tIfS c t u D σ H := hc.go E S fun F' H' f E' S' => by
  cases b with
  | true => exact iteT (h1 rfl F' H' f E' S')
  | false => exact iteF (h0 rfl F' H' f E' S')
/-- both ways meet -/
theorem st_ifJ {c : TT} {t u : TS} {b : Bool} (ρ' : List Sl) (O2 : Os) (hc : RT K c ρ O b O') (E : EnvR K F σ ρ) (S : Hx K F0 H0 D0 F O H) (rest : ∀ σ' F' H', Same F F' → EnvR K F' σ' ρ' → Hx K F0 H0 D0 F' O2 H' → D.nx σ' H')
    (h1 : b = true → ∀ (F' H' : Hp), (∀ σ' F' H', Same F F' → EnvR K F' σ' ρ' → Hx K F0 H0 D0 F' O2 H' → D.nx σ' H') → Same F F' → EnvR K F' σ ρ → Hx K F0 H0 D0 F' O' H' → t D σ H')
    (h0 : b = false → ∀ (F' H' : Hp), (∀ σ' F' H', Same F F' → EnvR K F' σ' ρ' → Hx K F0 H0 D0 F' O2 H' → D.nx σ' H') → Same F F' → EnvR K F' σ ρ → Hx K F0 H0 D0 F' O' H' → u D σ H') : tIfS c t u D σ H := hc.go E S fun F' H' f E' S' => by
  cases b with
  | true => exact iteT (h1 rfl F' H' rest f E' S')
  | false => exact iteF (h0 rfl F' H' rest f E' S')
theorem st_aug {i : Nat} {op : Int → Int → Int} {x y : Int} (hx : ρ[i]? = some (.val (.int x))) (h : RX K te ρ O (.int y) O') (E : EnvR K F σ ρ) (S : Hx K F0 H0 D0 F O H) (k : ∀ σ' F' H', Same F F' → EnvR K F' σ' (ρ.set i (.val (.int (op x y)))) → Hx K F0 H0 D0 F' O' H' → D.nx σ' H') :
    tAug i te (ipI op) D σ H := by
  obtain ⟨v, h1, h2⟩ := E.val hx
  cases h2
  refine ⟨_, h1, h.go E S fun w F' H' f E' S' r => ?_⟩
  cases r
  exact ⟨x, y, rfl, rfl, k _ F' H' f (E'.setv (.int _) i) S'⟩
end
end TL

namespace TL
open PySem L2
open Enc
section
variable {K : Fg} {ρ : List Sl} {O : Os} {F0 H0 F H : Hp} {D0 : List Addr} {σ : L2.St} {D : Ends}
theorem walk_of {α : Type} {eα : α → PyData} {J : It} {xs : List α} {F1 : Hp} (w : WalkD K J (xs.map eα) F1) :
    Walk J xs.length (fun H => ∃ F O, Same F1 F ∧ Hx K F0 H0 D0 F O H) (fun i H x H' => ∀ F O, Same F1 F → Hx K F0 H0 D0 F O H → ∃ F' y, Same F F' ∧ Hx K F0 H0 D0 F' O H' ∧ xs[i]? = some y ∧ Rp K F' x (eα y)) := by
  have hl : (xs.map eα).length = xs.length := List.length_map _
  refine ⟨fun i H hi q => ?_, fun H q => ?_, fun i H x H' hi _ y F O f S => ?_⟩
  · obtain ⟨F, O, f, S⟩ := q
    exact w.go F0 H0 D0 F O H i (by rw [hl]; exact hi) f S
  · obtain ⟨F, O, f, S⟩ := q
    have := w.stop F0 H0 D0 F O H f S
    rw [hl] at this
    exact this
  · obtain ⟨F', y', f', S', e, r⟩ := w.yld F0 H0 D0 F O H i x H' (by rw [hl]; exact hi) f S y
    rw [List.getElem?_map] at e
    cases e2 : xs[i]? with
    | none => rw [e2] at e; cases e
    | some z =>
      rw [e2] at e
      have e3 : eα z = y' := Option.some.inj e
      subst e3
      exact ⟨F', z, f', S', rfl, r⟩
/-- a for over data, with ways out -/
theorem st_forF {α S R : Type} {eα : α → PyData} {wi : TI} {g : TG} {tb : TS} {xs : List α} {f : α → S → Option (Fl S R)} {s0 : S} {fl : Fl S R} (ρf : S → List Sl) (Of : S → Os) (E : EnvR K F σ ρ) (S0 : Hx K F0 H0 D0 F O H) (hI : RI K wi ρ O (xs.map eα) (Of s0)) (hf : forF f xs s0 = some fl) (hW : Wk ρ (ρf s0))
    (kn : ∀ s, fl = .nx s → ∀ σ' F' H', Same F F' → EnvR K F' σ' (ρf s) → Hx K F0 H0 D0 F' (Of s) H' → D.nx σ' H')
    (body : ∀ x ∈ xs, ∀ s out, f x s = some out → (∀ r, out = .rt r → fl = .rt r) → ∀ σ1 F1 H1 v, Same F F1 → EnvR K F1 σ1 (ρf s) → Hx K F0 H0 D0 F1 (Of s) H1 → Rp K F1 v (eα x) →
      ∀ (N B : L2.St → Hp → Prop), (∀ s', out = .nx s' → ∀ σ' F' H', Same F1 F' → EnvR K F' σ' (ρf s') → Hx K F0 H0 D0 F' (Of s') H' → N σ' H') →
      (∀ s', out = .bk s' → ∀ σ' F' H', Same F1 F' → EnvR K F' σ' (ρf s') → Hx K F0 H0 D0 F' (Of s') H' → B σ' H') → g v σ1 H1 fun σ2 H2 => tb { D with nx := N, ct := N, bk := B } σ2 H2) :
    tFor wi g tb D σ H := hI.go E S0 fun J F1 H1 f1 E1 S1 w => by
  refine for_it (walk_of w) (fun i σ H => ∃ s F2, Same F1 F2 ∧ EnvR K F2 σ (ρf s) ∧ Hx K F0 H0 D0 F2 (Of s) H ∧ forF f (xs.drop i) s = some fl) ⟨s0, F1, Same.refl _, E1.weak hW, S1, hf⟩
    (fun i σ H _ q => by obtain ⟨s, F2, q1, q2, q3, _⟩ := q; exact ⟨F2, _, q1, q3⟩) (fun i x σ H H' hi q y => ?_) (fun σ H q => ?_)
  · obtain ⟨s, F2, q1, q2, q3, q4⟩ := q
    obtain ⟨F3, z, f3, S3, ez, rz⟩ := y F2 _ q1 q3
    have hm : z ∈ xs := List.mem_of_getElem? ez
    have hi' : xs[i] = z := by
      rw [List.getElem?_eq_getElem hi] at ez
      exact Option.some.inj ez
    rw [List.drop_eq_getElem_cons hi, hi'] at q4
    obtain ⟨out, e1, q4⟩ := bindE q4
    refine body z hm s out e1 (fun r eo => ?_) σ F3 H' x ((f1.trans q1).trans f3) (q2.up f3) S3 rz _ _ (fun s' eo σ' F' H' ff E' S' => ?_) (fun s' eo σ' F' H' ff E' S' => ?_)
    · subst eo
      have q4 : (some (.rt r) : Option (Fl S R)) = some fl := q4
      exact (Option.some.inj q4).symm
    · subst eo
      exact ⟨s', F', (q1.trans f3).trans ff, E', S', q4⟩
    · subst eo
      have q4 : (some (.nx s') : Option (Fl S R)) = some fl := q4
      exact kn s' (Option.some.inj q4).symm σ' F' H' (((f1.trans q1).trans f3).trans ff) E' S'
  · obtain ⟨s, F2, q1, q2, q3, q4⟩ := q
    rw [List.drop_length] at q4
    exact kn s (Option.some.inj q4).symm σ F2 H (f1.trans q1) q2 q3
/-- .. without -/
theorem st_forS {α S : Type} {eα : α → PyData} {wi : TI} {g : TG} {tb : TS} {xs : List α} {f : α → S → Option S} {s0 s1 : S} (ρf : S → List Sl) (Of : S → Os) (E : EnvR K F σ ρ) (S0 : Hx K F0 H0 D0 F O H) (hI : RI K wi ρ O (xs.map eα) (Of s0)) (hf : forS f xs s0 = some s1) (hW : Wk ρ (ρf s0))
    (kn : ∀ σ' F' H', Same F F' → EnvR K F' σ' (ρf s1) → Hx K F0 H0 D0 F' (Of s1) H' → D.nx σ' H')
    (body : ∀ x ∈ xs, ∀ s s', f x s = some s' → ∀ σ1 F1 H1 v, Same F F1 → EnvR K F1 σ1 (ρf s) → Hx K F0 H0 D0 F1 (Of s) H1 → Rp K F1 v (eα x) →
      ∀ (N B : L2.St → Hp → Prop), (∀ σ' F' H', Same F1 F' → EnvR K F' σ' (ρf s') → Hx K F0 H0 D0 F' (Of s') H' → N σ' H') → g v σ1 H1 fun σ2 H2 => tb { D with nx := N, ct := N, bk := B } σ2 H2) :
    tFor wi g tb D σ H := by
  have e : ∀ (ys : List α) (s : S), forF (R := Empty) (fun x s => (f x s).bind fun s' => some (.nx s')) ys s = (forS f ys s).bind fun s' => some (.nx s') := by
    intro ys
    induction ys with
    | nil => intro s; rfl
    | cons y ys ih =>
      intro s
      unfold forF forS
      cases f y s with
      | none => rfl
      | some s' => exact ih s'
  refine st_forF (R := Empty) (fl := .nx s1) (f := fun x s => (f x s).bind fun s' => some (.nx s')) ρf Of E S0 hI (by rw [e, hf]; rfl) hW (fun s eq => ?_) fun x hx s out ho _ σ1 F1 H1 v g1 g2 g3 g4 N B hN hB => ?_
  · cases eq
    exact kn
  · obtain ⟨s', e1, e2⟩ := bindE ho
    exact body x hx s s' e1 σ1 F1 H1 v g1 g2 g3 g4 N B (hN s' (Option.some.inj e2).symm)
theorem st_whileF {S R : Type} {tc : TT} {tb : TS} {c : S → Option Bool} {f : S → Option (Fl S R)} {n : Nat} {s0 : S} {fl : Fl S R} (ρf : S → List Sl) (Of : S → Os) (E : EnvR K F σ ρ) (S0 : Hx K F0 H0 D0 F (Of s0) H) (hf : whileF c f n s0 = some fl) (ht : ∀ s b, c s = some b → RT K tc (ρf s) (Of s) b (Of s)) (hW : Wk ρ (ρf s0))
    (kn : ∀ s, fl = .nx s → ∀ σ' F' H', Same F F' → EnvR K F' σ' (ρf s) → Hx K F0 H0 D0 F' (Of s) H' → D.nx σ' H')
    (body : ∀ s out, c s = some true → f s = some out → (∀ r, out = .rt r → fl = .rt r) → ∀ σ1 F1 H1, Same F F1 → EnvR K F1 σ1 (ρf s) → Hx K F0 H0 D0 F1 (Of s) H1 →
      ∀ (N B : L2.St → Hp → Prop), (∀ s', out = .nx s' → ∀ σ' F' H', Same F1 F' → EnvR K F' σ' (ρf s') → Hx K F0 H0 D0 F' (Of s') H' → N σ' H') →
      (∀ s', out = .bk s' → ∀ σ' F' H', Same F1 F' → EnvR K F' σ' (ρf s') → Hx K F0 H0 D0 F' (Of s') H' → B σ' H') → tb { D with nx := N, ct := N, bk := B } σ1 H1) :
    tWhile tc tb D σ H := by
  refine ⟨fun m σ H => ∃ s F2, Same F F2 ∧ EnvR K F2 σ (ρf s) ∧ Hx K F0 H0 D0 F2 (Of s) H ∧ whileF c f m s = some fl, ⟨n, s0, F, Same.refl _, E.weak hW, S0, hf⟩, ?_⟩
  rintro m σ H ⟨s, F2, q1, q2, q3, q4⟩
  cases m with
  | zero => cases q4
  | succ m =>
    obtain ⟨b, e1, q4⟩ := bindE q4
    refine (ht s b e1).go q2 q3 fun F3 H3 f3 E3 S3 => ?_
    cases b with
    | false =>
      have q4 : (some (.nx s) : Option (Fl S R)) = some fl := q4
      exact iteF (kn s (Option.some.inj q4).symm σ F3 H3 (q1.trans f3) E3 S3)
    | true =>
      have q4 : ((f s).bind fun r => match r with
        | .nx s' => whileF c f m s'
        | .bk s' => some (.nx s')
        | .rt r => some (.rt r)) = some fl := q4
      obtain ⟨out, e2, q4⟩ := bindE q4
      refine iteT ⟨fun σ' H' => ∃ s' F4, Same F F4 ∧ EnvR K F4 σ' (ρf s') ∧ Hx K F0 H0 D0 F4 (Of s') H' ∧ whileF c f m s' = some fl, fun σ' H' q => ⟨m, Nat.lt_succ_self m, q⟩, ?_⟩
      refine body s out e1 e2 (fun r eo => ?_) σ F3 H3 (q1.trans f3) E3 S3 _ _ (fun s' eo σ' F' H' ff E' S' => ?_) (fun s' eo σ' F' H' ff E' S' => ?_)
      · subst eo
        have q4 : (some (.rt r) : Option (Fl S R)) = some fl := q4
        exact (Option.some.inj q4).symm
      · subst eo
        exact ⟨s', F', (q1.trans f3).trans ff, E', S', q4⟩
      · subst eo
        have q4 : (some (.nx s') : Option (Fl S R)) = some fl := q4
        exact kn s' (Option.some.inj q4).symm σ' F' H' ((q1.trans f3).trans ff) E' S'
theorem st_whileS {S : Type} {tc : TT} {tb : TS} {c : S → Option Bool} {f : S → Option S} {n : Nat} {s0 s1 : S} (ρf : S → List Sl) (Of : S → Os) (E : EnvR K F σ ρ) (S0 : Hx K F0 H0 D0 F (Of s0) H) (hf : whileS c f n s0 = some s1) (ht : ∀ s b, c s = some b → RT K tc (ρf s) (Of s) b (Of s)) (hW : Wk ρ (ρf s0))
    (kn : ∀ σ' F' H', Same F F' → EnvR K F' σ' (ρf s1) → Hx K F0 H0 D0 F' (Of s1) H' → D.nx σ' H')
    (body : ∀ s s', c s = some true → f s = some s' → ∀ σ1 F1 H1, Same F F1 → EnvR K F1 σ1 (ρf s) → Hx K F0 H0 D0 F1 (Of s) H1 →
      ∀ (N B : L2.St → Hp → Prop), (∀ σ' F' H', Same F1 F' → EnvR K F' σ' (ρf s') → Hx K F0 H0 D0 F' (Of s') H' → N σ' H') → tb { D with nx := N, ct := N, bk := B } σ1 H1) :
    tWhile tc tb D σ H := by
  have e : ∀ (n : Nat) (s : S), whileF (R := Empty) c (fun s => (f s).bind fun s' => some (.nx s')) n s = (whileS c f n s).bind fun s' => some (.nx s') := by
    intro n
    induction n with
    | zero => intro s; rfl
    | succ n ih =>
      intro s
      unfold whileF whileS
      cases c s with
      | none => rfl
      | some b =>
        cases b with
        | false => rfl
        | true =>
          simp only [Option.bind_some, if_true]
          cases f s with
          | none => rfl
          | some s' => exact ih s'
  refine st_whileF (R := Empty) (fl := .nx s1) (f := fun s => (f s).bind fun s' => some (.nx s')) ρf Of E S0 (by rw [e, hf]; rfl) ht hW (fun s eq => ?_) fun s out hc ho _ σ1 F1 H1 g1 g2 g3 N B hN hB => ?_
  · cases eq
    exact kn
  · obtain ⟨s', e1, e2⟩ := bindE ho
    exact body s s' hc e1 σ1 F1 H1 g1 g2 g3 N B (hN s' (Option.some.inj e2).symm)
end

/-! ### defs -/
section
variable {P : Program} {w : World} {K : Fg} {mg : Str → Option Value} {base : Heap}
/-- a def that is there and keeps its promise -/
def Cal (P : Program) (w : World) (K : Fg) (mg : Str → Option Value) (base : Heap) (k : Nat) (x : Str) (ps : List Str) (sp : Sp) : Prop :=
  ∃ f fd, FnOk P w K mg base CX0 k f fd ps sp ∧ mg x = some (.ref f) ∧ PySem.W.keepIn K (.ref f) = true ∧ Binds K fd ps []
/-- a def that is there -/
def Dfn (K : Fg) (mg : Str → Option Value) (x : Str) (st : Stmt) (ps : List Str) : Prop := ∃ f fd, Fun K x x st f fd ∧ mg x = some (.ref f) ∧ Binds K fd ps []
theorem Dfn.cal {x : Str} {st : Stmt} {N ps : List Str} {k : Nat} {sp : Sp} (h : Dfn K mg x st ps) (S : FnScope N ps (defScope st)) (len : ∀ vs H Q E, sp vs H Q E → vs.length = ps.length)
    (hbody : ∀ (f : Addr) (cdv : Value) (A : Around) (outer : List Env) (s : Shared) (H : Hp) (vs : List V) (Q : VK) (E : XK), Room k (A.deeper (PyProof.Rows.envOfC x (defScope st) s.heap.objs.size f cdv)) → sp vs H Q E →
      ∃ t, PSs (cxOf CX0 P w K mg base N x (defScope st) f cdv A outer s H E).nox (defBody st) t ∧ t { nx := fun _ H' => Q .non H', rt := Q } (start N vs) H) : Cal P w K mg base (k + 1) x ps sp := by
  obtain ⟨f, fd, F, hm, b⟩ := h
  exact ⟨f, fd, F.ok S len fun cdv A outer s H vs Q E hr hs => hbody f cdv A outer s H vs Q E hr hs, hm, F.kp, b⟩
theorem Cal.mono {j k : Nat} {x : Str} {ps : List Str} {sp : Sp} (h : Cal P w K mg base j x ps sp) (hk : j ≤ k) : Cal P w K mg base k x ps sp := by
  obtain ⟨f, fd, F, r⟩ := h
  exact ⟨f, fd, F.mono hk, r⟩
theorem Cal.imp {k : Nat} {x : Str} {ps : List Str} {sp sp' : Sp} (h : Cal P w K mg base k x ps sp) (hi : ∀ vs H Q E, sp' vs H Q E → sp vs H Q E) : Cal P w K mg base k x ps sp' := by
  obtain ⟨f, fd, F, r⟩ := h
  exact ⟨f, fd, F.imp hi, r⟩
theorem pe_cal {X : Cx} {j k : Nat} {x : Str} {ps : List Str} {sp : Sp} {p pos : Pos} {e : Expr} {es : List Expr} {t : TA} (C : Cal X.prog X.w X.K X.mg X.base j x ps sp) (hr : Room k X.A) (ha : PA X (e :: es) t) (hjk : j ≤ k := by decide) (hg : Gl X x := by rfl) (hdb : (x == ("__debug__" : Str)) = false := by decide)
    (he : starEach (e :: es) X.env = (false, eval e X.env) :: starEach es X.env := by rfl) (hpl : (backTo pos (starEach es X.env)).any (·.1) = false := by rfl) :
    PE X (.Call (.Name x p) (e :: es) [] pos) (tCall sp [] L2.E0 t) := by
  obtain ⟨f, fd, F, hm, kp, b⟩ := C
  exact pe_call F (hr.mono hjk) hg hm kp b .nil pass0 ha hdb he hpl
/-- the entry -/
theorem sp_len {R : List PyData → PyData → Prop} {n : Nat} (h : ∀ ds d, R ds d → ds.length = n) : ∀ vs H Q E, SpP K R vs H Q E → vs.length = n := fun vs H Q E ⟨F, ds, d, r, _, hR, _⟩ => r.length.trans (h ds d hR)
theorem sn_len {R : List PyData → List PyData → Prop} {n : Nat} (h : ∀ ds d, R ds d → ds.length = n) : ∀ vs H Q E, SpN K R vs H Q E → vs.length = n := fun vs H Q E ⟨F, ds, d, r, _, hR, _⟩ => r.length.trans (h ds d hR)
theorem spo_len {R : List PyData → List PyData → PyData → List PyData → Prop} {n : Nat} (h : ∀ c ds d c', R c ds d c' → ds.length + 1 = n) : ∀ vs H Q E, SpPo K R vs H Q E → vs.length = n := fun vs H Q E ⟨F, p, ws, xs, c, ds, d, c', e, r, _, _, _, _, _, hR, _⟩ => by
  subst e
  rw [List.length_cons, r.length]
  exact h c ds d c' hR
theorem sno_len {R : List PyData → List PyData → List PyData → List PyData → Prop} {n : Nat} (h : ∀ c ds d c', R c ds d c' → ds.length + 1 = n) : ∀ vs H Q E, SpNo K R vs H Q E → vs.length = n := fun vs H Q E ⟨F, p, ws, xs, c, ds, d, c', e, r, _, _, _, _, _, hR, _⟩ => by
  subst e
  rw [List.length_cons, r.length]
  exact h c ds d c' hR
theorem AsR.of_all {F : Hp} : ∀ {vs : List V} {ds : List PyData}, RpAll K F vs ds → AsR K F vs (ds.map .val)
  | _, _, .nil => .nil
  | _, _, .cons r t => .val r (AsR.of_all t)
end
end TL

namespace TL
open PySem L2
open Enc
def modO (i j : Int) : Option Int := if 0 < j then some (i % j) else none
def fdivO (i j : Int) : Option Int := if 0 < j ∧ j < 1073741824 then some (i / j) else none
def mulO (i j : Int) : Option Int := if (-18446744073709551616 < i ∧ i < 18446744073709551616) ∨ (-18446744073709551616 < j ∧ j < 18446744073709551616) then some (i * j) else none
def shlO (i j : Int) : Option Int := if 0 ≤ j ∧ j ≤ 1000000 ∧ -18446744073709551616 < i ∧ i < 18446744073709551616 then some (i * 2 ^ j.toNat) else none
def shrO (i j : Int) : Option Int := if 0 ≤ j then some (i / 2 ^ j.toNat) else none
def powO (i j : Int) : Option Int := if 0 ≤ j ∧ j ≤ 1000000 ∧ -18446744073709551616 < i ∧ i < 18446744073709551616 then some (i ^ j.toNat) else none
def repO {α : Type} (xs : List α) (i : Int) : Option (List α) := if xs.length * i.toNat ≤ 16777216 ∧ -9223372036854775808 ≤ i ∧ i < 9223372036854775808 then some (List.replicate i.toNat xs).flatten else none
def eqO {α : Type} [Enc α] [DecidableEq α] [EqD α] (x y : α) : Option Bool := if EqD.ok x = true ∧ EqD.ok y = true then some (decide (x = y)) else none
/-- kinds without texts -/
class EqT (α : Type) [Enc α] [DecidableEq α] [EqD α] : Prop where
  ok : ∀ x : α, EqD.ok x = true
instance : EqT Int := ⟨fun _ => rfl⟩
instance : EqT Bool := ⟨fun _ => rfl⟩
instance : EqT (Option Int) := ⟨fun _ => rfl⟩
instance {α : Type} [Enc α] [DecidableEq α] [EqD α] [EqT α] : EqT (List α) := ⟨fun x => List.all_eq_true.mpr fun y _ => EqT.ok y⟩
instance {α : Type} [Enc α] [DecidableEq α] [EqD α] [EqT α] : EqT (Tp α) := ⟨fun x => List.all_eq_true.mpr fun y _ => EqT.ok y⟩
instance {α β : Type} [Enc α] [DecidableEq α] [EqD α] [EqT α] [Enc β] [DecidableEq β] [EqD β] [EqT β] : EqT (α × β) := ⟨fun x => by
  show (EqD.ok x.1 && EqD.ok x.2) = true
  rw [EqT.ok, EqT.ok]; rfl⟩
section
variable {K : Fg} {ta tb te : TE} {ρ : List Sl} {O O1 O2 : Os} {i j r : Int}
theorem rx_as {α : Type} [Enc α] {x y : α} {O' : Os} (e : x = y) (h : RX K ta ρ O (enc x) O') : RX K ta ρ O (enc y) O' := e ▸ h
theorem rxo_as {α : Type} {f : α → PyData} {x y : List α} {O' : Os} (e : x = y) (h : RXo K ta ρ O (x.map f) O') : RXo K ta ρ O (y.map f) O' := e ▸ h
theorem rx_modO (h : modO i j = some r) (ha : RX K ta ρ O (.int i) O1) (hb : RX K tb ρ O1 (.int j) O2) : RX K (tOp (rI (fun _ j => 0 < j) fun i j => .int (i % j)) ta tb) ρ O (.int r) O2 := by
  unfold modO at h
  split at h
  · rename_i hc; cases h; exact rx_mod ha hb hc
  · cases h
theorem rx_fdivO (h : fdivO i j = some r) (ha : RX K ta ρ O (.int i) O1) (hb : RX K tb ρ O1 (.int j) O2) : RX K (tOp (rI CDiv fun i j => .int (i / j)) ta tb) ρ O (.int r) O2 := by
  unfold fdivO at h
  split at h
  · rename_i hc; cases h; exact rx_fdiv ha hb hc
  · cases h
theorem rx_mulO (h : mulO i j = some r) (ha : RX K ta ρ O (.int i) O1) (hb : RX K tb ρ O1 (.int j) O2) : RX K (tOp (rI CMul fun i j => .int (i * j)) ta tb) ρ O (.int r) O2 := by
  unfold mulO at h
  split at h
  · rename_i hc; cases h; exact rx_mul ha hb hc
  · cases h
theorem cpow_of {i j : Int} (h : 0 ≤ j ∧ j ≤ 1000000 ∧ -18446744073709551616 < i ∧ i < 18446744073709551616) : CPow i j := ⟨h.1, h.2.1, by
  have h1 := h.2.2.1
  have h2 := h.2.2.2
  omega⟩
theorem rx_shlO (h : shlO i j = some r) (ha : RX K ta ρ O (.int i) O1) (hb : RX K tb ρ O1 (.int j) O2) : RX K (tOp (rI CPow fun i j => .int (i * 2 ^ j.toNat)) ta tb) ρ O (.int r) O2 := by
  unfold shlO at h
  split at h
  · rename_i hc; cases h; exact rx_shl ha hb (cpow_of hc)
  · cases h
theorem rx_powO (h : powO i j = some r) (ha : RX K ta ρ O (.int i) O1) (hb : RX K tb ρ O1 (.int j) O2) : RX K (tOp (rI CPow fun i j => .int (i ^ j.toNat)) ta tb) ρ O (.int r) O2 := by
  unfold powO at h
  split at h
  · rename_i hc; cases h; exact rx_pow ha hb (cpow_of hc)
  · cases h
theorem rx_shrO (h : shrO i j = some r) (ha : RX K ta ρ O (.int i) O1) (hb : RX K tb ρ O1 (.int j) O2) : RX K (tOp (rI (fun _ j => 0 ≤ j) fun i j => .int (i / 2 ^ j.toNat)) ta tb) ρ O (.int r) O2 := by
  unfold shrO at h
  split at h
  · rename_i hc; cases h; exact rx_shr ha hb hc
  · cases h
theorem ext_len {α : Type} {xs ys zs : List α} (h : extO xs ys = some zs) : xs.length + ys.length ≤ sizeLine ∧ zs = xs ++ ys := by
  unfold extO at h
  split at h
  · rename_i hc; cases h; rw [sizeLine_eq]; exact ⟨hc, rfl⟩
  · cases h
theorem rxo_catO {α : Type} {f : α → PyData} {xs ys zs : List α} (h : extO xs ys = some zs) (ha : RXs K ta ρ O (xs.map f) O1) (hb : RXs K tb ρ O1 (ys.map f) O1) : RXo K (tOp (rCatR K) ta tb) ρ O (zs.map f) O1 := by
  obtain ⟨h1, rfl⟩ := ext_len h
  rw [List.map_append]
  exact rxo_cat ha hb (by rw [List.length_map, List.length_map]; exact h1)
theorem rxo_catOF {α : Type} {f : α → PyData} {xs ys zs : List α} (h : extO xs ys = some zs) (ha : RX K ta ρ O (.list (xs.map f)) O1) (hb : RX K tb ρ O1 (.list (ys.map f)) O2) : RXo K (tOp (rCatR K) ta tb) ρ O (zs.map f) O2 := by
  obtain ⟨h1, rfl⟩ := ext_len h
  rw [List.map_append]
  exact rxo_catF ha hb (by rw [List.length_map, List.length_map]; exact h1)
theorem rx_catTO {α : Type} {f : α → PyData} {xs ys zs : List α} (h : extO xs ys = some zs) (ha : RX K ta ρ O (.tuple (xs.map f)) O1) (hb : RX K tb ρ O1 (.tuple (ys.map f)) O2) : RX K (tOp (rCatA K) ta tb) ρ O (.tuple (zs.map f)) O2 := by
  obtain ⟨h1, rfl⟩ := ext_len h
  rw [List.map_append]
  exact rx_catT ha hb (by rw [List.length_map, List.length_map]; exact h1)
theorem rxo_repO {α : Type} {f : α → PyData} {xs zs : List α} (h : repO xs i = some zs) (ha : RXo K ta ρ O (xs.map f) O1) (hb : ∀ p, RX K tb ρ (⟨p, true, xs.map f⟩ :: O1) (.int i) (⟨p, true, xs.map f⟩ :: O1)) : RXo K (tOp rRep ta tb) ρ O (zs.map f) O1 := by
  unfold repO at h
  split at h
  · rename_i hc
    cases h
    have e : (List.replicate i.toNat xs).flatten.map f = (List.replicate i.toNat (xs.map f)).flatten := by rw [List.map_flatten, List.map_replicate]
    rw [e]
    exact rxo_rep ha hb (by rw [List.length_map, sizeLine_eq]; exact hc.1) ⟨by omega, by omega⟩
  · cases h
theorem rxo_sliceM {α : Type} {f : α → PyData} {xs : List α} {tl th : TO} {lo hi : Option Int} (ha : RXs K ta ρ O (xs.map f) O1) (hl : RO K tl ρ O1 lo O1) (hh : RO K th ρ O1 hi O1) : RXo K (tSl (rSlL K) ta tl th) ρ O ((cutL xs lo hi).map f) O1 := by
  rw [cutL_map]
  exact rxo_slice ha hl hh
theorem rxo_sliceFM {α : Type} {f : α → PyData} {xs : List α} {tl th : TO} {lo hi : Option Int} {O3 : Os} (ha : RX K ta ρ O (.list (xs.map f)) O1) (hl : RO K tl ρ O1 lo O2) (hh : RO K th ρ O2 hi O3) : RXo K (tSl (rSlL K) ta tl th) ρ O ((cutL xs lo hi).map f) O3 := by
  rw [cutL_map]
  exact rxo_sliceF ha hl hh
theorem rx_sliceTM {α : Type} {f : α → PyData} {xs : List α} {tl th : TO} {lo hi : Option Int} {O3 : Os} (ha : RX K ta ρ O (.tuple (xs.map f)) O1) (hl : RO K tl ρ O1 lo O2) (hh : RO K th ρ O2 hi O3) : RX K (tSl (rSlA K) ta tl th) ρ O (.tuple ((cutL xs lo hi).map f)) O3 := by
  rw [cutL_map]
  exact rx_sliceT ha hl hh
theorem rxo_revM {α : Type} {f : α → PyData} {xs : List α} (ha : RXs K ta ρ O (xs.map f) O1) : RXo K (tRevL K ta) ρ O (xs.reverse.map f) O1 := by
  rw [List.map_reverse]
  exact rxo_rev ha
theorem rx_eqO {α : Type} [Enc α] [DecidableEq α] [EqD α] {x y : α} {b : Bool} (h : eqO x y = some b) (ha : RXh K ta ρ O (enc x) O1) (hb : RXh K tb ρ O1 (enc y) O1) (hd : EqD.dp α ≤ 64 := by decide) : RX K (tOp (rEqD K) ta tb) ρ O (.bool b) O1 := by
  unfold eqO at h
  split at h
  · rename_i hc; cases h; exact rx_eqD ha hb hd hc.1 hc.2
  · cases h
theorem rx_neO {α : Type} [Enc α] [DecidableEq α] [EqD α] {x y : α} {b : Bool} (h : eqO x y = some b) (ha : RXh K ta ρ O (enc x) O1) (hb : RXh K tb ρ O1 (enc y) O1) (hd : EqD.dp α ≤ 64 := by decide) : RX K (tOp (rNeD K) ta tb) ρ O (.bool (!b)) O1 := by
  unfold eqO at h
  split at h
  · rename_i hc; cases h; exact rx_neD ha hb hd hc.1 hc.2
  · cases h
theorem rx_eqT {α : Type} [Enc α] [DecidableEq α] [EqD α] [EqT α] {x y : α} (ha : RXh K ta ρ O (enc x) O1) (hb : RXh K tb ρ O1 (enc y) O1) (hd : EqD.dp α ≤ 64 := by decide) : RX K (tOp (rEqD K) ta tb) ρ O (.bool (decide (x = y))) O1 :=
  rx_eqD ha hb hd (EqT.ok x) (EqT.ok y)
theorem rx_neT {α : Type} [Enc α] [DecidableEq α] [EqD α] [EqT α] {x y : α} (ha : RXh K ta ρ O (enc x) O1) (hb : RXh K tb ρ O1 (enc y) O1) (hd : EqD.dp α ≤ 64 := by decide) : RX K (tOp (rNeD K) ta tb) ρ O (.bool (!decide (x = y))) O1 :=
  rx_neD ha hb hd (EqT.ok x) (EqT.ok y)
theorem len_nat {α : Type} {f : α → PyData} {xs : List α} (ha : RXs K ta ρ O (xs.map f) O1) : RX K (tCB (rLenQ K) (tCons ta tNil)) ρ O (.int (xs.length : Nat)) O1 := by
  have := rx_len ha
  rw [List.length_map] at this
  exact this
theorem len_natT {α : Type} {f : α → PyData} {xs : List α} (ha : RX K ta ρ O (.tuple (xs.map f)) O1) : RX K (tCB (rLenQ K) (tCons ta tNil)) ρ O (.int (xs.length : Nat)) O1 := by
  have := rx_lenT ha
  rw [List.length_map] at this
  exact this
theorem ri_rangeLenM {α : Type} {f : α → PyData} {xs : List α} (ha : RXs K ta ρ O (xs.map f) O1) : RI K (iRng1 (tCons (tCB (rLenQ K) (tCons ta tNil)) tNil)) ρ O ((rngL 0 xs.length).map .int) O1 := by
  have := ri_rangeLen ha
  rw [List.length_map] at this
  exact this
theorem ri_rangeLenTM {α : Type} {f : α → PyData} {xs : List α} (ha : RX K ta ρ O (.tuple (xs.map f)) O1) : RI K (iRng1 (tCons (tCB (rLenQ K) (tCons ta tNil)) tNil)) ρ O ((rngL 0 xs.length).map .int) O1 := by
  have := ri_rangeLenT ha
  rw [List.length_map] at this
  exact this
/-- int(flag) -/
abbrev rInt1 : List V → Hp → VK → Prop := fun xs H Q => (∃ i, xs = [.int i] ∧ Q (.int i) H) ∨ ∃ b, xs = [.bl b] ∧ Q (.int (if b then 1 else 0)) H
end
/-- what comes behind a loop that may return -/
def flK {S R γ : Type} : Fl S R → (S → γ) → (R → γ) → γ
  | .nx s, f, _ => f s
  | .bk s, f, _ => f s
  | .rt r, _, g => g r
theorem letE {α β : Type} {x : α} {f : α → Option β} {r : β} (h : (some x).bind f = some r) : ∃ y, x = y ∧ f y = some r := ⟨x, rfl, h⟩
end TL
namespace TL
open PySem L2
open Enc
section
variable {K : Fg} {ta tb te : TE} {ρ : List Sl} {O O1 O2 : Os} {i j r : Int}
theorem rx_intB {b : Bool} (ha : RX K ta ρ O (.bool b) O1) : RX K (tCB rInt1 (tCons ta tNil)) ρ O (.int (b2n b)) O1 := rx_cb1 ha fun F H x Q f r k => by
  cases r
  exact .inr ⟨b, rfl, k _ (.int _)⟩
theorem rx_intI (ha : RX K ta ρ O (.int i) O1) : RX K (tCB rInt1 (tCons ta tNil)) ρ O (.int i) O1 := rx_cb1 ha fun F H x Q f r k => by
  cases r
  exact .inl ⟨i, rfl, k _ (.int _)⟩
def strI (i : Int) : Str := (toString i : String)
def strO (i : Int) : Option Str := if i.natAbs.log2 < 1920 then some (strI i) else none
theorem rx_strO {z : Str} (h : strO i = some z) (ha : RX K ta ρ O (.int i) O1) : RX K (tCB (fun xs H Q => ∃ i, xs = [.int i] ∧ i.natAbs.log2 < 1920 ∧ Q (.str (toString i)) H) (tCons ta tNil)) ρ O (.str z) O1 := rx_cb1 ha fun F H x Q f r k => by
  cases r
  unfold strO at h
  split at h
  · rename_i hc; cases h; exact ⟨i, rfl, hc, k _ (.str _)⟩
  · cases h
end
end TL

namespace TL
open PySem L2
theorem nxt {D : Ends} {σ : L2.St} {H : Hp} (h : D.nx σ H) : tNext D σ H := h
theorem nxD {f : L2.St → Hp → Prop} {a : VK} {b c : L2.St → Hp → Prop} {σ : L2.St} {H : Hp} (h : f σ H) : Ends.nx ⟨f, a, b, c⟩ σ H := h
/-- turns a while may take -/
def FUEL : Nat := 1000000
/-- calls of itself -/
def RF : Nat := 60
section
variable {X : Cx} (K : Fg)
theorem k_ix_list (hK : X.K = K := by rfl) : IxR X (rIxL K) := by subst hK; exact ix_list
theorem k_ix_tup (hK : X.K = K := by rfl) : IxR X (rIxT K) := by subst hK; exact ix_tup
theorem k_sum (hc : X.calm = true) (hK : X.K = K := by rfl) : CallR X (.builtin "sum") (rSum K) := by subst hK; exact cr_sum hc
theorem k_all (hc : X.calm = true) (hK : X.K = K := by rfl) : CallR X (.builtin "all") (rAll K) := by subst hK; exact cr_all hc
theorem k_any (hc : X.calm = true) (hK : X.K = K := by rfl) : CallR X (.builtin "any") (rAny K) := by subst hK; exact cr_any hc
theorem k_min (hc : X.calm = true) (hK : X.K = K := by rfl) : CallR X (.builtin "min") (rMin K) := by subst hK; exact cr_min hc
theorem k_max (hc : X.calm = true) (hK : X.K = K := by rfl) : CallR X (.builtin "max") (rMax K) := by subst hK; exact cr_max hc
theorem k_sorted (hK : X.K = K := by rfl) : CallR X (.builtin "sorted") (rSorted K) := by subst hK; exact cr_sorted
theorem k_eqD (hu : X.A.units + 64 < cLine) (hK : X.K = K := by rfl) : OpR X (compareOp .Eq) (rEqD K) := by subst hK; exact op_eqD hu
theorem k_neD (hu : X.A.units + 64 < cLine) (hK : X.K = K := by rfl) : OpR X (compareOp .NotEq) (rNeD K) := by subst hK; exact op_neD hu
theorem k_in_seq (hK : X.K = K := by rfl) : OpR X (compareOp .In) (rIn K false) := by subst hK; exact op_in_seq
theorem k_notIn_seq (hK : X.K = K := by rfl) : OpR X (compareOp .NotIn) (rIn K true) := by subst hK; exact op_notIn_seq
theorem k_catA (hK : X.K = K := by rfl) : OpR X (binaryOp .Add) (rCatA K) := by subst hK; exact op_catA
theorem k_catR (hK : X.K = K := by rfl) : OpR X (binaryOp .Add) (rCatR K) := by subst hK; exact op_catR
theorem k_sl_list (hK : X.K = K := by rfl) : L2.SlR X (rSlL K) := by subst hK; exact sl_list
theorem k_sl_tupA (hK : X.K = K := by rfl) : L2.SlR X (rSlA K) := by subst hK; exact sl_tupA
theorem k_len_seq (hK : X.K = K := by rfl) : CallR X (.builtin "len") (rLenQ K) := by subst hK; exact call_len_seq
theorem k_list_of (hK : X.K = K := by rfl) : CallR X (.type "list") (fun xs H Q => ∃ p ys, xs = [.ref p] ∧ (SqL K H p ys ∨ SqT K H p ys) ∧ ∀ l, H l = none → Q (.ref l) (upd H l (.lst ys))) := by subst hK; exact call_list_of
theorem k_tuple_of (hK : X.K = K := by rfl) : CallR X (.type "tuple") (fun xs H Q => ∃ p ys, xs = [.ref p] ∧ ((SqL K H p ys ∧ ∀ l, H l = none → Q (.ref l) (upd H l (.tup ys))) ∨ (SqT K H p ys ∧ Q (.ref p) H))) := by subst hK; exact call_tuple_of
theorem k_revL {e : Expr} {te : TE} {k : Nat} {p1 p2 p3 pos : Pos} (he : PE X e te) (hK : X.K = K := by rfl) : PE X (.Subscript e (.Slice none none (some (.UnaryOp .USub (.Constant (.int 1) k p1) p2)) p3) pos) (tRevL K te) := by subst hK; exact pe_revL he
theorem k_pi_list {tg l : Expr} {tl : TE} (hl : PE X l tl) (hK : X.K = K := by rfl) : PI X tg l (iList K tl) := by subst hK; exact pi_list hl
theorem k_pi_tup {tg l : Expr} {tl : TE} (hl : PE X l tl) (hK : X.K = K := by rfl) : PI X tg l (iTup K tl) := by subst hK; exact pi_tup hl
theorem k_pi_enum {e : Expr} {ta : TA} {p pos tpos : Pos} {elts : List Expr} {kk : Nat} (hg : Gl X "enumerate") (hm : X.mg "enumerate" = none) (ha : PA X [e] ta) (hs : starEach [e] X.env = [(false, eval e X.env)] := by rfl) (hK : X.K = K := by rfl) :
    PI X (.Tuple elts kk tpos) (.Call (.Name "enumerate" p) [e] [] pos) (iEnum K ta) := by subst hK; exact pi_enum hg hm ha hs
theorem k_pi_zip {e e2 : Expr} {ta : TA} {p pos tpos : Pos} {elts : List Expr} {kk : Nat} (hg : Gl X "zip") (hm : X.mg "zip" = none) (ha : PA X [e, e2] ta)
    (hs : starEach [e, e2] X.env = (false, eval e X.env) :: starEach [e2] X.env := by rfl) (hpl : (backTo pos (starEach [e2] X.env)).any (·.1) = false := by rfl) (hK : X.K = K := by rfl) :
    PI X (.Tuple elts kk tpos) (.Call (.Name "zip" p) [e, e2] [] pos) (iZip K ta) := by subst hK; exact pi_zip hg hm ha hs hpl
end
end TL

/-! TLk: lists of own lists, as _law_pots makes them -/
namespace TL
open PySem L2
open Enc
def potsL (ns : List Int) : List Int := if ns.length = 0 then [0] else cutL ns none (some 63)
/-- called with a list of whole numbers: a new list of new lists [n, 0] -/
def SpPots (K : Fg) : Sp := fun vs H Q _ => ∃ F ns, RpAll K F vs [.list (ns.map .int)] ∧ Same F H ∧ ∀ (L : Addr) (ps : List Addr) (H' : Hp), Same H H' → H L = none → L ∉ ps → (∀ p ∈ ps, H p = none) → ps.Nodup → ps.length = (potsL ns).length →
  H' L = some (.lst (ps.map .ref)) → (∀ (i : Nat) (p : Addr) (c : Int), ps[i]? = some p → (potsL ns)[i]? = some c → H' p = some (.lst [.int c, .int 0])) → Q (.ref L) H'
theorem spots_len {K : Fg} : ∀ vs H Q E, SpPots K vs H Q E → vs.length = 1 := fun vs H Q E ⟨F, ns, r, _⟩ => r.length
theorem Hx.same {K : Fg} {F0 H0 F H : Hp} {O : Os} (S : Hx K F0 H0 [] F O H) : Same H0 H := fun a o e => S.keep a o e (by simp)
theorem pots_one {σ : L2.St} {H : Hp} {Q : VK} (k : ∀ (L : Addr) (ps : List Addr) (H' : Hp), Same H H' → H L = none → L ∉ ps → (∀ p ∈ ps, H p = none) → ps.Nodup → ps.length = 1 → H' L = some (.lst (ps.map .ref)) →
    (∀ (i : Nat) (p : Addr) (c : Int), ps[i]? = some p → [(0 : Int)][i]? = some c → H' p = some (.lst [.int c, .int 0])) → Q (.ref L) H') :
    tLst (tCons (tLst (tCons (tC (.int 0)) (tCons (tC (.int 0)) tNil))) tNil) σ H Q := by
  refine ⟨by show (2 : Nat) ≤ sizeLine; decide, fun p hp => ⟨by show (1 : Nat) ≤ sizeLine; decide, fun L hL => ?_⟩⟩
  have hne : L ≠ p := fun e => by
    subst e
    rw [upd_same] at hL
    cases hL
  have hL' : H L = none := by
    rw [upd_ne hne] at hL
    exact hL
  refine k L [p] _ ((same_upd hp).trans (same_upd hL)) hL' (by simpa using hne) (by simpa using hp) (by simp) rfl upd_same fun i q c h1 h2 => ?_
  cases i with
  | zero =>
    cases h1
    cases h2
    rw [upd_ne (Ne.symm hne), upd_same]
  | succ i => cases h1
theorem EnvR.length {K : Fg} {F : Hp} {σ : L2.St} {ρ : List Sl} (h : EnvR K F σ ρ) : σ.length = ρ.length := by
  induction h with
  | nil => rfl
  | cons _ _ ih => rw [List.length_cons, List.length_cons, ih]
theorem wipe_len (σ : L2.St) : ∀ vs : List Nat, (L2.wipe σ vs).length = σ.length := fun vs => wipe_length σ vs
theorem get_snoc {α : Type} {xs : List α} {x y : α} {i : Nat} (h : (xs ++ [x])[i]? = some y) : xs[i]? = some y ∨ (i = xs.length ∧ y = x) := by
  rw [List.getElem?_append] at h
  split at h
  · exact .inl h
  · rename_i hlt
    cases e : i - xs.length with
    | zero =>
      rw [e] at h
      exact .inr ⟨by omega, (Option.some.inj h).symm⟩
    | succ n => rw [e] at h; simp at h
theorem ite_true_of {A B : Prop} (h : A) : (if true = true then A else B) := by rw [if_pos rfl]; exact h
theorem pots_lc {K : Fg} {ρ : List Sl} {te : TE} {cs : List Int} {j : Nat} {vs : List Nat} {F H : Hp} {σ : L2.St} {Q : VK} (hj : j ∈ vs) (hl : j < ρ.length) (ha : RX K te ρ [] (.list (cs.map .int)) []) (E : EnvR K F σ ρ) (hF : Same F H)
    (k : ∀ (L : Addr) (ps : List Addr) (H' : Hp), Same H H' → H L = none → L ∉ ps → (∀ p ∈ ps, H p = none) → ps.Nodup → ps.length = cs.length → H' L = some (.lst (ps.map .ref)) →
      (∀ (i : Nat) (p : Addr) (c : Int), ps[i]? = some p → cs[i]? = some c → H' p = some (.lst [.int c, .int 0])) → Q (.ref L) H') :
    tLc (iList K te) (gName j) tYes (tLst (tCons (tVar j) (tCons (tC (.int 0)) tNil))) vs σ H Q := ha.go E (Hx.start hF) fun x F1 H1 f1 E1 S1 r1 => by
  cases r1 with
  | @lst a xs _ q1 q2 q3 =>
  have hx := RpAll.ints q3
  subst hx
  refine ⟨a, rfl, ⟨_, S1.fh.seq q1⟩, fun D hD => ?_⟩
  have hD0 : H D = none := S1.noh0 hD
  have hσ : j < (L2.wipe σ vs).length := by rw [wipe_len, E1.length]; exact hl
  refine lc_it (walk_list (K := K) (a := a) (xs := cs.map V.int)) (fun i H2 => ∃ ps : List Addr, Same H1 H2 ∧ H2 D = some (.lst (ps.map .ref)) ∧ ps.length = i ∧ D ∉ ps ∧ (∀ p ∈ ps, H1 p = none) ∧ ps.Nodup ∧
    ∀ (i : Nat) (p : Addr) (c : Int), ps[i]? = some p → cs[i]? = some c → H2 p = some (.lst [.int c, .int 0])) ⟨[], same_upd hD, upd_same, rfl, by simp, by simp, by simp, fun i p c e => by simp at e⟩
    (fun i H2 _ q => by obtain ⟨ps, q1', _⟩ := q; exact (S1.fh.trans q1').seq q1) (fun i x H2 H3 hi q y => ?_) (fun H2 q => ?_)
  · obtain ⟨ps, p1, p2, p3, p4, p5, p6, p7⟩ := q
    obtain ⟨e, y⟩ := y
    subst e
    have hi' : i < cs.length := by simpa using hi
    have hx : x = V.int cs[i] := by
      rw [List.getElem?_map, List.getElem?_eq_getElem hi'] at y
      exact (Option.some.inj y).symm
    subst hx
    refine ⟨wipe_set (i := j) (L2.wipe σ vs) hj |>.trans (wipe_wipe σ vs), ?_⟩
    unfold tYes
    refine ite_true_of ?_
    refine ⟨_, List.getElem?_set_self hσ, by show (2 : Nat) ≤ sizeLine; decide, fun p hp => ?_⟩
    have hpD : D ≠ p := ne_of_none p2 hp
    have hpn : p ∉ ps := fun hm => by
      obtain ⟨n, hn, en⟩ := List.mem_iff_getElem.mp hm
      have := p7 n p (cs[n]'(by omega)) (by rw [List.getElem?_eq_getElem hn, en]) (List.getElem?_eq_getElem _)
      rw [hp] at this
      cases this
    have hp1 : H1 p = none := p1.free hp
    refine ⟨ps.map .ref, by rw [upd_ne hpD]; exact p2, ?_, ps ++ [p], ?_, ?_, by rw [List.length_append, List.length_singleton, p3], ?_, ?_, ?_, ?_⟩
    · rw [List.length_map] at q2 ⊢; omega
    · intro b o hb
      have hbD : b ≠ D := ne_of_none hb hD
      rw [upd_ne hbD, upd_ne (ne_of_none hb hp1)]
      exact p1 _ _ hb
    · rw [List.map_append]; exact upd_same
    · rw [List.mem_append, List.mem_singleton]
      rintro (h | h)
      · exact p4 h
      · exact hpD h
    · intro b hb
      rcases List.mem_append.mp hb with h | h
      · exact p5 b h
      · rw [List.mem_singleton.mp h]; exact hp1
    · rw [List.nodup_append]
      refine ⟨p6, by simp, fun b hb c hc e => ?_⟩
      rw [List.mem_singleton] at hc
      subst hc
      subst e
      exact hpn hb
    · intro n b c h1 h2
      rcases get_snoc h1 with h | ⟨h, hb⟩
      · have hbm : b ∈ ps := List.mem_of_getElem? h
        have e1 : b ≠ D := fun e => p4 (e ▸ hbm)
        have e2 : b ≠ p := fun e => hpn (e ▸ hbm)
        rw [upd_ne e1, upd_ne e2]
        exact p7 n b c h h2
      · subst hb
        have en : n = i := h.trans p3
        subst en
        rw [List.getElem?_eq_getElem hi'] at h2
        cases h2
        rw [upd_ne (Ne.symm hpD), upd_same]
  · obtain ⟨ps, p1, p2, p3, p4, p5, p6, p7⟩ := q
    refine k D ps H2 (S1.same.trans p1) hD0 p4 (fun p hp => S1.noh0 (p5 p hp)) p6 (by simpa using p3) p2 p7
def potsOs : List Addr → List Int → Os
  | p :: ps, c :: cs => ⟨p, true, [PyData.int c, .int 0]⟩ :: potsOs ps cs
  | _, _ => []
theorem potsOs_mem : ∀ {ps : List Addr} {cs : List Int} {q : OE}, q ∈ potsOs ps cs → ∃ (i : Nat) (p : Addr) (c : Int), ps[i]? = some p ∧ cs[i]? = some c ∧ q = ⟨p, true, [PyData.int c, .int 0]⟩
  | [], _, _, h => by simp [potsOs] at h
  | p :: ps, [], _, h => by simp [potsOs] at h
  | p :: ps, c :: cs, q, h => by
    rcases List.mem_cons.mp h with e | h
    · exact ⟨0, p, c, rfl, rfl, e⟩
    · obtain ⟨i, p', c', h1, h2, h3⟩ := potsOs_mem h
      exact ⟨i + 1, p', c', by simpa using h1, by simpa using h2, h3⟩
theorem potsOs_map : ∀ {ps : List Addr} {cs : List Int}, ps.length = cs.length → (potsOs ps cs).map OE.a = ps
  | [], [], _ => rfl
  | [], _ :: _, h => by simp at h
  | _ :: _, [], h => by simp at h
  | p :: ps, c :: cs, h => by
    unfold potsOs
    rw [List.map_cons, potsOs_map (by simpa using h)]
theorem Hx.pots {K : Fg} {F0 H0 F H H' : Hp} {D0 : List Addr} {O : Os} (S : Hx K F0 H0 D0 F O H) {L : Addr} {ps : List Addr} {cs : List Int} (h : Same H H') (hL : H L = none) (hn : L ∉ ps) (hp : ∀ p ∈ ps, H p = none) (nd : ps.Nodup) (hl : ps.length = cs.length)
    (hH : H' L = some (.lst (ps.map .ref))) (hc : ∀ (i : Nat) (p : Addr) (c : Int), ps[i]? = some p → cs[i]? = some c → H' p = some (.lst [.int c, .int 0])) : Hx K F0 H0 D0 (upd F L (.lst (ps.map .ref))) (potsOs ps cs ++ O) H' := by
  have hFL := S.nof hL
  have fu : Same F (upd F L (.lst (ps.map .ref))) := same_upd hFL
  refine ⟨S.f0.trans fu, fun a u e => ?_, fun a u e n => h _ _ (S.keep a u e n), fun a u e => ?_, fun a u e n => ?_, fun q hq => ?_, ?_⟩
  · by_cases ha : a = L
    · subst ha
      rw [upd_same] at e
      cases e
      exact hH
    · rw [upd_ne ha] at e
      exact h _ _ (S.fh _ _ e)
  · obtain ⟨u', e'⟩ := S.live a u e
    exact ⟨u', h _ _ e'⟩
  · obtain ⟨u', e'⟩ := S.live a u e
    rw [upd_ne (ne_of_none e' hL)]
    exact S.new a u e n
  · rcases List.mem_append.mp hq with hq | hq
    · obtain ⟨i, p, c, h1, h2, rfl⟩ := potsOs_mem hq
      have hm : p ∈ ps := List.mem_of_getElem? h1
      have hpn := hp p hm
      refine ⟨?_, fun _ => S.noh0 hpn, fun z => (Bool.false_ne_true z.symm).elim, _, hc i p c h1 h2, by show (2 : Nat) ≤ sizeLine; decide, .cons (.int c) (.cons (.int 0) .nil)⟩
      show upd F L _ p = none
      rw [upd_ne (fun e : p = L => hn (by rw [← e]; exact hm))]
      exact S.nof hpn
    · obtain ⟨h1, h2, h3, h40⟩ := S.own q hq
      obtain ⟨u, h4⟩ := h40.live
      refine ⟨?_, h2, h3, (h40.at ((h _ _ h4).trans h4.symm)).up fu⟩
      rw [upd_ne (ne_of_none h4 hL)]
      exact h1
  · rw [List.map_append, potsOs_map hl, List.nodup_append]
    refine ⟨nd, S.nd, fun a ha b hb e => ?_⟩
    obtain ⟨q, hq, eq⟩ := List.mem_map.mp hb
    obtain ⟨vs, h4⟩ := S.ownL hq
    rw [eq, ← e, hp a ha] at h4
    cases h4
theorem Hx.sub {K : Fg} {F0 H0 F H : Hp} {D0 : List Addr} {O O' : Os} (S : Hx K F0 H0 D0 F O H) (h : O'.Sublist O) : Hx K F0 H0 D0 F O' H :=
  ⟨S.f0, S.fh, S.keep, S.live, S.new, fun p hp => S.own p (h.subset hp), S.nd.sublist (h.map OE.a)⟩
theorem drop_cons {α : Type} {xs : List α} {i : Nat} (h : i < xs.length) : xs.drop i = xs[i] :: xs.drop (i + 1) := List.drop_eq_getElem_cons h
/-- for pot in _law_pots(..) -/
theorem st_forP {K : Fg} {ρ : List Sl} {F0 H0 F H : Hp} {D0 : List Addr} {O : Os} {σ : L2.St} {D : Ends} {R : Type} {te : TE} {j : Nat} {tb : TS} {ns : List Int} {f : Int → Unit → Option (Fl Unit R)} {fl : Fl Unit R} {E0 : XK} (ρ1 : List Sl)
    (E : EnvR K F σ ρ) (S0 : Hx K F0 H0 D0 F O H) (ha : RX K te ρ O (.list (ns.map .int)) O) (hf : forF f (potsL ns) () = some fl) (hW : Wk ρ ρ1)
    (kn : ∀ s, fl = .nx s → ∀ σ' F' H', Same F F' → EnvR K F' σ' ρ1 → Hx K F0 H0 D0 F' O H' → D.nx σ' H')
    (body : ∀ c out, f c () = some out → (∀ r, out = .rt r → fl = .rt r) → ∀ σ1 F1 H1 p Or, Same F F1 → EnvR K F1 σ1 (ρ1.set j (.adr p)) → Hx K F0 H0 D0 F1 (⟨p, true, ([c, 0] : List Int).map enc⟩ :: Or) H1 →
      ∀ (N B : L2.St → Hp → Prop), (∀ s, out = .nx s → ∀ σ' F' H', Same F1 F' → EnvR K F' σ' ρ1 → Hx K F0 H0 D0 F' Or H' → N σ' H') → (∀ s, out = .bk s → ∀ σ' F' H', Same F1 F' → EnvR K F' σ' ρ1 → Hx K F0 H0 D0 F' Or H' → B σ' H') → tb { D with nx := N, ct := N, bk := B } σ1 H1) :
    tFor (iList K (tCall (SpPots K) [] E0 (tCons te tNil))) (gName j) tb D σ H := by
  refine ha.go E S0 fun x F1 H1 f1 E1 S1 r1 => ?_
  refine ⟨F1, ns, .cons r1 .nil, S1.fh, fun L ps H2 g1 g2 g3 g4 g5 g6 g7 g8 => ?_⟩
  have S2 := S1.pots g1 g2 g3 g4 g5 g6 g7 g8
  have fu : Same F1 (upd F1 L (.lst (ps.map .ref))) := same_upd (S1.nof g2)
  refine ⟨L, rfl, ⟨_, SqL.of g7⟩, ?_⟩
  have hlen : (ps.map V.ref).length = ps.length := List.length_map _
  refine for_it (walk_list (K := K) (a := L) (xs := ps.map V.ref)) (fun i σ H => ∃ F2, Same F F2 ∧ F2 L = some (.lst (ps.map .ref)) ∧ EnvR K F2 σ ρ1 ∧ Hx K F0 H0 D0 F2 (potsOs (ps.drop i) ((potsL ns).drop i) ++ O) H ∧ forF f ((potsL ns).drop i) () = some fl)
    ⟨_, f1.trans fu, upd_same, (E1.up fu).weak hW, S2, hf⟩ (fun i σ H _ q => by obtain ⟨F2, _, q2, _, q4, _⟩ := q; exact SqL.of (q4.fh _ _ q2)) (fun i x σ H H' hi q y => ?_) (fun σ H q => ?_)
  · obtain ⟨F2, q1, q2, q3, q4, q5⟩ := q
    obtain ⟨e, y⟩ := y
    subst e
    rw [hlen] at hi
    have hi2 : i < (potsL ns).length := by omega
    have hx : x = V.ref ps[i] := by
      rw [List.getElem?_map, List.getElem?_eq_getElem hi] at y
      exact (Option.some.inj y).symm
    subst hx
    rw [drop_cons hi2] at q4 q5
    rw [drop_cons hi] at q4
    obtain ⟨out, e1, q5⟩ := bindE q5
    refine body _ out e1 (fun r eo => ?_) _ F2 H' ps[i] (potsOs (ps.drop (i + 1)) ((potsL ns).drop (i + 1)) ++ O) q1 (q3.seta j) q4 _ _ (fun s eo σ' F' H2 ff E' S' => ?_) (fun s eo σ' F' H2 ff E' S' => ?_)
    · subst eo
      exact (Option.some.inj q5).symm
    · subst eo
      exact ⟨F', q1.trans ff, ff _ _ q2, E', S', q5⟩
    · subst eo
      exact kn s (Option.some.inj q5).symm σ' F' H2 (q1.trans ff) E' (S'.sub (List.sublist_append_right _ _))
  · obtain ⟨F2, q1, q2, q3, q4, q5⟩ := q
    rw [hlen, List.drop_length] at q4
    rw [hlen, g6, List.drop_length] at q5
    exact kn () (Option.some.inj q5).symm σ F2 H q1 q3 q4
end TL

/-! TLl: isinstance; likeness of data, as the laws' _law_same and _law_alike reckon it -/
namespace TL
open PySem L2
open Enc
open RZ
def tyN : PyData → String
  | .none => "NoneType"
  | .bool _ => "bool"
  | .int _ => "int"
  | .str _ => "str"
  | .list _ => "list"
  | .tuple _ => "tuple"
  | .dict _ => "dict"
theorem seqL_ty {K : Fg} {H : Hp} {a : Addr} {xs : List V} (h : SqL K H a xs) : TyX K H (.ref a) (.type "list") := by
  rcases h with (h | ⟨o, h⟩) | ⟨o, its, n, h1, h2, _⟩
  · exact .base (.lst h)
  · exact .base (.frz h)
  · exact .kList h1 h2
theorem seqT_ty {K : Fg} {H : Hp} {a : Addr} {xs : List V} (h : SqT K H a xs) : TyX K H (.ref a) (.type "tuple") := by
  rcases h with (h | ⟨o, h⟩) | ⟨o, its, n, h1, h2, _⟩
  · exact .base (.tup h)
  · exact .fTuple h
  · exact .kTuple h1 h2
theorem Rp.ty {K : Fg} {H : Hp} {v : V} {d : PyData} (h : Rp K H v d) : TyX K H v (.type (tyN d)) := by
  cases h with
  | non => exact .base .non
  | bl b => exact .base (.bl b)
  | int i => exact .base (.int i)
  | str x => exact .base (.str x)
  | lst h _ _ => exact seqL_ty h
  | tup h _ _ => exact seqT_ty h
section
variable {K : Fg} {ta tb te : TE} {ρ : List Sl} {O O1 O2 : Os} {d : PyData}
theorem rx_isi {c : String} {r : Bool} (ha : RX K ta ρ O d O1) (h : kitB (tyN d) c = some r) : RX K (tCB (rIsi K) (tCons ta (tCons (tC (.ty c)) tNil))) ρ O (.bool r) O1 := ⟨fun _ _ _ _ _ _ Q E S k => ha.go E S fun x F1 H1 f1 E1 S1 r1 =>
  ⟨x, .ty c, _, _, r, rfl, .ty c, (r1.up S1.fh).ty, kit_ty h, k _ F1 H1 f1 S1 (.bl r)⟩⟩
theorem rx_isiT2 {c c' : String} {r r' : Bool} (ha : RX K ta ρ O d O1) (h : kitB (tyN d) c = some r) (h' : kitB (tyN d) c' = some r') :
    RX K (tCB (rIsiT K) (tCons ta (tCons (tTup (tCons (tC (.ty c)) (tCons (tC (.ty c')) tNil))) tNil))) ρ O (.bool (r || r')) O1 := ⟨fun _ _ _ _ _ _ Q E S k => ha.go E S fun x F1 H1 f1 E1 S1 r1 => by
  refine ⟨by show (2 : Nat) ≤ sizeLine; decide, fun T hT => ?_⟩
  have S2 := S1.junk (o := .tup [.ty c, .ty c']) hT
  refine ⟨x, T, [.ty c, .ty c'], _, [.type c, .type c'], r || r', rfl, upd_same, .cons (.ty c) (.cons (.ty c') .nil), (r1.up S2.fh).ty, kitAny_cons (kit_ty h) (fun e => kitAny_cons (kit_ty h') (fun e' => ?_) fun e' => ?_) (fun e => by rw [e]; rfl), k _ F1 _ f1 S2 (.bl _)⟩
  · rw [e, e']; exact kitAny_nil
  · rw [e, e']; rfl⟩
theorem kit_at {d : PyData} {t c : String} {r : Bool} (ht : tyN d = t) (h : kitB t c = some r) : kitB (tyN d) c = some r := by rw [ht]; exact h
theorem k_isi {X : Cx} (K : Fg) (hK : X.K = K := by rfl) : CallR X (.builtin "isinstance") (rIsi K) := by subst hK; exact call_isi
theorem k_isiT {X : Cx} (K : Fg) (hK : X.K = K := by rfl) : CallR X (.builtin "isinstance") (rIsiT K) := by subst hK; exact call_isiT
theorem k_pi_zipA {X : Cx} (K : Fg) {e e2 : Expr} {ta : TA} {p pos tpos : Pos} {elts : List Expr} {kk : Nat} (hg : Gl X "zip") (hm : X.mg "zip" = none) (ha : PA X [e, e2] ta)
    (hs : starEach [e, e2] X.env = (false, eval e X.env) :: starEach [e2] X.env := by rfl) (hpl : (backTo pos (starEach [e2] X.env)).any (·.1) = false := by rfl) (hK : X.K = K := by rfl) :
    PI X (.Tuple elts kk tpos) (.Call (.Name "zip" p) [e, e2] [] pos) (iZipA K ta) := by subst hK; exact pi_zipA hg hm ha hs hpl
theorem pe_tyn {X : Cx} {x : Str} {c : String} {pos : Pos} (hg : Gl X x) (hm : X.mg x = none) (hv : bootBuiltins x = some (.type c)) (hn : x ≠ "__name__" := by decide) (hd : (x == ("__debug__" : Str)) = false := by decide) : PE X (.Name x pos) (tC (.ty c)) :=
  pe_bltn hg hm hv (show RelV (.ty c) (.type c) from rfl) hn hd
theorem ri_zipAL {ys zs : List PyData} (h : RX K ta ρ O (.list ys) O1) (h' : RX K tb ρ O1 (.list zs) O2) : RI K (iZipA K (tCons ta (tCons tb tNil))) ρ O (zipD ys zs) O2 := ⟨fun F0 H0 D0 σ F H R E S k =>
  (ri_zip h h').run F0 H0 D0 σ F H R E S k |> fun g => by
    refine h.go E S fun x F1 H1 f1 E1 S1 r1 => h'.go E1 S1 fun y F2 H2 f2 E2 S2 r2 => ?_
    have r1' := r1.up f2
    cases r1' with
    | @lst a xs _ q1 q2 q3 =>
      cases r2 with
      | @lst b ws _ p1 p2 p3 =>
        refine ⟨a, b, xs, ws, rfl, .inl ⟨S2.fh.seq q1, S2.fh.seq p1, ?_⟩⟩
        have hl : (zipD ys zs).length = min xs.length ws.length := by unfold zipD; rw [List.length_map, List.length_zip, q3.length, p3.length]
        refine k _ F2 H2 (f1.trans f2) S2 ⟨by omega, fun _ _ _ F O H i hi f S => ?_, fun _ _ _ F O H f S => ?_, fun _ _ _ F O H i x H' hi f S y => ?_⟩
        · have h1 : i < xs.length := by omega
          have h2 : i < ws.length := by omega
          exact ⟨xs, ws, xs[i], ws[i], (f.trans S.fh).seq q1, (f.trans S.fh).seq p1, by simp [h1], by simp [h2]⟩
        · exact ⟨xs, ws, (f.trans S.fh).seq q1, (f.trans S.fh).seq p1, by omega⟩
        · obtain ⟨T, u, v, rfl, hT, rfl, y1, y2⟩ := y
          obtain ⟨d, e, r⟩ := (q3.up f).getV (y1 xs ((f.trans S.fh).seq q1))
          obtain ⟨d', e', r'⟩ := (p3.up f).getV (y2 ws ((f.trans S.fh).seq p1))
          obtain ⟨F3, f3, S3, r3⟩ := pair_put S hT r r'
          refine ⟨F3, _, f3, S3, ?_, r3⟩
          unfold zipD
          have ez : (ys.zip zs)[i]? = some (d, d') := List.getElem?_zip_eq_some.mpr ⟨e, e'⟩
          rw [List.getElem?_map, ez]
          rfl⟩
theorem ri_zipAT {ys zs : List PyData} (h : RX K ta ρ O (.tuple ys) O1) (h' : RX K tb ρ O1 (.tuple zs) O2) : RI K (iZipA K (tCons ta (tCons tb tNil))) ρ O (zipD ys zs) O2 := ⟨fun F0 H0 D0 σ F H R E S k => by
    refine h.go E S fun x F1 H1 f1 E1 S1 r1 => h'.go E1 S1 fun y F2 H2 f2 E2 S2 r2 => ?_
    have r1' := r1.up f2
    cases r1' with
    | @tup a xs _ q1 q2 q3 =>
      cases r2 with
      | @tup b ws _ p1 p2 p3 =>
        refine ⟨a, b, xs, ws, rfl, .inr ⟨same_t S2.fh q1, same_t S2.fh p1, ?_⟩⟩
        have hl : (zipD ys zs).length = min xs.length ws.length := by unfold zipD; rw [List.length_map, List.length_zip, q3.length, p3.length]
        refine k _ F2 H2 (f1.trans f2) S2 ⟨by omega, fun _ _ _ F O H i hi f S => ?_, fun _ _ _ F O H f S => ?_, fun _ _ _ F O H i x H' hi f S y => ?_⟩
        · have h1 : i < xs.length := by omega
          have h2 : i < ws.length := by omega
          exact ⟨xs, ws, xs[i], ws[i], same_t (f.trans S.fh) q1, same_t (f.trans S.fh) p1, by simp [h1], by simp [h2]⟩
        · exact ⟨xs, ws, same_t (f.trans S.fh) q1, same_t (f.trans S.fh) p1, by omega⟩
        · obtain ⟨T, u, v, rfl, hT, rfl, y1, y2⟩ := y
          obtain ⟨d, e, r⟩ := (q3.up f).getV (y1 xs (same_t (f.trans S.fh) q1))
          obtain ⟨d', e', r'⟩ := (p3.up f).getV (y2 ws (same_t (f.trans S.fh) p1))
          obtain ⟨F3, f3, S3, r3⟩ := pair_put S hT r r'
          refine ⟨F3, _, f3, S3, ?_, r3⟩
          unfold zipD
          have ez : (ys.zip zs)[i]? = some (d, d') := List.getElem?_zip_eq_some.mpr ⟨e, e'⟩
          rw [List.getElem?_map, ez]
          rfl⟩
end

/-! ### likeness -/
mutual
inductive Sim : Nat → PyData → PyData → Bool → Prop
  | int {n : Nat} (i j : Int) : Sim n (.int i) (.int j) (decide (i = j))
  | bool {n : Nat} (i j : Bool) : Sim n (.bool i) (.bool j) (decide (i = j))
  | str {n : Nat} (i j : Str) : Sim n (.str i) (.str j) (decide (i = j))
  | list {n : Nat} {xs ys : List PyData} {b : Bool} (h : SimAll n xs ys b) : Sim (n + 1) (.list xs) (.list ys) (decide (xs.length = ys.length) && b)
  | tuple {n : Nat} {xs ys : List PyData} {b : Bool} (h : SimAll n xs ys b) : Sim (n + 1) (.tuple xs) (.tuple ys) (decide (xs.length = ys.length) && b)
inductive SimAll : Nat → List PyData → List PyData → Bool → Prop
  | nil {n : Nat} (ys : List PyData) : SimAll n [] ys true
  | nil' {n : Nat} (xs : List PyData) : SimAll n xs [] true
  | cons {n : Nat} {x y : PyData} {xs ys : List PyData} {b c : Bool} (h : Sim n x y b) (t : SimAll n xs ys c) : SimAll n (x :: xs) (y :: ys) (b && c)
end
mutual
theorem Sim.mono {n m : Nat} {x y : PyData} {b : Bool} (h : Sim n x y b) (e : n ≤ m) : Sim m x y b := by
  cases h with
  | int i j => exact .int i j
  | bool i j => exact .bool i j
  | str i j => exact .str i j
  | list h =>
    cases m with
    | zero => omega
    | succ m => exact .list (SimAll.mono h (by omega))
  | tuple h =>
    cases m with
    | zero => omega
    | succ m => exact .tuple (SimAll.mono h (by omega))
theorem SimAll.mono {n m : Nat} {xs ys : List PyData} {b : Bool} (h : SimAll n xs ys b) (e : n ≤ m) : SimAll m xs ys b := by
  cases h with
  | nil ys => exact .nil ys
  | nil' xs => exact .nil' xs
  | cons h t => exact .cons (Sim.mono h e) (SimAll.mono t e)
end
class SimT (α : Type) [Enc α] [DecidableEq α] where
  dp : Nat
  ok : ∀ x y : α, Sim dp (enc x) (enc y) (decide (x = y))
instance : SimT Int := ⟨0, fun x y => .int x y⟩
instance : SimT Bool := ⟨0, fun x y => .bool x y⟩
instance : SimT Str := ⟨0, fun x y => .str x y⟩
theorem simAll_map {α : Type} [Enc α] [DecidableEq α] [s : SimT α] : ∀ xs ys : List α, ∃ b, SimAll (SimT.dp α) (xs.map enc) (ys.map enc) b ∧ (decide (xs.length = ys.length) && b) = decide (xs = ys)
  | [], ys => ⟨true, .nil _, by cases ys <;> simp⟩
  | x :: xs, [] => ⟨true, .nil' _, by simp⟩
  | x :: xs, y :: ys => by
    obtain ⟨b, h, e⟩ := simAll_map xs ys
    refine ⟨_, .cons (SimT.ok x y) h, ?_⟩
    have e1 : decide (x :: xs = y :: ys) = (decide (x = y) && decide (xs = ys)) := by simp
    rw [e1, ← e]
    have e2 : decide ((x :: xs).length = (y :: ys).length) = decide (xs.length = ys.length) := by simp
    rw [e2]
    cases decide (x = y) <;> cases decide (xs.length = ys.length) <;> cases b <;> rfl
instance {α : Type} [Enc α] [DecidableEq α] [SimT α] : SimT (List α) := ⟨SimT.dp α + 1, fun xs ys => by
  obtain ⟨b, h, e⟩ := simAll_map xs ys
  have := Sim.list h
  rw [List.length_map, List.length_map, e] at this
  exact this⟩
instance {α : Type} [Enc α] [DecidableEq α] [SimT α] : SimT (Tp α) := ⟨SimT.dp α + 1, fun xs ys => by
  obtain ⟨xs⟩ := xs
  obtain ⟨ys⟩ := ys
  obtain ⟨b, h, e⟩ := simAll_map xs ys
  have := Sim.tuple h
  rw [List.length_map, List.length_map, e] at this
  have e2 : decide (Tp.mk xs = Tp.mk ys) = decide (xs = ys) := by simp
  rw [e2]
  exact this⟩
instance {α β : Type} [Enc α] [DecidableEq α] [SimT α] [Enc β] [DecidableEq β] [SimT β] : SimT (α × β) := ⟨SimT.dp α + SimT.dp β + 1, fun x y => by
  obtain ⟨a, b⟩ := x
  obtain ⟨c, d⟩ := y
  have := Sim.tuple (.cons ((SimT.ok a c).mono (Nat.le_add_right _ _)) (.cons ((SimT.ok b d).mono (Nat.le_add_left _ _)) (.nil [])))
  have e2 : decide ((a, b) = (c, d)) = (decide ([enc a, enc b].length = [enc c, enc d].length) && (decide (a = c) && (decide (b = d) && true))) := by simp [Bool.decide_and]
  rw [e2]
  exact this⟩
instance {α β γ : Type} [Enc α] [DecidableEq α] [SimT α] [Enc β] [DecidableEq β] [SimT β] [Enc γ] [DecidableEq γ] [SimT γ] : SimT (T3 α β γ) := ⟨SimT.dp α + SimT.dp β + SimT.dp γ + 1, fun x y => by
  obtain ⟨a, b, c⟩ := x
  obtain ⟨a', b', c'⟩ := y
  have := Sim.tuple (.cons ((SimT.ok a a').mono (by omega : SimT.dp α ≤ SimT.dp α + SimT.dp β + SimT.dp γ)) (.cons ((SimT.ok b b').mono (by omega)) (.cons ((SimT.ok c c').mono (by omega)) (.nil []))))
  have e2 : decide (T3.mk a b c = T3.mk a' b' c') = (decide ([enc a, enc b, enc c].length = [enc a', enc b', enc c'].length) && (decide (a = a') && (decide (b = b') && (decide (c = c') && true)))) := by simp [Bool.decide_and]
  rw [e2]
  exact this⟩
instance {α β γ δ : Type} [Enc α] [DecidableEq α] [SimT α] [Enc β] [DecidableEq β] [SimT β] [Enc γ] [DecidableEq γ] [SimT γ] [Enc δ] [DecidableEq δ] [SimT δ] : SimT (T4 α β γ δ) := ⟨SimT.dp α + SimT.dp β + SimT.dp γ + SimT.dp δ + 1, fun x y => by
  obtain ⟨a, b, c, d⟩ := x
  obtain ⟨a', b', c', d'⟩ := y
  have := Sim.tuple (.cons ((SimT.ok a a').mono (by omega : SimT.dp α ≤ SimT.dp α + SimT.dp β + SimT.dp γ + SimT.dp δ)) (.cons ((SimT.ok b b').mono (by omega)) (.cons ((SimT.ok c c').mono (by omega)) (.cons ((SimT.ok d d').mono (by omega)) (.nil [])))))
  have e2 : decide (T4.mk a b c d = T4.mk a' b' c' d') = (decide ([enc a, enc b, enc c, enc d].length = [enc a', enc b', enc c', enc d'].length) && (decide (a = a') && (decide (b = b') && (decide (c = c') && (decide (d = d') && true))))) := by simp [Bool.decide_and]
  rw [e2]
  exact this⟩
def SimR (n : Nat) : List PyData → PyData → Prop := fun ds d => ∃ x y b, ds = [x, y] ∧ Sim n x y b ∧ d = .bool b
theorem SimAll.all {n : Nat} {xs ys : List PyData} {b : Bool} (h : SimAll n xs ys b) : ∃ zs : List (PyData × PyData × Bool), zs.map (fun t => PyData.tuple [t.1, t.2.1]) = zipD xs ys ∧ (∀ t ∈ zs, Sim n t.1 t.2.1 t.2.2) ∧ (zs.map (·.2.2)).all id = b := by
  induction xs generalizing ys b with
  | nil => cases h; exact ⟨[], rfl, fun t e => by simp at e, rfl⟩; exact ⟨[], rfl, fun t e => by simp at e, rfl⟩
  | cons x xs ih =>
    cases h with
    | nil' => exact ⟨[], rfl, fun t e => by simp at e, rfl⟩
    | @cons _ _ y _ ys b c h t =>
      obtain ⟨zs, h1, h2, h3⟩ := ih t
      refine ⟨(x, y, b) :: zs, ?_, fun t ht => ?_, by rw [List.map_cons, List.all_cons, h3]; rfl⟩
      · rw [List.map_cons, h1]; rfl
      · rcases List.mem_cons.mp ht with e | ht
        · subst e; exact h
        · exact h2 t ht
theorem Cal.never {P : Program} {w : World} {K : Fg} {mg : Str → Option Value} {base : Heap} {x : Str} {st : Stmt} {N ps : List Str} (h : Dfn K mg x st ps) (S : FnScope N ps (defScope st)) : Cal P w K mg base 1 x ps (fun _ _ _ _ => False) :=
  h.cal S (fun _ _ _ _ h => h.elim) fun _ _ _ _ _ _ _ _ _ _ h => h.elim
end TL

namespace TL
open PySem L2
open Enc
/-! ### tuples of own lists -/
theorem perm_erase {α : Type} : ∀ (l : List α) (j : Nat) (x : α), l[j]? = some x → l.Perm (x :: l.eraseIdx j)
  | [], j, x, h => by simp at h
  | y :: l, 0, x, h => by
    simp at h
    subst h
    exact List.Perm.refl _
  | y :: l, j + 1, x, h => by
    rw [List.eraseIdx_cons_succ]
    exact ((perm_erase l j x (by simpa using h)).cons y).trans (List.Perm.swap x y _)
def towOs (ps : List Addr) (ess : List (List PyData)) : Os := List.zipWith (fun p (es : List PyData) => ⟨p, true, es⟩) ps ess
inductive Tow (O : Os) : List Addr → List (List PyData) → Prop
  | nil : Tow O [] []
  | cons (j : Nat) {p : Addr} {nw : Bool} {es : List PyData} {ps : List Addr} {ess : List (List PyData)} (h : O[j]? = some ⟨p, nw, es⟩) : Tow O ps ess → Tow O (p :: ps) (es :: ess)
section
variable {K : Fg} {F0 H0 F H F' H' : Hp} {D0 : List Addr} {O O' O1 O2 : Os} {ρ : List Sl} {σ : L2.St} {ps : List Addr} {ess : List (List PyData)}
theorem EnvR.tow {i : Nat} (h : EnvR K F σ ρ) (e : ρ[i]? = some (.tow ps)) : ∃ t, σ[i]? = some (some (.ref t)) ∧ SqT K F t (ps.map .ref) := by
  obtain ⟨s, h1, t, rfl, h2⟩ := h.at e
  exact ⟨t, h1, h2⟩
theorem Tow.rp (S : Hx K F0 H0 D0 F O H) (t : Tow O ps ess) : RpAll K H (ps.map .ref) (ess.map .list) := by
  induction t with
  | nil => exact .nil
  | cons j h _ ih =>
    obtain ⟨_, _, _, vs, h4, h5, h6⟩ := S.get h
    exact .cons (.lst (SqL.of h4) h5 (h6.up S.fh)) ih
theorem Tow.lens (t : Tow O ps ess) : ps.length = ess.length := by
  induction t with
  | nil => rfl
  | cons j h _ ih => rw [List.length_cons, List.length_cons, ih]
theorem Hx.perm (S : Hx K F0 H0 D0 F O H) (h : O.Perm O') : Hx K F0 H0 D0 F O' H :=
  ⟨S.f0, S.fh, S.keep, S.live, S.new, fun p hp => S.own p (h.mem_iff.mpr hp), (h.map OE.a).nodup_iff.mp S.nd⟩
/-- a part of the own lists apart -/
theorem Hx.fr {X : Os} (S : Hx K F0 H0 D0 F (O ++ X) H) : ∃ H1 D1, Hx K F H1 D1 F O H ∧ ∀ F' O' H', Hx K F H1 D1 F' O' H' → Hx K F0 H0 D0 F' (O' ++ X) H' := by
  let nwA (a : Addr) : Bool := O.any fun e => e.nw && decide (e.a = a)
  let H1 : Hp := fun a => if nwA a = true then none else H a
  let D1 : List Addr := (O.filter fun e => !e.nw).map OE.a
  have h1s : ∀ a o, H1 a = some o → H a = some o := fun a o e => by
    show H a = some o
    have e : (if nwA a = true then none else H a) = some o := e
    split at e
    · cases e
    · exact e
  have h1of : ∀ a o, H a = some o → (∀ e ∈ O, e.a = a → e.nw = false) → H1 a = some o := fun a o e n => by
    show (if nwA a = true then none else H a) = some o
    rw [if_neg]
    · exact e
    · intro q
      obtain ⟨x, hx, q⟩ := List.any_eq_true.mp q
      rw [Bool.and_eq_true, decide_eq_true_eq] at q
      rw [n x hx q.2] at q
      exact Bool.false_ne_true q.1
  have inO : ∀ e ∈ O, e ∈ O ++ X := fun e h => List.mem_append_left _ h
  have inX : ∀ e ∈ X, e ∈ O ++ X := fun e h => List.mem_append_right _ h
  have dj : ∀ e ∈ O, ∀ x ∈ X, e.a ≠ x.a := fun e he x hx q => by
    have := S.nd
    rw [List.map_append, List.nodup_append] at this
    exact this.2.2 e.a (List.mem_map.mpr ⟨e, he, rfl⟩) x.a (List.mem_map.mpr ⟨x, hx, rfl⟩) q
  have d1 : ∀ a, a ∈ D1 → ∃ e ∈ O, e.a = a ∧ e.nw = false := fun a h => by
    obtain ⟨e, he, rfl⟩ := List.mem_map.mp h
    rw [List.mem_filter] at he
    exact ⟨e, he.1, rfl, by simpa using he.2⟩
  -- what stood at the entry is in H1
  have old : ∀ a o, H0 a = some o → ∀ e ∈ O, e.a = a → e.nw = false := fun a o e x hx q => by
    cases hw : x.nw with
    | false => rfl
    | true =>
      have := (S.own x (inO x hx)).2.1 hw
      rw [q, e] at this
      cases this
  refine ⟨H1, D1, ⟨Same.refl _, S.fh, fun a o e _ => h1s a o e, fun a o e => ⟨o, h1s a o e⟩, fun _ _ _ e => e, fun p hp => ?_, ?_⟩, fun F' O' H' S2 => ?_⟩
  · obtain ⟨g1, g2, g3, g4⟩ := S.own p (inO p hp)
    refine ⟨g1, fun hw => ?_, fun hw => List.mem_map.mpr ⟨p, List.mem_filter.mpr ⟨hp, by rw [hw]; rfl⟩, rfl⟩, g4⟩
    show (if nwA p.a = true then none else H p.a) = none
    rw [if_pos]
    exact List.any_eq_true.mpr ⟨p, hp, by rw [hw]; simp⟩
  · have := S.nd
    rw [List.map_append, List.nodup_append] at this
    exact this.1
  · refine ⟨S.f0.trans S2.f0, S2.fh, fun a o e n => ?_, fun a o e => ?_, fun a o e n => ?_, fun p hp => ?_, ?_⟩
    · refine S2.keep a o (h1of a o (S.keep a o e n) (old a o e)) fun hd => ?_
      obtain ⟨x, hx, q, hw⟩ := d1 a hd
      exact n (q ▸ (S.own x (inO x hx)).2.2.1 hw)
    · obtain ⟨o', e'⟩ := S.live a o e
      exact S2.live a o' (h1of a o' e' (old a o e))
    · obtain ⟨o', e'⟩ := S.live a o e
      exact S2.new a o' (h1of a o' e' (old a o e)) (S.new a o e n)
    · rcases List.mem_append.mp hp with hp | hp
      · obtain ⟨g1, g2, g3, g4⟩ := S2.own p hp
        refine ⟨g1, fun hw => ?_, fun hw => ?_, g4⟩
        · have g2 := g2 hw
          cases e : H0 p.a with
          | none => rfl
          | some o =>
            obtain ⟨o', e'⟩ := S.live p.a o e
            rw [h1of p.a o' e' (old p.a o e)] at g2
            cases g2
        · obtain ⟨x, hx, q, hw'⟩ := d1 _ (g3 hw)
          exact q ▸ (S.own x (inO x hx)).2.2.1 hw'
      · obtain ⟨g1, g2, g3, g40⟩ := S.own p (inX p hp)
        obtain ⟨u, g4⟩ := g40.live
        have n : ∀ e ∈ O, e.a = p.a → e.nw = false := fun e he q => (dj e he p hp q).elim
        have k1 := h1of p.a _ g4 n
        refine ⟨S2.new _ _ k1 g1, g2, g3, (g40.at ((S2.keep _ _ k1 fun hd => ?_).trans g4.symm)).up S2.f0⟩
        obtain ⟨x, hx, q, _⟩ := d1 _ hd
        exact dj x hx p hp q
    · rw [List.map_append, List.nodup_append]
      have := S.nd
      rw [List.map_append, List.nodup_append] at this
      refine ⟨S2.nd, this.2.1, fun a ha b hb q => ?_⟩
      subst q
      obtain ⟨e, he, rfl⟩ := List.mem_map.mp ha
      obtain ⟨x, hx, q⟩ := List.mem_map.mp hb
      obtain ⟨g1, g2, g3, g40⟩ := S.own x (inX x hx)
      obtain ⟨u, g4⟩ := g40.live
      have n : ∀ e ∈ O, e.a = x.a → e.nw = false := fun e he q => (dj e he x hx q).elim
      have k1 := h1of x.a _ g4 n
      obtain ⟨k2, k3, k4, _⟩ := S2.own e he
      cases hw : e.nw with
      | true =>
        have := k3 hw
        rw [← q, k1] at this
        cases this
      | false =>
        obtain ⟨y, hy, q2, _⟩ := d1 _ (k4 hw)
        exact dj y hy x hx (q2.trans q.symm)
/-- arguments that are own lists, each by itself -/
structure RAo (K : Fg) (t : TA) (ρ : List Sl) (O : Os) (ess : List (List PyData)) (O' : Os) : Prop where
  run : ∀ (F0 H0 : Hp) (D0 : List Addr) (σ : L2.St) (F H : Hp) (Q : List V → Hp → Prop), EnvR K F σ ρ → Hx K F0 H0 D0 F O H →
    (∀ ps F' H', Same F F' → ps.length = ess.length → Hx K F0 H0 D0 F' (towOs ps ess ++ O') H' → Q (ps.map .ref) H') → t σ H Q
theorem rao_nil : RAo K tNil ρ O [] O := ⟨fun _ _ _ _ _ _ Q E S k => k [] _ _ (Same.refl _) rfl S⟩
theorem rao_cons {te : TE} {t : TA} {es : List PyData} (h : RXo K te ρ O es O1) (ht : RAo K t ρ O1 ess O2) : RAo K (tCons te t) ρ O (es :: ess) O2 := ⟨fun _ _ _ _ _ _ Q E S k =>
  h.go E S fun p F1 H1 f1 E1 S1 => by
    obtain ⟨H1', D1, Sf, back⟩ := Hx.fr (X := [⟨p, true, es⟩]) (S1.perm (List.perm_append_singleton (⟨p, true, es⟩ : OE) O1).symm)
    refine ht.run _ _ _ _ _ _ _ E1 Sf fun ps F2 H2 f2 hl S2 => k (p :: ps) F2 H2 (f1.trans f2) (by rw [List.length_cons, List.length_cons, hl]) ?_
    exact (back _ _ _ S2).perm (List.perm_append_singleton _ _)⟩
theorem rxo_own {i j : Nat} {p : Addr} {ds : List PyData} (hs : ρ[i]? = some (.adr p)) (ho : O[j]? = some ⟨p, true, ds⟩) : RXo K (tVar i) ρ O ds (O.eraseIdx j) := ⟨fun _ _ _ _ _ _ Q E S k => by
  exact ⟨_, E.adr hs, k p _ _ (Same.refl _) (S.perm (perm_erase _ _ _ ho))⟩⟩
theorem st_retT {t : TA} {D : Ends} (h : RAo K t ρ O ess O') (E : EnvR K F σ ρ) (S : Hx K F0 H0 D0 F O H)
    (k : ∀ (T : Addr) (ps : List Addr) (F' H' : Hp), Same F F' → ps.length = ess.length → SqT K F' T (ps.map .ref) → Hx K F0 H0 D0 F' (towOs ps ess ++ O') H' → D.rt (.ref T) H') (hz : ess.length ≤ 1000 := by exact Nat.le_of_ble_eq_true rfl) : tRet (tTup t) D σ H :=
  h.run _ _ _ _ _ _ _ E S fun ps F1 H1 f1 hl S1 => by
    refine ⟨by rw [List.length_map, hl]; exact Nat.le_trans hz (by decide), fun T hT => ?_⟩
    exact k T ps _ _ (f1.trans (same_upd (S1.nof hT))) hl (SqT.of upd_same) (S1.put hT)
/-- what a def promises that hands back a tuple of new lists -/
def SpT (K : Fg) (R : List PyData → List (List PyData) → Prop) : Sp := fun vs H Q _ => ∃ F ds ess, RpAll K F vs ds ∧ Same F H ∧ R ds ess ∧
  ∀ (T : Addr) (ps : List Addr) (F' H' : Hp), Stp [] F H F' H' → SqT K F' T (ps.map .ref) → ps.length = ess.length → ps.Nodup → (∀ (i : Nat) p es, ps[i]? = some p → ess[i]? = some es → H p = none ∧ F' p = none ∧ ∃ xs, H' p = some (.lst xs) ∧ xs.length ≤ sizeLine ∧ RpAll K F' xs es) → Q (.ref T) H'
theorem st_len {R : List PyData → List (List PyData) → Prop} {n : Nat} (h : ∀ ds d, R ds d → ds.length = n) : ∀ vs H Q E, SpT K R vs H Q E → vs.length = n := fun vs H Q E ⟨F, ds, d, r, _, hR, _⟩ => r.length.trans (h ds d hR)
theorem tow_map (hl : ps.length = ess.length) : (towOs ps ess).map OE.a = ps := by
  unfold towOs
  induction ps generalizing ess with
  | nil => rfl
  | cons p ps ih =>
    cases ess with
    | nil => cases hl
    | cons e ess => rw [List.zipWith_cons_cons, List.map_cons, ih (by simpa using hl)]
theorem tow_get {i : Nat} {p : Addr} {es : List PyData} (h : ps[i]? = some p) (h' : ess[i]? = some es) : (towOs ps ess)[i]? = some ⟨p, true, es⟩ := by
  unfold towOs
  rw [List.getElem?_zipWith, h, h']
theorem tow_of {e : OE} (h : e ∈ towOs ps ess) : ∃ (i : Nat) (es : List PyData), ps[i]? = some e.a ∧ ess[i]? = some es ∧ e.nw = true ∧ e.ds = .l es := by
  obtain ⟨i, q⟩ := List.mem_iff_getElem?.mp h
  unfold towOs at q
  rw [List.getElem?_zipWith] at q
  split at q
  · rename_i a b h1 h2
    cases q
    exact ⟨i, b, h1, h2, rfl, rfl⟩
  · cases q
/-- the end of such a def -/
theorem Hx.outT (S : Hx K F0 H0 D0 F (towOs ps ess ++ O) H) (hl : ps.length = ess.length) : ps.Nodup ∧ ∀ (i : Nat) p es, ps[i]? = some p → ess[i]? = some es → H0 p = none ∧ F p = none ∧ ∃ xs, H p = some (.lst xs) ∧ xs.length ≤ sizeLine ∧ RpAll K F xs es := by
  refine ⟨?_, fun i p es h h' => ?_⟩
  · have := S.nd
    rw [List.map_append, List.nodup_append, tow_map hl] at this
    exact this.1
  · obtain ⟨g1, g2, g3, g4⟩ := S.own _ (List.mem_append_left _ (List.mem_of_getElem? (tow_get h h')))
    exact ⟨g2 rfl, g1, g4⟩
/-- new own lists behind a call -/
theorem Hx.inT (S : Hx K F0 H0 D0 F O H) (st : Stp [] F H F' H') (hl : ps.length = ess.length) (nd : ps.Nodup) (h : ∀ (i : Nat) p es, ps[i]? = some p → ess[i]? = some es → H p = none ∧ F' p = none ∧ ∃ xs, H' p = some (.lst xs) ∧ xs.length ≤ sizeLine ∧ RpAll K F' xs es) :
    Hx K F0 H0 D0 F' (towOs ps ess ++ O) H' := by
  have S2 := S.call st
  refine ⟨S2.f0, S2.fh, S2.keep, S2.live, S2.new, fun e he => ?_, ?_⟩
  · rcases List.mem_append.mp he with he | he
    · obtain ⟨i, es, q1, q2, q3, q4⟩ := tow_of he
      obtain ⟨g1, g2, g3⟩ := h i _ _ q1 q2
      exact ⟨g2, fun _ => S.noh0 g1, (fun z => by rw [q3] at z; cases z), by rw [q4]; exact g3⟩
    · exact S2.own e he
  · rw [List.map_append, List.nodup_append, tow_map hl]
    refine ⟨nd, S2.nd, fun a ha b hb q => ?_⟩
    subst q
    obtain ⟨e, he, rfl⟩ := List.mem_map.mp hb
    obtain ⟨vs, g4⟩ := S.ownL he
    obtain ⟨i, q⟩ := List.mem_iff_getElem?.mp ha
    have hi : i < ess.length := by rw [← hl]; exact (List.getElem?_eq_some_iff.mp q).1
    obtain ⟨g1, _⟩ := h i _ _ q (List.getElem?_eq_getElem hi)
    rw [g1] at g4
    cases g4
variable {t : TA} {D : Ends} {R : List PyData → List (List PyData) → Prop} {ds : List PyData} {E0 : XK}
theorem st_setT {i : Nat} (hR : R ds ess) (ha : RA K t ρ O (ds.map .val) O1) (E : EnvR K F σ ρ) (S : Hx K F0 H0 D0 F O H)
    (k : ∀ (ps : List Addr) (σ' : L2.St) (F' H' : Hp), ps.length = ess.length → Same F F' → EnvR K F' σ' (ρ.set i (.tow ps)) → Hx K F0 H0 D0 F' (towOs ps ess ++ O1) H' → D.nx σ' H') : tAsg (tCall (SpT K R) [] E0 t) (gName i) D σ H :=
  ha.go E S fun vs F1 H1 f1 E1 S1 r1 => by
    show SpT K R (vs ++ []) H1 _ E0
    rw [List.append_nil]
    exact ⟨F1, ds, ess, r1.all, S1.fh, hR, fun T ps F' H' st q hl nd h => k ps _ F' H' hl (f1.trans st.ff) (EnvR.set (s := some (.ref T)) (r := .tow ps) ⟨T, rfl, q⟩ i (E1.up st.ff)) (S1.inT st hl nd h)⟩
theorem st_retCT (hR : R ds ess) (ha : RA K t ρ O (ds.map .val) O1) (E : EnvR K F σ ρ) (S : Hx K F0 H0 D0 F O H)
    (k : ∀ (T : Addr) (ps : List Addr) (F' H' : Hp), Same F F' → ps.length = ess.length → SqT K F' T (ps.map .ref) → Hx K F0 H0 D0 F' (towOs ps ess ++ O1) H' → D.rt (.ref T) H') : tRet (tCall (SpT K R) [] E0 t) D σ H :=
  ha.go E S fun vs F1 H1 f1 E1 S1 r1 => by
    show SpT K R (vs ++ []) H1 _ E0
    rw [List.append_nil]
    exact ⟨F1, ds, ess, r1.all, S1.fh, hR, fun T ps F' H' st q hl nd h => k T ps F' H' (f1.trans st.ff) hl q (S1.inT st hl nd h)⟩
theorem Hx.frzT (S : Hx K F0 H0 D0 F (towOs ps ess ++ O) H) (hl : ps.length = ess.length) : ∃ F', Same F F' ∧ Hx K F0 H0 D0 F' O H ∧ RpAll K F' (ps.map .ref) (ess.map .list) := by
  induction ps generalizing ess F with
  | nil =>
    cases ess with
    | nil => exact ⟨F, Same.refl _, S, .nil⟩
    | cons e ess => cases hl
  | cons p ps ih =>
    cases ess with
    | nil => cases hl
    | cons e ess =>
      obtain ⟨F1, f1, S1, r1⟩ := S.frz (j := 0) (l := p) (ds := e) rfl
      obtain ⟨F2, f2, S2, r2⟩ := ih (ess := ess) S1 (by simpa using hl)
      exact ⟨F2, f1.trans f2, S2, .cons (r1.up f2) r2⟩
theorem SpT.toP {R' : List PyData → PyData → Prop} (hi : ∀ ds d, R' ds d → ∃ ess, R ds ess ∧ d = .tuple (ess.map .list) ∧ ess.length ≤ 1000) : ∀ vs H Q E, SpP K R' vs H Q E → SpT K R vs H Q E := fun vs H Q E ⟨F, ds, d, r, fh, hR, k⟩ => by
  obtain ⟨ess, hR2, rfl, hz⟩ := hi ds d hR
  refine ⟨F, ds, ess, r, fh, hR2, fun T ps F' H' st q hl nd h => ?_⟩
  have S := (Hx.start (K := K) fh).inT st hl nd h
  obtain ⟨F2, f2, S2, r2⟩ := S.frzT hl
  exact k _ F2 H' S2.stp (.tup (same_t f2 q) (by rw [List.length_map, hl]; exact Nat.le_trans hz (by decide)) r2)
/-! ### how such a tuple is read -/
theorem rxh_tow {i : Nat} (hs : ρ[i]? = some (.tow ps)) (ht : Tow O ps ess) (hz : ess.length ≤ 1000 := by exact Nat.le_of_ble_eq_true rfl) : RXh K (tVar i) ρ O (.tuple (ess.map .list)) O := ⟨fun _ _ _ _ _ _ Q E S k => by
  obtain ⟨T, h1, h2⟩ := E.tow hs
  refine ⟨_, h1, k _ _ _ (Same.refl _) S fun F2 H2 f2 S2 => .tup (same_t (f2.trans S2.fh) h2) ?_ (ht.rp S2)⟩
  rw [List.length_map, ht.lens]
  exact Nat.le_trans hz (by decide)⟩
theorem rxs_tow {i j n : Nat} {p : Addr} {nw : Bool} {es : List PyData} (hs : ρ[i]? = some (.tow ps)) (hp : L2.atI (ps.map V.ref) (n : Int) = some (.ref p)) (ho : O[j]? = some ⟨p, nw, es⟩) : RXs K (tOp (rIxT K) (tVar i) (tC (.int n))) ρ O es O := ⟨fun _ _ _ _ _ _ Q E S k => by
  obtain ⟨T, h1, h2⟩ := E.tow hs
  refine ⟨_, h1, T, _, (n : Int), _, rfl, rfl, same_t S.fh h2, hp, k p _ _ (Same.refl _) S fun F2 H2 f2 S2 => ?_⟩
  obtain ⟨_, _, _, vs, h4, h5, h6⟩ := S2.get ho
  exact ⟨vs, SqL.of h4, h5, h6⟩⟩
variable {ta tb : TE}
theorem rx_isiH {c : String} {r : Bool} {d : PyData} (ha : RXh K ta ρ O d O1) (h : kitB (tyN d) c = some r) : RX K (tCB (rIsi K) (tCons ta (tCons (tC (.ty c)) tNil))) ρ O (.bool r) O1 := ⟨fun _ _ _ _ _ _ Q E S k => ha.go E S fun x F1 H1 f1 E1 S1 r1 =>
  ⟨x, .ty c, _, _, r, rfl, .ty c, (r1 F1 H1 (Same.refl _) S1).ty, kit_ty h, k _ F1 H1 f1 S1 (.bl r)⟩⟩
/-- a call that reads its two arguments, by the whole heap -/
theorem rx_callH {R : List PyData → PyData → Prop} {d e : PyData} {b : Bool} (hR : R [d, e] (.bool b)) (ha : RXh K ta ρ O d O1) (hb : RXh K tb ρ O1 e O1) : RX K (tCall (SpP K R) [] E0 (tCons ta (tCons tb tNil))) ρ O (.bool b) O1 := ⟨fun _ _ _ _ _ _ Q E S k =>
  ha.go E S fun x F1 H1 f1 E1 S1 r1 => hb.go E1 S1 fun y F2 H2 f2 E2 S2 r2 => by
    refine ⟨H2, [d, e], .bool b, .cons (r1 F2 H2 f2 S2) (.cons (r2 F2 H2 (Same.refl _) S2) .nil), Same.refl _, hR, fun v F' H' st r => ?_⟩
    have keep : Same H2 H' := fun a o q => st.keep a o q (by simp)
    cases r
    exact k _ F2 H' (f1.trans f2) (S2.call ⟨Same.refl _, S2.fh.trans keep, st.keep, st.live, fun _ _ _ q => q⟩) (.bl b)⟩
/-- an own list behind the others is moved to the front -/
theorem tow_move (A : Os) (p : Addr) (es : List PyData) (B : Os) : (A ++ ⟨p, true, es⟩ :: B).Perm (⟨p, true, es⟩ :: (A ++ B)) := List.perm_middle
/-- for part in t: .., which changes the part -/
theorem st_forT {i j : Nat} {tb : TS} {g : List PyData → List PyData} (ρ1 : List Sl) (hs : ρ[i]? = some (.tow ps)) (hl : ps.length = ess.length) (E : EnvR K F σ ρ) (S : Hx K F0 H0 D0 F (towOs ps ess ++ O) H) (hW : Wk ρ ρ1)
    (kn : ∀ σ' F' H', Same F F' → EnvR K F' σ' ρ1 → Hx K F0 H0 D0 F' (towOs ps (ess.map g) ++ O) H' → D.nx σ' H')
    (body : ∀ es ∈ ess, ∀ σ1 F1 H1 p Or, Same F F1 → EnvR K F1 σ1 (ρ1.set j (.adr p)) → Hx K F0 H0 D0 F1 (⟨p, true, es⟩ :: Or) H1 →
      ∀ (N B : L2.St → Hp → Prop), (∀ σ' F' H', Same F1 F' → EnvR K F' σ' ρ1 → Hx K F0 H0 D0 F' (⟨p, true, g es⟩ :: Or) H' → N σ' H') → tb { D with nx := N, ct := N, bk := B } σ1 H1) :
    tFor (iTup K (tVar i)) (gName j) tb D σ H := by
  obtain ⟨T, h1, h2⟩ := E.tow hs
  refine ⟨_, h1, T, rfl, ⟨_, same_t S.fh h2⟩, ?_⟩
  have hlen : (ps.map V.ref).length = ps.length := List.length_map _
  refine for_it (walk_tup (K := K) (a := T) (xs := ps.map V.ref)) (fun n σ H => ∃ F2, Same F F2 ∧ EnvR K F2 σ ρ1 ∧ Hx K F0 H0 D0 F2 (towOs (ps.take n) ((ess.map g).take n) ++ (towOs (ps.drop n) (ess.drop n) ++ O)) H)
    ⟨F, Same.refl _, E.weak hW, S⟩ (fun n σ H _ q => by obtain ⟨F2, q1, _, q4⟩ := q; exact same_t (q1.trans q4.fh) h2) (fun n x σ H H' hn q y => ?_) (fun σ H q => ?_)
  · obtain ⟨F2, q1, q3, q4⟩ := q
    obtain ⟨e, y⟩ := y
    subst e
    rw [hlen] at hn
    have hn2 : n < ess.length := by omega
    have hx : x = V.ref ps[n] := by
      rw [List.getElem?_map, List.getElem?_eq_getElem hn] at y
      exact (Option.some.inj y).symm
    subst hx
    rw [drop_cons hn2, drop_cons hn] at q4
    have q4 := q4.perm (tow_move _ _ _ _)
    refine body _ (List.getElem_mem hn2) _ F2 H' ps[n] _ q1 (q3.seta j) q4 _ _ (fun σ' F' H2 ff E' S' => ⟨F', q1.trans ff, E', ?_⟩)
    have S' := S'.perm (tow_move _ _ _ _).symm
    have t1 : towOs (ps.take (n + 1)) ((ess.map g).take (n + 1)) = towOs (ps.take n) ((ess.map g).take n) ++ [⟨ps[n], true, g ess[n]⟩] := by
      unfold towOs
      have hn3 : n < (ess.map g).length := by rw [List.length_map]; exact hn2
      rw [List.take_succ_eq_append_getElem hn, List.take_succ_eq_append_getElem hn3, List.zipWith_append (by rw [List.length_take, List.length_take, List.length_map, hl]), List.getElem_map]
      rfl
    rw [t1, List.append_assoc]
    exact S'
  · obtain ⟨F2, q1, q3, q4⟩ := q
    rw [hlen, List.take_length, hl, List.drop_length] at q4
    have e : (ess.map g).take ess.length = ess.map g := List.take_of_length_le (by rw [List.length_map]; exact Nat.le_refl _)
    have e2 : ps.drop ess.length = [] := by rw [← hl, List.drop_length]
    rw [e, e2] at q4
    exact kn σ F2 H q1 q3 q4
/-- .. is frozen -/
theorem frz_tow {i : Nat} (hs : ρ[i]? = some (.tow ps)) (hl : ps.length = ess.length) (E : EnvR K F σ ρ) (S : Hx K F0 H0 D0 F (towOs ps ess ++ O) H) (hz : ess.length ≤ 1000 := by exact Nat.le_of_ble_eq_true rfl) :
    ∃ F', Same F F' ∧ EnvR K F' σ (ρ.set i (.val (.tuple (ess.map .list)))) ∧ Hx K F0 H0 D0 F' O H := by
  obtain ⟨T, h1, h2⟩ := E.tow hs
  obtain ⟨F', f, S', r⟩ := S.frzT hl
  have E2 := EnvR.setv (E.up f) (v := .ref T) (.tup (same_t f h2) (by rw [List.length_map, hl]; exact Nat.le_trans hz (by decide)) r) i
  have e : σ.set i (some (.ref T)) = σ := by
    apply List.ext_getElem?
    intro n
    by_cases e : i = n
    · subst e
      rw [List.getElem?_set_self (List.getElem?_eq_some_iff.mp h1).1, h1]
    · rw [List.getElem?_set_ne e]
  rw [e] at E2
  exact ⟨F', f, E2, S'⟩
theorem len3 {α β : Type} {ps : List α} {a b c : β} (h : ps.length = [a, b, c].length) : ∃ p q r, ps = [p, q, r] := by
  match ps, h with
  | [p, q, r], _ => exact ⟨p, q, r, rfl⟩
/-- the slots as the whole heap shows them -/
inductive Vw (O : Os) : List Sl → List Sl → Prop
  | nil : Vw O [] []
  | same {r : Sl} {ρ ρ' : List Sl} (h : (∃ d, r = .val d) ∨ r = .un) : Vw O ρ ρ' → Vw O (r :: ρ) (r :: ρ')
  | adr (j : Nat) {a : Addr} {nw : Bool} {ds : List PyData} {ρ ρ' : List Sl} (h : O[j]? = some ⟨a, nw, ds⟩) : Vw O ρ ρ' → Vw O (.adr a :: ρ) (.val (.list ds) :: ρ')
  | tow {ps : List Addr} {ess : List (List PyData)} {ρ ρ' : List Sl} (h : Tow O ps ess) (hz : ess.length ≤ 1000) : Vw O ρ ρ' → Vw O (.tow ps :: ρ) (.val (.tuple (ess.map .list)) :: ρ')
theorem EnvR.whole {ρ' : List Sl} (w : Vw O ρ ρ') (S : Hx K F0 H0 D0 F O H) : ∀ {σ : L2.St}, EnvR K F σ ρ → EnvR K H σ ρ' := by
  induction w with
  | nil => intro σ E; cases E; exact .nil
  | same h _ ih =>
    intro σ E
    cases E with
    | cons r t => exact .cons (r.up S.fh) (ih t)
  | adr j h _ ih =>
    intro σ E
    cases E with
    | cons r t =>
      obtain ⟨_, _, _, vs, h4, h5, h6⟩ := S.get h
      exact .cons ⟨_, r, .lst (SqL.of h4) h5 (h6.up S.fh)⟩ (ih t)
  | tow h hz _ ih =>
    intro σ E
    cases E with
    | cons r t =>
      obtain ⟨T, h1, h2⟩ := r
      exact .cons ⟨_, h1, .tup (same_t S.fh h2) (by rw [List.length_map, h.lens]; exact Nat.le_trans hz (by decide)) (h.rp S)⟩ (ih t)
/-- a truth that is reckoned from what stands -/
theorem rx_whole {ρ' : List Sl} {b : Bool} (w : Vw O ρ ρ') (h : RX K ta ρ' [] (.bool b) []) : RX K ta ρ O (.bool b) O := ⟨fun _ _ _ _ F H Q E S k => by
  refine h.run _ _ _ _ _ _ Q (E.whole w S) (Hx.start (Same.refl H)) fun v F' H' f S' r => ?_
  have st := S'.stp
  have keep : Same H H' := fun a o q => st.keep a o q (by simp)
  cases r
  exact k _ F H' (Same.refl _) (S.call ⟨Same.refl _, S.fh.trans keep, st.keep, st.live, fun _ _ _ q => q⟩) (.bl b)⟩
end
end TL
namespace TL
open PySem L2
/-- a module's own number, text -/
theorem pe_gint {X : Cx} {x : Str} {i : Int} {pos : Pos} (h : ∃ t, X.mg x = some (.int i t)) (hg : Gl X x := by rfl) (hd : (x == ("__debug__" : Str)) = false := by decide) : PE X (.Name x pos) (tC (.int i)) := by
  obtain ⟨t, e⟩ := h
  exact pe_glob hg e ⟨t, rfl⟩ hd
theorem pe_gstr {X : Cx} {x z : Str} {pos : Pos} (h : ∃ t, X.mg x = some (.str z t)) (hg : Gl X x := by rfl) (hd : (x == ("__debug__" : Str)) = false := by decide) : PE X (.Name x pos) (tC (.str z)) := by
  obtain ⟨t, e⟩ := h
  exact pe_glob hg e ⟨t, rfl⟩ hd
end TL

namespace TL
open PySem PySem.Spec PyProof.Rows L2
open Enc
/-! ### zip of a list and a tuple -/
/-- the list at a, the tuple at b, as they stand at each turn -/
def ItMix (K : Fg) (a b : Addr) : It :=
  ⟨fun i H => ∃ (xs ys : List V) (x y : V), (SqL K H a xs ∧ SqT K H b ys) ∧ xs[i]? = some x ∧ ys[i]? = some y,
    fun i H v H' => ∃ T x y, (v = .ref T ∧ H T = none ∧ H' = upd H T (.tup [x, y])) ∧ (∀ xs, SqL K H a xs → xs[i]? = some x) ∧ ∀ ys, SqT K H b ys → ys[i]? = some y,
    fun i H => ∃ xs ys : List V, (SqL K H a xs ∧ SqT K H b ys) ∧ i ≤ xs.length ∧ i ≤ ys.length ∧ (xs.length = i ∨ ys.length = i)⟩
theorem sep_mix {z TI TO i1 i2 a b : Addr} (D : ZipApart z TI TO i1 i2 a b) : ZipSep2 z TI TO i1 i2 [i1, a] [i2, b] :=
  { TIz := D.TIz, TOz := D.TOz, TITO := D.TITO, TIi1 := D.TIi1, TIi2 := D.TIi2, mem1 := by simp, mem2 := by simp
    zf1 := fun q => by rcases (by simpa using q : z = i1 ∨ z = a) with e | e; exact D.i1z e.symm; exact D.l1z e.symm
    Tf1 := fun q => by rcases (by simpa using q : TO = i1 ∨ TO = a) with e | e; exact D.TOi1 e; exact D.l1TO e.symm
    zf2 := fun q => by rcases (by simpa using q : z = i2 ∨ z = b) with e | e; exact D.i2z e.symm; exact D.l2z e.symm
    Tf2 := fun q => by rcases (by simpa using q : TO = i2 ∨ TO = b) with e | e; exact D.TOi2 e; exact D.l2TO e.symm
    sep1_2 := fun q => by rcases (by simpa using q : i1 = i2 ∨ i1 = b) with e | e; exact D.i12 e; exact D.l2i1 e.symm
    sep2_1 := fun q => by rcases (by simpa using q : i2 = i1 ∨ i2 = a) with e | e; exact D.i12 e.symm; exact D.l1i2 e.symm }
def mixSt (z TI TO i1 i2 a b : Addr) (i : Nat) (h : Heap) : Prop := (IsZip h z TI TO .none ∧ IsPair h TI (.ref i1) (.ref i2)) ∧ (∃ x y, IsPair h TO x y) ∧ h.IsListIter i1 a i ∧ h.IsTupleIter i2 b i
theorem five {z TI TO i1 i2 c : Addr} (h : c ∈ [z, TI, TO, i1, i2]) : c = z ∨ c = TI ∨ c = TO ∨ c = i1 ∨ c = i2 := by simpa using h
theorem out5 {z TI TO i1 i2 c : Addr} (h : c ∉ [z, TI, TO, i1, i2]) : c ≠ z ∧ c ≠ TO ∧ c ≠ i1 ∧ c ≠ i2 :=
  ⟨fun e => h (by simp [e]), fun e => h (by simp [e]), fun e => h (by simp [e]), fun e => h (by simp [e])⟩
theorem turn_mix {P : Program} {w : World} {K : Fg} {elts : List Expr} {kk : Nat} {tpos : Pos} {a b z TI TO i1 i2 : Addr} (D : ZipApart z TI TO i1 i2 a b) :
    Turn P w K (.Tuple elts kk tpos) (ItMix K a b) [z, TI, TO, i1, i2] z (mixSt z TI TO i1 i2 a b) := by
  have sep := sep_mix D
  refine ⟨by simp, fun i h st c hc => ?_, fun i h h' st k => ?_, ?_, ?_, fun A i s Q E st q => wpAny_pyIter_zip st.1.1 q⟩
  · obtain ⟨⟨q1, q2⟩, ⟨x, y, q3⟩, ⟨o1, e1, _, d1⟩, o2, e2, _, d2⟩ := st
    rcases five hc with rfl | rfl | rfl | rfl | rfl
    · exact ⟨_, q1, fun v => nofun⟩
    · exact ⟨_, q2, fun v => nofun⟩
    · exact ⟨_, q3, fun v => nofun⟩
    · exact ⟨_, e1, fun v e => nomatch d1.symm.trans e⟩
    · exact ⟨_, e2, fun v e => nomatch d2.symm.trans e⟩
  · obtain ⟨⟨q1, q2⟩, ⟨x, y, q3⟩, q4, q5⟩ := st
    exact ⟨⟨k z (by simp) _ q1, k TI (by simp) _ q2⟩, ⟨x, y, k TO (by simp) _ q3⟩, q4.at fun o => k i1 (by simp) o, q5.at fun o => k i2 (by simp) o⟩
  · rintro X rfl rfl rfl hc i pins s σ H E I hf st ⟨xs, ys, x, y, ⟨hqx, hqy⟩, hx, hy⟩
    obtain ⟨⟨q1, q2⟩, ⟨x0, y0, q3⟩, q4, q5⟩ := st
    obtain ⟨its, rv, p, _⟩ := I.list hqx
    obtain ⟨its2, rv2, p2, _⟩ := I.tuple hqy
    obtain ⟨u, hu, ru⟩ := rv.get hx
    obtain ⟨u2, hu2, ru2⟩ := rv2.get hy
    have zlt : z < s.heap.objs.size := Heap.lt_size q1
    have hh : X.A.in1.handled = none := I.ok.hd hc
    refine wpAny_pyNext_zipD2_item sep (Draws.list hh i1 a D.l1i1 its.toArray) (Draws.tuple hh i2 b D.l2i2 its2.toArray) q1 q2 q3 ⟨q4, p.isList⟩ ⟨q5, p2⟩ (by simpa using (List.getElem?_eq_some_iff.mp hu).1) (by simpa using (List.getElem?_eq_some_iff.mp hu2).1) fun x1 x2 h' tk e1 e2 z' TO' n1 n2 hT hsz hk => ?_
    have ex1 : x1 = u := Option.some.inj (e1.symm.trans (by simpa using hu))
    have ex2 : x2 = u2 := Option.some.inj (e2.symm.trans (by simpa using hu2))
    subst ex1
    subst ex2
    refine ⟨_, rfl, wpAny_letOwnedTupleGo_zip (s := { s with heap := h', toks := tk }) z' fun h2 z2 sb => ?_⟩
    have hT2 : h2.get? s.heap.objs.size = some { cls := .type "tuple", data := .seq #[x1, x2] } := (sb.2 _ (Nat.ne_of_gt zlt)).trans hT
    have new : ObjOk X.prog X.w (upd H s.heap.objs.size (.tup [x, y])) h2 s.heap.objs.size (.tup [x, y]) := ⟨by show 2 ≤ sizeLine; decide, [x1, x2], .cons ru (.cons ru2 .nil), ⟨_, hT2, rfl, _, rfl⟩⟩
    have I1 : Inv X pins σ (upd H s.heap.objs.size (.tup [x, y])) { s with heap := h2, toks := tk } := I.turnedNew (t' := tk) (ch := [z, TI, TO, i1, i2]) (fun c o hb q => by
      obtain ⟨c1, c2, c3, c4⟩ := out5 hb
      exact (sb.2 c c1).trans (hk c o c1 c2 c3 c4 q)) hf (Nat.le_refl _) new
    refine ⟨.ref s.heap.objs.size, _, I1, rfl, ⟨_, x, y, ⟨rfl, I.hok.fresh (Nat.le_refl _), rfl⟩, fun l hl => by rw [I.list_inj hl hqx]; exact hx, fun l hl => by rw [I.tuple_inj hl hqy]; exact hy⟩, ⟨⟨z2, ?_⟩, ⟨x1, x2, ?_⟩, ?_, ?_⟩, fun c hcm => ?_⟩
    · exact (sb.2 TI D.TIz).trans (hk TI _ D.TIz D.TITO D.TIi1 D.TIi2 q2)
    · exact (sb.2 TO D.TOz).trans TO'
    · exact n1.1.at fun o q => (sb.2 i1 D.i1z).trans q
    · exact n2.1.at fun o q => (sb.2 i2 D.i2z).trans q
    · have hlt : c < s.heap.objs.size := by
        rcases five hcm with rfl | rfl | rfl | rfl | rfl
        · exact zlt
        · exact Heap.lt_size q2
        · exact Heap.lt_size q3
        · obtain ⟨_, e, _⟩ := q4; exact Heap.lt_size e
        · obtain ⟨_, e, _⟩ := q5; exact Heap.lt_size e
      rw [upd_ne (Nat.ne_of_lt hlt)]
      exact (hf c hcm).1
  · rintro X rfl rfl rfl hc i pins s σ H E I hf st ⟨xs, ys, ⟨hqx, hqy⟩, l1, l2, hend⟩
    obtain ⟨⟨q1, q2⟩, ⟨x0, y0, q3⟩, q4, q5⟩ := st
    obtain ⟨its, rv, p, _⟩ := I.list hqx
    obtain ⟨its2, rv2, p2, _⟩ := I.tuple hqy
    have e1 := rv.length
    have e2 := rv2.length
    have hh : X.A.in1.handled = none := I.ok.hd hc
    refine wpAny_pyNext_zipD2_end sep (Draws.list hh i1 a D.l1i1 its.toArray) (Draws.tuple hh i2 b D.l2i2 its2.toArray) q1 q2 q3 ⟨q4, p.isList⟩ ⟨q5, p2⟩ (by simp; omega) (by simp; omega) (by simp; omega) fun h' tk hk => ?_
    refine ⟨rfl, I.turnedL (t' := tk) (ch := [z, TI, TO, i1, i2]) (fun c o hb q => ?_) hf⟩
    obtain ⟨c1, c2, c3, c4⟩ := out5 hb
    exact hk c o c1 c2 c3 c4 q
def iMix (K : Fg) (ta : TA) : TI := fun σ H R => ta σ H fun vs H1 => ∃ a b xs ys, vs = [.ref a, .ref b] ∧ (SqL K H1 a xs ∧ SqT K H1 b ys) ∧ R (ItMix K a b) H1
theorem k_pi_mix {X : Cx} (K : Fg) {e e2 : Expr} {ta : TA} {p pos tpos : Pos} {elts : List Expr} {kk : Nat} (hg : Gl X "zip") (hm : X.mg "zip" = none) (ha : PA X [e, e2] ta)
    (hs : starEach [e, e2] X.env = (false, eval e X.env) :: starEach [e2] X.env := by rfl) (hpl : (backTo pos (starEach [e2] X.env)).any (·.1) = false := by rfl) (hK : X.K = K := by rfl) :
    PI X (.Tuple elts kk tpos) (.Call (.Name "zip" p) [e, e2] [] pos) (iMix K ta) := by
  subst hK
  refine ⟨fun pins s σ H R I h => ?_⟩
  refine Call_ (ld_blt I hg hm PyProof.Rows.boot_zip (PyProof.Rows.callWith_type1 (thn (ha.run pos pins s σ H _ I h) fun us s1 ⟨vs, H1, I1, r1, q1⟩ => ?_) hs hpl))
  obtain ⟨a, b, xs, ys, ex, ⟨hqx, hqy⟩, q⟩ := q1
  subst ex
  cases r1 with
  | cons r rr =>
   cases rr with
   | cons r' rr =>
    cases rr
    cases r
    cases r'
    obtain ⟨its, rv, p1, _⟩ := I1.list hqx
    obtain ⟨its2, rv2, p2, _⟩ := I1.tuple hqy
    have lt1 := p1.lt
    obtain ⟨o2, ho2, p3⟩ := id p2
    have lt2 := Heap.lt_size ho2
    refine zip_begins2 (begins_list a its.toArray) (begins_tuple b its2.toArray) p1.isList p2 fun h' hz hTI hTO g1 g2 hsz hk => wpAny_pyIter_zip hz ?_
    have I2 : Inv X pins σ H1 { s1 with heap := h' } := I1.kept (t' := s1.toks) hk
    refine ⟨s1.heap.objs.size + 4, [s1.heap.objs.size + 4, s1.heap.objs.size + 2, s1.heap.objs.size + 3, s1.heap.objs.size, s1.heap.objs.size + 1], _, _, H1, rfl, I2, turn_mix (PySem.W.ktu_apart s1.heap.objs.size a b lt1 lt2), ⟨⟨hz, hTI⟩, ⟨_, _, hTO⟩, ⟨_, g1, rfl, rfl⟩, ⟨_, g2, rfl, rfl⟩⟩, fun c hcm => ?_, q⟩
    have hle : s1.heap.objs.size ≤ c := by
      rcases five hcm with rfl | rfl | rfl | rfl | rfl
      · exact Nat.le_add_right _ _
      · exact Nat.le_add_right _ _
      · exact Nat.le_add_right _ _
      · exact Nat.le_refl _
      · exact Nat.le_add_right _ _
    exact I1.fpOk hle (I1.hok.fresh hle)
section
variable {K : Fg} {ta tb : TE} {ρ : List Sl} {O O1 O2 : Os}
theorem ri_mix {ys zs : List PyData} (h : RX K ta ρ O (.list ys) O1) (h' : RX K tb ρ O1 (.tuple zs) O2) : RI K (iMix K (tCons ta (tCons tb tNil))) ρ O (zipD ys zs) O2 := ⟨fun F0 H0 D0 σ F H R E S k => by
    refine h.go E S fun x F1 H1 f1 E1 S1 r1 => h'.go E1 S1 fun y F2 H2 f2 E2 S2 r2 => ?_
    have r1' := r1.up f2
    cases r1' with
    | @lst a xs _ q1 q2 q3 =>
     cases r2 with
     | @tup b ws _ p1 p2 p3 =>
      have s1 : ∀ {G0 J0 : Hp} {D1 : List Addr} {F : Hp} {O : Os} {H : Hp}, Same F2 F → Hx K G0 J0 D1 F O H → SqL K H a xs ∧ SqT K H b ws := fun f S => ⟨(f.trans S.fh).seq q1, same_t (f.trans S.fh) p1⟩
      refine ⟨a, b, xs, ws, rfl, s1 (Same.refl _) S2, ?_⟩
      have hl : (zipD ys zs).length = min xs.length ws.length := by unfold zipD; rw [List.length_map, List.length_zip, q3.length, p3.length]
      refine k _ F2 H2 (f1.trans f2) S2 ⟨by omega, fun _ _ _ F O H i hi f S => ?_, fun _ _ _ F O H f S => ⟨xs, ws, s1 f S, by omega, by omega, by omega⟩, fun _ _ _ F O H i x H' hi f S y => ?_⟩
      · have h1 : i < xs.length := by omega
        have h2 : i < ws.length := by omega
        exact ⟨xs, ws, xs[i], ws[i], s1 f S, by simp [h1], by simp [h2]⟩
      · obtain ⟨T, u, v, ⟨eu, hT, eT⟩, y1, y2⟩ := y
        subst eu
        subst eT
        obtain ⟨d, e, r⟩ := (q3.up f).getV (y1 xs (s1 f S).1)
        obtain ⟨d', e', r'⟩ := (p3.up f).getV (y2 ws (s1 f S).2)
        obtain ⟨F3, f3, S3, r3⟩ := pair_put S hT r r'
        refine ⟨F3, _, f3, S3, ?_, r3⟩
        unfold zipD
        have ez : (ys.zip zs)[i]? = some (d, d') := List.getElem?_zip_eq_some.mpr ⟨e, e'⟩
        rw [List.getElem?_map, ez]
        rfl⟩
theorem ri_mixM {α β : Type} [Enc α] [Enc β] {xs : List α} {ys : List β} (h : RX K ta ρ O (.list (xs.map enc)) O1) (h' : RX K tb ρ O1 (.tuple (ys.map enc)) O2) : RI K (iMix K (tCons ta (tCons tb tNil))) ρ O ((xs.zip ys).map enc) O2 := by
  have e : (xs.zip ys).map enc = zipD (xs.map enc) (ys.map enc) := by
    unfold zipD
    rw [List.zip_map, List.map_map]
    rfl
  rw [e]
  exact ri_mix h h'
end
end TL

namespace TL
open PySem L2
open Enc
/-! ### texts -/
def catSO (x y : Str) : Option Str := if x.length + y.length ≤ 16777216 then some (x ++ y) else none
def cutSO (z : Str) (lo hi : Option Int) : Option Str := if z.length ≤ 16777216 then some (cutS z lo hi) else none
def lenO (z : Str) : Option Int := if z.length ≤ 16777216 then some (z.length : Int) else none
def intO (z : Str) : Option Int := if z.length ≤ 640 then intText? z else none
/-- // by what lies below 2 ^ 200 -/
def fdivWO (i j : Int) : Option Int := if 0 < j ∧ j < 1606938044258990275541962092341162602522202993782792835301376 then some (i / j) else none
section
variable {K : Fg} {ta tb tc : TE} {ρ : List Sl} {O O1 O2 O3 : Os} {x y z : Str} {i j r : Int}
theorem rx_catS {s : Str} (h : catSO x y = some s) (ha : RX K ta ρ O (.str x) O1) (hb : RX K tb ρ O1 (.str y) O2) :
    RX K (tOp (fun x y H Q => ∃ i j, x = .str i ∧ y = .str j ∧ i.length + j.length ≤ sizeLine ∧ Q (.str (i ++ j)) H) ta tb) ρ O (.str s) O2 := rx_op ha hb fun F H u v Q _ ru rv k => by
  cases ru
  cases rv
  unfold catSO at h
  split at h
  · rename_i hc
    cases h
    exact ⟨x, y, rfl, rfl, by rw [sizeLine_eq]; exact hc, k _ (.str _)⟩
  · cases h
theorem rx_cutS {s : Str} {tl th : TO} {lo hi : Option Int} (h : cutSO z lo hi = some s) (ha : RX K ta ρ O (.str z) O1) (hl : RO K tl ρ O1 lo O2) (hh : RO K th ρ O2 hi O3) : RX K (tSl rSlS ta tl th) ρ O (.str s) O3 := ⟨fun _ _ _ _ _ _ Q E S k =>
  ha.go E S fun u F1 H1 f1 E1 S1 r1 => hl.go E1 S1 fun F2 H2 f2 E2 S2 => hh.go E2 S2 fun F3 H3 f3 E3 S3 => by
    cases r1
    unfold cutSO at h
    split at h
    · rename_i hc
      cases h
      exact ⟨z, rfl, by rw [sizeLine_eq]; exact hc, k _ F3 H3 ((f1.trans f2).trans f3) S3 (.str _)⟩
    · cases h⟩
theorem rx_find (ha : RX K ta ρ O (.str x) O1) (hb : RX K tb ρ O1 (.str y) O2) : RX K (tM1 (fun x xs H Q => ∃ a b, x = .str a ∧ xs = [.str b] ∧ Q (.int (Txt.find a b)) H) ta tb) ρ O (.int (Txt.find x y)) O2 := ⟨fun _ _ _ _ _ _ Q E S k =>
  ha.go E S fun u F1 H1 f1 E1 S1 r1 => by
    cases r1
    exact ⟨⟨x, rfl⟩, hb.go E1 S1 fun v F2 H2 f2 E2 S2 r2 => by
      cases r2
      exact ⟨x, y, rfl, rfl, k _ F2 H2 (f1.trans f2) S2 (.int _)⟩⟩⟩
theorem rx_lenO (h : lenO z = some r) (ha : RX K ta ρ O (.str z) O1) : RX K (tCB (fun xs H Q => ∃ z, xs = [.str z] ∧ z.length ≤ sizeLine ∧ Q (.int (z.length : Int)) H) (tCons ta tNil)) ρ O (.int r) O1 := by
  unfold lenO at h
  split at h
  · rename_i hc
    cases h
    exact rx_lenS ha (by rw [sizeLine_eq]; exact hc)
  · cases h
theorem rx_intO (h : intO z = some r) (ha : RX K ta ρ O (.str z) O1) : RX K (tCB (fun xs H Q => ∃ a n, xs = [.str a] ∧ PySem.intText? a = some n ∧ a.length ≤ 640 ∧ Q (.int n) H) (tCons ta tNil)) ρ O (.int r) O1 := rx_cb1 ha fun F H x Q f rx k => by
  cases rx
  unfold intO at h
  split at h
  · rename_i hc
    exact ⟨z, r, rfl, h, hc, k _ (.int _)⟩
  · cases h
theorem rx_fdivWO (h : fdivWO i j = some r) (ha : RX K ta ρ O (.int i) O1) (hb : RX K tb ρ O1 (.int j) O2) : RX K (tOp (rI CDivW fun i j => .int (i / j)) ta tb) ρ O (.int r) O2 := by
  unfold fdivWO at h
  split at h
  · rename_i hc
    cases h
    refine rx_iiC (C := CDivW) (fun _ => .int _) (wide_div (b := 200) hc.1 ?_ (by decide) (by decide)) ha hb
    have e : (2 : Nat) ^ 200 = 1606938044258990275541962092341162602522202993782792835301376 := by decide
    rw [e]
    omega
  · cases h
/-- sorted of whole numbers -/
def sortI (ns : List Int) : List Int := ns.mergeSort fun a b => decide (a ≤ b)
theorem sortI_of {ns ns' : List Int} (p : ns'.Perm ns) (s : ns'.Pairwise (· ≤ ·)) : ns' = sortI ns := by
  have p2 : ns'.Perm (sortI ns) := p.trans (List.mergeSort_perm _ _).symm
  refine p2.eq_of_pairwise (le := (· ≤ ·)) (fun a b _ _ h1 h2 => Int.le_antisymm h1 h2) s ?_
  exact (List.pairwise_mergeSort (le := fun a b : Int => decide (a ≤ b)) (fun a b c h1 h2 => by simp at *; omega) (fun a b => by simp; omega) ns).imp fun h => by simpa using h
theorem rxo_sorted {ns : List Int} (ha : RXs K ta ρ O (ns.map .int) O1) : RXo K (tCB (rSortedI K) (tCons ta tNil)) ρ O ((sortI ns).map .int) O1 := ⟨fun _ _ _ _ _ _ Q E S k =>
  ha.go E S fun a F1 H1 f1 E1 S1 r1 => by
    obtain ⟨vs, q1, q2, q3⟩ := r1 F1 H1 (Same.refl _) S1
    have hv := q3.ints
    refine ⟨a, ns, rfl, by rw [← hv]; exact q1, fun ns' p hp hs hn => ?_⟩
    have e := sortI_of hp hs
    subst e
    refine k p F1 _ f1 (S1.mine hn ?_ (RpAll.of_ints _))
    rw [List.length_map, hp.length_eq]
    have := q3.length
    rw [List.length_map] at this
    omega⟩
theorem k_sortedI {X : Cx} (K : Fg) (hK : X.K = K := by rfl) : CallR X (.builtin "sorted") (rSortedI K) := by subst hK; exact cr_sortedI
end
end TL

namespace TL
open PySem L2
open Enc
section
variable {K : Fg} {ta tb tc : TE} {ρ : List Sl} {O O1 O2 O3 : Os} {F0 H0 F H : Hp} {D0 : List Addr} {σ : L2.St}
/-! ### items of what may be a list or a tuple -/
theorem rx_ixA {ds : List PyData} {i : Int} {d : PyData} (h : L2.atI ds i = some d) (ha : RX K ta ρ O (.list ds) O1) (hb : RX K tb ρ O1 (.int i) O2) : RX K (tOp (rIx K) ta tb) ρ O d O2 := ⟨fun _ _ _ _ _ _ Q E S k =>
  ha.go E S fun x F1 H1 f1 E1 S1 r1 => hb.go E1 S1 fun y F2 H2 f2 E2 S2 r2 => by
    cases r2
    have r1' := r1.up f2
    cases r1' with
    | lst q1 q2 q3 =>
      obtain ⟨v, e, r⟩ := q3.atI h
      exact .inl ⟨_, _, i, v, rfl, rfl, S2.fh.seq q1, e, k v F2 H2 (f1.trans f2) S2 r⟩⟩
theorem rx_ixAT {ds : List PyData} {i : Int} {d : PyData} (h : L2.atI ds i = some d) (ha : RX K ta ρ O (.tuple ds) O1) (hb : RX K tb ρ O1 (.int i) O2) : RX K (tOp (rIx K) ta tb) ρ O d O2 := ⟨fun _ _ _ _ _ _ Q E S k =>
  ha.go E S fun x F1 H1 f1 E1 S1 r1 => hb.go E1 S1 fun y F2 H2 f2 E2 S2 r2 => by
    cases r2
    have r1' := r1.up f2
    cases r1' with
    | tup q1 q2 q3 =>
      obtain ⟨v, e, r⟩ := q3.atI h
      exact .inr (.inl ⟨_, _, i, v, rfl, rfl, same_t S2.fh q1, e, k v F2 H2 (f1.trans f2) S2 r⟩)⟩
theorem k_ix_seq {X : Cx} (K : Fg) (hK : X.K = K := by rfl) : IxR X (rIx K) := by subst hK; exact ix_seq
theorem rx_noN {d : PyData} (hn : d ≠ .none) (ha : RX K ta ρ O d O1) : RX K (tIsN ta) ρ O (.bool false) O1 := ⟨fun _ _ _ _ _ _ Q E S k => ha.go E S fun x F1 H1 f1 E1 S1 r1 => by
  have e : decide (x = V.non) = false := decide_eq_false fun q => by
    subst q
    cases r1
    exact hn rfl
  show Q (.bl (decide (x = V.non))) H1
  rw [e]
  exact k _ F1 H1 f1 S1 (.bl false)⟩
/-- a loop that ends where something is not so -/
theorem forF_all {α : Type} (g : α → Bool) : ∀ xs : List α, forF (S := Unit) (R := Bool) (fun x _ => some (if g x = true then .nx () else .rt false)) xs () = some (if xs.all g = true then .nx () else .rt false)
  | [] => rfl
  | x :: xs => by
    unfold forF
    simp only [Option.bind_some]
    by_cases h : g x = true
    · rw [if_pos h]
      simp only
      rw [forF_all g xs, List.all_cons, h, Bool.true_and]
    · rw [if_neg h]
      simp only
      rw [if_neg]
      rw [List.all_cons]
      intro q
      rw [Bool.and_eq_true] at q
      exact h q.1
def simG (zs : List (PyData × PyData × Bool)) (k : Int) : Bool := match zs[k.toNat]? with
  | some t => t.2.2
  | none => true
theorem simG_all (zs : List (PyData × PyData × Bool)) : (rngL 0 zs.length).all (simG zs) = (zs.map (·.2.2)).all id := by
  rw [Bool.eq_iff_iff, List.all_eq_true, List.all_eq_true]
  constructor
  · intro h b hb
    obtain ⟨t, ht, rfl⟩ := List.mem_map.mp hb
    obtain ⟨i, hi⟩ := List.mem_iff_getElem?.mp ht
    have hl := (List.getElem?_eq_some_iff.mp hi).1
    have := h (i : Int) (by unfold rngL; exact List.mem_map.mpr ⟨i, List.mem_range.mpr hl, by simp⟩)
    unfold simG at this
    rw [Int.toNat_natCast, hi] at this
    exact this
  · intro h k _
    unfold simG
    cases e : zs[k.toNat]? with
    | none => rfl
    | some t => exact h t.2.2 (List.mem_map.mpr ⟨t, List.mem_of_getElem? e, rfl⟩)
theorem zip_len {xs ys : List PyData} {zs : List (PyData × PyData × Bool)} (z1 : zipD xs ys = zs.map fun t => PyData.tuple [t.1, t.2.1]) (hl : xs.length = ys.length) : zs.length = ys.length := by
  have := congrArg List.length z1
  unfold zipD at this
  rw [List.length_map, List.length_map, List.length_zip, hl, Nat.min_self] at this
  exact this.symm
theorem zip_at {xs ys : List PyData} {zs : List (PyData × PyData × Bool)} (z1 : zipD xs ys = zs.map fun t => PyData.tuple [t.1, t.2.1]) (hl : xs.length = ys.length) {k : Int} (hk : k ∈ rngL 0 ys.length) :
    ∃ t, t ∈ zs ∧ simG zs k = t.2.2 ∧ L2.atI xs k = some t.1 ∧ L2.atI ys k = some t.2.1 := by
  unfold rngL at hk
  obtain ⟨i, hi, rfl⟩ := List.mem_map.mp hk
  rw [List.mem_range] at hi
  have hz : i < zs.length := by rw [zip_len z1 hl]; exact hi
  have hx : i < xs.length := by omega
  have e : (zs.map fun t => PyData.tuple [t.1, t.2.1])[i]? = some (.tuple [zs[i].1, zs[i].2.1]) := by rw [List.getElem?_map, List.getElem?_eq_getElem hz]; rfl
  rw [← z1] at e
  unfold zipD at e
  have ez : (xs.zip ys)[i]? = some (xs[i], ys[i]) := List.getElem?_zip_eq_some.mpr ⟨List.getElem?_eq_getElem hx, List.getElem?_eq_getElem hi⟩
  rw [List.getElem?_map, ez] at e
  have e := Option.some.inj e
  injection e with e
  injection e with e1 e2
  injection e2 with e2 _
  refine ⟨zs[i], List.getElem_mem hz, ?_, ?_, ?_⟩
  · unfold simG
    rw [show (0 + (i : Int)).toNat = i by omega, List.getElem?_eq_getElem hz]
  · unfold L2.atI ixN
    rw [if_pos (by omega), if_pos (by omega)]
    simp only [Option.bind_some]
    rw [show (0 + (i : Int)).toNat = i by omega, List.getElem?_eq_getElem hx]
    exact congrArg some e1
  · unfold L2.atI ixN
    rw [if_pos (by omega), if_pos (by omega)]
    simp only [Option.bind_some]
    rw [show (0 + (i : Int)).toNat = i by omega, List.getElem?_eq_getElem hi]
    exact congrArg some e2
/-! ### a written dict of texts by texts -/
def dlitS (kvs : List (Str × Str)) (k : Str) : Option Str := (kvs.find? fun kv => decide (kv.1 = k)).map (·.2)
theorem valV_litS {k : Str} : ∀ (kvs : List (Str × Str)), valV (litS kvs) (Sum.inr k : Key) = (dlitS kvs k).map V.str
  | [] => rfl
  | (a, v) :: r => by
    have ih := valV_litS (k := k) r
    unfold valV dlitS litS at ih ⊢
    rw [List.map_cons, List.find?_cons, List.find?_cons]
    by_cases e : a = k
    · subst e
      simp
    · have e1 : decide ((Sum.inr a : Key) = Sum.inr k) = false := decide_eq_false fun q => e (Sum.inr.inj q)
      have e2 : decide (a = k) = false := decide_eq_false e
      rw [e1, e2]
      exact ih
theorem pairs_litS : ∀ (kvs : List (Str × Str)) {σ : L2.St} {H : Hp} {Q : List (V × V) → Hp → Prop}, Q (kvs.map fun p => (V.str p.1, V.str p.2)) H → tPairs (kvs.map fun p => (tC (.str p.1), tC (.str p.2))) σ H Q
  | [], _, _, _, h => h
  | (k, v) :: r, σ, H, Q, h => by
    show tC (.str k) σ H fun x H1 => tC (.str v) σ H1 fun y H2 => tPairs (r.map fun p => (tC (.str p.1), tC (.str p.2))) σ H2 fun ps H3 => Q ((x, y) :: ps) H3
    exact pairs_litS r (Q := fun ps H3 => Q ((V.str k, V.str v) :: ps) H3) h
variable {D : Ends}
theorem st_setD {i : Nat} {kvs : List (Str × Str)} (hl : kvs.length ≤ 15) (hm : mergeK [] (litS kvs) = litS kvs) (E : EnvR K F σ ρ) (S : Hx K F0 H0 D0 F O H)
    (k : ∀ σ' F' H', Same F F' → EnvR K F' σ' (ρ.set i (.dic kvs)) → Hx K F0 H0 D0 F' O H' → D.nx σ' H') : tAsg (tDisp (kvs.map fun p => (tC (.str p.1), tC (.str p.2)))) (gName i) D σ H := by
  intro p hp
  refine pairs_litS kvs ⟨upd_same, litS kvs, ?_, ?_, ?_⟩
  · unfold litS; rw [List.map_map]; rfl
  · unfold litS; rw [List.length_map]; exact hl
  · rw [upd_upd, hm]
    have f0 := same_upd (o := .dK (litS kvs)) (S.nof hp)
    exact k _ _ _ f0 (EnvR.set (s := some (.ref p)) (r := .dic kvs) ⟨p, rfl, upd_same⟩ i (E.up f0)) (S.put (o := .dK (litS kvs)) hp)
theorem rx_dget {i : Nat} {kvs : List (Str × Str)} {k v : Str} (h : dlitS kvs k = some v) (hs : ρ[i]? = some (.dic kvs)) (hk : RX K tb ρ O (.str k) O1) : RX K (tDGet (tVar i) tb) ρ O (.str v) O1 := ⟨fun _ _ _ _ _ _ Q E S kk => by
  obtain ⟨s, h1, t, rfl, h2⟩ := E.at hs
  refine ⟨_, h1, hk.go E S fun y F1 H1 f1 E1 S1 r1 => ?_⟩
  cases r1
  have hd : H1 t = some (.dK (litS kvs)) := S1.fh _ _ (f1 _ _ h2)
  refine ⟨t, .str v, rfl, ?_, kk _ F1 H1 f1 S1 (.str v)⟩
  have q := DGet.k (k := Sum.inr k) hd
  rw [valV_litS, h] at q
  exact q⟩
/-! ### tuple(range(n)), list(range(n)) -/
theorem rg_rng {n : Int} (h : 0 ≤ n) : rgV 0 n = (rngL 0 n.toNat).map V.int := by
  unfold rgV rngL
  rw [List.map_map, Int.sub_zero]
  rfl
theorem rngO_ok {n : Int} {r : List Int} (h : rngO n = some r) : RgOk 0 n ∧ rgV 0 n = r.map V.int ∧ r.length ≤ 16777216 := by
  obtain ⟨⟨h1, h2⟩, rfl⟩ := rngO_some h
  refine ⟨⟨by omega, by omega, by omega, by omega, by omega⟩, ?_, by rw [rngL_length]; omega⟩
  unfold rgV rngL
  rw [List.map_map, Int.sub_zero]
  rfl
theorem rx_tupRg {n : Int} {r : List Int} (h : rngO n = some r) (ha : RX K ta ρ O (.int n) O1) : RX K (tTupRg (tRg1 ta)) ρ O (.tuple (r.map .int)) O1 := ⟨fun _ _ _ _ _ _ Q E S k => ha.go E S fun x F1 H1 f1 E1 S1 r1 => by
  cases r1
  obtain ⟨h1, h2, h3⟩ := rngO_ok h
  refine ⟨n, rfl, h1, fun q hq => ?_⟩
  rw [h2]
  have f2 := same_upd (o := .tup (r.map V.int)) (S1.nof hq)
  exact k _ _ _ (f1.trans f2) (S1.put hq) (.tup (SqT.of upd_same) (by rw [List.length_map, sizeLine_eq]; exact h3) (RpAll.of_ints r))⟩
theorem rxo_listRg {n : Int} {r : List Int} (h : rngO n = some r) (ha : RX K ta ρ O (.int n) O1) : RXo K (tLstRg (tRg1 ta)) ρ O (r.map .int) O1 := ⟨fun _ _ _ _ _ _ Q E S k => ha.go E S fun x F1 H1 f1 E1 S1 r1 => by
  cases r1
  obtain ⟨h1, h2, h3⟩ := rngO_ok h
  refine ⟨n, rfl, h1, fun q hq => ?_⟩
  rw [h2]
  exact k q F1 _ f1 (S1.mine hq (by rw [List.length_map, sizeLine_eq]; exact h3) (RpAll.of_ints r))⟩
end
end TL

namespace TL
open PySem L2
open Enc
section
variable {K : Fg} {F0 H0 F H : Hp} {D0 : List Addr} {O : Os} {ρ : List Sl} {σ : L2.St} {D : Ends}
/-- a loop in which an own list is made anew each turn -/
theorem st_forSA {α S : Type} {eα : α → PyData} {wi : TI} {g : TG} {tb : TS} {xs : List α} {f : α → S → Option S} {s0 s1 : S} (ρf : S → Addr → List Sl) (Of : S → Addr → Os) (a0 : Addr) (E : EnvR K F σ ρ) (S0 : Hx K F0 H0 D0 F O H) (hI : RI K wi ρ O (xs.map eα) (Of s0 a0)) (hf : forS f xs s0 = some s1) (hW : Wk ρ (ρf s0 a0))
    (kn : ∀ a σ' F' H', Same F F' → EnvR K F' σ' (ρf s1 a) → Hx K F0 H0 D0 F' (Of s1 a) H' → D.nx σ' H')
    (body : ∀ x ∈ xs, ∀ s s' a, f x s = some s' → ∀ σ1 F1 H1 v, Same F F1 → EnvR K F1 σ1 (ρf s a) → Hx K F0 H0 D0 F1 (Of s a) H1 → Rp K F1 v (eα x) →
      ∀ (N B : L2.St → Hp → Prop), (∀ a' σ' F' H', Same F1 F' → EnvR K F' σ' (ρf s' a') → Hx K F0 H0 D0 F' (Of s' a') H' → N σ' H') → g v σ1 H1 fun σ2 H2 => tb { D with nx := N, ct := N, bk := B } σ2 H2) :
    tFor wi g tb D σ H := hI.go E S0 fun J F1 H1 f1 E1 S1 w => by
  refine for_it (walk_of w) (fun i σ H => ∃ s a F2, Same F1 F2 ∧ EnvR K F2 σ (ρf s a) ∧ Hx K F0 H0 D0 F2 (Of s a) H ∧ forS f (xs.drop i) s = some s1) ⟨s0, a0, F1, Same.refl _, E1.weak hW, S1, hf⟩
    (fun i σ H _ q => by obtain ⟨s, a, F2, q1, q2, q3, _⟩ := q; exact ⟨F2, _, q1, q3⟩) (fun i x σ H H' hi q y => ?_) (fun σ H q => ?_)
  · obtain ⟨s, a, F2, q1, q2, q3, q4⟩ := q
    obtain ⟨F3, z, f3, S3, ez, rz⟩ := y F2 _ q1 q3
    have hm : z ∈ xs := List.mem_of_getElem? ez
    have hi' : xs[i] = z := (List.getElem?_eq_some_iff.mp ez).2
    rw [List.drop_eq_getElem_cons hi, hi'] at q4
    unfold forS at q4
    obtain ⟨s', e1, e2⟩ := bindE q4
    exact body z hm s s' a e1 σ F3 H' x (f1.trans (q1.trans f3)) (q2.up f3) S3 rz _ _ fun a' σ' F' H2 ff E' S' => ⟨s', a', F', (q1.trans f3).trans ff, E', S', e2⟩
  · obtain ⟨s, a, F2, q1, q2, q3, q4⟩ := q
    rw [List.drop_length] at q4
    obtain rfl := Option.some.inj q4
    exact kn a σ F2 H (f1.trans q1) q2 q3
/-- xs.clear(), xs an own list -/
theorem st_clear {i j : Nat} {a : Addr} {nw : Bool} {ds : List PyData} (hs : ρ[i]? = some (.adr a)) (hj : O[j]? = some ⟨a, nw, ds⟩) (E : EnvR K F σ ρ) (S : Hx K F0 H0 D0 F O H)
    (k : ∀ F' H', Same F F' → EnvR K F' σ ρ → Hx K F0 H0 D0 F' (O.set j ⟨a, nw, .l []⟩) H' → D.nx σ H') : tDrop (tBM0 K "list" rClear (tVar i)) D σ H := by
  obtain ⟨g1, g2, g3, vs, g4, g5, g6⟩ := S.get hj
  have g4 : H a = some (.lst vs) := g4
  exact ⟨_, E.adr hs, .inl ⟨rfl, _, .inl (.inl g4)⟩, a, vs, rfl, rfl, g4, k F _ (Same.refl _) E (S.mut hj (Nat.zero_le _) .nil)⟩
/-! ### a second own list, read only -/
theorem Hx.start2 {p q : Addr} {vs ws : List V} {ds es : List PyData} (h : Same F H) (n : F p = none) (hp : H p = some (.lst vs)) (hz : vs.length ≤ sizeLine) (r : RpAll K F vs ds) (n' : F q = none) (hq : H q = some (.lst ws)) (hz' : ws.length ≤ sizeLine) (r' : RpAll K F ws es) (ne : p ≠ q) :
    Hx K F H [p, q] F [⟨p, false, ds⟩, ⟨q, false, es⟩] H := by
  refine ⟨Same.refl _, h, fun _ _ e _ => e, fun _ o e => ⟨o, e⟩, fun _ _ _ e => e, fun u hu => ?_, by simp [ne]⟩
  rcases List.mem_cons.mp hu with rfl | hu
  · exact ⟨n, fun z => (Bool.false_ne_true z).elim, fun _ => by simp, vs, hp, hz, r⟩
  · have e : u = ⟨q, false, es⟩ := by simpa using hu
    subst e
    exact ⟨n', fun z => (Bool.false_ne_true z).elim, fun _ => by simp, ws, hq, hz', r'⟩
theorem Hx.call2 {F' H' : Hp} (S : Hx K F0 H0 D0 F O H) {j k : Nat} {l m : Addr} {nw nw' : Bool} {ds ds' es : List PyData} {vs ws : List V} (h : O[j]? = some ⟨l, nw, ds⟩) (h' : O[k]? = some ⟨m, nw', es⟩) (q : Stp [l, m] F H F' H')
    (hl : H' l = some (.lst vs)) (hz : vs.length ≤ sizeLine) (r : RpAll K F' vs ds') (hm : H' m = some (.lst ws)) (hz' : ws.length ≤ sizeLine) (r' : RpAll K F' ws es) : Hx K F0 H0 D0 F' (O.set j ⟨l, nw, ds'⟩) H' := by
  obtain ⟨h1, h2, h3, vs0, h4, h5, h6⟩ := S.get h
  obtain ⟨k1, k2, k3, ws0, k4, k5, k6⟩ := S.get h'
  have mine : ∀ a o, H0 a = some o → a ∉ D0 → a ≠ l ∧ a ≠ m := fun a o e n => by
    constructor
    · intro z
      rw [z] at e n
      cases nw with
      | true => rw [h2 rfl] at e; cases e
      | false => exact n (h3 rfl)
    · intro z
      rw [z] at e n
      cases nw' with
      | true => rw [k2 rfl] at e; cases e
      | false => exact n (k3 rfl)
  refine ⟨S.f0.trans q.ff, q.fh, fun a u e n => ?_, fun a u e => ?_, fun a u e n => ?_, fun p hp => ?_, ?_⟩
  · have := mine a u e n
    exact q.keep _ _ (S.keep a u e n) (by simp [this.1, this.2])
  · obtain ⟨u', e'⟩ := S.live a u e
    exact q.live _ _ e'
  · obtain ⟨u', e'⟩ := S.live a u e
    exact q.new _ _ e' (S.new a u e n)
  · obtain ⟨i, hi⟩ := List.mem_iff_getElem?.mp hp
    by_cases e : j = i
    · subst e
      have hj : j < O.length := (List.getElem?_eq_some_iff.mp h).1
      rw [List.getElem?_set_self hj] at hi
      cases hi
      exact ⟨q.new _ _ h4 h1, h2, h3, vs, hl, hz, r⟩
    · rw [List.getElem?_set_ne e] at hi
      obtain ⟨g1, g2, g3, g40⟩ := S.getD hi
      obtain ⟨u1, g4⟩ := g40.live
      have ne : p.a ≠ l := fun z => e (nodup_at S.nd (x := l) (by rw [List.getElem?_map, h]; rfl) (by rw [List.getElem?_map, hi]; simp [z]))
      by_cases em : k = i
      · subst em
        rw [h'] at hi
        have hi := Option.some.inj hi
        subst hi
        exact ⟨q.new _ _ k4 k1, g2, g3, ws, hm, hz', r'⟩
      · have ne2 : p.a ≠ m := fun z => em (nodup_at S.nd (x := m) (by rw [List.getElem?_map, h']; rfl) (by rw [List.getElem?_map, hi]; simp [z]))
        exact ⟨q.new _ _ g4 g1, g2, g3, (g40.at ((q.keep _ _ g4 (by simp [ne, ne2])).trans g4.symm)).up q.ff⟩
  · have e : (O.set j ⟨l, nw, ds'⟩).map OE.a = O.map OE.a := by
      rw [List.map_set]
      apply List.ext_getElem?
      intro i
      by_cases e : j = i
      · subst e
        have hj : j < O.length := (List.getElem?_eq_some_iff.mp h).1
        rw [List.getElem?_set_self (by simpa using hj), List.getElem?_map, h]; rfl
      · rw [List.getElem?_set_ne e]
    rw [e]
    exact S.nd
def SpQ (K : Fg) (R : List Sl → Addr → Addr → List PyData → List PyData → PyData → List PyData → Prop) : Sp := fun vs H Q _ => ∃ F as p q xs ys c e d c', (AsR K F vs as ∧ Same F H) ∧ (F p = none ∧ H p = some (.lst xs) ∧ xs.length ≤ sizeLine ∧ RpAll K F xs c) ∧ (F q = none ∧ H q = some (.lst ys) ∧ ys.length ≤ sizeLine ∧ RpAll K F ys e) ∧ p ≠ q ∧ R as p q c e d c' ∧
  ∀ v F' H' xs' ys', Stp [p, q] F H F' H' → (F' p = none ∧ H' p = some (.lst xs') ∧ xs'.length ≤ sizeLine ∧ RpAll K F' xs' c') → (F' q = none ∧ H' q = some (.lst ys') ∧ ys'.length ≤ sizeLine ∧ RpAll K F' ys' e) → Rp K F' v d → Q v H'
theorem sq_len {R : List Sl → Addr → Addr → List PyData → List PyData → PyData → List PyData → Prop} {n : Nat} (h : ∀ as p q c e d c', R as p q c e d c' → as.length = n) : ∀ vs H Q E, SpQ K R vs H Q E → vs.length = n := fun vs H Q E ⟨F, as, p, q, xs, ys, c, e, d, c', ⟨r, _⟩, _, _, _, hR, _⟩ => r.length.trans (h _ _ _ _ _ _ _ hR)
variable {t : TA} {E0 : XK} {O1 : Os}
theorem rx_callq {R : List Sl → Addr → Addr → List PyData → List PyData → PyData → List PyData → Prop} {as : List Sl} {p q : Addr} {nw nw' : Bool} {j k : Nat} {c e c' : List PyData} {d : PyData} (ha : RA K t ρ O as O1) (hj : O1[j]? = some ⟨p, nw, c⟩) (hk : O1[k]? = some ⟨q, nw', e⟩) (hjk : j ≠ k) (hR : R as p q c e d c') :
    RX K (tCall (SpQ K R) [] E0 t) ρ O d (O1.set j ⟨p, nw, c'⟩) := ⟨fun _ _ _ _ _ _ Q E S kk => ha.go E S fun vs F1 H1 f1 E1 S1 r1 => by
  show SpQ K R (vs ++ []) H1 _ E0
  rw [List.append_nil]
  obtain ⟨g1, g2, g3, xs, g4, g5, g6⟩ := S1.get hj
  obtain ⟨k1, k2, k3, ys, k4, k5, k6⟩ := S1.get hk
  have ne : p ≠ q := fun z => hjk (nodup_at S1.nd (x := p) (by rw [List.getElem?_map, hj]; rfl) (by rw [List.getElem?_map, hk, z]; rfl))
  exact ⟨F1, as, p, q, xs, ys, c, e, d, c', ⟨r1, S1.fh⟩, ⟨g1, g4, g5, g6⟩, ⟨k1, k4, k5, k6⟩, ne, hR, fun v F' H' xs' ys' st hp hq r => kk v F' H' (f1.trans st.ff) (S1.call2 hj hk st hp.2.1 hp.2.2.1 hp.2.2.2 hq.2.1 hq.2.2.1 hq.2.2.2) r⟩⟩
end
end TL

namespace TL
open PySem L2
open Enc
/-! ### None in a list of numbers and Nones -/
def oV : Option Int → V
  | none => .non
  | some i => .int i
theorem RpAll.opts {K : Fg} {F : Hp} : ∀ {vs : List V} {ns : List (Option Int)}, RpAll K F vs (ns.map enc) → vs = ns.map oV
  | _, [], h => by cases h; rfl
  | _, none :: ns, h => by
    cases h with
    | cons r t => cases r; rw [RpAll.opts t]; rfl
  | _, some i :: ns, h => by
    cases h with
    | cons r t => cases r; rw [RpAll.opts t]; rfl
theorem inV_opts (xs : List (Option Int)) : inV .non (xs.map oV) = decide (none ∈ xs) := by
  induction xs with
  | nil => rfl
  | cons a xs ih =>
    show (eqV (oV a) .non || inV .non (xs.map oV)) = _
    rw [ih]
    cases a with
    | none => simp [oV, eqV]
    | some i => simp [oV, eqV]
theorem flat_opts (xs : List (Option Int)) : (xs.map oV).all flatV = true := by
  rw [List.all_eq_true]
  intro v hv
  obtain ⟨o, _, rfl⟩ := List.mem_map.mp hv
  cases o <;> rfl
section
variable {K : Fg} {ta tb : TE} {ρ : List Sl} {O O1 O2 : Os}
theorem rx_inN {xs : List (Option Int)} {neg : Bool} (ha : RX K ta ρ O .none O1) (hb : RXs K tb ρ O1 (xs.map enc) O2) : RX K (tOp (rIn K neg) ta tb) ρ O (.bool (if neg then !decide (none ∈ xs) else decide (none ∈ xs))) O2 := ⟨fun _ _ _ _ _ _ Q E S k =>
  ha.go E S fun v F1 H1 f1 E1 S1 r1 => hb.go E1 S1 fun a F2 H2 f2 E2 S2 r2 => by
    cases r1
    obtain ⟨vs, q1, q2, q3⟩ := r2 F2 H2 (Same.refl _) S2
    have e := q3.opts
    subst e
    refine ⟨a, _, rfl, .inl q1, rfl, flat_opts xs, ?_⟩
    rw [inV_opts]
    exact k _ F2 H2 (f1.trans f2) S2 (.bl _)⟩
end
end TL

namespace TL
open PySem L2
open Enc
/-! ### likeness, None too -/
mutual
inductive SiN : Nat → PyData → PyData → Bool → Prop
  | int {n : Nat} (i j : Int) : SiN n (.int i) (.int j) (decide (i = j))
  | bool {n : Nat} (i j : Bool) : SiN n (.bool i) (.bool j) (decide (i = j))
  | str {n : Nat} (i j : Str) : SiN n (.str i) (.str j) (decide (i = j))
  | non {n : Nat} : SiN n .none .none true
  | ni {n : Nat} (j : Int) : SiN n .none (.int j) false
  | iN {n : Nat} (i : Int) : SiN n (.int i) .none false
  | list {n : Nat} {xs ys : List PyData} {b : Bool} (h : SiNAll n xs ys b) : SiN (n + 1) (.list xs) (.list ys) (decide (xs.length = ys.length) && b)
  | tuple {n : Nat} {xs ys : List PyData} {b : Bool} (h : SiNAll n xs ys b) : SiN (n + 1) (.tuple xs) (.tuple ys) (decide (xs.length = ys.length) && b)
inductive SiNAll : Nat → List PyData → List PyData → Bool → Prop
  | nil {n : Nat} (ys : List PyData) : SiNAll n [] ys true
  | nil' {n : Nat} (xs : List PyData) : SiNAll n xs [] true
  | cons {n : Nat} {x y : PyData} {xs ys : List PyData} {b c : Bool} (h : SiN n x y b) (t : SiNAll n xs ys c) : SiNAll n (x :: xs) (y :: ys) (b && c)
end
mutual
theorem SiN.mono {n m : Nat} {x y : PyData} {b : Bool} (h : SiN n x y b) (e : n ≤ m) : SiN m x y b := by
  cases h with
  | int i j => exact .int i j
  | bool i j => exact .bool i j
  | str i j => exact .str i j
  | non => exact .non
  | ni j => exact .ni j
  | iN i => exact .iN i
  | list h =>
    cases m with
    | zero => omega
    | succ m => exact .list (SiNAll.mono h (by omega))
  | tuple h =>
    cases m with
    | zero => omega
    | succ m => exact .tuple (SiNAll.mono h (by omega))
theorem SiNAll.mono {n m : Nat} {xs ys : List PyData} {b : Bool} (h : SiNAll n xs ys b) (e : n ≤ m) : SiNAll m xs ys b := by
  cases h with
  | nil ys => exact .nil ys
  | nil' xs => exact .nil' xs
  | cons h t => exact .cons (SiN.mono h e) (SiNAll.mono t e)
end
class SiNT (α : Type) [Enc α] [DecidableEq α] where
  dp : Nat
  ok : ∀ x y : α, SiN dp (enc x) (enc y) (decide (x = y))
instance : SiNT Int := ⟨0, fun x y => .int x y⟩
instance : SiNT Bool := ⟨0, fun x y => .bool x y⟩
instance : SiNT Str := ⟨0, fun x y => .str x y⟩
instance : SiNT (Option Int) := ⟨0, fun x y => by
  cases x <;> cases y
  · exact .non
  · exact .ni _
  · exact .iN _
  · rename_i i j
    have e : decide (some i = some j) = decide (i = j) := by simp
    rw [e]
    exact .int i j⟩
theorem siNAll_map {α : Type} [Enc α] [DecidableEq α] [s : SiNT α] : ∀ xs ys : List α, ∃ b, SiNAll (SiNT.dp α) (xs.map enc) (ys.map enc) b ∧ (decide (xs.length = ys.length) && b) = decide (xs = ys)
  | [], ys => ⟨true, .nil _, by cases ys <;> simp⟩
  | x :: xs, [] => ⟨true, .nil' _, by simp⟩
  | x :: xs, y :: ys => by
    obtain ⟨b, h, e⟩ := siNAll_map xs ys
    refine ⟨_, .cons (SiNT.ok x y) h, ?_⟩
    have e1 : decide (x :: xs = y :: ys) = (decide (x = y) && decide (xs = ys)) := by simp
    rw [e1, ← e]
    have e2 : decide ((x :: xs).length = (y :: ys).length) = decide (xs.length = ys.length) := by simp
    rw [e2]
    cases decide (x = y) <;> cases decide (xs.length = ys.length) <;> cases b <;> rfl
instance {α : Type} [Enc α] [DecidableEq α] [SiNT α] : SiNT (List α) := ⟨SiNT.dp α + 1, fun xs ys => by
  obtain ⟨b, h, e⟩ := siNAll_map xs ys
  have := SiN.list h
  rw [List.length_map, List.length_map, e] at this
  exact this⟩
instance {α : Type} [Enc α] [DecidableEq α] [SiNT α] : SiNT (Tp α) := ⟨SiNT.dp α + 1, fun xs ys => by
  obtain ⟨xs⟩ := xs
  obtain ⟨ys⟩ := ys
  obtain ⟨b, h, e⟩ := siNAll_map xs ys
  have := SiN.tuple h
  rw [List.length_map, List.length_map, e] at this
  have e2 : decide (Tp.mk xs = Tp.mk ys) = decide (xs = ys) := by simp
  rw [e2]
  exact this⟩
instance {α β : Type} [Enc α] [DecidableEq α] [SiNT α] [Enc β] [DecidableEq β] [SiNT β] : SiNT (α × β) := ⟨SiNT.dp α + SiNT.dp β + 1, fun x y => by
  obtain ⟨a, b⟩ := x
  obtain ⟨c, d⟩ := y
  have := SiN.tuple (.cons ((SiNT.ok a c).mono (Nat.le_add_right _ _)) (.cons ((SiNT.ok b d).mono (Nat.le_add_left _ _)) (.nil [])))
  have e2 : decide ((a, b) = (c, d)) = (decide ([enc a, enc b].length = [enc c, enc d].length) && (decide (a = c) && (decide (b = d) && true))) := by simp [Bool.decide_and]
  rw [e2]
  exact this⟩
instance {α β γ : Type} [Enc α] [DecidableEq α] [SiNT α] [Enc β] [DecidableEq β] [SiNT β] [Enc γ] [DecidableEq γ] [SiNT γ] : SiNT (T3 α β γ) := ⟨SiNT.dp α + SiNT.dp β + SiNT.dp γ + 1, fun x y => by
  obtain ⟨a, b, c⟩ := x
  obtain ⟨a', b', c'⟩ := y
  have := SiN.tuple (.cons ((SiNT.ok a a').mono (by omega : SiNT.dp α ≤ SiNT.dp α + SiNT.dp β + SiNT.dp γ)) (.cons ((SiNT.ok b b').mono (by omega)) (.cons ((SiNT.ok c c').mono (by omega)) (.nil []))))
  have e2 : decide (T3.mk a b c = T3.mk a' b' c') = (decide ([enc a, enc b, enc c].length = [enc a', enc b', enc c'].length) && (decide (a = a') && (decide (b = b') && (decide (c = c') && true)))) := by simp [Bool.decide_and]
  rw [e2]
  exact this⟩
instance {α β γ δ : Type} [Enc α] [DecidableEq α] [SiNT α] [Enc β] [DecidableEq β] [SiNT β] [Enc γ] [DecidableEq γ] [SiNT γ] [Enc δ] [DecidableEq δ] [SiNT δ] : SiNT (T4 α β γ δ) := ⟨SiNT.dp α + SiNT.dp β + SiNT.dp γ + SiNT.dp δ + 1, fun x y => by
  obtain ⟨a, b, c, d⟩ := x
  obtain ⟨a', b', c', d'⟩ := y
  have := SiN.tuple (.cons ((SiNT.ok a a').mono (by omega : SiNT.dp α ≤ SiNT.dp α + SiNT.dp β + SiNT.dp γ + SiNT.dp δ)) (.cons ((SiNT.ok b b').mono (by omega)) (.cons ((SiNT.ok c c').mono (by omega)) (.cons ((SiNT.ok d d').mono (by omega)) (.nil [])))))
  have e2 : decide (T4.mk a b c d = T4.mk a' b' c' d') = (decide ([enc a, enc b, enc c, enc d].length = [enc a', enc b', enc c', enc d'].length) && (decide (a = a') && (decide (b = b') && (decide (c = c') && (decide (d = d') && true))))) := by simp [Bool.decide_and]
  rw [e2]
  exact this⟩
def SiNR (n : Nat) : List PyData → PyData → Prop := fun ds d => ∃ x y b, ds = [x, y] ∧ SiN n x y b ∧ d = .bool b
theorem SiNAll.all {n : Nat} {xs ys : List PyData} {b : Bool} (h : SiNAll n xs ys b) : ∃ zs : List (PyData × PyData × Bool), zs.map (fun t => PyData.tuple [t.1, t.2.1]) = zipD xs ys ∧ (∀ t ∈ zs, SiN n t.1 t.2.1 t.2.2) ∧ (zs.map (·.2.2)).all id = b := by
  induction xs generalizing ys b with
  | nil => cases h; exact ⟨[], rfl, fun t e => by simp at e, rfl⟩; exact ⟨[], rfl, fun t e => by simp at e, rfl⟩
  | cons x xs ih =>
    cases h with
    | nil' => exact ⟨[], rfl, fun t e => by simp at e, rfl⟩
    | @cons _ _ y _ ys b c h t =>
      obtain ⟨zs, h1, h2, h3⟩ := ih t
      refine ⟨(x, y, b) :: zs, ?_, fun t ht => ?_, by rw [List.map_cons, List.all_cons, h3]; rfl⟩
      · rw [List.map_cons, h1]; rfl
      · rcases List.mem_cons.mp ht with e | ht
        · subst e; exact h
        · exact h2 t ht
/-! ### what is told as one of two tuples -/
inductive Ans where
  | a1 (s : Str)
  | a3 (s : Str) (t : Tp Int) (n : Option Int)
  deriving DecidableEq
def Ans.en : Ans → PyData
  | .a1 s => .tuple [.str s]
  | .a3 s t n => .tuple [.str s, enc t, enc n]
@[reducible] instance : Enc Ans := ⟨Ans.en⟩
instance : SiNT Ans := ⟨SiNT.dp (Tp Int) + SiNT.dp (Tp Int) + 1, fun x y => by
  cases x <;> cases y
  · rename_i s s'
    have := SiN.tuple (n := SiNT.dp (Tp Int) + SiNT.dp (Tp Int)) (.cons (.str s s') (.nil []))
    have e : decide (Ans.a1 s = Ans.a1 s') = (decide ([PyData.str s].length = [PyData.str s'].length) && (decide (s = s') && true)) := by simp
    rw [e]; exact this
  · exact SiN.tuple (n := SiNT.dp (Tp Int) + SiNT.dp (Tp Int)) (xs := [_]) (ys := [_, _, _]) (.cons (.str _ _) (.nil _))
  · exact SiN.tuple (n := SiNT.dp (Tp Int) + SiNT.dp (Tp Int)) (xs := [_, _, _]) (ys := [_]) (.cons (.str _ _) (.nil' _))
  · rename_i s t n s' t' n'
    have := SiN.tuple (n := SiNT.dp (Tp Int) + SiNT.dp (Tp Int)) (.cons (.str s s') (.cons ((SiNT.ok t t').mono (by omega)) (.cons ((SiNT.ok n n').mono (Nat.zero_le _)) (.nil []))))
    have e : decide (Ans.a3 s t n = Ans.a3 s' t' n') = (decide ([PyData.str s, enc t, enc n].length = [PyData.str s', enc t', enc n'].length) && (decide (s = s') && (decide (t = t') && (decide (n = n') && true)))) := by simp [Bool.decide_and]
    rw [e]; exact this⟩
def Ans.ok : Ans → Bool
  | .a1 s => EqD.ok s
  | .a3 s _ _ => EqD.ok s
instance : EqD Ans := ⟨Ans.ok, fun x y => by
  cases x <;> cases y
  · rename_i s s'
    have := EqD.eqv (Tp.mk [s]) (Tp.mk [s'])
    have e : decide (Ans.a1 s = Ans.a1 s') = decide (Tp.mk [s] = Tp.mk [s']) := by simp
    rw [e]; exact this
  · simp [enc, Ans.en, PyData.eqv, PyData.eqvAll]
  · simp [enc, Ans.en, PyData.eqv, PyData.eqvAll]
  · rename_i s t n s' t' n'
    have := EqD.eqv (T3.mk s t n) (T3.mk s' t' n')
    have e : decide (Ans.a3 s t n = Ans.a3 s' t' n') = decide (T3.mk s t n = T3.mk s' t' n') := by simp
    rw [e]; exact this, EqD.dp (Tp Str) + EqD.dp (T3 Str (Tp Int) (Option Int)), fun x => by
  cases x with
  | a1 s => exact Nat.le_trans (EqD.dep (Tp.mk [s])) (Nat.le_add_right _ _)
  | a3 s t n => exact Nat.le_trans (EqD.dep (T3.mk s t n)) (Nat.le_add_left _ _), fun x h => by
  cases x with
  | a1 s => exact EqD.lay (Tp.mk [s]) (by have h : EqD.ok s = true := h; show ([s].all EqD.ok) = true; simp [h])
  | a3 s t n => exact EqD.lay (T3.mk s t n) (by have h : EqD.ok s = true := h; show (EqD.ok s && (EqD.ok t && EqD.ok n)) = true; rw [h, EqT.ok t, EqT.ok n]; rfl)⟩
end TL

namespace TL
open PySem PySem.Spec PyProof.Rows L2
open Enc
/-! ### zip of a list with a list or a tuple -/
/-- two lists, as they stand at each turn -/
def ItLL (K : Fg) (a b : Addr) : It :=
  ⟨fun i H => ∃ (xs ys : List V) (x y : V), (SqL K H a xs ∧ SqL K H b ys) ∧ xs[i]? = some x ∧ ys[i]? = some y,
    fun i H v H' => ∃ T x y, (v = .ref T ∧ H T = none ∧ H' = upd H T (.tup [x, y])) ∧ (∀ xs, SqL K H a xs → xs[i]? = some x) ∧ ∀ ys, SqL K H b ys → ys[i]? = some y,
    fun i H => ∃ xs ys : List V, (SqL K H a xs ∧ SqL K H b ys) ∧ i ≤ xs.length ∧ i ≤ ys.length ∧ (xs.length = i ∨ ys.length = i)⟩
def llSt (z TI TO i1 i2 a b : Addr) (i : Nat) (h : Heap) : Prop := (IsZip h z TI TO .none ∧ IsPair h TI (.ref i1) (.ref i2)) ∧ (∃ x y, IsPair h TO x y) ∧ h.IsListIter i1 a i ∧ h.IsListIter i2 b i
theorem turn_ll {P : Program} {w : World} {K : Fg} {elts : List Expr} {kk : Nat} {tpos : Pos} {a b z TI TO i1 i2 : Addr} (D : ZipApart z TI TO i1 i2 a b) :
    Turn P w K (.Tuple elts kk tpos) (ItLL K a b) [z, TI, TO, i1, i2] z (llSt z TI TO i1 i2 a b) := by
  have sep := sep_mix D
  refine ⟨by simp, fun i h st c hc => ?_, fun i h h' st k => ?_, ?_, ?_, fun A i s Q E st q => wpAny_pyIter_zip st.1.1 q⟩
  · obtain ⟨⟨q1, q2⟩, ⟨x, y, q3⟩, ⟨o1, e1, _, d1⟩, o2, e2, _, d2⟩ := st
    rcases five hc with rfl | rfl | rfl | rfl | rfl
    · exact ⟨_, q1, fun v => nofun⟩
    · exact ⟨_, q2, fun v => nofun⟩
    · exact ⟨_, q3, fun v => nofun⟩
    · exact ⟨_, e1, fun v e => nomatch d1.symm.trans e⟩
    · exact ⟨_, e2, fun v e => nomatch d2.symm.trans e⟩
  · obtain ⟨⟨q1, q2⟩, ⟨x, y, q3⟩, q4, q5⟩ := st
    exact ⟨⟨k z (by simp) _ q1, k TI (by simp) _ q2⟩, ⟨x, y, k TO (by simp) _ q3⟩, q4.at fun o => k i1 (by simp) o, q5.at fun o => k i2 (by simp) o⟩
  · rintro X rfl rfl rfl hc i pins s σ H E I hf st ⟨xs, ys, x, y, ⟨hqx, hqy⟩, hx, hy⟩
    obtain ⟨⟨q1, q2⟩, ⟨x0, y0, q3⟩, q4, q5⟩ := st
    obtain ⟨its, rv, p, _⟩ := I.list hqx
    obtain ⟨its2, rv2, p2, _⟩ := I.list hqy
    obtain ⟨u, hu, ru⟩ := rv.get hx
    obtain ⟨u2, hu2, ru2⟩ := rv2.get hy
    have zlt : z < s.heap.objs.size := Heap.lt_size q1
    have hh : X.A.in1.handled = none := I.ok.hd hc
    refine wpAny_pyNext_zipD2_item sep (Draws.list hh i1 a D.l1i1 its.toArray) (Draws.list hh i2 b D.l2i2 its2.toArray) q1 q2 q3 ⟨q4, p.isList⟩ ⟨q5, p2.isList⟩ (by simpa using (List.getElem?_eq_some_iff.mp hu).1) (by simpa using (List.getElem?_eq_some_iff.mp hu2).1) fun x1 x2 h' tk e1 e2 z' TO' n1 n2 hT hsz hk => ?_
    have ex1 : x1 = u := Option.some.inj (e1.symm.trans (by simpa using hu))
    have ex2 : x2 = u2 := Option.some.inj (e2.symm.trans (by simpa using hu2))
    subst ex1
    subst ex2
    refine ⟨_, rfl, wpAny_letOwnedTupleGo_zip (s := { s with heap := h', toks := tk }) z' fun h2 z2 sb => ?_⟩
    have hT2 : h2.get? s.heap.objs.size = some { cls := .type "tuple", data := .seq #[x1, x2] } := (sb.2 _ (Nat.ne_of_gt zlt)).trans hT
    have new : ObjOk X.prog X.w (upd H s.heap.objs.size (.tup [x, y])) h2 s.heap.objs.size (.tup [x, y]) := ⟨by show 2 ≤ sizeLine; decide, [x1, x2], .cons ru (.cons ru2 .nil), ⟨_, hT2, rfl, _, rfl⟩⟩
    have I1 : Inv X pins σ (upd H s.heap.objs.size (.tup [x, y])) { s with heap := h2, toks := tk } := I.turnedNew (t' := tk) (ch := [z, TI, TO, i1, i2]) (fun c o hb q => by
      obtain ⟨c1, c2, c3, c4⟩ := out5 hb
      exact (sb.2 c c1).trans (hk c o c1 c2 c3 c4 q)) hf (Nat.le_refl _) new
    refine ⟨.ref s.heap.objs.size, _, I1, rfl, ⟨_, x, y, ⟨rfl, I.hok.fresh (Nat.le_refl _), rfl⟩, fun l hl => by rw [I.list_inj hl hqx]; exact hx, fun l hl => by rw [I.list_inj hl hqy]; exact hy⟩, ⟨⟨z2, ?_⟩, ⟨x1, x2, ?_⟩, ?_, ?_⟩, fun c hcm => ?_⟩
    · exact (sb.2 TI D.TIz).trans (hk TI _ D.TIz D.TITO D.TIi1 D.TIi2 q2)
    · exact (sb.2 TO D.TOz).trans TO'
    · exact n1.1.at fun o q => (sb.2 i1 D.i1z).trans q
    · exact n2.1.at fun o q => (sb.2 i2 D.i2z).trans q
    · have hlt : c < s.heap.objs.size := by
        rcases five hcm with rfl | rfl | rfl | rfl | rfl
        · exact zlt
        · exact Heap.lt_size q2
        · exact Heap.lt_size q3
        · obtain ⟨_, e, _⟩ := q4; exact Heap.lt_size e
        · obtain ⟨_, e, _⟩ := q5; exact Heap.lt_size e
      rw [upd_ne (Nat.ne_of_lt hlt)]
      exact (hf c hcm).1
  · rintro X rfl rfl rfl hc i pins s σ H E I hf st ⟨xs, ys, ⟨hqx, hqy⟩, l1, l2, hend⟩
    obtain ⟨⟨q1, q2⟩, ⟨x0, y0, q3⟩, q4, q5⟩ := st
    obtain ⟨its, rv, p, _⟩ := I.list hqx
    obtain ⟨its2, rv2, p2, _⟩ := I.list hqy
    have e1 := rv.length
    have e2 := rv2.length
    have hh : X.A.in1.handled = none := I.ok.hd hc
    refine wpAny_pyNext_zipD2_end sep (Draws.list hh i1 a D.l1i1 its.toArray) (Draws.list hh i2 b D.l2i2 its2.toArray) q1 q2 q3 ⟨q4, p.isList⟩ ⟨q5, p2.isList⟩ (by simp; omega) (by simp; omega) (by simp; omega) fun h' tk hk => ?_
    refine ⟨rfl, I.turnedL (t' := tk) (ch := [z, TI, TO, i1, i2]) (fun c o hb q => ?_) hf⟩
    obtain ⟨c1, c2, c3, c4⟩ := out5 hb
    exact hk c o c1 c2 c3 c4 q
def iAny (K : Fg) (ta : TA) : TI := fun σ H R => ta σ H fun vs H1 => ∃ a b xs ys, vs = [.ref a, .ref b] ∧ (((SqL K H1 a xs ∧ SqT K H1 b ys) ∧ R (ItMix K a b) H1) ∨ ((SqL K H1 a xs ∧ SqL K H1 b ys) ∧ R (ItLL K a b) H1))
theorem k_pi_any {X : Cx} (K : Fg) {e e2 : Expr} {ta : TA} {p pos tpos : Pos} {elts : List Expr} {kk : Nat} (hg : Gl X "zip") (hm : X.mg "zip" = none) (ha : PA X [e, e2] ta)
    (hs : starEach [e, e2] X.env = (false, eval e X.env) :: starEach [e2] X.env := by rfl) (hpl : (backTo pos (starEach [e2] X.env)).any (·.1) = false := by rfl) (hK : X.K = K := by rfl) :
    PI X (.Tuple elts kk tpos) (.Call (.Name "zip" p) [e, e2] [] pos) (iAny K ta) := by
  subst hK
  refine ⟨fun pins s σ H R I h => ?_⟩
  refine Call_ (ld_blt I hg hm PyProof.Rows.boot_zip (PyProof.Rows.callWith_type1 (thn (ha.run pos pins s σ H _ I h) fun us s1 ⟨vs, H1, I1, r1, q1⟩ => ?_) hs hpl))
  obtain ⟨a, b, xs, ys, ex, q1⟩ := q1
  subst ex
  cases r1 with
  | cons r rr =>
   cases rr with
   | cons r' rr =>
    cases rr
    cases r
    cases r'
    rcases q1 with ⟨⟨hqx, hqy⟩, q⟩ | ⟨⟨hqx, hqy⟩, q⟩
    · obtain ⟨its, rv, p1, _⟩ := I1.list hqx
      obtain ⟨its2, rv2, p2, _⟩ := I1.tuple hqy
      have lt1 := p1.lt
      obtain ⟨o2, ho2, p3⟩ := id p2
      have lt2 := Heap.lt_size ho2
      refine zip_begins2 (begins_list a its.toArray) (begins_tuple b its2.toArray) p1.isList p2 fun h' hz hTI hTO g1 g2 hsz hk => wpAny_pyIter_zip hz ?_
      have I2 : Inv X pins σ H1 { s1 with heap := h' } := I1.kept (t' := s1.toks) hk
      refine ⟨s1.heap.objs.size + 4, [s1.heap.objs.size + 4, s1.heap.objs.size + 2, s1.heap.objs.size + 3, s1.heap.objs.size, s1.heap.objs.size + 1], _, _, H1, rfl, I2, turn_mix (PySem.W.ktu_apart s1.heap.objs.size a b lt1 lt2), ⟨⟨hz, hTI⟩, ⟨_, _, hTO⟩, ⟨_, g1, rfl, rfl⟩, ⟨_, g2, rfl, rfl⟩⟩, fun c hcm => ?_, q⟩
      have hle : s1.heap.objs.size ≤ c := by
        rcases five hcm with rfl | rfl | rfl | rfl | rfl
        · exact Nat.le_add_right _ _
        · exact Nat.le_add_right _ _
        · exact Nat.le_add_right _ _
        · exact Nat.le_refl _
        · exact Nat.le_add_right _ _
      exact I1.fpOk hle (I1.hok.fresh hle)
    · obtain ⟨its, rv, p1, _⟩ := I1.list hqx
      obtain ⟨its2, rv2, p2, _⟩ := I1.list hqy
      have lt1 := p1.lt
      have lt2 := p2.lt
      refine zip_begins2 (begins_list a its.toArray) (begins_list b its2.toArray) p1.isList p2.isList fun h' hz hTI hTO g1 g2 hsz hk => wpAny_pyIter_zip hz ?_
      have I2 : Inv X pins σ H1 { s1 with heap := h' } := I1.kept (t' := s1.toks) hk
      refine ⟨s1.heap.objs.size + 4, [s1.heap.objs.size + 4, s1.heap.objs.size + 2, s1.heap.objs.size + 3, s1.heap.objs.size, s1.heap.objs.size + 1], _, _, H1, rfl, I2, turn_ll (PySem.W.ktu_apart s1.heap.objs.size a b lt1 lt2), ⟨⟨hz, hTI⟩, ⟨_, _, hTO⟩, ⟨_, g1, rfl, rfl⟩, ⟨_, g2, rfl, rfl⟩⟩, fun c hcm => ?_, q⟩
      have hle : s1.heap.objs.size ≤ c := by
        rcases five hcm with rfl | rfl | rfl | rfl | rfl
        · exact Nat.le_add_right _ _
        · exact Nat.le_add_right _ _
        · exact Nat.le_add_right _ _
        · exact Nat.le_refl _
        · exact Nat.le_add_right _ _
      exact I1.fpOk hle (I1.hok.fresh hle)
section
variable {K : Fg} {ta tb : TE} {ρ : List Sl} {O O1 O2 : Os}
theorem ri_anyT {ys zs : List PyData} (h : RX K ta ρ O (.list ys) O1) (h' : RX K tb ρ O1 (.tuple zs) O2) : RI K (iAny K (tCons ta (tCons tb tNil))) ρ O (zipD ys zs) O2 := ⟨fun F0 H0 D0 σ F H R E S k => by
    refine h.go E S fun x F1 H1 f1 E1 S1 r1 => h'.go E1 S1 fun y F2 H2 f2 E2 S2 r2 => ?_
    have r1' := r1.up f2
    cases r1' with
    | @lst a xs _ q1 q2 q3 =>
     cases r2 with
     | @tup b ws _ p1 p2 p3 =>
      have s1 : ∀ {G0 J0 : Hp} {D1 : List Addr} {F : Hp} {O : Os} {H : Hp}, Same F2 F → Hx K G0 J0 D1 F O H → SqL K H a xs ∧ SqT K H b ws := fun f S => ⟨(f.trans S.fh).seq q1, same_t (f.trans S.fh) p1⟩
      refine ⟨a, b, xs, ws, rfl, .inl ⟨s1 (Same.refl _) S2, ?_⟩⟩
      have hl : (zipD ys zs).length = min xs.length ws.length := by unfold zipD; rw [List.length_map, List.length_zip, q3.length, p3.length]
      refine k _ F2 H2 (f1.trans f2) S2 ⟨by omega, fun _ _ _ F O H i hi f S => ?_, fun _ _ _ F O H f S => ⟨xs, ws, s1 f S, by omega, by omega, by omega⟩, fun _ _ _ F O H i x H' hi f S y => ?_⟩
      · have h1 : i < xs.length := by omega
        have h2 : i < ws.length := by omega
        exact ⟨xs, ws, xs[i], ws[i], s1 f S, by simp [h1], by simp [h2]⟩
      · obtain ⟨T, u, v, ⟨eu, hT, eT⟩, y1, y2⟩ := y
        subst eu
        subst eT
        obtain ⟨d, e, r⟩ := (q3.up f).getV (y1 xs (s1 f S).1)
        obtain ⟨d', e', r'⟩ := (p3.up f).getV (y2 ws (s1 f S).2)
        obtain ⟨F3, f3, S3, r3⟩ := pair_put S hT r r'
        refine ⟨F3, _, f3, S3, ?_, r3⟩
        unfold zipD
        have ez : (ys.zip zs)[i]? = some (d, d') := List.getElem?_zip_eq_some.mpr ⟨e, e'⟩
        rw [List.getElem?_map, ez]
        rfl⟩
theorem ri_anyL {ys zs : List PyData} (h : RX K ta ρ O (.list ys) O1) (h' : RX K tb ρ O1 (.list zs) O2) : RI K (iAny K (tCons ta (tCons tb tNil))) ρ O (zipD ys zs) O2 := ⟨fun F0 H0 D0 σ F H R E S k => by
    refine h.go E S fun x F1 H1 f1 E1 S1 r1 => h'.go E1 S1 fun y F2 H2 f2 E2 S2 r2 => ?_
    have r1' := r1.up f2
    cases r1' with
    | @lst a xs _ q1 q2 q3 =>
     cases r2 with
     | @lst b ws _ p1 p2 p3 =>
      have s1 : ∀ {G0 J0 : Hp} {D1 : List Addr} {F : Hp} {O : Os} {H : Hp}, Same F2 F → Hx K G0 J0 D1 F O H → SqL K H a xs ∧ SqL K H b ws := fun f S => ⟨(f.trans S.fh).seq q1, (f.trans S.fh).seq p1⟩
      refine ⟨a, b, xs, ws, rfl, .inr ⟨s1 (Same.refl _) S2, ?_⟩⟩
      have hl : (zipD ys zs).length = min xs.length ws.length := by unfold zipD; rw [List.length_map, List.length_zip, q3.length, p3.length]
      refine k _ F2 H2 (f1.trans f2) S2 ⟨by omega, fun _ _ _ F O H i hi f S => ?_, fun _ _ _ F O H f S => ⟨xs, ws, s1 f S, by omega, by omega, by omega⟩, fun _ _ _ F O H i x H' hi f S y => ?_⟩
      · have h1 : i < xs.length := by omega
        have h2 : i < ws.length := by omega
        exact ⟨xs, ws, xs[i], ws[i], s1 f S, by simp [h1], by simp [h2]⟩
      · obtain ⟨T, u, v, ⟨eu, hT, eT⟩, y1, y2⟩ := y
        subst eu
        subst eT
        obtain ⟨d, e, r⟩ := (q3.up f).getV (y1 xs (s1 f S).1)
        obtain ⟨d', e', r'⟩ := (p3.up f).getV (y2 ws (s1 f S).2)
        obtain ⟨F3, f3, S3, r3⟩ := pair_put S hT r r'
        refine ⟨F3, _, f3, S3, ?_, r3⟩
        unfold zipD
        have ez : (ys.zip zs)[i]? = some (d, d') := List.getElem?_zip_eq_some.mpr ⟨e, e'⟩
        rw [List.getElem?_map, ez]
        rfl⟩
/-! ### a list or a tuple -/
structure Sq (α : Type) where
  t : Bool
  l : List α
def Sq.en {α : Type} [Enc α] : Sq α → PyData
  | ⟨true, l⟩ => .tuple (l.map enc)
  | ⟨false, l⟩ => .list (l.map enc)
@[reducible] instance {α : Type} [Enc α] : Enc (Sq α) := ⟨Sq.en⟩
theorem ri_any {α β : Type} [Enc α] [Enc β] {xs : List α} {ys : Sq β} (h : RX K ta ρ O (.list (xs.map enc)) O1) (h' : RX K tb ρ O1 (enc ys) O2) : RI K (iAny K (tCons ta (tCons tb tNil))) ρ O ((xs.zip ys.l).map enc) O2 := by
  have e : (xs.zip ys.l).map enc = zipD (xs.map enc) (ys.l.map enc) := by
    unfold zipD
    rw [List.zip_map, List.map_map]
    rfl
  rw [e]
  obtain ⟨t, l⟩ := ys
  cases t with
  | true => exact ri_anyT h h'
  | false => exact ri_anyL h h'
theorem rx_lenQ {α : Type} [Enc α] {s : Sq α} (ha : RX K ta ρ O (enc s) O1) : RX K (tCB (rLenQ K) (tCons ta tNil)) ρ O (.int (s.l.length : Nat)) O1 := by
  obtain ⟨t, l⟩ := s
  have e : ((l.map enc).length : Nat) = l.length := List.length_map _
  cases t with
  | true => have := rx_lenT (ds := l.map enc) ha; rw [e] at this; exact this
  | false => have := rx_len (RX.s (ds := l.map enc) ha); rw [e] at this; exact this
theorem rx_ixQ {α : Type} [Enc α] {s : Sq α} {i : Int} {x : α} (h : L2.atI s.l i = some x) (ha : RX K ta ρ O (enc s) O1) (hb : RX K tb ρ O1 (.int i) O2) : RX K (tOp (rIx K) ta tb) ρ O (enc x) O2 := by
  obtain ⟨t, l⟩ := s
  cases t with
  | true => exact rx_ixAT (ds := l.map enc) (atI_map enc h) ha hb
  | false => exact rx_ixA (ds := l.map enc) (atI_map enc h) ha hb
end
end TL

namespace TL
open PySem L2
open Enc
section
variable {K : Fg} {ta tb : TE} {ρ : List Sl} {O O1 O2 : Os}
theorem rx_count {ns : List Int} {i : Int} (ha : RXs K ta ρ O (ns.map .int) O1) (hb : RX K tb ρ O1 (.int i) O1) : RX K (tBM K "list" (rCntI K) ta (tCons tb tNil)) ρ O (.int (ns.count i : Nat)) O1 := ⟨fun _ _ _ _ _ _ Q E S k =>
  ha.go E S fun a F1 H1 f1 E1 S1 r1 => by
    obtain ⟨vs1, p1, _, _⟩ := r1 F1 H1 (Same.refl _) S1
    refine ⟨.inl ⟨rfl, _, p1⟩, hb.go E1 S1 fun y F2 H2 f2 E2 S2 r2 => ?_⟩
    cases r2
    obtain ⟨vs, q1, q2, q3⟩ := r1 F2 H2 f2 S2
    exact ⟨a, ns, i, rfl, rfl, by rw [← q3.ints]; exact q1, k _ F2 H2 (f1.trans f2) S2 (.int _)⟩⟩
theorem k_lcount {X : Cx} (K : Fg) (hK : X.K = K := by rfl) : MtR X "list.count" (rCntI K) := by subst hK; exact mt_lcount
end
end TL

namespace TL
open PySem L2
open Enc
/-! ### lists of own lists -/
def lolOs {α : Type} [Enc α] (ps : List Addr) (xs : List (List α)) : Os := towOs ps (xs.map fun r => r.map enc)
section
variable {K : Fg} {F0 H0 F H F' H' : Hp} {D0 : List Addr} {O O' O1 O2 X : Os} {ρ : List Sl} {σ : L2.St} {ps : List Addr} {ess : List (List PyData)}
theorem EnvR.lol {i : Nat} (h : EnvR K F σ ρ) (e : ρ[i]? = some (.lol ps)) : ∃ t, σ[i]? = some (some (.ref t)) ∧ SqL K F t (ps.map .ref) ∧ ps.length ≤ sizeLine := by
  obtain ⟨s, h1, t, rfl, h2⟩ := h.at e
  exact ⟨t, h1, h2⟩
/-- what stands besides stays -/
theorem Hx.fr2 (S : Hx K F0 H0 D0 F O H) : ∃ H1 D1, Hx K F H1 D1 F O H ∧ (∀ a o, H a = some o → (∀ e ∈ O, e.a ≠ a) → H1 a = some o ∧ a ∉ D1) ∧ ∀ F' O' H', Hx K F H1 D1 F' O' H' → Hx K F0 H0 D0 F' O' H' := by
  let nwA (a : Addr) : Bool := O.any fun e => e.nw && decide (e.a = a)
  let H1 : Hp := fun a => if nwA a = true then none else H a
  let D1 : List Addr := (O.filter fun e => !e.nw).map OE.a
  have h1s : ∀ a o, H1 a = some o → H a = some o := fun a o e => by
    show H a = some o
    have e : (if nwA a = true then none else H a) = some o := e
    split at e
    · cases e
    · exact e
  have h1of : ∀ a o, H a = some o → (∀ e ∈ O, e.a = a → e.nw = false) → H1 a = some o := fun a o e n => by
    show (if nwA a = true then none else H a) = some o
    rw [if_neg]
    · exact e
    · intro q
      obtain ⟨x, hx, q⟩ := List.any_eq_true.mp q
      rw [Bool.and_eq_true, decide_eq_true_eq] at q
      rw [n x hx q.2] at q
      exact Bool.false_ne_true q.1
  have d1 : ∀ a, a ∈ D1 → ∃ e ∈ O, e.a = a ∧ e.nw = false := fun a h => by
    obtain ⟨e, he, rfl⟩ := List.mem_map.mp h
    rw [List.mem_filter] at he
    exact ⟨e, he.1, rfl, by simpa using he.2⟩
  have old : ∀ a o, H0 a = some o → ∀ e ∈ O, e.a = a → e.nw = false := fun a o e x hx q => by
    cases hw : x.nw with
    | false => rfl
    | true =>
      have := (S.own x hx).2.1 hw
      rw [q, e] at this
      cases this
  refine ⟨H1, D1, ⟨Same.refl _, S.fh, fun a o e _ => h1s a o e, fun a o e => ⟨o, h1s a o e⟩, fun _ _ _ e => e, fun p hp => ?_, S.nd⟩, fun a o e n => ⟨h1of a o e fun x hx q => (n x hx q).elim, fun hd => ?_⟩, fun F' O' H' S2 => ?_⟩
  · obtain ⟨g1, g2, g3, g4⟩ := S.own p hp
    refine ⟨g1, fun hw => ?_, fun hw => List.mem_map.mpr ⟨p, List.mem_filter.mpr ⟨hp, by rw [hw]; rfl⟩, rfl⟩, g4⟩
    show (if nwA p.a = true then none else H p.a) = none
    rw [if_pos]
    exact List.any_eq_true.mpr ⟨p, hp, by rw [hw]; simp⟩
  · obtain ⟨x, hx, q, _⟩ := d1 a hd
    exact n x hx q
  · refine ⟨S.f0.trans S2.f0, S2.fh, fun a o e n => ?_, fun a o e => ?_, fun a o e n => ?_, fun p hp => ?_, S2.nd⟩
    · refine S2.keep a o (h1of a o (S.keep a o e n) (old a o e)) fun hd => ?_
      obtain ⟨x, hx, q, hw⟩ := d1 a hd
      exact n (q ▸ (S.own x hx).2.2.1 hw)
    · obtain ⟨o', e'⟩ := S.live a o e
      exact S2.live a o' (h1of a o' e' (old a o e))
    · obtain ⟨o', e'⟩ := S.live a o e
      exact S2.new a o' (h1of a o' e' (old a o e)) (S.new a o e n)
    · obtain ⟨g1, g2, g3, g4⟩ := S2.own p hp
      refine ⟨g1, fun hw => ?_, fun hw => ?_, g4⟩
      · have g2 := g2 hw
        cases e : H0 p.a with
        | none => rfl
        | some o =>
          obtain ⟨o', e'⟩ := S.live p.a o e
          rw [h1of p.a o' e' (old p.a o e)] at g2
          cases g2
      · obtain ⟨x, hx, q, hw'⟩ := d1 _ (g3 hw)
        exact q ▸ (S.own x hx).2.2.1 hw'
/-- a thing besides is changed -/
theorem Hx.hold (S : Hx K F0 H0 D0 F O H) {p : Addr} {o : HO} (hF : F p = none) (h0 : H0 p = none) (hO : ∀ e ∈ O, e.a ≠ p) : Hx K F0 H0 D0 F O (upd H p o) := by
  refine ⟨S.f0, fun a u e => ?_, fun a u e n => ?_, fun a u e => ?_, S.new, fun q hq => ?_, S.nd⟩
  · rw [upd_ne (ne_of_none e hF)]
    exact S.fh _ _ e
  · rw [upd_ne (ne_of_none e h0)]
    exact S.keep a u e n
  · obtain ⟨u', e'⟩ := S.live a u e
    exact ⟨u', by rw [upd_ne (ne_of_none e h0)]; exact e'⟩
  · obtain ⟨g1, g2, g3, g4⟩ := S.own q hq
    exact ⟨g1, g2, g3, g4.at (upd_ne (hO q hq))⟩
/-- .. is frozen -/
theorem Hx.pin (S : Hx K F0 H0 D0 F O H) {p : Addr} {o : HO} (hF : F p = none) (h0 : H0 p = none) (hO : ∀ e ∈ O, e.a ≠ p) (hp : H p = some o) : Hx K F0 H0 D0 (upd F p o) O H := by
  refine ⟨S.f0.trans (same_upd hF), fun a u e => ?_, S.keep, S.live, fun a u e n => ?_, fun q hq => ?_, S.nd⟩
  · unfold upd at e
    split at e
    · rename_i z
      subst z
      cases e
      exact hp
    · exact S.fh _ _ e
  · rw [upd_ne (ne_of_none e h0)]
    exact S.new a u e n
  · obtain ⟨g1, g2, g3, g4⟩ := S.own q hq
    exact ⟨by rw [upd_ne (hO q hq)]; exact g1, g2, g3, g4.up (same_upd hF)⟩
/-- [.. for x in ..], each a new list -/
theorem lol_run {α β : Type} {eα : α → PyData} {eβ : β → List PyData} {wi : TI} {g : TG} {te : TE} {vs : List Nat} {xs : List α} {ys : List β} {f : α → Option β} (ρx : α → List Sl) (ts : List Nat) (hI : RI K wi ρ O (xs.map eα) O1)
    (hf : mapO f xs = some ys) (hts : ∀ t ∈ ts, t ∈ vs) (hg : ∀ x ∈ xs, RG K g (eα x) (wipeS ρ vs) (ρx x) ts) (he : ∀ x ∈ xs, ∀ y, f x = some y → ∀ O, RXo K te (ρx x) O (eβ y) O) (E : EnvR K F σ ρ) (S : Hx K F0 H0 D0 F O H) {Q : VK}
    (k : ∀ T ps F' H', Same F F' → ps.length = ys.length → SqL K F' T (ps.map .ref) → ps.length ≤ sizeLine → Hx K F0 H0 D0 F' (O1 ++ towOs ps (ys.map eβ)) H' → Q (.ref T) H') : tLc wi g tYes te vs σ H Q := hI.go E S fun J F1 H1 f1 E1 S1 w => by
  intro D hD
  have hl : (xs.map eα).length = xs.length := List.length_map _
  have W : Walk J xs.length (fun H => ∃ F0 H0 D0 F O, Same F1 F ∧ Hx K F0 H0 D0 F O H) (fun i H x H' => ∀ F0 H0 D0 F O, Same F1 F → Hx K F0 H0 D0 F O H → ∃ F' y, Same F F' ∧ Hx K F0 H0 D0 F' O H' ∧ xs[i]? = some y ∧ Rp K F' x (eα y)) := by
    refine ⟨fun i H hi q => ?_, fun H q => ?_, fun i H x H' hi _ y F0 H0 D0 F O f S => ?_⟩
    · obtain ⟨F0, H0, D0, F, O, f, S⟩ := q
      exact w.go F0 H0 D0 F O H i (by rw [hl]; exact hi) f S
    · obtain ⟨F0, H0, D0, F, O, f, S⟩ := q
      have := w.stop F0 H0 D0 F O H f S
      rw [hl] at this
      exact this
    · obtain ⟨F', y', f', S', e, r⟩ := w.yld F0 H0 D0 F O H i x H' (by rw [hl]; exact hi) f S y
      rw [List.getElem?_map] at e
      cases e2 : xs[i]? with
      | none => rw [e2] at e; cases e
      | some z =>
        rw [e2] at e
        have e3 : eα z = y' := Option.some.inj e
        subst e3
        exact ⟨F', z, f', S', rfl, r⟩
  have hsz : xs.length ≤ sizeLine := by have := w.sz; rw [hl] at this; exact this
  have h0D := S1.noh0 hD
  refine lc_it W (fun i H => ∃ F ps acc zr, Same F1 F ∧ Hx K F0 H0 D0 F (O1 ++ towOs ps (acc.map eβ)) H ∧ H D = some (.lst (ps.map .ref)) ∧ F D = none ∧ (∀ e ∈ O1 ++ towOs ps (acc.map eβ), e.a ≠ D) ∧ mapO f (xs.drop i) = some zr ∧ acc ++ zr = ys ∧ ps.length = acc.length ∧ acc.length = i)
    ⟨F1, [], [], ys, Same.refl _, by show Hx K F0 H0 D0 F1 (O1 ++ []) _; rw [List.append_nil]; exact S1.junk hD, upd_same, S1.nof hD, fun e he q => ?_, hf, rfl, rfl, rfl⟩
    (fun i H _ q => by obtain ⟨F, ps, acc, zr, q1, q2, _⟩ := q; exact ⟨_, _, _, F, _, q1, q2⟩) (fun i x H H' hi q y => ?_) (fun H q => ?_)
  · have he : e ∈ O1 := by simpa [towOs] using he
    obtain ⟨vs, g4⟩ := S1.ownL he
    rw [q, hD] at g4
    cases g4
  · obtain ⟨F, ps, acc, zr, q1, q2, q3, q4, q5, q6, q7, q8, q9⟩ := q
    obtain ⟨Ha, Da, Sf, kp, back⟩ := q2.fr2
    obtain ⟨ka, kb⟩ := kp D _ q3 q5
    obtain ⟨F2, z, f2, S2, ez, rz⟩ := y _ _ _ F _ q1 Sf
    have d2 := S2.keep D _ ka kb
    have n2 := S2.new D _ ka q4
    have S2 := back _ _ _ S2
    have hm : z ∈ xs := List.mem_of_getElem? ez
    have hi' : xs[i] = z := by
      rw [List.getElem?_eq_getElem hi] at ez
      exact Option.some.inj ez
    rw [List.drop_eq_getElem_cons hi, hi'] at q6
    obtain ⟨v, e1, q6⟩ := bindE q6
    obtain ⟨zr', e2, q6⟩ := bindE q6
    obtain rfl := Option.some.inj q6
    refine (hg z hm).run _ F2 H' x _ ((E1.wipe vs).up (q1.trans f2)) rz S2.fh fun σ' E' wq => ⟨(wq vs hts).trans (wipe_wipe σ vs), ?_⟩
    unfold tYes
    simp only [if_true]
    obtain ⟨Hb, Db, Sg, kq, bock⟩ := S2.fr2
    obtain ⟨kc, kd⟩ := kq D _ d2 q5
    refine (he z hm v e1 _).go E' Sg fun p F3 H3 f3 E3 S3 => ?_
    have d3 := S3.keep D _ kc kd
    have n3 := S3.new D _ kc n2
    have hp : p ≠ D := by
      intro e
      have := (S3.own ⟨p, true, eβ v⟩ (List.mem_cons_self ..)).2.1 rfl
      have this : Hb p = none := this
      rw [e, kc] at this
      cases this
    have S3 := bock _ _ _ S3
    have t1 : towOs (ps ++ [p]) ((acc ++ [v]).map eβ) = towOs ps (acc.map eβ) ++ [⟨p, true, eβ v⟩] := by
      unfold towOs
      rw [List.map_append, List.zipWith_append (by rw [List.length_map]; exact q8)]
      rfl
    have S3 := S3.perm (List.perm_append_singleton (⟨p, true, eβ v⟩ : OE) _).symm
    rw [List.append_assoc, ← t1] at S3
    have hO : ∀ e ∈ O1 ++ towOs (ps ++ [p]) ((acc ++ [v]).map eβ), e.a ≠ D := fun e he => by
      rw [t1, ← List.append_assoc] at he
      rcases List.mem_append.mp he with he | he
      · exact q5 e he
      · rw [List.mem_singleton] at he
        subst he
        exact hp
    refine ⟨_, d3, by rw [List.length_map]; omega, F3, ps ++ [p], acc ++ [v], zr', (q1.trans f2).trans f3, S3.hold n3 h0D hO, ?_, n3, hO, e2, by rw [← q7]; simp, by simp [q8], by simp [q9]⟩
    rw [upd_same, List.map_append]
    rfl
  · obtain ⟨F, ps, acc, zr, q1, q2, q3, q4, q5, q6, q7, q8, q9⟩ := q
    rw [List.drop_length] at q6
    have q6 : (some [] : Option (List β)) = some zr := q6
    obtain rfl := Option.some.inj q6
    rw [List.append_nil] at q7
    subst q7
    exact k D ps _ H ((f1.trans q1).trans (same_upd q4)) q8 (SqL.of upd_same) (by omega) (q2.pin q4 h0D q5 q3)
variable {D : Ends}
theorem st_setL {α β : Type} {eα : α → PyData} [Enc β] {wi : TI} {g : TG} {te : TE} {vs : List Nat} {xs : List α} {ys : List (List β)} {f : α → Option (List β)} {i : Nat} (ρx : α → List Sl) (ts : List Nat) (hI : RI K wi ρ O (xs.map eα) O1)
    (hf : mapO f xs = some ys) (hts : ∀ t ∈ ts, t ∈ vs) (hg : ∀ x ∈ xs, RG K g (eα x) (wipeS ρ vs) (ρx x) ts) (he : ∀ x ∈ xs, ∀ y, f x = some y → ∀ O, RXo K te (ρx x) O (y.map enc) O) (E : EnvR K F σ ρ) (S : Hx K F0 H0 D0 F O H)
    (k : ∀ ps σ' F' H', ps.length = ys.length → Same F F' → EnvR K F' σ' (ρ.set i (.lol ps)) → Hx K F0 H0 D0 F' (O1 ++ lolOs ps ys) H' → D.nx σ' H') : tAsg (tLc wi g tYes te vs) (gName i) D σ H :=
  lol_run (eβ := fun y : List β => y.map enc) ρx ts hI hf hts hg he E S fun T ps F' H' f hl q hz S' => k ps _ F' H' hl f (EnvR.set (s := some (.ref T)) (r := .lol ps) ⟨T, rfl, q, hz⟩ i (E.up f)) S'
/-- what a def promises that hands back a list of new lists -/
def SpL (K : Fg) (R : List PyData → List (List PyData) → Prop) : Sp := fun vs H Q _ => ∃ F ds ess, RpAll K F vs ds ∧ Same F H ∧ R ds ess ∧
  ∀ (T : Addr) (ps : List Addr) (F' H' : Hp), Stp [] F H F' H' → SqL K F' T (ps.map .ref) → ps.length ≤ sizeLine → ps.length = ess.length → ps.Nodup → (∀ (i : Nat) p es, ps[i]? = some p → ess[i]? = some es → H p = none ∧ F' p = none ∧ ∃ xs, H' p = some (.lst xs) ∧ xs.length ≤ sizeLine ∧ RpAll K F' xs es) → Q (.ref T) H'
theorem lst_len {R : List PyData → List (List PyData) → Prop} {n : Nat} (h : ∀ ds d, R ds d → ds.length = n) : ∀ vs H Q E, SpL K R vs H Q E → vs.length = n := fun vs H Q E ⟨F, ds, d, r, _, hR, _⟩ => r.length.trans (h ds d hR)
theorem st_retL {α β : Type} {eα : α → PyData} {eβ : β → List PyData} {wi : TI} {g : TG} {te : TE} {vs : List Nat} {xs : List α} {ys : List β} {f : α → Option β} (ρx : α → List Sl) (ts : List Nat) (hI : RI K wi ρ O (xs.map eα) O1)
    (hf : mapO f xs = some ys) (hts : ∀ t ∈ ts, t ∈ vs) (hg : ∀ x ∈ xs, RG K g (eα x) (wipeS ρ vs) (ρx x) ts) (he : ∀ x ∈ xs, ∀ y, f x = some y → ∀ O, RXo K te (ρx x) O (eβ y) O) (E : EnvR K F σ ρ) (S : Hx K F0 H0 D0 F O H)
    (k : ∀ T ps F' H', Same F F' → ps.length = (ys.map eβ).length → SqL K F' T (ps.map .ref) → ps.length ≤ sizeLine → Hx K F0 H0 D0 F' (towOs ps (ys.map eβ) ++ O1) H' → D.rt (.ref T) H') : tRet (tLc wi g tYes te vs) D σ H :=
  lol_run ρx ts hI hf hts hg he E S fun T ps F' H' f hl q hz S' => k T ps F' H' f (by rw [List.length_map]; exact hl) q hz (S'.perm List.perm_append_comm)
variable {t : TA} {R : List PyData → List (List PyData) → Prop} {ds : List PyData} {E0 : XK}
theorem st_setCL {β : Type} [Enc β] {ys : List (List β)} {i : Nat} (hR : R ds (ys.map fun y => y.map enc)) (ha : RA K t ρ O (ds.map .val) O1) (E : EnvR K F σ ρ) (S : Hx K F0 H0 D0 F O H)
    (k : ∀ (ps : List Addr) (σ' : L2.St) (F' H' : Hp), ps.length = ys.length → Same F F' → EnvR K F' σ' (ρ.set i (.lol ps)) → Hx K F0 H0 D0 F' (O1 ++ lolOs ps ys) H' → D.nx σ' H') : tAsg (tCall (SpL K R) [] E0 t) (gName i) D σ H :=
  ha.go E S fun vs F1 H1 f1 E1 S1 r1 => by
    show SpL K R (vs ++ []) H1 _ E0
    rw [List.append_nil]
    exact ⟨F1, ds, _, r1.all, S1.fh, hR, fun T ps F' H' st q hz hl nd h => k ps _ F' H' (by rw [hl, List.length_map]) (f1.trans st.ff) (EnvR.set (s := some (.ref T)) (r := .lol ps) ⟨T, rfl, q, hz⟩ i (E1.up st.ff)) ((S1.inT st hl nd h).perm List.perm_append_comm)⟩
theorem SpL.toP {R' : List PyData → PyData → Prop} (hi : ∀ ds d, R' ds d → ∃ ess, R ds ess ∧ d = .list (ess.map .list)) : ∀ vs H Q E, SpP K R' vs H Q E → SpL K R vs H Q E := fun vs H Q E ⟨F, ds, d, r, fh, hR, k⟩ => by
  obtain ⟨ess, hR2, rfl⟩ := hi ds d hR
  refine ⟨F, ds, ess, r, fh, hR2, fun T ps F' H' st q hz hl nd h => ?_⟩
  have S := (Hx.start (K := K) fh).inT st hl nd h
  obtain ⟨F2, f2, S2, r2⟩ := S.frzT hl
  exact k _ F2 H' S2.stp (.lst (f2.seq q) (by rw [List.length_map]; exact hz) r2)
/-! ### how such a list is read, changed -/
theorem tow_all (hl : ps.length = ess.length) (h : ∀ (i : Nat) p es, ps[i]? = some p → ess[i]? = some es → ∃ j : Nat, O[j]? = some ⟨p, true, es⟩) : Tow O ps ess := by
  induction ps generalizing ess with
  | nil =>
    cases ess with
    | nil => exact .nil
    | cons e ess => cases hl
  | cons p ps ih =>
    cases ess with
    | nil => cases hl
    | cons e ess =>
      obtain ⟨j, hj⟩ := h 0 p e rfl rfl
      exact .cons j hj (ih (by simpa using hl) fun i q es h1 h2 => h (i + 1) q es (by simpa using h1) (by simpa using h2))
theorem tow_end (hl : ps.length = ess.length) : Tow (X ++ towOs ps ess) ps ess := tow_all hl fun i p es h1 h2 => ⟨X.length + i, by rw [List.getElem?_append_right (by omega), Nat.add_sub_cancel_left]; exact tow_get h1 h2⟩
theorem enc_lol {β : Type} [Enc β] (xs : List (List β)) : (enc xs : PyData) = .list ((xs.map fun r => r.map enc).map .list) := by
  show PyData.list (xs.map enc) = _
  rw [List.map_map]; rfl
theorem rxh_lol {β : Type} [Enc β] {xs : List (List β)} {i : Nat} (hs : ρ[i]? = some (.lol ps)) (hl : ps.length = xs.length) : RXh K (tVar i) ρ (X ++ lolOs ps xs) (enc xs) (X ++ lolOs ps xs) := ⟨fun _ _ _ _ _ _ Q E S k => by
  obtain ⟨T, h1, h2, h3⟩ := E.lol hs
  refine ⟨_, h1, k _ _ _ (Same.refl _) S fun F2 H2 f2 S2 => ?_⟩
  rw [enc_lol]
  exact .lst ((f2.trans S2.fh).seq h2) (by rw [List.length_map]; exact h3) ((tow_end (by rw [List.length_map]; exact hl)).rp S2)⟩
/-- .. is frozen -/
theorem frz_lol {β : Type} [Enc β] {xs : List (List β)} {i : Nat} (hs : ρ[i]? = some (.lol ps)) (hl : ps.length = xs.length) (E : EnvR K F σ ρ) (S : Hx K F0 H0 D0 F (X ++ lolOs ps xs) H) :
    ∃ F', Same F F' ∧ EnvR K F' σ (ρ.set i (.val (enc xs))) ∧ Hx K F0 H0 D0 F' X H := by
  obtain ⟨T, h1, h2, h3⟩ := E.lol hs
  obtain ⟨F', f, S', r⟩ := (S.perm List.perm_append_comm).frzT (by rw [List.length_map]; exact hl)
  have E2 := EnvR.setv (E.up f) (v := .ref T) (.lst (f.seq h2) (by rw [List.length_map]; exact h3) r) i
  have e : σ.set i (some (.ref T)) = σ := by
    apply List.ext_getElem?
    intro n
    by_cases e : i = n
    · subst e
      rw [List.getElem?_set_self (List.getElem?_eq_some_iff.mp h1).1, h1]
    · rw [List.getElem?_set_ne e]
  rw [e, ← enc_lol] at E2
  exact ⟨F', f, E2, S'⟩
def lolO {α : Type} (n : Nat) (xs : List (List α)) (i : Int) (x : α) : Option (List (List α)) := if xs.length = n then (ixN xs.length i).bind fun j => (xs[j]?).bind fun r => (appO r x).bind fun r' => some (xs.set j r') else none
def lolL {α : Type} (n : Nat) (xs : List (List α)) : Option (List (List α)) := if xs.length = n then some xs else none
theorem lolL_of {α : Type} {n : Nat} {xs r : List (List α)} (h : lolL n xs = some r) : xs.length = n ∧ xs = r := by
  unfold lolL at h
  split at h
  · exact ⟨by assumption, Option.some.inj h⟩
  · cases h
/-- found[k].append(e) -/
theorem st_lolApp {β : Type} [Enc β] {xs ys : List (List β)} {x : β} {i N : Nat} {tk te : TE} {n : Int} (hl : ps.length = N) (hn : lolO N xs n x = some ys) (hs : ρ[i]? = some (.lol ps)) (hk : RX K tk ρ (X ++ lolOs ps xs) (.int n) (X ++ lolOs ps xs))
    (h : RX K te ρ (X ++ lolOs ps xs) (enc x) (X ++ lolOs ps xs)) (E : EnvR K F σ ρ) (S : Hx K F0 H0 D0 F (X ++ lolOs ps xs) H) (k : ∀ F' H', Same F F' → EnvR K F' σ ρ → Hx K F0 H0 D0 F' (X ++ lolOs ps ys) H' → D.nx σ H') :
    tDrop (tBM K "list" rAppend (tOp (rIxL K) (tVar i) tk) (tCons te tNil)) D σ H := by
  unfold lolO at hn
  split at hn
  · rename_i hN
    obtain ⟨m, e1, hn⟩ := bindE hn
    obtain ⟨r, e2, hn⟩ := bindE hn
    obtain ⟨r', e3, hn⟩ := bindE hn
    obtain rfl := Option.some.inj hn
    have hm : m < xs.length := (List.getElem?_eq_some_iff.mp e2).1
    obtain ⟨T, h1, h2, h3⟩ := E.lol hs
    obtain ⟨p, hp⟩ : ∃ p, ps[m]? = some p := ⟨_, List.getElem?_eq_getElem (by omega)⟩
    have hj : ∀ (O : Os), O = X ++ lolOs ps xs → O[X.length + m]? = some ⟨p, true, r.map enc⟩ := fun O e => by
      rw [e, List.getElem?_append_right (by omega), Nat.add_sub_cancel_left]
      exact tow_get hp (by rw [List.getElem?_map, e2]; rfl)
    refine ⟨_, h1, hk.go E S fun y F1 H1 f1 E1 S1 r1 => ?_⟩
    cases r1
    refine ⟨T, ps.map .ref, n, .ref p, rfl, rfl, (f1.trans S1.fh).seq h2, ?_, ?_⟩
    · unfold L2.atI
      rw [List.length_map, show ps.length = xs.length by omega, e1]
      show (ps.map V.ref)[m]? = _
      rw [List.getElem?_map, hp]; rfl
    · obtain ⟨_, _, _, vs0, g0, _⟩ := S1.get (hj _ rfl)
      refine ⟨.inl ⟨rfl, _, .inl (.inl g0)⟩, h.go E1 S1 fun v F2 H2 f2 E2 S2 r2 => ?_⟩
      obtain ⟨g1, g2, g3, vs, g4, g5, g6⟩ := S2.get (hj _ rfl)
      have g4 : H2 p = some (.lst vs) := g4
      have g6 : RpAll K F2 vs (r.map enc) := g6
      have e3 := appO_map enc e3
      unfold appO at e3
      split at e3
      · rename_i hc
        have e3 := Option.some.inj e3
        have hz : vs.length < sizeLine := by rw [g6.length, sizeLine_eq]; exact hc
        have S3 := S2.mut (hj _ rfl) (vs := vs ++ [v]) (ds' := r'.map enc) (by rw [List.length_append, List.length_singleton]; omega) (by rw [← e3]; exact g6.append (.cons r2 .nil))
        have eO : (X ++ lolOs ps xs).set (X.length + m) ⟨p, true, r'.map enc⟩ = X ++ lolOs ps (xs.set m r') := by
          apply List.ext_getElem?
          intro j
          by_cases q : X.length + m = j
          · subst q
            rw [List.getElem?_set_self (by have := hj _ rfl; exact (List.getElem?_eq_some_iff.mp this).1), List.getElem?_append_right (by omega), Nat.add_sub_cancel_left]
            exact (tow_get hp (by rw [List.getElem?_map, List.getElem?_set_self hm]; rfl)).symm
          · rw [List.getElem?_set_ne q]
            rcases Nat.lt_or_ge j X.length with hx | hx
            · rw [List.getElem?_append_left hx, List.getElem?_append_left hx]
            · rw [List.getElem?_append_right hx, List.getElem?_append_right hx]
              unfold lolOs towOs
              rw [List.getElem?_zipWith, List.getElem?_zipWith, List.getElem?_map, List.getElem?_map, List.getElem?_set_ne (by omega)]
        rw [eO] at S3
        exact ⟨_, vs, v, rfl, rfl, g4, hz, k F2 _ (f1.trans f2) E2 S3⟩
      · cases e3
  · cases hn
end
/-! ### is True, is not True -/
def tIsB (c : Bool) (ta : TE) : TE := fun σ H Q => ta σ H fun x H1 => ∃ b, x = .bl b ∧ Q (.bl (b == c)) H1
def tNotB (c : Bool) (ta : TE) : TE := fun σ H Q => ta σ H fun x H1 => ∃ b, x = .bl b ∧ Q (.bl (b != c)) H1
section
open PyProof.Rows
variable {X : Cx} {a : Expr} {ta : TE}
theorem pc_isB {c : Bool} {j pos'} (ha : PE X a ta) : PC X .Is a (.Constant (.bool c) j pos') (tIsB c ta) := by
  refine ⟨fun pins s σ H Q I h => ?_⟩
  refine thn (ha.run pins s σ H _ I h) fun v s1 ⟨x, H1, I1, r1, b, e, q1⟩ => ?_
  subst e
  cases r1
  exact Constant_bool (is_bool ⟨.bl _, H1, I1, rfl, q1⟩)
theorem pc_notB {c : Bool} {j pos'} (ha : PE X a ta) : PC X .IsNot a (.Constant (.bool c) j pos') (tNotB c ta) := by
  refine ⟨fun pins s σ H Q I h => ?_⟩
  refine thn (ha.run pins s σ H _ I h) fun v s1 ⟨x, H1, I1, r1, b, e, q1⟩ => ?_
  subst e
  cases r1
  exact Constant_bool (isnot_bool ⟨.bl _, H1, I1, rfl, q1⟩)
end
section
variable {K : Fg} {ta : TE} {ρ : List Sl} {O O1 : Os}
theorem rx_isB {b c : Bool} (ha : RX K ta ρ O (.bool b) O1) : RX K (tIsB c ta) ρ O (.bool (b == c)) O1 := ⟨fun _ _ _ _ _ _ Q E S k => ha.go E S fun x F1 H1 f1 E1 S1 r1 => by
  cases r1
  exact ⟨b, rfl, k _ F1 H1 f1 S1 (.bl _)⟩⟩
theorem rx_notB {b c : Bool} (ha : RX K ta ρ O (.bool b) O1) : RX K (tNotB c ta) ρ O (.bool (b != c)) O1 := ⟨fun _ _ _ _ _ _ Q E S k => ha.go E S fun x F1 H1 f1 E1 S1 r1 => by
  cases r1
  exact ⟨b, rfl, k _ F1 H1 f1 S1 (.bl _)⟩⟩
end
end TL
namespace TL
open PySem L2
open Enc
theorem rx_some {K : Fg} {t : TE} {ρ : List Sl} {O O1 : Os} {o : Option Int} {v : Int} (h : o = some v) (ha : RX K t ρ O (enc o) O1) : RX K t ρ O (.int v) O1 := by
  subst h
  exact ha
end TL
namespace L2
open PySem
/-- a built-in type's method, within a comprehension, too -/
theorem pe_bmK (K : TL.Fg) {X : Cx} {T name id : String} {r : V → List V → Hp → VK → Prop} {o e : Expr} {es : List Expr} {to : TE} {t : TA} {apos cpos : Pos} (pa : PlainAttrs T) (slot : Slot T name id) (hty : typeOf (.builtin id) = pure (.type "method_descriptor")) (hm : MtR X id r) (ho : PE X o to) (ha : PA X (e :: es) t)
    (hK : X.K = K := by rfl)
    (hbase : attributeBase o name X.env (eval o X.env) = eval o X.env := by rfl)
    (hfew : ((backTo cpos (starEach (e :: es) X.env)).all (fun x => !x.1) && (backToKw cpos (keywordEach [] X.env)).all (fun x => x.1.isSome)
      && decide ((e :: es).length + ([] : List Keyword).length + (if ([] : List Keyword).isEmpty then 0 else 1) < 30)) = true := by rfl)
    (hline : (apos.endLine == cpos.line) = true := by rfl) (hs : starEach (e :: es) X.env = (false, eval e X.env) :: starEach es X.env := by rfl) (hplain : (backTo cpos (starEach es X.env)).any (·.1) = false := by rfl) :
    PE X (.Call (.Attribute o name apos) (e :: es) [] cpos) (tBM K T r to t) := by
  subst hK
  exact pe_bm pa slot hty hm ho ha hbase hfew hline hs hplain
end L2
namespace TL
open PySem L2
theorem pe_cal0 {X : Cx} {j k : Nat} {x : Str} {ps : List Str} {sp : Sp} {p pos : Pos} (C : Cal X.prog X.w X.K X.mg X.base j x ps sp) (hr : Room k X.A) (hjk : j ≤ k := by decide) (hg : Gl X x := by rfl) (hdb : (x == ("__debug__" : Str)) = false := by decide) :
    PE X (.Call (.Name x p) [] [] pos) (tCall sp [] L2.E0 tNil) := by
  obtain ⟨f, fd, F, hm, kp, b⟩ := C
  exact pe_call0 F (hr.mono hjk) hg hm kp b .nil pass0 hdb
end TL
namespace TL
open PySem L2
instance {α β γ : Type} [Enc α] [DecidableEq α] [EqD α] [EqT α] [Enc β] [DecidableEq β] [EqD β] [EqT β] [Enc γ] [DecidableEq γ] [EqD γ] [EqT γ] : EqT (T3 α β γ) := ⟨fun x => by
  show (EqD.ok x.a && (EqD.ok x.b && EqD.ok x.c)) = true
  rw [EqT.ok, EqT.ok, EqT.ok]; rfl⟩
end TL
namespace TL
open PySem L2
open Enc
theorem rx_opt {α : Type} [Enc α] {K : Fg} {t : TE} {ρ : List Sl} {O O1 : Os} {x : α} (h : RX K t ρ O (enc x) O1) : RX K t ρ O (enc (some x : Option α)) O1 := h
end TL
namespace TL
open PySem L2
section
variable {K : Fg} {te : TE} {t : TA} {ρ : List Sl} {O O1 : Os} {E0 : XK}
/-- a list just made is the one that is changed -/
theorem rx_callqN {R : List Sl → Addr → Addr → List PyData → List PyData → PyData → List PyData → Prop} {as : List Sl} {q : Addr} {nw' : Bool} {k : Nat} {c e c' : List PyData} {d : PyData} (h : RXo K te ρ O c O1) (ha : ∀ p, RA K t ρ (⟨p, true, c⟩ :: O1) as (⟨p, true, c⟩ :: O1))
    (hk : O1[k]? = some ⟨q, nw', e⟩) (hR : ∀ p, R (.adr p :: as) p q c e d c') : RX K (tCall (SpQ K R) [] E0 (tCons te t)) ρ O d O1 := ⟨fun _ _ _ _ _ _ Q E S kk => h.go E S fun p F0 H0 f0 E0 S0 => (ha p).go E0 S0 fun vs F1 H1 f1 E1 S1 r1 => by
  show SpQ K R (.ref p :: vs ++ []) H1 _ _
  rw [List.append_nil]
  have hj : (⟨p, true, c⟩ :: O1)[0]? = some ⟨p, true, c⟩ := rfl
  have hk' : (⟨p, true, c⟩ :: O1)[k + 1]? = some ⟨q, nw', e⟩ := hk
  obtain ⟨g1, g2, g3, xs, g4, g5, g6⟩ := S1.get hj
  obtain ⟨k1, k2, k3, ys, k4, k5, k6⟩ := S1.get hk'
  have ne : p ≠ q := fun z => absurd (nodup_at S1.nd (x := p) (i := 0) (j := k + 1) rfl (by rw [List.getElem?_map, hk', z]; rfl)) (by omega)
  exact ⟨F1, _, p, q, xs, ys, c, e, d, c', ⟨.adr r1, S1.fh⟩, ⟨g1, g4, g5, g6⟩, ⟨k1, k4, k5, k6⟩, ne, hR p, fun v F' H' xs' ys' st hp hq r => kk v F' H' ((f0.trans f1).trans st.ff) ((S1.call2 hj hk' st hp.2.1 hp.2.2.1 hp.2.2.2 hq.2.1 hq.2.2.1 hq.2.2.2).drop 0) r⟩⟩
theorem rx_calloN {O2 : Os} {R : List PyData → List PyData → PyData → List PyData → Prop} {c c' ds : List PyData} {d : PyData} (h : RXo K te ρ O c O1) (ha : ∀ p, RA K t ρ (⟨p, true, c⟩ :: O1) (ds.map .val) (⟨p, true, c⟩ :: O2)) (hR : R c ds d c') : RX K (tCall (SpPo K R) [] E0 (tCons te t)) ρ O d O2 :=
  ⟨fun _ _ _ _ _ _ Q E S kk => h.go E S fun p F0 H0 f0 E0 S0 => (ha p).go E0 S0 fun vs F1 H1 f1 E1 S1 r1 => by
  show SpPo K R (.ref p :: vs ++ []) H1 _ _
  rw [List.append_nil]
  have hj : (⟨p, true, c⟩ :: O2)[0]? = some ⟨p, true, c⟩ := rfl
  obtain ⟨g1, g2, g3, xs, g4, g5, g6⟩ := S1.get hj
  exact ⟨F1, p, _, xs, c, ds, d, c', rfl, r1.all, S1.fh, g1, g4, g5, g6, hR, fun v F' H' ys st h1 h2 h3 h4 r => kk v F' H' ((f0.trans f1).trans st.ff) ((S1.call1 hj st h2 h3 h4).drop 0) r⟩⟩
end
end TL

namespace TL
open PySem PySem.Spec PyProof.Rows L2
open Enc
/-! ### zip of a tuple and a list -/
/-- the tuple at a, the list at b, as they stand at each turn -/
def ItMxi (K : Fg) (a b : Addr) : It :=
  ⟨fun i H => ∃ (xs ys : List V) (x y : V), (SqT K H a xs ∧ SqL K H b ys) ∧ xs[i]? = some x ∧ ys[i]? = some y,
    fun i H v H' => ∃ T x y, (v = .ref T ∧ H T = none ∧ H' = upd H T (.tup [x, y])) ∧ (∀ xs, SqT K H a xs → xs[i]? = some x) ∧ ∀ ys, SqL K H b ys → ys[i]? = some y,
    fun i H => ∃ xs ys : List V, (SqT K H a xs ∧ SqL K H b ys) ∧ i ≤ xs.length ∧ i ≤ ys.length ∧ (xs.length = i ∨ ys.length = i)⟩
def mxiSt (z TI TO i1 i2 a b : Addr) (i : Nat) (h : Heap) : Prop := (IsZip h z TI TO .none ∧ IsPair h TI (.ref i1) (.ref i2)) ∧ (∃ x y, IsPair h TO x y) ∧ h.IsTupleIter i1 a i ∧ h.IsListIter i2 b i
theorem turn_mxi {P : Program} {w : World} {K : Fg} {elts : List Expr} {kk : Nat} {tpos : Pos} {a b z TI TO i1 i2 : Addr} (D : ZipApart z TI TO i1 i2 a b) :
    Turn P w K (.Tuple elts kk tpos) (ItMxi K a b) [z, TI, TO, i1, i2] z (mxiSt z TI TO i1 i2 a b) := by
  have sep := sep_mix D
  refine ⟨by simp, fun i h st c hc => ?_, fun i h h' st k => ?_, ?_, ?_, fun A i s Q E st q => wpAny_pyIter_zip st.1.1 q⟩
  · obtain ⟨⟨q1, q2⟩, ⟨x, y, q3⟩, ⟨o1, e1, _, d1⟩, o2, e2, _, d2⟩ := st
    rcases five hc with rfl | rfl | rfl | rfl | rfl
    · exact ⟨_, q1, fun v => nofun⟩
    · exact ⟨_, q2, fun v => nofun⟩
    · exact ⟨_, q3, fun v => nofun⟩
    · exact ⟨_, e1, fun v e => nomatch d1.symm.trans e⟩
    · exact ⟨_, e2, fun v e => nomatch d2.symm.trans e⟩
  · obtain ⟨⟨q1, q2⟩, ⟨x, y, q3⟩, q4, q5⟩ := st
    exact ⟨⟨k z (by simp) _ q1, k TI (by simp) _ q2⟩, ⟨x, y, k TO (by simp) _ q3⟩, q4.at fun o => k i1 (by simp) o, q5.at fun o => k i2 (by simp) o⟩
  · rintro X rfl rfl rfl hc i pins s σ H E I hf st ⟨xs, ys, x, y, ⟨hqx, hqy⟩, hx, hy⟩
    obtain ⟨⟨q1, q2⟩, ⟨x0, y0, q3⟩, q4, q5⟩ := st
    obtain ⟨its, rv, p, _⟩ := I.tuple hqx
    obtain ⟨its2, rv2, p2, _⟩ := I.list hqy
    obtain ⟨u, hu, ru⟩ := rv.get hx
    obtain ⟨u2, hu2, ru2⟩ := rv2.get hy
    have zlt : z < s.heap.objs.size := Heap.lt_size q1
    have hh : X.A.in1.handled = none := I.ok.hd hc
    refine wpAny_pyNext_zipD2_item sep (Draws.tuple hh i1 a D.l1i1 its.toArray) (Draws.list hh i2 b D.l2i2 its2.toArray) q1 q2 q3 ⟨q4, p⟩ ⟨q5, p2.isList⟩ (by simpa using (List.getElem?_eq_some_iff.mp hu).1) (by simpa using (List.getElem?_eq_some_iff.mp hu2).1) fun x1 x2 h' tk e1 e2 z' TO' n1 n2 hT hsz hk => ?_
    have ex1 : x1 = u := Option.some.inj (e1.symm.trans (by simpa using hu))
    have ex2 : x2 = u2 := Option.some.inj (e2.symm.trans (by simpa using hu2))
    subst ex1
    subst ex2
    refine ⟨_, rfl, wpAny_letOwnedTupleGo_zip (s := { s with heap := h', toks := tk }) z' fun h2 z2 sb => ?_⟩
    have hT2 : h2.get? s.heap.objs.size = some { cls := .type "tuple", data := .seq #[x1, x2] } := (sb.2 _ (Nat.ne_of_gt zlt)).trans hT
    have new : ObjOk X.prog X.w (upd H s.heap.objs.size (.tup [x, y])) h2 s.heap.objs.size (.tup [x, y]) := ⟨by show 2 ≤ sizeLine; decide, [x1, x2], .cons ru (.cons ru2 .nil), ⟨_, hT2, rfl, _, rfl⟩⟩
    have I1 : Inv X pins σ (upd H s.heap.objs.size (.tup [x, y])) { s with heap := h2, toks := tk } := I.turnedNew (t' := tk) (ch := [z, TI, TO, i1, i2]) (fun c o hb q => by
      obtain ⟨c1, c2, c3, c4⟩ := out5 hb
      exact (sb.2 c c1).trans (hk c o c1 c2 c3 c4 q)) hf (Nat.le_refl _) new
    refine ⟨.ref s.heap.objs.size, _, I1, rfl, ⟨_, x, y, ⟨rfl, I.hok.fresh (Nat.le_refl _), rfl⟩, fun l hl => by rw [I.tuple_inj hl hqx]; exact hx, fun l hl => by rw [I.list_inj hl hqy]; exact hy⟩, ⟨⟨z2, ?_⟩, ⟨x1, x2, ?_⟩, ?_, ?_⟩, fun c hcm => ?_⟩
    · exact (sb.2 TI D.TIz).trans (hk TI _ D.TIz D.TITO D.TIi1 D.TIi2 q2)
    · exact (sb.2 TO D.TOz).trans TO'
    · exact n1.1.at fun o q => (sb.2 i1 D.i1z).trans q
    · exact n2.1.at fun o q => (sb.2 i2 D.i2z).trans q
    · have hlt : c < s.heap.objs.size := by
        rcases five hcm with rfl | rfl | rfl | rfl | rfl
        · exact zlt
        · exact Heap.lt_size q2
        · exact Heap.lt_size q3
        · obtain ⟨_, e, _⟩ := q4; exact Heap.lt_size e
        · obtain ⟨_, e, _⟩ := q5; exact Heap.lt_size e
      rw [upd_ne (Nat.ne_of_lt hlt)]
      exact (hf c hcm).1
  · rintro X rfl rfl rfl hc i pins s σ H E I hf st ⟨xs, ys, ⟨hqx, hqy⟩, l1, l2, hend⟩
    obtain ⟨⟨q1, q2⟩, ⟨x0, y0, q3⟩, q4, q5⟩ := st
    obtain ⟨its, rv, p, _⟩ := I.tuple hqx
    obtain ⟨its2, rv2, p2, _⟩ := I.list hqy
    have e1 := rv.length
    have e2 := rv2.length
    have hh : X.A.in1.handled = none := I.ok.hd hc
    refine wpAny_pyNext_zipD2_end sep (Draws.tuple hh i1 a D.l1i1 its.toArray) (Draws.list hh i2 b D.l2i2 its2.toArray) q1 q2 q3 ⟨q4, p⟩ ⟨q5, p2.isList⟩ (by simp; omega) (by simp; omega) (by simp; omega) fun h' tk hk => ?_
    refine ⟨rfl, I.turnedL (t' := tk) (ch := [z, TI, TO, i1, i2]) (fun c o hb q => ?_) hf⟩
    obtain ⟨c1, c2, c3, c4⟩ := out5 hb
    exact hk c o c1 c2 c3 c4 q
def iMxi (K : Fg) (ta : TA) : TI := fun σ H R => ta σ H fun vs H1 => ∃ a b xs ys, vs = [.ref a, .ref b] ∧ (SqT K H1 a xs ∧ SqL K H1 b ys) ∧ R (ItMxi K a b) H1
theorem k_pi_mxi {X : Cx} (K : Fg) {e e2 : Expr} {ta : TA} {p pos tpos : Pos} {elts : List Expr} {kk : Nat} (hg : Gl X "zip") (hm : X.mg "zip" = none) (ha : PA X [e, e2] ta)
    (hs : starEach [e, e2] X.env = (false, eval e X.env) :: starEach [e2] X.env := by rfl) (hpl : (backTo pos (starEach [e2] X.env)).any (·.1) = false := by rfl) (hK : X.K = K := by rfl) :
    PI X (.Tuple elts kk tpos) (.Call (.Name "zip" p) [e, e2] [] pos) (iMxi K ta) := by
  subst hK
  refine ⟨fun pins s σ H R I h => ?_⟩
  refine Call_ (ld_blt I hg hm PyProof.Rows.boot_zip (PyProof.Rows.callWith_type1 (thn (ha.run pos pins s σ H _ I h) fun us s1 ⟨vs, H1, I1, r1, q1⟩ => ?_) hs hpl))
  obtain ⟨a, b, xs, ys, ex, ⟨hqx, hqy⟩, q⟩ := q1
  subst ex
  cases r1 with
  | cons r rr =>
   cases rr with
   | cons r' rr =>
    cases rr
    cases r
    cases r'
    obtain ⟨its, rv, p1, _⟩ := I1.tuple hqx
    obtain ⟨its2, rv2, p2, _⟩ := I1.list hqy
    obtain ⟨o2, ho2, p3⟩ := id p1
    have lt1 := Heap.lt_size ho2
    have lt2 := p2.lt
    refine zip_begins2 (begins_tuple a its.toArray) (begins_list b its2.toArray) p1 p2.isList fun h' hz hTI hTO g1 g2 hsz hk => wpAny_pyIter_zip hz ?_
    have I2 : Inv X pins σ H1 { s1 with heap := h' } := I1.kept (t' := s1.toks) hk
    refine ⟨s1.heap.objs.size + 4, [s1.heap.objs.size + 4, s1.heap.objs.size + 2, s1.heap.objs.size + 3, s1.heap.objs.size, s1.heap.objs.size + 1], _, _, H1, rfl, I2, turn_mxi (PySem.W.ktu_apart s1.heap.objs.size a b lt1 lt2), ⟨⟨hz, hTI⟩, ⟨_, _, hTO⟩, ⟨_, g1, rfl, rfl⟩, ⟨_, g2, rfl, rfl⟩⟩, fun c hcm => ?_, q⟩
    have hle : s1.heap.objs.size ≤ c := by
      rcases five hcm with rfl | rfl | rfl | rfl | rfl
      · exact Nat.le_add_right _ _
      · exact Nat.le_add_right _ _
      · exact Nat.le_add_right _ _
      · exact Nat.le_refl _
      · exact Nat.le_add_right _ _
    exact I1.fpOk hle (I1.hok.fresh hle)
section
variable {K : Fg} {ta tb : TE} {ρ : List Sl} {O O1 O2 : Os}
theorem ri_mxi {ys zs : List PyData} (h : RX K ta ρ O (.tuple ys) O1) (h' : RX K tb ρ O1 (.list zs) O2) : RI K (iMxi K (tCons ta (tCons tb tNil))) ρ O (zipD ys zs) O2 := ⟨fun F0 H0 D0 σ F H R E S k => by
    refine h.go E S fun x F1 H1 f1 E1 S1 r1 => h'.go E1 S1 fun y F2 H2 f2 E2 S2 r2 => ?_
    have r1' := r1.up f2
    cases r1' with
    | @tup a xs _ q1 q2 q3 =>
     cases r2 with
     | @lst b ws _ p1 p2 p3 =>
      have s1 : ∀ {G0 J0 : Hp} {D1 : List Addr} {F : Hp} {O : Os} {H : Hp}, Same F2 F → Hx K G0 J0 D1 F O H → SqT K H a xs ∧ SqL K H b ws := fun f S => ⟨same_t (f.trans S.fh) q1, (f.trans S.fh).seq p1⟩
      refine ⟨a, b, xs, ws, rfl, s1 (Same.refl _) S2, ?_⟩
      have hl : (zipD ys zs).length = min xs.length ws.length := by unfold zipD; rw [List.length_map, List.length_zip, q3.length, p3.length]
      refine k _ F2 H2 (f1.trans f2) S2 ⟨by omega, fun _ _ _ F O H i hi f S => ?_, fun _ _ _ F O H f S => ⟨xs, ws, s1 f S, by omega, by omega, by omega⟩, fun _ _ _ F O H i x H' hi f S y => ?_⟩
      · have h1 : i < xs.length := by omega
        have h2 : i < ws.length := by omega
        exact ⟨xs, ws, xs[i], ws[i], s1 f S, by simp [h1], by simp [h2]⟩
      · obtain ⟨T, u, v, ⟨eu, hT, eT⟩, y1, y2⟩ := y
        subst eu
        subst eT
        obtain ⟨d, e, r⟩ := (q3.up f).getV (y1 xs (s1 f S).1)
        obtain ⟨d', e', r'⟩ := (p3.up f).getV (y2 ws (s1 f S).2)
        obtain ⟨F3, f3, S3, r3⟩ := pair_put S hT r r'
        refine ⟨F3, _, f3, S3, ?_, r3⟩
        unfold zipD
        have ez : (ys.zip zs)[i]? = some (d, d') := List.getElem?_zip_eq_some.mpr ⟨e, e'⟩
        rw [List.getElem?_map, ez]
        rfl⟩
theorem ri_mxiM {α β : Type} [Enc α] [Enc β] {xs : List α} {ys : List β} (h : RX K ta ρ O (.tuple (xs.map enc)) O1) (h' : RX K tb ρ O1 (.list (ys.map enc)) O2) : RI K (iMxi K (tCons ta (tCons tb tNil))) ρ O ((xs.zip ys).map enc) O2 := by
  have e : (xs.zip ys).map enc = zipD (xs.map enc) (ys.map enc) := by
    unfold zipD
    rw [List.zip_map, List.map_map]
    rfl
  rw [e]
  exact ri_mxi h h'
end
end TL
namespace PySem
open PyProof.Rows
section
variable {prog : Program} {w : World} {A : Around} {E : Value → Shared → Prop} {s : Shared} {l : Addr} {xs : Array (Int × Tok)}
theorem sum_intTupG {Q : Value → Shared → Prop} (hh : A.handled = none) (hl : s.heap.IsTuple l (intItems xs))
    (h : ∀ h' tk t', (∀ b o, s.heap.get? b = some o → h'.get? b = some o) → Q (.int (preSum (numAt xs) xs.size) t') { s with heap := h', toks := tk }) :
    wpAny (model prog w) A (call (.builtin "sum") [.ref l]) Q E s := by
  have hlt : l < s.heap.objs.size := by obtain ⟨o, e, _⟩ := hl; exact Heap.lt_size e
  refine call_sum_walkG (wpAny_pyIter_tuple hl ?_)
  refine ⟨_, [s.heap.objs.size, l], [_], _, _, _, numAt xs, rfl, Walks.tuple (A := A.in1) hh _ l (Nat.ne_of_lt hlt) (intItems xs), ⟨⟨_, Heap.get?_push_size _ rfl, rfl, rfl⟩, hl.push _⟩, fun c hc => ?_, fun _ _ => intItems_at, fun h' tk t' hk => ?_⟩
  · show c < (s.heap.push _).objs.size
    rw [Heap.size_push]
    rcases List.mem_cons.mp hc with rfl | hc
    · exact Nat.lt_succ_self _
    · rcases List.mem_cons.mp hc with rfl | hc
      · exact Nat.lt_succ_of_lt hlt
      · cases hc
  · have := h h' tk t' fun b o e => hk b o (fun hm => by
      rcases List.mem_cons.mp hm with e1 | hm
      · have := Heap.lt_size e; rw [e1] at this; exact Nat.lt_irrefl _ this
      · cases hm) (Heap.get?_push_of_some _ e)
    simpa [intItems] using this
end
end PySem
namespace L2
open PySem PyProof.Rows
section
variable {prog : Program} {w : World} {A : Around} {E : Value → Shared → Prop} {s : Shared} {l : Addr} {its : List Value} {ns : List Int} {Q : Value → Shared → Prop}
theorem sum_rawT (hh : A.handled = none) (hl : s.heap.IsTuple l its.toArray) (hi : IntsAre its ns)
    (h : ∀ h' tk t', (∀ b o, s.heap.get? b = some o → h'.get? b = some o) → Q (.int ns.sum t') { s with heap := h', toks := tk }) : wpAny (model prog w) A (call (.builtin "sum") [.ref l]) Q E s := by
  obtain ⟨xs, e⟩ := hi.allInts.items
  have hn : numsOf (intItems xs).toList = ns := by rw [← e]; exact hi.numsOf
  rw [nums_intItems] at hn
  rw [e] at hl
  refine PySem.sum_intTupG hh hl fun h' tk t' hk => ?_
  have := h h' tk t' hk
  rw [preSum_eq, List.take_of_length_le (by simp), hn]; exact this
end
def rSumT (K : PySem.W.Frag) : List V → Hp → VK → Prop := fun vs H Q => ∃ (a : Addr) (ns : List Int), vs = [V.ref a] ∧ SqT K H a (ns.map V.int) ∧ Q (.int ns.sum) H
theorem cr_sumT {X : Cx} (hc : X.calm = true) : CallR X (.builtin "sum") (rSumT X.K) := by
  intro pins s σ H vs us Q I r h
  obtain ⟨a, ns, rfl, hs, q⟩ := h
  obtain ⟨its, rv, hl, _⟩ := I.tuple hs
  rw [Vals.ref1 r]
  exact sum_rawT (I.ok.hd hc) hl rv.ints fun h' tk t' hk => ⟨.int _, H, I.kept hk, ⟨_, rfl⟩, q⟩
end L2
namespace TL
open PySem L2
open Enc
theorem k_sumT {X : Cx} (K : Fg) (hc : X.calm = true) (hK : X.K = K := by rfl) : CallR X (.builtin "sum") (rSumT K) := by subst hK; exact cr_sumT hc
section
variable {K : Fg} {ta tb tc : TE} {ρ : List Sl} {O O1 O2 : Os} {F0 H0 F H : Hp} {D0 : List Addr} {σ : L2.St}
theorem rx_sumT {ns : List Int} (ha : RX K ta ρ O (.tuple (ns.map .int)) O1) : RX K (tCB (rSumT K) (tCons ta tNil)) ρ O (.int ns.sum) O1 := ⟨fun _ _ _ _ _ _ Q E S k => ha.go E S fun x F1 H1 f1 E1 S1 r1 => by
  cases r1 with
  | tup q1 q2 q3 =>
    have e := q3.ints
    subst e
    exact ⟨_, ns, rfl, same_t S1.fh q1, k _ F1 H1 f1 S1 (.int _)⟩⟩
/-! ### a written dict of reckoned ints by texts -/
inductive RPs (K : Fg) (ρ : List Sl) (O : Os) : List (TE × TE) → List (Str × Int) → Prop
  | nil : RPs K ρ O [] []
  | cons {x : Str} {i : Int} {tv : TE} {trs : List (TE × TE)} {kvs : List (Str × Int)} : RX K tv ρ O (.int i) O → RPs K ρ O trs kvs → RPs K ρ O ((tC (.str x), tv) :: trs) ((x, i) :: kvs)
theorem RPs.run {trs : List (TE × TE)} {kvs : List (Str × Int)} (h : RPs K ρ O trs kvs) : ∀ {F0 H0 : Hp} {D0 : List Addr} {F H : Hp} {Q : List (V × V) → Hp → Prop}, EnvR K F σ ρ → Hx K F0 H0 D0 F O H →
    (∀ F' H', Same F F' → Hx K F0 H0 D0 F' O H' → Q (kvs.map fun p => (V.str p.1, V.int p.2)) H') → tPairs trs σ H Q := by
  induction h with
  | nil => intro F0 H0 D0 F H Q E S k; exact k F H (Same.refl _) S
  | @cons x i tv trs kvs h1 _ ih =>
    intro F0 H0 D0 F H Q E S k
    show tC (.str x) σ H fun y H1 => tv σ H1 fun z H2 => tPairs trs σ H2 fun ps H3 => Q ((y, z) :: ps) H3
    refine h1.go E S fun v F1 H1 f1 E1 S1 r1 => ?_
    cases r1
    exact ih E1 S1 fun F2 H2 f2 S2 => k F2 H2 (f1.trans f2) S2
theorem merge_go (kvs : List (Str × Int)) : ∀ acc : List (Str × Int), ((acc ++ kvs).map (·.1)).Nodup → mergeK (litV acc) (litV kvs) = litV (acc ++ kvs) := by
  induction kvs with
  | nil => intro acc _; rw [List.append_nil]; rfl
  | cons p kvs ih =>
    intro acc h
    have e : putK (litV acc) (Sum.inr p.1 : Key) (V.int p.2) = litV (acc ++ [p]) := by
      unfold putK
      rw [if_neg]
      · unfold litV; rw [List.map_append]; rfl
      · intro z
        obtain ⟨q, hq, e⟩ := List.any_eq_true.mp z
        obtain ⟨a, ha, rfl⟩ := List.mem_map.mp hq
        have e : (Sum.inr a.1 : Key) = Sum.inr p.1 := of_decide_eq_true e
        have e : a.1 = p.1 := Sum.inr.inj e
        rw [List.map_append, List.nodup_append] at h
        exact h.2.2 a.1 (List.mem_map.mpr ⟨a, ha, rfl⟩) p.1 (by simp) e
    show mergeK (putK (litV acc) (Sum.inr p.1 : Key) (V.int p.2)) (litV kvs) = _
    rw [e, ih (acc ++ [p]) (by rw [List.append_assoc]; exact h), List.append_assoc]
    rfl
theorem EnvR.dii {i : Nat} {kvs : List (Str × Int)} (h : EnvR K F σ ρ) (e : ρ[i]? = some (.dii kvs)) : ∃ t, σ[i]? = some (some (.ref t)) ∧ F t = some (.dK (litI kvs)) := by
  obtain ⟨s, h1, t, rfl, h2⟩ := h.at e
  exact ⟨t, h1, h2⟩
variable {D : Ends}
theorem st_setDI {i : Nat} {trs : List (TE × TE)} {kvs : List (Str × Int)} (h : RPs K ρ O trs kvs) (hl : kvs.length ≤ 15) (hm : (kvs.map (·.1)).Nodup) (E : EnvR K F σ ρ) (S : Hx K F0 H0 D0 F O H)
    (k : ∀ σ' F' H', Same F F' → EnvR K F' σ' (ρ.set i (.dii kvs)) → Hx K F0 H0 D0 F' O H' → D.nx σ' H') : tAsg (tDisp trs) (gName i) D σ H := by
  intro p hp
  have hF := S.nof hp
  have h0 := S.noh0 hp
  have hO : ∀ e ∈ O, e.a ≠ p := fun e he q => by
    obtain ⟨vs, g4⟩ := S.ownL he
    rw [q, hp] at g4
    cases g4
  obtain ⟨H1, D1, Sf, kp, back⟩ := (S.junk (o := .dK []) hp).fr2
  obtain ⟨ka, kb⟩ := kp p _ upd_same hO
  refine h.run E Sf fun F2 H2 f2 S2 => ?_
  have d2 := S2.keep p _ ka kb
  have n2 := S2.new p _ ka hF
  have S2 := back _ _ _ S2
  refine ⟨d2, litI kvs, ?_, ?_, ?_⟩
  · unfold litI; rw [List.map_map]; rfl
  · unfold litI; rw [List.length_map]; exact hl
  · have e : mergeK [] (litI kvs) = litI kvs := merge_go kvs [] hm
    rw [e]
    have S3 := (S2.hold (o := .dK (litI kvs)) n2 h0 hO).pin n2 h0 hO upd_same
    have f3 := same_upd (o := .dK (litI kvs)) n2
    exact k _ _ _ (f2.trans f3) (EnvR.set (s := some (.ref p)) (r := .dii kvs) ⟨p, rfl, upd_same⟩ i (E.up (f2.trans f3))) S3
/-- d.get(k, x) -/
theorem rx_dii {i : Nat} {kvs : List (Str × Int)} {x : Str} {d : Int} (hs : ρ[i]? = some (.dii kvs)) (hk : RX K tb ρ O (.str x) O1) (hd : RX K tc ρ O1 (.int d) O2) : RX K (tDGet2 (tVar i) tb tc) ρ O (.int ((dlit kvs x).getD d)) O2 := ⟨fun _ _ _ _ _ _ Q E S kk => by
  obtain ⟨t, h1, h2⟩ := E.dii hs
  refine ⟨_, h1, t, rfl, .inl ⟨_, .inl (S.fh _ _ h2)⟩, hk.go E S fun y F1 H1 f1 E1 S1 r1 => hd.go E1 S1 fun z F2 H2 f2 E2 S2 r2 => ?_⟩
  cases r1
  cases r2
  have hp2 : H2 t = some (.dK (litV kvs)) := S2.fh _ _ (f2 _ _ (f1 _ _ h2))
  refine ⟨_, DGet.k (k := Sum.inr x) hp2, ?_⟩
  rw [valV_lit]
  have e : (((dlit kvs x).map V.int).getD (V.int d)) = V.int ((dlit kvs x).getD d) := by cases dlit kvs x <;> rfl
  rw [e]
  exact kk _ F2 H2 (f1.trans f2) S2 (.int _)⟩
end
end TL

namespace TL
open PySem L2
open Enc
/-! ### answers of bears, read -/
def ansHd : Ans → Str
  | .a1 s => s
  | .a3 s _ _ => s
def ansT : Ans → Option (Tp Int)
  | .a1 _ => none
  | .a3 _ t _ => some t
def ansN : Ans → Option (Option Int)
  | .a1 _ => none
  | .a3 _ _ n => some n
def ansLen : Ans → Int
  | .a1 _ => 1
  | .a3 _ _ _ => 3
section
variable {K : Fg} {ta : TE} {ρ : List Sl} {O O1 : Os}
theorem rx_ans0 {a : Ans} (h : RX K ta ρ O (enc a) O1) : RX K (tOp (rIxT K) ta (tC (.int 0))) ρ O (.str (ansHd a)) O1 := by
  cases a with
  | a1 s => exact rx_ixT (ds := [.str s]) rfl h rx_int
  | a3 s t n => exact rx_ixT (ds := [.str s, enc t, enc n]) rfl h rx_int
theorem rx_ans1 {a : Ans} {t : Tp Int} (e : ansT a = some t) (h : RX K ta ρ O (enc a) O1) : RX K (tOp (rIxT K) ta (tC (.int 1))) ρ O (enc t) O1 := by
  cases a with
  | a1 s => cases e
  | a3 s t' n =>
    cases e
    exact rx_ixT (ds := [.str s, enc t, enc n]) rfl h rx_int
theorem rx_ans2 {a : Ans} {n : Option Int} (e : ansN a = some n) (h : RX K ta ρ O (enc a) O1) : RX K (tOp (rIxT K) ta (tC (.int 2))) ρ O (enc n) O1 := by
  cases a with
  | a1 s => cases e
  | a3 s t' n' =>
    cases e
    exact rx_ixT (ds := [.str s, enc t', enc n]) rfl h rx_int
theorem rx_ansLen {a : Ans} (h : RX K ta ρ O (enc a) O1) : RX K (tCB (rLenQ K) (tCons ta tNil)) ρ O (.int (ansLen a)) O1 := by
  cases a with
  | a1 s => exact rx_lenT (ds := [.str s]) h
  | a3 s t n => exact rx_lenT (ds := [.str s, enc t, enc n]) h
theorem rx_isiA {a : Ans} {c : String} {r : Bool} (ha : RX K ta ρ O (enc a) O1) (h : kitB "tuple" c = some r) : RX K (tCB (rIsi K) (tCons ta (tCons (tC (.ty c)) tNil))) ρ O (.bool r) O1 := by
  cases a with
  | a1 s => exact rx_isi ha (kit_at (t := "tuple") rfl h)
  | a3 s t n => exact rx_isi ha (kit_at (t := "tuple") rfl h)
end
instance : EqD (Option (Tp Int)) := ⟨fun _ => true, fun x y => by
  cases x with
  | none =>
    cases y with
    | none => simp [enc, encO, PyData.eqv]
    | some b => simp [enc, encO, PyData.eqv]
  | some a =>
    cases y with
    | none => simp [enc, encO, PyData.eqv]
    | some b =>
      show PyData.eqv (enc a) (enc b) = _
      rw [EqD.eqv]
      exact decide_eq_decide.mpr ⟨fun h => congrArg some h, fun h => Option.some.inj h⟩, EqD.dp (Tp Int), fun x => by
  cases x with
  | none => exact Nat.zero_le _
  | some a => exact EqD.dep a, fun x _ => by
  cases x with
  | none => rfl
  | some a => exact EqD.lay a (EqT.ok a)⟩
instance : EqT (Option (Tp Int)) := ⟨fun _ => rfl⟩
/-! ### an own list is walked within a comprehension -/
section
variable {K : Fg} {ρ : List Sl} {O : Os} {α β : Type} {eα : α → PyData} {eβ : β → PyData} {g : TG} {tt : TT} {te : TE} {vs : List Nat} {xs : List α}
theorem rxo_filtA {j : Nat} {a : Addr} {to : TE} {nw : Bool} {p : α → Option Bool} {f : α → Option β} {zs : List β} (ρx : α → List Sl) (ts : List Nat) (hs : ∀ O, RAd K to ρ O a) (ho : O[j]? = some ⟨a, nw, xs.map eα⟩) (hf : filtO p f xs = some zs) (hts : ∀ t ∈ ts, t ∈ vs)
    (hg : ∀ x ∈ xs, RG K g (eα x) (wipeS ρ vs) (ρx x) ts) (ht : ∀ x ∈ xs, ∀ b, p x = some b → ∀ D acc, RT K tt (ρx x) (⟨D, true, acc⟩ :: O) b (⟨D, true, acc⟩ :: O))
    (he : ∀ x ∈ xs, ∀ y, f x = some y → ∀ D acc, RX K te (ρx x) (⟨D, true, acc⟩ :: O) (eβ y) (⟨D, true, acc⟩ :: O)) : RXo K (tLc (iList K to) g tt te vs) ρ O (zs.map eβ) O := ⟨fun F0 H0 D0 σ F1 H1 Q E1 S1 k => by
  obtain ⟨_, _, _, us0, k4, k5, k6⟩ := S1.get ho
  refine (hs O).run _ _ _ _ _ _ _ E1 S1 ⟨a, rfl, ⟨us0, SqL.of k4⟩, ?_⟩
  have hlx : us0.length = xs.length := by
    have k6 : RpAll K F1 us0 (xs.map eα) := k6
    rw [k6.length, List.length_map]
  intro D hD
  have W : Walk (Itl K a) xs.length (fun H => ∃ F, ∃ acc : List PyData, Same F1 F ∧ Hx K F0 H0 D0 F (⟨D, true, acc⟩ :: O) H) (fun i H x H' => H' = H ∧ ∀ F, ∀ acc : List PyData, Same F1 F → Hx K F0 H0 D0 F (⟨D, true, acc⟩ :: O) H → ∃ y, xs[i]? = some y ∧ Rp K F x (eα y)) := by
    have own : ∀ {F : Hp} {acc : List PyData} {H : Hp}, Hx K F0 H0 D0 F (⟨D, true, acc⟩ :: O) H → ∃ us, SqL K H a us ∧ RpAll K F us (xs.map eα) := fun {F acc H} S => by
      obtain ⟨_, _, _, us, g4, _, g6⟩ := S.get (j := j + 1) ho
      exact ⟨us, SqL.of g4, g6⟩
    refine ⟨fun i H hi q => ?_, fun H q => ?_, fun i H x H' hi _ y => ?_⟩
    · obtain ⟨F, acc, f, S⟩ := q
      obtain ⟨us, h1, h2⟩ := own S
      have hu : i < us.length := by rw [h2.length, List.length_map]; exact hi
      exact ⟨us, us[i], h1, List.getElem?_eq_getElem hu⟩
    · obtain ⟨F, acc, f, S⟩ := q
      obtain ⟨us, h1, h2⟩ := own S
      exact ⟨us, h1, by rw [h2.length, List.length_map]; exact Nat.le_refl _⟩
    · obtain ⟨e, y⟩ := y
      refine ⟨e, fun F acc f S => ?_⟩
      obtain ⟨us, h1, h2⟩ := own S
      obtain ⟨d, e1, r⟩ := h2.getV (y us h1)
      rw [List.getElem?_map] at e1
      cases e2 : xs[i]? with
      | none => rw [e2] at e1; cases e1
      | some z =>
        rw [e2] at e1
        have e3 : eα z = d := Option.some.inj e1
        subst e3
        exact ⟨z, rfl, r⟩
  refine lc_it W (fun i H => ∃ F, ∃ acc : List PyData, ∃ zr, Same F1 F ∧ Hx K F0 H0 D0 F (⟨D, true, acc⟩ :: O) H ∧ filtO p f (xs.drop i) = some zr ∧ acc ++ zr.map eβ = zs.map eβ ∧ acc.length ≤ i) ⟨F1, [], zs, Same.refl _, S1.mine hD (Nat.zero_le _) .nil, hf, rfl, Nat.le_refl _⟩
    (fun i H _ q => by obtain ⟨F, acc, zr, q1, q2, _⟩ := q; exact ⟨F, acc, q1, q2⟩) (fun i x H H' hi q y => ?_) (fun H q => ?_)
  · obtain ⟨F, acc, zr, q1, q2, q3, q4, q5⟩ := q
    obtain ⟨eH, y⟩ := y
    subst eH
    obtain ⟨z, ez, rz⟩ := y F acc q1 q2
    have hm : z ∈ xs := List.mem_of_getElem? ez
    have hi' : xs[i] = z := by
      rw [List.getElem?_eq_getElem hi] at ez
      exact Option.some.inj ez
    rw [List.drop_eq_getElem_cons hi, hi'] at q3
    obtain ⟨b, eb, q3⟩ := bindE q3
    refine (hg z hm).run _ F H' x _ ((E1.wipe vs).up q1) rz q2.fh fun σ' E' wq => ⟨(wq vs hts).trans (wipe_wipe σ vs), (ht z hm b eb D acc).go E' q2 fun F3 H3 f3 E3 S3 => ?_⟩
    cases b with
    | true =>
      have q3 : ((f z).bind fun y => (filtO p f (xs.drop (i + 1))).bind fun ys => some (y :: ys)) = some zr := q3
      obtain ⟨v, ev, q3⟩ := bindE q3
      obtain ⟨zr', ezr, q3⟩ := bindE q3
      obtain rfl := Option.some.inj q3
      refine iteT ((he z hm v ev D acc).go E3 S3 fun u F4 H4 f4 E4 S4 r4 => ?_)
      obtain ⟨g1, g2, g3, us, g4, g5, g6⟩ := S4.get (j := 0) rfl
      have g4' : H4 D = some (.lst us) := g4
      have gl : us.length = acc.length := RpAll.length g6
      have hlt : us.length < sizeLine := by omega
      refine ⟨us, g4', hlt, F4, acc ++ [eβ v], zr', (q1.trans f3).trans f4, ?_, ezr, ?_, ?_⟩
      · exact S4.mut (j := 0) (l := D) (nw := true) (ds := acc) (ds' := acc ++ [eβ v]) rfl (by rw [List.length_append, List.length_singleton]; omega) (RpAll.append g6 (.cons r4 .nil))
      · rw [← q4, List.map_cons, List.append_assoc]
        rfl
      · rw [List.length_append, List.length_singleton]; omega
    | false =>
      have q3 : filtO p f (xs.drop (i + 1)) = some zr := q3
      exact iteF ⟨F3, acc, zr, q1.trans f3, S3, q3, q4, by omega⟩
  · obtain ⟨F, acc, zr, q1, q2, q3, q4, q5⟩ := q
    rw [List.drop_length] at q3
    have q3 : (some [] : Option (List β)) = some zr := q3
    obtain rfl := Option.some.inj q3
    rw [List.map_nil, List.append_nil] at q4
    rw [← q4] at k
    exact k D F H q1 q2⟩
theorem rxo_filtW {i j : Nat} {a : Addr} {nw : Bool} {p : α → Option Bool} {f : α → Option β} {zs : List β} (ρx : α → List Sl) (ts : List Nat) (hs : ρ[i]? = some (.adr a)) (ho : O[j]? = some ⟨a, nw, xs.map eα⟩) (hf : filtO p f xs = some zs) (hts : ∀ t ∈ ts, t ∈ vs)
    (hg : ∀ x ∈ xs, RG K g (eα x) (wipeS ρ vs) (ρx x) ts) (ht : ∀ x ∈ xs, ∀ b, p x = some b → ∀ D acc, RT K tt (ρx x) (⟨D, true, acc⟩ :: O) b (⟨D, true, acc⟩ :: O))
    (he : ∀ x ∈ xs, ∀ y, f x = some y → ∀ D acc, RX K te (ρx x) (⟨D, true, acc⟩ :: O) (eβ y) (⟨D, true, acc⟩ :: O)) : RXo K (tLc (iList K (tVar i)) g tt te vs) ρ O (zs.map eβ) O := rxo_filtA ρx ts (fun _ => rad_var hs) ho hf hts hg ht he
end
end TL
namespace TL
open PySem L2
open Enc
/-! ### a list of two unlike things -/
structure L2p (α β : Type) where
  a : α
  b : β
  deriving DecidableEq
@[reducible] instance {α β : Type} [Enc α] [Enc β] : Enc (L2p α β) := ⟨fun p => .list [enc p.a, enc p.b]⟩
section
variable {K : Fg} {ta : TE} {ρ ρ' : List Sl} {O O1 : Os}
theorem rg_lst {gs : TGs} {n : Nat} {ds : List PyData} {ts : List Nat} (h : RGs K gs ds ρ ρ' ts) (hn : ds.length = n := by rfl) : RG K (gLst K n gs) (.list ds) ρ ρ' ts := ⟨fun σ F H v Q E r f k => by
  cases r with
  | lst q1 q2 q3 => exact ⟨_, _, rfl, f.seq q1, by rw [q3.length, hn], h.run σ F H _ Q E q3 f k⟩⟩
theorem rx_to {d e : PyData} (q : d = e) (h : RX K ta ρ O d O1) : RX K ta ρ O e O1 := q ▸ h
end
end TL

/-! sorted(set(t)) of a tuple of ints -/
namespace L2
open PySem PySem.Spec PyProof.Rows
def tSortSet (K : PySem.W.Frag) (ta : TE) : TE := fun σ H Q => ta σ H fun x H1 => ∃ (p : Addr) (ns : List Int), x = V.ref p ∧ SqT K H1 p (ns.map V.int) ∧ ns.length < 64 ∧ ∀ (out : List Int) (q : Addr), out.Pairwise (· < ·) → (∀ k : Int, k ∈ out ↔ k ∈ ns) → H1 q = none → Q (.ref q) (upd H1 q (.lst (out.map V.int)))
section
variable {X : Cx}
theorem pe_sortSet {a : Expr} {ta : TE} {p p2 q pos : Pos} (hc : X.calm = true) (hg : Gl X "sorted") (hm : X.mg "sorted" = none) (hg2 : Gl X "set") (hm2 : X.mg "set" = none) (ha : PE X a ta)
    (na : starEach [a] X.env = (false, eval a X.env) :: starEach [] X.env := by rfl) : PE X (.Call (.Name "sorted" p) [.Call (.Name "set" p2) [a] [] q] [] pos) (tSortSet X.K ta) := by
  refine ⟨fun pins s σ H Q I h => ?_⟩
  refine Call_ (ld_blt I hg hm PyProof.Rows.boot_sorted ?_)
  refine PyProof.Rows.callWith_builtin1 (PyProof.Rows.args_cons ?_ rfl) rfl rfl
  refine Call_ (ld_blt I hg2 hm2 PyProof.Rows.boot_set ?_)
  refine PyProof.Rows.callWith_type1 (PyProof.Rows.args_cons (thn (ha.run pins s σ H _ I h) fun v s1 ⟨x, H1, I1, r1, q1⟩ => PyProof.Rows.args_nil ?_) na) na rfl
  obtain ⟨l, ns, rfl, hq, h64, q1⟩ := q1
  cases r1
  obtain ⟨its, rv, pt, hz⟩ := I1.tuple hq
  have hi : IntsAre its.toArray.toList ns := ints_of_vals rv
  have hd := I1.ok.hd hc
  refine call_set_tupI ns hd (show s1.heap.IsTuple l its.toArray from pt) hi (by unfold scanBound; omega) fun h' tk c R1 hcn k => ?_
  refine PyProof.Rows.args_nil ?_
  have I2 : Inv X pins σ H1 { s1 with heap := h', toks := tk } := I1.kept fun b o e => k b o e
  refine sorted_set R1 hd (by omega) fun s' p out c ns' kk g o hp hg hi' hs hm hl => ?_
  have hlen : (ns'.map V.int).length ≤ sizeLine := by rw [List.length_map, hl, sizeLine_eq]; omega
  have hn : H1 p = none := I2.hok.fresh hp
  have J : Inv X pins σ (upd H1 p (.lst (ns'.map V.int))) { ({ s1 with heap := h', toks := tk } : Shared) with heap := s'.heap, gens := s'.gens, drawn := s'.drawn, toks := s'.toks } :=
    I2.call (ch := []) (Un.laid kk hp hn) (I2.hok.laid kk hp ⟨hlen, out.toList, c, vals_of_ints hi', hg⟩) (by rw [g]; exact I2.bare) (fun _ z => nomatch z)
  have e : s' = { ({ s1 with heap := h', toks := tk } : Shared) with heap := s'.heap, gens := s'.gens, drawn := s'.drawn, toks := s'.toks } := by
    cases s'
    cases s1
    cases o
    rfl
  rw [e]
  exact ⟨.ref p, _, J, rfl, q1 ns' p hs (fun j => (hm j).trans decide_eq_true_iff) hn⟩
end
end L2
namespace TL
open PySem L2
open Enc
/-! ### what is told of it -/
def insI (x : Int) : List Int → List Int
  | [] => [x]
  | y :: ys => if x < y then x :: y :: ys else if x = y then y :: ys else y :: insI x ys
def setI (ns : List Int) : List Int := ns.foldr insI []
theorem mem_insI {x k : Int} : ∀ {l : List Int}, k ∈ insI x l ↔ k = x ∨ k ∈ l
  | [] => by simp [insI]
  | y :: ys => by
    unfold insI
    split
    · simp
    · split
      · rename_i e; subst e; simp
      · rw [List.mem_cons, mem_insI, List.mem_cons]
        constructor
        · rintro (h | h | h)
          · exact Or.inr (Or.inl h)
          · exact Or.inl h
          · exact Or.inr (Or.inr h)
        · rintro (h | h | h)
          · exact Or.inr (Or.inl h)
          · exact Or.inl h
          · exact Or.inr (Or.inr h)
theorem insI_up {x : Int} : ∀ {l : List Int}, l.Pairwise (· < ·) → (insI x l).Pairwise (· < ·)
  | [], _ => List.pairwise_singleton ..
  | y :: ys, h => by
    have h' := List.pairwise_cons.mp h
    unfold insI
    split
    · rename_i c
      refine List.pairwise_cons.mpr ⟨fun k hk => ?_, h⟩
      rcases List.mem_cons.mp hk with e | e
      · rw [e]; exact c
      · have := h'.1 k e; omega
    · split
      · exact h
      · refine List.pairwise_cons.mpr ⟨fun k hk => ?_, insI_up h'.2⟩
        rcases mem_insI.mp hk with e | e
        · omega
        · exact h'.1 k e
theorem mem_setI {k : Int} : ∀ {ns : List Int}, k ∈ setI ns ↔ k ∈ ns
  | [] => Iff.rfl
  | x :: ns => by
    show k ∈ insI x (setI ns) ↔ _
    rw [mem_insI, mem_setI, List.mem_cons]
theorem len_insI (x : Int) : ∀ l : List Int, (insI x l).length ≤ l.length + 1
  | [] => Nat.le_refl _
  | y :: ys => by
    have := len_insI x ys
    unfold insI
    split
    · simp
    · split
      · simp
      · simp; omega
theorem len_setI : ∀ ns : List Int, (setI ns).length ≤ ns.length
  | [] => Nat.le_refl _
  | x :: ns => by
    have := len_setI ns
    have := len_insI x (setI ns)
    show (insI x (setI ns)).length ≤ _
    rw [List.length_cons]
    omega
theorem setI_up : ∀ ns : List Int, (setI ns).Pairwise (· < ·)
  | [] => List.Pairwise.nil
  | x :: ns => insI_up (setI_up ns)
theorem up_same : ∀ {l t : List Int}, l.Pairwise (· < ·) → t.Pairwise (· < ·) → (∀ k, k ∈ l ↔ k ∈ t) → l = t
  | [], [], _, _, _ => rfl
  | [], b :: t, _, _, h => by have := (h b).mpr (List.mem_cons_self ..); cases this
  | a :: l, [], _, _, h => by have := (h a).mp (List.mem_cons_self ..); cases this
  | a :: l, b :: t, hl, ht, h => by
    have hl' := List.pairwise_cons.mp hl
    have ht' := List.pairwise_cons.mp ht
    have e : a = b := by
      rcases List.mem_cons.mp ((h a).mp (List.mem_cons_self ..)) with q | q
      · exact q
      · rcases List.mem_cons.mp ((h b).mpr (List.mem_cons_self ..)) with r | r
        · exact r.symm
        · have := ht'.1 a q
          have := hl'.1 b r
          omega
    subst e
    rw [up_same hl'.2 ht'.2 fun k => ⟨fun q => ?_, fun q => ?_⟩]
    · rcases List.mem_cons.mp ((h k).mp (List.mem_cons_of_mem _ q)) with r | r
      · have := hl'.1 k q; omega
      · exact r
    · rcases List.mem_cons.mp ((h k).mpr (List.mem_cons_of_mem _ q)) with r | r
      · have := ht'.1 k q; omega
      · exact r
def setIO (ns : List Int) : Option (List Int) := if ns.length < 64 then some (setI ns) else none
theorem up_nd {l : List Int} (h : l.Pairwise (· < ·)) : l.Nodup := h.imp fun {a b} q => by omega
section
variable {K : Fg} {ta tb : TE} {ρ : List Sl} {O O1 O2 : Os}
theorem rxo_sortSet {ns r : List Int} (e : setIO ns = some r) (ha : RX K ta ρ O (.tuple (ns.map .int)) O1) : RXo K (tSortSet K ta) ρ O (r.map .int) O1 := ⟨fun _ _ _ _ _ _ Q E S k => ha.go E S fun x F1 H1 f1 E1 S1 r1 => by
  unfold setIO at e
  split at e
  · rename_i h64
    cases e
    cases r1 with
    | tup q1 q2 q3 =>
    have hv := q3.ints
    subst hv
    refine ⟨_, ns, rfl, same_t S1.fh q1, h64, fun out q hs hm hn => ?_⟩
    have e2 := up_same hs (setI_up ns) fun k => (hm k).trans mem_setI.symm
    subst e2
    refine k q F1 _ f1 (S1.mine hn ?_ (RpAll.of_ints _))
    have := len_setI ns
    rw [List.length_map, sizeLine_eq]
    omega
  · cases e⟩
theorem rx_inIQ {x : Int} {xs : Sq Int} {neg : Bool} (ha : RX K ta ρ O (.int x) O1) (hb : RX K tb ρ O1 (enc xs) O2) : RX K (tOp (rIn K neg) ta tb) ρ O (.bool (if neg then !decide (x ∈ xs.l) else decide (x ∈ xs.l))) O2 := by
  obtain ⟨t, l⟩ := xs
  cases t with
  | true => exact rx_inIT ha hb
  | false => exact rx_inI ha (RX.s hb)
end
end TL

namespace TL
open PySem L2
open Enc
/-! ### a tuple so many times -/
def repTO {α : Type} (xs : List α) (k : Int) : Option (List α) := if (1 ≤ xs.length ∧ xs.length ≤ 1000) ∧ 2 ≤ k ∧ k ≤ 1000 then some (List.replicate k.toNat xs).flatten else none
section
variable {K : Fg} {ta tb : TE} {ρ : List Sl} {O O1 O2 : Os}
theorem rx_repT {α : Type} {f : α → PyData} {xs zs : List α} {i : Int} (h : repTO xs i = some zs) (ha : RX K ta ρ O (.tuple (xs.map f)) O1) (hb : RX K tb ρ O1 (.int i) O2) : RX K (tOp (rRepT K) ta tb) ρ O (.tuple (zs.map f)) O2 := ⟨fun _ _ _ _ _ _ Q E S k =>
  ha.go E S fun x F1 H1 f1 E1 S1 r1 => hb.go E1 S1 fun y F2 H2 f2 E2 S2 r2 => by
    have r1' := r1.up f2
    unfold repTO at h
    split at h
    · rename_i hc
      cases h
      cases r2
      cases r1' with
      | @tup _ vs _ q1 q2 q3 =>
        have e1 := q3.length
        rw [List.length_map] at e1
        refine ⟨_, i, vs, rfl, rfl, same_t S2.fh q1, fun z => by rw [z] at e1; simp at e1; omega, hc.2.1, hc.2.2, by omega, fun p hp => ?_⟩
        have f3 := same_upd (o := .tup (List.replicate i.toNat vs).flatten) (S2.nof hp)
        have e : (List.replicate i.toNat xs).flatten.map f = (List.replicate i.toNat (xs.map f)).flatten := by rw [List.map_flatten, List.map_replicate]
        rw [e] at k
        have rr := (q3.rep i.toNat).up f3
        refine k _ _ _ ((f1.trans f2).trans f3) (S2.put hp) (.tup (SqT.of upd_same) ?_ rr)
        rw [rr.length, sizeLine_eq]
        have : (List.replicate i.toNat (xs.map f)).flatten.length = i.toNat * xs.length := by rw [List.length_flatten, List.map_replicate, List.sum_replicate_nat, List.length_map]
        rw [this]
        have := Nat.mul_le_mul (show i.toNat ≤ 1000 by omega) hc.1.2
        omega
    · cases h⟩
end
theorem k_repT {X : Cx} (K : Fg) (hK : X.K = K := by rfl) : OpR X (binaryOp .Mult) (rRepT K) := by subst hK; exact op_repT
end TL

namespace TL
open PySem L2
open Enc
/-! ### pots = _law_pots(..); pot = pots[0]; for one in pots[1:] -/
section
variable {K : Fg} {te ta : TE} {ρ : List Sl} {O O1 O2 : Os} {F0 H0 F H : Hp} {D0 : List Addr} {σ : L2.St} {D : Ends} {E0 : XK}
theorem pots_ne (ns : List Int) : ∃ c cs, potsL ns = c :: cs := by
  unfold potsL
  split
  · exact ⟨0, [], rfl⟩
  · rename_i h
    rw [show cutL ns none (some (63 : Int)) = ns.take 63 by
      unfold cutL HT.sIx
      simp only
      rw [if_neg (by omega), List.drop_zero]
      show ns.take (min 63 ns.length - 0) = _
      rw [Nat.sub_zero, ← List.take_eq_take_min]]
    cases ns with
    | nil => exact absurd rfl h
    | cons c cs => exact ⟨c, cs.take 62, rfl⟩
theorem st_pots {ns : List Int} {jp : Nat} (ha : RX K te ρ O (.list (ns.map .int)) O) (E : EnvR K F σ ρ) (S : Hx K F0 H0 D0 F O H)
    (k : ∀ p ps c cs σ' F' H', potsL ns = c :: cs → ps.length = cs.length → Same F F' → EnvR K F' σ' (ρ.set jp (.lol (p :: ps))) → Hx K F0 H0 D0 F' (⟨p, true, ([c, 0] : List Int).map enc⟩ :: (potsOs ps cs ++ O)) H' → D.nx σ' H') :
    tAsg (tCall (SpPots K) [] E0 (tCons te tNil)) (gName jp) D σ H := ha.go E S fun x F1 H1 f1 E1 S1 r1 => by
  refine ⟨F1, ns, .cons r1 .nil, S1.fh, fun L ps H2 g1 g2 g3 g4 g5 g6 g7 g8 => ?_⟩
  have S2 := S1.pots g1 g2 g3 g4 g5 g6 g7 g8
  have fu : Same F1 (upd F1 L (.lst (ps.map .ref))) := same_upd (S1.nof g2)
  obtain ⟨c, cs, e⟩ := pots_ne ns
  rw [e] at g6 S2
  cases ps with
  | nil => simp at g6
  | cons p ps =>
    have hl : ps.length = cs.length := by simpa using g6
    have hz : (p :: ps).length ≤ sizeLine := by
      have : (potsL ns).length ≤ 63 := by
        unfold potsL
        split
        · decide
        · unfold cutL HT.sIx
          simp only
          rw [if_neg (by omega), List.drop_zero, List.length_take]
          show min (min 63 ns.length - 0) ns.length ≤ 63
          omega
      rw [e] at this
      rw [sizeLine_eq, List.length_cons]
      rw [List.length_cons] at this
      omega
    exact k p ps c cs _ _ H2 e hl (f1.trans fu) (EnvR.set (s := some (.ref L)) (r := .lol (p :: ps)) ⟨L, rfl, SqL.of upd_same, hz⟩ jp (E1.up fu)) S2
theorem st_pots1 {ns : List Int} {jp : Nat} {c : Int} (hc : (potsL ns).head? = some c) (ha : RX K te ρ [] (.list (ns.map .int)) []) (E : EnvR K F σ ρ) (S : Hx K F0 H0 D0 F [] H)
    (k : ∀ p ps σ' F' H', ps.length = (potsL ns).tail.length → Same F F' → EnvR K F' σ' (ρ.set jp (.lol (p :: ps))) → Hx K F0 H0 D0 F' (⟨p, true, ([c, 0] : List Int).map enc⟩ :: potsOs ps (potsL ns).tail) H' → D.nx σ' H') :
    tAsg (tCall (SpPots K) [] E0 (tCons te tNil)) (gName jp) D σ H := st_pots ha E S fun p ps c' cs σ' F' H' e hl f E' S' => by
  rw [e] at hc
  obtain rfl := Option.some.inj hc
  rw [List.append_nil] at S'
  refine k p ps σ' F' H' ?_ f E' ?_
  · rw [e]; exact hl
  · rw [e]; exact S'
theorem st_pot0 {p : Addr} {ps : List Addr} {i j : Nat} (hs : ρ[i]? = some (.lol (p :: ps))) (E : EnvR K F σ ρ) (S : Hx K F0 H0 D0 F O H)
    (k : ∀ σ', EnvR K F σ' (ρ.set j (.adr p)) → D.nx σ' H) : tAsg (tOp (rIxL K) (tVar i) (tC (.int 0))) (gName j) D σ H := by
  obtain ⟨s, h1, t, rfl, h2, h3⟩ := E.at hs
  refine ⟨_, h1, t, _, 0, .ref p, rfl, rfl, S.fh.seq h2, ?_, k _ (E.seta j)⟩
  unfold L2.atI ixN
  rw [if_pos (Int.le_refl 0), if_pos (by rw [List.length_map, List.length_cons]; omega)]
  rfl
/-- for one in pots[1:], what else is own being dropped -/
theorem st_forPs {R : Type} {p : Addr} {ps : List Addr} {cs : List Int} {Ow : Os} {tl th : TO} {i j : Nat} {tb : TS} {f : Int → Unit → Option (Fl Unit R)} {fl : Fl Unit R} (ρ1 : List Sl) (hs : ρ[i]? = some (.lol (p :: ps)))
    (E : EnvR K F σ ρ) (S0 : Hx K F0 H0 D0 F (Ow ++ potsOs ps cs) H) (hl : ps.length = cs.length) (ho : RO K tl ρ (Ow ++ potsOs ps cs) (some 1) (Ow ++ potsOs ps cs)) (hh : RO K th ρ (Ow ++ potsOs ps cs) none (Ow ++ potsOs ps cs))
    (hf : forF f cs () = some fl) (hW : Wk ρ ρ1)
    (kn : ∀ s, fl = .nx s → ∀ σ' F' H', Same F F' → EnvR K F' σ' ρ1 → Hx K F0 H0 D0 F' [] H' → D.nx σ' H')
    (body : ∀ c out, f c () = some out → (∀ r, out = .rt r → fl = .rt r) → ∀ σ1 F1 H1 p Or, Same F F1 → EnvR K F1 σ1 (ρ1.set j (.adr p)) → Hx K F0 H0 D0 F1 (⟨p, true, ([c, 0] : List Int).map enc⟩ :: Or) H1 →
      ∀ (N B : L2.St → Hp → Prop), (∀ s, out = .nx s → ∀ σ' F' H', Same F1 F' → EnvR K F' σ' ρ1 → Hx K F0 H0 D0 F' Or H' → N σ' H') → (∀ s, out = .bk s → ∀ σ' F' H', Same F1 F' → EnvR K F' σ' ρ1 → Hx K F0 H0 D0 F' Or H' → B σ' H') → tb { D with nx := N, ct := N, bk := B } σ1 H1) :
    tFor (iList K (tSl (rSlL K) (tVar i) tl th)) (gName j) tb D σ H := by
  obtain ⟨s, h1, t, rfl, h2, h3⟩ := E.at hs
  refine ⟨_, h1, ho.go E S0 fun F1 H1 f1 E1 S1 => hh.go E1 S1 fun F2 H2 f2 E2 S2 => ?_⟩
  refine ⟨t, _, rfl, (f1.trans (f2.trans S2.fh)).seq h2, fun L hL => ?_⟩
  have hc : cutV ((p :: ps).map V.ref) (some 1) none = ps.map V.ref := by
    unfold cutV HT.sIx
    simp only
    rw [if_neg (by omega), List.length_map, List.length_cons]
    rw [show min (1 : Int).toNat (ps.length + 1) = 1 by show min 1 _ = 1; omega]
    show (ps.map V.ref).take _ = _
    exact List.take_of_length_le (by rw [List.length_map]; omega)
  rw [hc]
  have S3 : Hx K F0 H0 D0 (upd F2 L (.lst (ps.map .ref))) (Ow ++ potsOs ps cs) (upd H2 L (.lst (ps.map .ref))) := S2.put hL
  have fu : Same F2 (upd F2 L (.lst (ps.map .ref))) := same_upd (S2.nof hL)
  refine ⟨L, rfl, ⟨_, SqL.of upd_same⟩, ?_⟩
  have hlen : (ps.map V.ref).length = ps.length := List.length_map _
  refine for_it (walk_list (K := K) (a := L) (xs := ps.map V.ref)) (fun i σ H => ∃ F2, Same F F2 ∧ F2 L = some (.lst (ps.map .ref)) ∧ EnvR K F2 σ ρ1 ∧ Hx K F0 H0 D0 F2 (potsOs (ps.drop i) (cs.drop i)) H ∧ forF f (cs.drop i) () = some fl)
    ⟨_, (f1.trans f2).trans fu, upd_same, (E2.up fu).weak hW, S3.sub (List.sublist_append_right _ _), hf⟩ (fun i σ H _ q => by obtain ⟨F2, _, q2, _, q4, _⟩ := q; exact SqL.of (q4.fh _ _ q2)) (fun i x σ H H' hi q y => ?_) (fun σ H q => ?_)
  · obtain ⟨F2, q1, q2, q3, q4, q5⟩ := q
    obtain ⟨e, y⟩ := y
    subst e
    rw [hlen] at hi
    have hi2 : i < cs.length := by omega
    have hx : x = V.ref ps[i] := by
      rw [List.getElem?_map, List.getElem?_eq_getElem hi] at y
      exact (Option.some.inj y).symm
    subst hx
    rw [drop_cons hi2] at q4 q5
    rw [drop_cons hi] at q4
    obtain ⟨out, e1, q5⟩ := bindE q5
    refine body _ out e1 (fun r eo => ?_) _ F2 H' ps[i] (potsOs (ps.drop (i + 1)) (cs.drop (i + 1))) q1 (q3.seta j) q4 _ _ (fun s eo σ' F' H2 ff E' S' => ?_) (fun s eo σ' F' H2 ff E' S' => ?_)
    · subst eo
      exact (Option.some.inj q5).symm
    · subst eo
      exact ⟨F', q1.trans ff, ff _ _ q2, E', S', q5⟩
    · subst eo
      exact kn s (Option.some.inj q5).symm σ' F' H2 (q1.trans ff) E' (S'.sub (List.nil_sublist _))
  · obtain ⟨F2, q1, q2, q3, q4, q5⟩ := q
    rw [hlen, hl, List.drop_length] at q5
    exact kn () (Option.some.inj q5).symm σ F2 H q1 q3 (q4.sub (List.nil_sublist _))
/-! ### xs.pop(i), xs.insert(i, y) of an own list, i not below 0 -/
def popO {α : Type} (xs : List α) (i : Int) : Option (α × List α) := if 0 ≤ i ∧ i < 16777216 then (xs[i.toNat]?).map fun x => (x, xs.eraseIdx i.toNat) else none
def insO {α : Type} (xs : List α) (i : Int) (x : α) : Option (List α) := if (0 ≤ i ∧ i < 16777216) ∧ xs.length < 16777216 then some (xs.take i.toNat ++ [x] ++ xs.drop i.toNat) else none
theorem map_eraseIdx {α β : Type} (f : α → β) : ∀ (l : List α) (j : Nat), (l.map f).eraseIdx j = (l.eraseIdx j).map f
  | [], _ => rfl
  | _ :: _, 0 => rfl
  | x :: l, j + 1 => by
    show f x :: (l.map f).eraseIdx j = f x :: (l.eraseIdx j).map f
    rw [map_eraseIdx f l j]
theorem popO_map {α β : Type} (f : α → β) {xs : List α} {i : Int} {r : α × List α} (h : popO xs i = some r) : popO (xs.map f) i = some (f r.1, r.2.map f) := by
  unfold popO at h ⊢
  split at h
  · rename_i c
    rw [if_pos c, List.getElem?_map]
    obtain ⟨x, hx, rfl⟩ := Option.map_eq_some_iff.mp h
    rw [hx]
    show some (f x, (xs.map f).eraseIdx i.toNat) = some (f x, (xs.eraseIdx i.toNat).map f)
    rw [map_eraseIdx]
  · cases h
theorem RpAll.erase {vs : List V} {ds : List PyData} : ∀ (n : Nat), RpAll K F vs ds → RpAll K F (vs.eraseIdx n) (ds.eraseIdx n) := fun n h => by
  induction n generalizing vs ds with
  | zero =>
    cases h with
    | nil => exact .nil
    | cons r t => exact t
  | succ n ih =>
    cases h with
    | nil => exact .nil
    | cons r t => exact .cons r (ih t)
theorem rx_pop {i j : Nat} {a : Addr} {nw : Bool} {ds ds' : List PyData} {n : Int} {d : PyData} (hn : popO ds n = some (d, ds')) (hs : ρ[i]? = some (.adr a)) (h : RX K te ρ O (.int n) O1) (hj0 : ∃ e : List PyData, O[j]? = some ⟨a, nw, e⟩) (hj : O1[j]? = some ⟨a, nw, ds⟩) :
    RX K (tBM K "list" rPopAt (tVar i) (tCons te tNil)) ρ O d (O1.set j ⟨a, nw, ds'⟩) := ⟨fun _ _ _ _ _ _ Q E S k => by
  obtain ⟨e0, hj0⟩ := hj0
  obtain ⟨_, _, _, vs0, g0, _⟩ := S.get hj0
  refine ⟨_, E.adr hs, .inl ⟨rfl, _, .inl (.inl g0)⟩, h.go E S fun v F1 H1 f1 E1 S1 r1 => ?_⟩
  obtain ⟨g1, g2, g3, vs, g4, g5, g6⟩ := S1.get hj
  have g4 : H1 a = some (.lst vs) := g4
  have g5 : vs.length ≤ sizeLine := g5
  have g6 : RpAll K F1 vs ds := g6
  cases r1
  unfold popO at hn
  split at hn
  · rename_i hc
    obtain ⟨x, hx, e⟩ := Option.map_eq_some_iff.mp hn
    cases e
    obtain ⟨y, hy, ry⟩ := g6.get hx
    have lt := (List.getElem?_eq_some_iff.mp hy).1
    refine ⟨a, vs, n, n.toNat, y, rfl, rfl, g4, by omega, by omega, ?_, hy, k _ F1 _ f1 (S1.mut hj ?_ (g6.erase _)) ry⟩
    · unfold seqIndex?
      first
        | (rw [if_neg (by omega)]; rfl)
        | (simp; omega)
    · have := List.length_eraseIdx_le vs n.toNat
      omega
  · cases hn⟩
theorem st_insert {i j : Nat} {a : Addr} {nw : Bool} {ds ds' : List PyData} {n : Int} {d : PyData} (hn : insO ds n d = some ds') (hs : ρ[i]? = some (.adr a)) (h1 : RX K te ρ O (.int n) O1) (h2 : RX K ta ρ O1 d O2) (hj0 : ∃ e : List PyData, O[j]? = some ⟨a, nw, e⟩) (hj : O2[j]? = some ⟨a, nw, ds⟩)
    (E : EnvR K F σ ρ) (S : Hx K F0 H0 D0 F O H) (k : ∀ F' H', Same F F' → EnvR K F' σ ρ → Hx K F0 H0 D0 F' (O2.set j ⟨a, nw, ds'⟩) H' → D.nx σ H') :
    tDrop (tBM K "list" (fun x vs H Q => ∃ (l : Addr) (xs : List V) (i : Int) (y : V), x = .ref l ∧ vs = [.int i, y] ∧ H l = some (.lst xs) ∧ xs.length < sizeLine ∧ 0 ≤ i ∧ i < 2 ^ 63 ∧
    Q .non (upd H l (.lst (xs.take i.toNat ++ [y] ++ xs.drop i.toNat)))) (tVar i) (tCons te (tCons ta tNil))) D σ H := by
  obtain ⟨e0, hj0⟩ := hj0
  obtain ⟨_, _, _, vs0, g0, _⟩ := S.get hj0
  refine ⟨_, E.adr hs, .inl ⟨rfl, _, .inl (.inl g0)⟩, h1.go E S fun u F1 H1 f1 E1 S1 r1 => h2.go E1 S1 fun v F2 H2 f2 E2 S2 r2 => ?_⟩
  obtain ⟨g1, g2, g3, vs, g4, g5, g6⟩ := S2.get hj
  have g4 : H2 a = some (.lst vs) := g4
  have g6 : RpAll K F2 vs ds := g6
  cases r1
  unfold insO at hn
  split at hn
  · rename_i hc
    cases hn
    have e := g6.length
    refine ⟨a, vs, n, v, rfl, rfl, g4, by rw [sizeLine_eq]; omega, by omega, by omega, k F2 _ (f1.trans f2) E2 (S2.mut hj ?_ (((g6.take _).append (.cons r2 .nil)).append (g6.drop _)))⟩
    rw [List.length_append, List.length_append, List.length_take, List.length_drop, List.length_singleton, sizeLine_eq]
    omega
  · cases hn
theorem insO_map {α β : Type} (f : α → β) {xs : List α} {i : Int} {x : α} {r : List α} (h : insO xs i x = some r) : insO (xs.map f) i (f x) = some (r.map f) := by
  unfold insO at h ⊢
  split at h
  · rename_i c
    cases h
    rw [if_pos (by rw [List.length_map]; exact c)]
    simp
  · cases h
end
end TL

/-! x = {}; for one in sets: for place in one: x[place] = True; sorted(x) -/
namespace TL
open PySem L2
open Enc
instance {α β γ δ : Type} [Enc α] [DecidableEq α] [EqD α] [EqT α] [Enc β] [DecidableEq β] [EqD β] [EqT β] [Enc γ] [DecidableEq γ] [EqD γ] [EqT γ] [Enc δ] [DecidableEq δ] [EqD δ] [EqT δ] : EqT (T4 α β γ δ) := ⟨fun x => by
  show (EqD.ok x.a && (EqD.ok x.b && (EqD.ok x.c && EqD.ok x.d))) = true
  rw [EqT.ok, EqT.ok, EqT.ok, EqT.ok]; rfl⟩
def addK (ks : List Int) (k : Int) : List Int := if k ∈ ks then ks else ks ++ [k]
def addKO (k : Int) (ks : List Int) : Option (List Int) := if ks.length < 16777216 then some (addK ks k) else none
def knownO (sets : List (Tp Int)) : Option (List Int) := forS (fun (t : Tp Int) ks => forS addKO t.l ks) sets []
def sortKO (ks : List Int) : Option (List Int) := if ks.length < 64 then some (sortI ks) else none
theorem keyB_any {k : Int} : ∀ {ks : List Int}, ((keyB ks).any fun kv => decide (kv.1 = (Sum.inl k : Key))) = decide (k ∈ ks)
  | [] => by simp [keyB]
  | j :: ks => by
    have ih := keyB_any (k := k) (ks := ks)
    show (decide ((Sum.inl j : Key) = Sum.inl k) || (keyB ks).any fun kv => decide (kv.1 = (Sum.inl k : Key))) = _
    rw [ih]
    by_cases e : j = k
    · subst e; simp
    · have e1 : ¬ (Sum.inl j : Key) = Sum.inl k := fun z => e (Sum.inl.inj z)
      have e2 : ¬ k = j := fun z => e z.symm
      rw [decide_eq_false e1, Bool.false_or]
      simp [e2]
theorem keyB_put (ks : List Int) (k : Int) : putK (keyB ks) (Sum.inl k : Key) (V.bl true) = keyB (addK ks k) := by
  unfold putK addK
  rw [keyB_any]
  by_cases h : k ∈ ks
  · rw [if_pos (decide_eq_true h), if_pos h]
    unfold keyB
    rw [List.map_map]
    refine List.map_congr_left fun j _ => ?_
    show (if (Sum.inl j : Key) = Sum.inl k then ((Sum.inl j : Key), V.bl true) else (Sum.inl j, V.bl true)) = _
    split <;> rfl
  · rw [if_neg (by simp [h]), if_neg h]
    unfold keyB
    rw [List.map_append]
    rfl
section
variable {K : Fg} {te ta : TE} {ρ : List Sl} {O O1 O2 : Os} {F0 H0 F H : Hp} {D0 : List Addr} {σ : L2.St} {D : Ends} {E0 : XK}
theorem EnvR.len (h : EnvR K F σ ρ) : σ.length = ρ.length := by
  induction h with
  | nil => rfl
  | cons _ _ ih => rw [List.length_cons, List.length_cons, ih]
theorem set_same {σ : L2.St} {i : Nat} {s : Option V} (h : σ[i]? = some s) : σ.set i s = σ := by
  apply List.ext_getElem?
  intro j
  by_cases e : i = j
  · subst e; rw [h, List.getElem?_set_self (List.getElem?_eq_some_iff.mp h).1]
  · rw [List.getElem?_set_ne e]
theorem Hx.loose (S : Hx K F0 H0 D0 F O H) {p : Addr} {o : HO} (h : H p = none) : Hx K F0 H0 D0 F O (upd H p o) := by
  refine ⟨S.f0, S.fh.trans (same_upd h), fun a u e n => ?_, fun a u e => ?_, S.new, fun q hq => ?_, S.nd⟩
  · have := S.keep a u e n
    rw [upd_ne (ne_of_none this h)]
    exact this
  · obtain ⟨u', e'⟩ := S.live a u e
    exact ⟨u', by rw [upd_ne (ne_of_none e' h)]; exact e'⟩
  · obtain ⟨h1, h2, h3, h4⟩ := S.own q hq
    obtain ⟨u, h5⟩ := h4.live
    exact ⟨h1, h2, h3, h4.at (upd_ne (ne_of_none h5 h))⟩
theorem Hx.off (S : Hx K F0 H0 D0 F O H) {p : Addr} (hp : H p = none) : ∀ q ∈ O, q.a ≠ p := fun q hq => by
  obtain ⟨vs', h4⟩ := S.ownL hq
  rintro e
  rw [e, hp] at h4
  cases h4
theorem Hx.turn (S : Hx K F0 H0 D0 F O H) {p : Addr} {o : HO} (hO : ∀ q ∈ O, q.a ≠ p) (hF : F p = none) (h0 : H0 p = none) : Hx K F0 H0 D0 F O (upd H p o) := by
  refine ⟨S.f0, fun a u e => ?_, fun a u e n => ?_, fun a u e => ?_, S.new, fun q hq => ?_, S.nd⟩
  · rw [upd_ne (ne_of_none e hF)]
    exact S.fh _ _ e
  · rw [upd_ne (ne_of_none e h0)]
    exact S.keep a u e n
  · rw [upd_ne (ne_of_none e h0)]
    exact S.live a u e
  · obtain ⟨h1, h2, h3, h4⟩ := S.own q hq
    exact ⟨h1, h2, h3, h4.at (upd_ne (hO q hq))⟩
theorem Hx.tie (S : Hx K F0 H0 D0 F O H) {p : Addr} {kvs : List (Key × V)} (hO : ∀ q ∈ O, q.a ≠ p) (hp : H p = some (.dK kvs)) (hF : F p = none) (h0 : H0 p = none) : Hx K F0 H0 D0 (upd F p (.dK kvs)) O H := by
  refine ⟨S.f0.trans (same_upd hF), fun a u e => ?_, S.keep, S.live, fun a u e n => ?_, fun q hq => ?_, S.nd⟩
  · unfold upd at e
    split at e
    · rename_i z
      subst z
      cases e
      exact hp
    · exact S.fh _ _ e
  · rw [upd_ne (ne_of_none e h0)]
    exact S.new a u e n
  · obtain ⟨h1, h2, h3, h4⟩ := S.own q hq
    exact ⟨by rw [upd_ne (hO q hq)]; exact h1, h2, h3, h4.up (same_upd hF)⟩
theorem forS_nil {α S : Type} {f : α → S → Option S} {s t : S} (h : forS f [] s = some t) : s = t := Option.some.inj h
theorem forS_cons {α S : Type} {f : α → S → Option S} {x : α} {xs : List α} {s t : S} (h : forS f (x :: xs) s = some t) : ∃ q, f x s = some q ∧ forS f xs q = some t := Option.bind_eq_some_iff.mp h
theorem st_known {sets : List (Tp Int)} {ks : List Int} {jk js j1 j2 : Nat} {rest : TS} (ρ1 : List Sl) (hk : knownO sets = some ks) (hs : ρ1[js]? = some (.val (enc sets))) (hW : Wk ρ ρ1)
    (e0 : ρ1.set jk .un = ρ1) (e1 : ρ1.set j1 .un = ρ1) (e2 : ρ1.set j2 .un = ρ1) (n1 : jk ≠ j1) (n2 : jk ≠ j2) (l0 : jk < ρ1.length) (l1 : j1 < ρ1.length) (l2 : j2 < ρ1.length)
    (E : EnvR K F σ ρ) (S : Hx K F0 H0 D0 F O H) (k : ∀ σ' F' H', Same F F' → EnvR K F' σ' (ρ1.set jk (.dkb ks)) → Hx K F0 H0 D0 F' O H' → rest D σ' H') :
    tSeq (tAsg tDNewK (gName jk)) (tSeq (tFor (iList K (tVar js)) (gName j1) (tFor (iTup K (tVar j1)) (gName j2) (sDPut (tVar jk) (tVar j2) (tC (.bl true))))) rest) D σ H := fun p hp => by
  have E1 := E.weak hW
  have hF := S.nof hp
  have h0 := S.noh0 hp
  have hO := S.off hp
  have E2 : EnvR K F (σ.set jk (some (.ref p))) ρ1 := by
    have := EnvR.set (s := some (.ref p)) (r := .un) (K := K) (F := F) trivial jk E1
    rw [e0] at this
    exact this
  have S2 : Hx K F0 H0 D0 F O (upd H p (.dK [])) := S.loose hp
  obtain ⟨v, h1, r1⟩ := E2.val hs
  have r1 : Rp K F v (.list (sets.map enc)) := r1
  cases r1 with
  | @lst a vs _ q1 q2 q3 =>
  have hlen : vs.length = sets.length := by rw [q3.length, List.length_map]
  have hj : jk < σ.length := by rw [E1.len]; exact l0
  have hI : (σ.set jk (some (.ref p)))[jk]? = some (some (.ref p)) := List.getElem?_set_self hj
  refine ⟨_, h1, a, rfl, ⟨vs, S2.fh.seq q1⟩, ?_⟩
  refine for_it (walk_list (K := K) (a := a) (xs := vs)) (fun i σ' H' => ∃ q, forS (fun (t : Tp Int) ks => forS addKO t.l ks) (sets.drop i) q = some ks ∧ σ'[jk]? = some (some (.ref p)) ∧ EnvR K F σ' ρ1 ∧ Hx K F0 H0 D0 F O H' ∧ H' p = some (.dK (keyB q)))
    ⟨[], hk, hI, E2, S2, upd_same⟩ (fun i σ' H' _ z => by obtain ⟨_, _, _, _, z, _⟩ := z; exact z.fh.seq q1) (fun i x σ1 H1 H1' hi z y => ?_) (fun σ1 H1 z => ?_)
  · obtain ⟨q, z1, z2, z3, z4, z5⟩ := z
    obtain ⟨ey, y⟩ := y
    subst ey
    have hi2 : i < sets.length := by omega
    rw [List.drop_eq_getElem_cons hi2] at z1
    obtain ⟨q', w1, w2⟩ := forS_cons z1
    obtain ⟨d, d1, d2⟩ := q3.getV y
    have ed : d = .tuple (sets[i].l.map PyData.int) := by
      rw [List.getElem?_map, List.getElem?_eq_getElem hi2] at d1
      exact (Option.some.inj d1).symm
    subst ed
    cases d2 with
    | @tup b xs _ g1 g2 g3 =>
    have ex := g3.ints
    subst ex
    have E3 : EnvR K F (σ1.set j1 (some (.ref b))) ρ1 := by
      have := EnvR.set (s := some (.ref b)) (r := .un) (K := K) (F := F) trivial j1 z3
      rw [e1] at this
      exact this
    have hj1 : j1 < σ1.length := by rw [z3.len]; exact l1
    refine ⟨_, List.getElem?_set_self hj1, b, rfl, ⟨_, same_t z4.fh g1⟩, ?_⟩
    refine for_it (walk_tup (K := K) (a := b) (xs := sets[i].l.map V.int)) (fun m σ' H' => ∃ q, forS addKO (sets[i].l.drop m) q = some q' ∧ σ'[jk]? = some (some (.ref p)) ∧ EnvR K F σ' ρ1 ∧ Hx K F0 H0 D0 F O H' ∧ H' p = some (.dK (keyB q)))
      ⟨q, w1, ?_, E3, z4, z5⟩ (fun i σ' H' _ z => by obtain ⟨_, _, _, _, z, _⟩ := z; exact same_t z.fh g1) (fun m x σ2 H2 H2' hm z y => ?_) (fun σ2 H2 z => ?_)
    · rw [List.getElem?_set_ne (Ne.symm n1)]; exact z2
    · obtain ⟨q, z1, z2, z3, z4, z5⟩ := z
      obtain ⟨ey, y⟩ := y
      subst ey
      rw [List.length_map] at hm
      rw [List.drop_eq_getElem_cons hm] at z1
      obtain ⟨q2, w1, w2⟩ := forS_cons z1
      have hx : x = V.int sets[i].l[m] := by
        rw [List.getElem?_map, List.getElem?_eq_getElem hm] at y
        exact (Option.some.inj y).symm
      subst hx
      unfold addKO at w1
      split at w1
      · rename_i c
        cases w1
        have hj2 : j2 < σ2.length := by rw [z3.len]; exact l2
        have E4 : EnvR K F (σ2.set j2 (some (.int sets[i].l[m]))) ρ1 := by
          have := EnvR.set (s := some (.int sets[i].l[m])) (r := .un) (K := K) (F := F) trivial j2 z3
          rw [e2] at this
          exact this
        have hJ : (σ2.set j2 (some (.int sets[i].l[m])))[jk]? = some (some (.ref p)) := by rw [List.getElem?_set_ne (Ne.symm n2)]; exact z2
        have hd := DPut.k (H := H2') (a := p) (kvs := keyB q) (k := Sum.inl sets[i].l[m]) (v := .bl true) z5 (by unfold keyB; rw [List.length_map, sizeLine_eq]; omega)
        rw [keyB_put] at hd
        refine ⟨_, hJ, _, List.getElem?_set_self hj2, p, _, rfl, hd, _, w2, hJ, E4, z4.turn hO hF h0, upd_same⟩
      · cases w1
    · obtain ⟨q, z1, z2, z3, z4, z5⟩ := z
      rw [List.length_map, List.drop_length] at z1
      have := forS_nil z1
      subst this
      exact ⟨q, w2, z2, z3, z4, z5⟩
  · obtain ⟨q, z1, z2, z3, z4, z5⟩ := z
    rw [hlen, List.drop_length] at z1
    have := forS_nil z1
    subst this
    refine k σ1 (upd F p (.dK (keyB q))) H1 (same_upd hF) ?_ (z4.tie hO z5 hF h0)
    have := EnvR.set (s := some (.ref p)) (r := .dkb q) (K := K) (F := upd F p (.dK (keyB q))) ⟨p, rfl, upd_same⟩ jk (z3.up (same_upd hF))
    rw [set_same z2] at this
    exact this
/-! ### sorted of it -/
def rSortDI : List V → Hp → VK → Prop := fun xs H Q => ∃ (a : Addr) (kvs : List (Key × V)) (ks : List Int), xs = [.ref a] ∧ Rd H a (.dK kvs) ∧ kvs.map (·.1) = ks.map Sum.inl ∧ ks.length < 64 ∧
    ∀ (ys : List Int) (p : Addr), ys.Perm ks → ys.Pairwise (· ≤ ·) → H p = none → Q (.ref p) (upd H p (.lst (ys.map V.int)))
theorem k_sortDI {X : Cx} (hc : X.calm = true) : CallR X (.builtin "sorted") rSortDI := call_sortedDI hc
theorem rx_someL {l : List Int} (h : RX K ta ρ O (.list (l.map .int)) O1) : RX K ta ρ O (enc (l.map (some : Int → Option Int))) O1 := by
  have e : enc (l.map (some : Int → Option Int)) = PyData.list (l.map .int) := by
    show PyData.list ((l.map (some : Int → Option Int)).map enc) = _
    rw [List.map_map]
    rfl
  rw [e]
  exact h
theorem keyB_keys (ks : List Int) : (keyB ks).map (·.1) = ks.map (Sum.inl : Int → Key) := by
  unfold keyB
  rw [List.map_map]
  rfl
theorem rxo_sortK {i : Nat} {ks r : List Int} (h : sortKO ks = some r) (hs : ρ[i]? = some (.dkb ks)) : RXo K (tCB rSortDI (tCons (tVar i) tNil)) ρ O (r.map .int) O := ⟨fun _ _ _ _ F H Q E S k => by
  obtain ⟨s, h1, t, rfl, h2⟩ := E.at hs
  unfold sortKO at h
  split at h
  · rename_i c
    cases h
    refine ⟨_, h1, t, keyB ks, ks, rfl, .inl (S.fh _ _ h2), keyB_keys ks, c, fun ys p hp hu hn => ?_⟩
    have e := sortI_of hp hu
    subst e
    refine k p F _ (Same.refl _) (S.mine hn ?_ (RpAll.of_ints _))
    rw [List.length_map, hp.length_eq, sizeLine_eq]
    omega
  · cases h⟩
end
end TL

/-! a def that takes an own list and a list of pots; pots walked with a state -/
namespace TL
open PySem L2
open Enc
def SpW (K : Fg) (R : List PyData → List Int → PyData → List PyData → Prop) : Sp := fun vs H Q _ => ∃ F H1 D1 p L, ∃ c : List PyData, ∃ ps cs d, ∃ c' : List PyData, vs = [.ref p, .ref L] ∧ Hx K F H1 D1 F (⟨p, true, c⟩ :: potsOs ps cs) H ∧ (SqL K F L (ps.map .ref) ∧ ps.length ≤ sizeLine ∧ ps.length = cs.length) ∧ R c cs d c' ∧
  ∀ v F' H', Same F F' → Hx K F H1 D1 F' [⟨p, true, c'⟩] H' → Rp K F' v d → Q v H'
theorem spw_len {K : Fg} {R : List PyData → List Int → PyData → List PyData → Prop} : ∀ vs H Q E, SpW K R vs H Q E → vs.length = 2 := fun vs H Q E ⟨F, H1, D1, p, L, c, ps, cs, d, c', e, _⟩ => by
  subst e; rfl
section
variable {K : Fg} {te ta : TE} {ρ : List Sl} {O O1 O2 : Os} {F0 H0 F H : Hp} {D0 : List Addr} {σ : L2.St} {D : Ends} {E0 : XK}
theorem EnvR.startW {N : List Str} {p L : Addr} {ps : List Addr} (h : SqL K F L (ps.map .ref)) (hl : ps.length ≤ sizeLine) : EnvR K F (L2.start N [.ref p, .ref L]) (.adr p :: .lol ps :: List.replicate (N.length - 2) .un) := by
  unfold L2.start
  exact .cons rfl (.cons ⟨L, rfl, h, hl⟩ (EnvR.blank _))
theorem rx_callw {R : List PyData → List Int → PyData → List PyData → Prop} {p q : Addr} {ps : List Addr} {cs : List Int} {c c' : List PyData} {d : PyData} {i k : Nat} {tl th : TO} (hp : ρ[i]? = some (.adr p)) (hL : ρ[k]? = some (.lol (q :: ps))) (hl : ps.length = cs.length)
    (ho : RO K tl ρ (⟨p, true, c⟩ :: potsOs ps cs) (some 1) (⟨p, true, c⟩ :: potsOs ps cs)) (hh : RO K th ρ (⟨p, true, c⟩ :: potsOs ps cs) none (⟨p, true, c⟩ :: potsOs ps cs)) (hR : R c cs d c') :
    RX K (tCall (SpW K R) [] E0 (tCons (tVar i) (tCons (tSl (rSlL K) (tVar k) tl th) tNil))) ρ (⟨p, true, c⟩ :: potsOs ps cs) d [⟨p, true, c'⟩] := ⟨fun F0 H0 D0 σ F H Q E S kk => by
  obtain ⟨s, h1, t, rfl, h2, h3⟩ := E.at hL
  refine ⟨_, E.adr hp, _, h1, ho.go E S fun F1 H1 f1 E1 S1 => hh.go E1 S1 fun F2 H2 f2 E2 S2 => ?_⟩
  refine ⟨t, _, rfl, (f1.trans (f2.trans S2.fh)).seq h2, fun L hLn => ?_⟩
  have hc : cutV ((q :: ps).map V.ref) (some 1) none = ps.map V.ref := by
    unfold cutV HT.sIx
    simp only
    rw [if_neg (by omega), List.length_map, List.length_cons]
    rw [show min (1 : Int).toNat (ps.length + 1) = 1 by show min 1 _ = 1; omega]
    show (ps.map V.ref).take _ = _
    exact List.take_of_length_le (by rw [List.length_map]; omega)
  rw [hc]
  have S3 : Hx K F0 H0 D0 (upd F2 L (.lst (ps.map .ref))) (⟨p, true, c⟩ :: potsOs ps cs) (upd H2 L (.lst (ps.map .ref))) := S2.put hLn
  have fu : Same F2 (upd F2 L (.lst (ps.map .ref))) := same_upd (S2.nof hLn)
  obtain ⟨H1', D1', S4, back⟩ := Hx.fr (O := ⟨p, true, c⟩ :: potsOs ps cs) (X := []) (by rw [List.append_nil]; exact S3)
  have hz : ps.length ≤ sizeLine := by rw [List.length_cons] at h3; omega
  refine ⟨_, H1', D1', p, L, c, ps, cs, d, c', rfl, S4, ⟨SqL.of upd_same, hz, hl⟩, hR, fun v F' H' ff S' r => kk v F' H' (((f1.trans f2).trans fu).trans ff) ?_ r⟩
  have := back F' [⟨p, true, c'⟩] H' S'
  rw [List.append_nil] at this
  exact this⟩
/-- a list of pots walked, with a state -/
theorem st_forPS {S : Type} {ps : List Addr} {cs : List Int} {i j : Nat} {tb : TS} {f : Int → S → Option S} {s0 s1 : S} (ρf : S → List Sl) (Of : S → Os) (hs : ρ[i]? = some (.lol ps))
    (E : EnvR K F σ ρ) (S0 : Hx K F0 H0 D0 F (Of s0 ++ potsOs ps cs) H) (hl : ps.length = cs.length) (hf : forS f cs s0 = some s1) (hW : Wk ρ (ρf s0))
    (kn : ∀ σ' F' H', Same F F' → EnvR K F' σ' (ρf s1) → Hx K F0 H0 D0 F' (Of s1) H' → D.nx σ' H')
    (body : ∀ c s s', f c s = some s' → ∀ σ1 F1 H1 p Or, Same F F1 → EnvR K F1 σ1 ((ρf s).set j (.adr p)) → Hx K F0 H0 D0 F1 (⟨p, true, ([c, 0] : List Int).map enc⟩ :: (Of s ++ Or)) H1 →
      ∀ (N B : L2.St → Hp → Prop), (∀ σ' F' H', Same F1 F' → EnvR K F' σ' (ρf s') → Hx K F0 H0 D0 F' (Of s' ++ Or) H' → N σ' H') → tb { D with nx := N, ct := N, bk := B } σ1 H1) :
    tFor (iList K (tVar i)) (gName j) tb D σ H := by
  obtain ⟨s, h1, t, rfl, h2, h3⟩ := E.at hs
  have hlen : (ps.map V.ref).length = ps.length := List.length_map _
  refine ⟨_, h1, t, rfl, ⟨_, S0.fh.seq h2⟩, ?_⟩
  refine for_it (walk_list (K := K) (a := t) (xs := ps.map V.ref)) (fun i σ H => ∃ F2 s, Same F F2 ∧ EnvR K F2 σ (ρf s) ∧ Hx K F0 H0 D0 F2 (Of s ++ potsOs (ps.drop i) (cs.drop i)) H ∧ forS f (cs.drop i) s = some s1)
    ⟨F, s0, Same.refl _, E.weak hW, S0, hf⟩ (fun i σ H _ q => by obtain ⟨F2, s, q1, _, q4, _⟩ := q; exact (q1.trans q4.fh).seq h2) (fun i x σ H H' hi q y => ?_) (fun σ H q => ?_)
  · obtain ⟨F2, s, q1, q3, q4, q5⟩ := q
    obtain ⟨e, y⟩ := y
    subst e
    rw [hlen] at hi
    have hi2 : i < cs.length := by omega
    have hx : x = V.ref ps[i] := by
      rw [List.getElem?_map, List.getElem?_eq_getElem hi] at y
      exact (Option.some.inj y).symm
    subst hx
    rw [drop_cons hi2] at q4 q5
    rw [drop_cons hi] at q4
    obtain ⟨s', e1, q5⟩ := forS_cons q5
    have q4' := q4.perm (O' := ⟨ps[i], true, ([cs[i], 0] : List Int).map enc⟩ :: (Of s ++ potsOs (ps.drop (i + 1)) (cs.drop (i + 1)))) List.perm_middle
    exact body _ s s' e1 _ F2 H' ps[i] (potsOs (ps.drop (i + 1)) (cs.drop (i + 1))) q1 (EnvR.seta q3 j) q4' _ _ fun σ' F' H2 ff E' S' => ⟨F', s', q1.trans ff, E', S', q5⟩
  · obtain ⟨F2, s, q1, q3, q4, q5⟩ := q
    rw [hlen, hl, List.drop_length] at q5
    have := forS_nil q5
    subst this
    exact kn σ F2 H q1 q3 (q4.sub (List.sublist_append_left _ _))
end
end TL

/-! defs that may raise own exceptions; try .. except C as e: suite -/
namespace TL
open PySem L2
open Enc
inductive Rx (α : Type) where
  | ok (a : α)
  | er (x : Str)
def Rx.map {α β : Type} (f : α → β) : Rx α → Rx β
  | .ok a => .ok (f a)
  | .er x => .er x
def rxK {α β : Type} : Rx α → (α → β) → (Str → β) → β
  | .ok a, f, _ => f a
  | .er x, _, g => g x
/-- called with the data ds the def hands back data, or raises the class of a name -/
def SpX (K : Fg) (mg : Str → Option Value) (R : List PyData → Rx PyData → Prop) : Sp := fun vs H Q E => ∃ F ds r, RpAll K F vs ds ∧ Same F H ∧ R ds r ∧ (∀ d, r = .ok d → ∀ v F' H', Stp [] F H F' H' → Rp K F' v d → Q v H') ∧
  ∀ x, r = .er x → ∀ C, mg x = some (.ref C) → ∀ F' H', Stp [] F H F' H' → E (.ref C) none H'
theorem spx_len {K : Fg} {mg : Str → Option Value} {R : List PyData → Rx PyData → Prop} {n : Nat} (h : ∀ ds d, R ds d → ds.length = n) : ∀ vs H Q E, SpX K mg R vs H Q E → vs.length = n := fun vs H Q E ⟨F, ds, d, r, _, hR, _⟩ => r.length.trans (h ds d hR)
/-- what is known of an exception class -/
structure XC (K : Fg) (mg : Str → Option Value) (x : Str) (C : Addr) : Prop where
  gC : mg x = some (.ref C)
  q : PySem.W.excIn K C [.type "ValueError", .type "Exception", .type "BaseException", .type "object"] "ValueError.__new__" = true
  kp : PySem.W.keepIn K (.ref C) = true
  ty : PySem.W.typeIn K (.ref C) = some (.type "type")
  ec : ExcC K C
theorem XC.uniq {K : Fg} {mg : Str → Option Value} {x : Str} {C D : Addr} (h : XC K mg x C) (e : mg x = some (.ref D)) : D = C := by
  have := e.symm.trans h.gC
  cases this
  rfl
section
variable {P : Program} {w : World} {K : Fg} {mg : Str → Option Value} {base : Heap}
def CalX (P : Program) (w : World) (K : Fg) (mg : Str → Option Value) (base : Heap) (k : Nat) (x : Str) (ps : List Str) (sp : Sp) : Prop :=
  ∃ f fd, FnOk P w K mg base (L2.CX P w) k f fd ps sp ∧ mg x = some (.ref f) ∧ PySem.W.keepIn K (.ref f) = true ∧ Binds K fd ps []
theorem Dfn.calX {x : Str} {st : Stmt} {N ps : List Str} {k : Nat} {sp : Sp} (h : Dfn K mg x st ps) (S : FnScope N ps (defScope st)) (len : ∀ vs H Q E, sp vs H Q E → vs.length = ps.length)
    (hbody : ∀ (f : Addr) (cdv : Value) (A : Around) (outer : List Env) (s : Shared) (H : Hp) (vs : List V) (Q : VK) (E : XK), Room k (A.deeper (PyProof.Rows.envOfC x (defScope st) s.heap.objs.size f cdv)) → sp vs H Q E →
      ∃ t, PSs (cxOf (L2.CX P w) P w K mg base N x (defScope st) f cdv A outer s H E) (defBody st) t ∧ t { nx := fun _ H' => Q .non H', rt := Q } (start N vs) H) : CalX P w K mg base (k + 1) x ps sp := by
  obtain ⟨f, fd, F, hm, b⟩ := h
  exact ⟨f, fd, F.okX S len fun cdv A outer s H vs Q E hr hs => hbody f cdv A outer s H vs Q E hr hs, hm, F.kp, b⟩
theorem CalX.mono {j k : Nat} {x : Str} {ps : List Str} {sp : Sp} (h : CalX P w K mg base j x ps sp) (hk : j ≤ k) : CalX P w K mg base k x ps sp := by
  obtain ⟨f, fd, F, r⟩ := h
  exact ⟨f, fd, F.mono hk, r⟩
end
theorem pe_calX {X : Cx} {W : WX} {j k : Nat} {x : Str} {ps : List Str} {sp : Sp} {p pos : Pos} {e : Expr} {es : List Expr} {t : TA} (C : CalX X.prog X.w X.K X.mg X.base j x ps sp) (hr : Room k X.A) (tk : Takes X W) (ha : PA X (e :: es) t) (hjk : j ≤ k := by decide) (hg : Gl X x := by rfl) (hdb : (x == ("__debug__" : Str)) = false := by decide)
    (he : starEach (e :: es) X.env = (false, eval e X.env) :: starEach es X.env := by rfl) (hpl : (backTo pos (starEach es X.env)).any (·.1) = false := by rfl) :
    PE X (.Call (.Name x p) (e :: es) [] pos) (tCallS sp (WE W) t) := by
  obtain ⟨f, fd, F, hm, kp, b⟩ := C
  exact pe_callS F (hr.mono hjk) hg hm kp b (fun σ => passAt tk σ) ha hdb he hpl
/-- raise C('..') -/
def tRaiseE (mg : Str → Option Value) (x : Str) (W : WX) : TS := fun _ σ H => ∀ C, mg x = some (.ref C) → W (.ref C) none σ H
theorem ps_raiseE {X : Cx} {W : WX} {x m : Str} {j : Nat} {C : Addr} {p p2 pos pos' : Pos} (T : XC X.K X.mg x C) (tk : Takes X W) (hc : X.calm = true := by rfl) (hg : Gl X x := by rfl) (hdb : (x == ("__debug__" : Str)) = false := by decide) :
    PS X (.Raise (some (.Call (.Name x p) [.Constant (.str m) j p2] [] pos)) none pos') (tRaiseE X.mg x W) :=
  ⟨fun pins s σ H D I h => (ps_raise hc tk (pmk_own PySem.F.excBase_ValueError T.q T.gC T.kp (raises_own T.ec.hs T.ty) hg hdb)).run pins s σ H D I (h C T.gC)⟩
section
variable {K : Fg} {mg : Str → Option Value} {te ta tb : TE} {t : TA} {ρ : List Sl} {O O1 O2 : Os} {W : WX}
theorem rx_callX {R : List PyData → Rx PyData → Prop} {ds : List PyData} {d : PyData} (hR : R ds (.ok d)) (ha : RA K t ρ O (ds.map .val) O1) : RX K (tCallS (SpX K mg R) (WE W) t) ρ O d O1 := ⟨fun _ _ _ _ _ _ Q E S k => ha.go E S fun vs F1 H1 f1 E1 S1 r1 =>
  ⟨F1, ds, .ok d, r1.all, S1.fh, hR, fun d' e v F' H' st r => by cases e; exact k v F' H' (f1.trans st.ff) (S1.call st) r, fun x e => by cases e⟩⟩
/-- it raises -/
structure RE (K : Fg) (mg : Str → Option Value) (W : WX) (t : TE) (ρ : List Sl) (O : Os) (x : Str) (O' : Os) : Prop where
  run : ∀ (F0 H0 : Hp) (D0 : List Addr) (σ : L2.St) (F H : Hp) (Q : VK), EnvR K F σ ρ → Hx K F0 H0 D0 F O H → (∀ C F' H', mg x = some (.ref C) → Same F F' → EnvR K F' σ ρ → Hx K F0 H0 D0 F' O' H' → W (.ref C) none σ H') → t σ H Q
theorem re_call {R : List PyData → Rx PyData → Prop} {ds : List PyData} {x : Str} (hR : R ds (.er x)) (ha : RA K t ρ O (ds.map .val) O1) : RE K mg W (tCallS (SpX K mg R) (WE W) t) ρ O x O1 := ⟨fun _ _ _ _ _ _ Q E S k => ha.go E S fun vs F1 H1 f1 E1 S1 r1 =>
  ⟨F1, ds, .er x, r1.all, S1.fh, hR, fun d' e => (by cases e), fun x' e C hC F' H' st => by cases e; exact k C F' H' hC (f1.trans st.ff) (E1.up st.ff) (S1.call st)⟩⟩
theorem re_op {r : R2} {x : Str} (h : RE K mg W ta ρ O x O1) : RE K mg W (tOp r ta tb) ρ O x O1 := ⟨fun _ _ _ _ _ _ Q E S k => h.run _ _ _ _ _ _ _ E S k⟩
theorem re_cb {r : List V → Hp → VK → Prop} {ts : TA} {x : Str} (h : RE K mg W ta ρ O x O1) : RE K mg W (tCB r (tCons ta ts)) ρ O x O1 := ⟨fun _ _ _ _ _ _ Q E S k => h.run _ _ _ _ _ _ _ E S k⟩
/-! ### isinstance(e, ..), e the exception in hand -/
def rIsX (K : Fg) (a : Addr) (cls : Value) (d : Option Addr) : List V → Hp → VK → Prop := fun xs H Q => ∃ (D : Addr) (c : V) (cv : Value) (b : Bool), cls = .ref D ∧ d = none ∧ ExcC K D ∧ xs = [.ref a, c] ∧ ClsV c cv ∧ PySem.W.kitOne K (.ref D) cv = some b ∧ Q (.bl b) H
def rIsXT (K : Fg) (a : Addr) (cls : Value) (d : Option Addr) : List V → Hp → VK → Prop := fun xs H Q => ∃ (D : Addr) (tp : Addr) (cs : List V) (us : List Value) (b : Bool), cls = .ref D ∧ d = none ∧ ExcC K D ∧ xs = [.ref a, .ref tp] ∧ H tp = some (.tup cs) ∧ Paired ClsV cs us ∧ PySem.W.kitAny K (.ref D) us = some b ∧ Q (.bl b) H
theorem k_isX {X : Cx} (K : Fg) {a : Addr} {oe : Obj} {cls : Value} {d : Option Addr} {pn : List (Addr × Obj)} (hz : Zc cls d oe) (hf : ∃ vs, oe.data = .fields vs) (hK : X.K = K := by rfl) : CallR (X.suite a ((a, oe) :: pn)) (.builtin "isinstance") (rIsX K a cls d) := by
  subst hK
  intro pins s σ H xs us Q I r h
  obtain ⟨D, c, cv, b, rfl, rfl, ec, rfl, k, e, q⟩ := h
  exact call_isE ec hz hf pins s σ H _ us Q I r ⟨c, cv, b, rfl, fun u hu => k.eq hu, e, q⟩
theorem k_isXT {X : Cx} (K : Fg) {a : Addr} {oe : Obj} {cls : Value} {d : Option Addr} {pn : List (Addr × Obj)} (hz : Zc cls d oe) (hf : ∃ vs, oe.data = .fields vs) (hK : X.K = K := by rfl) : CallR (X.suite a ((a, oe) :: pn)) (.builtin "isinstance") (rIsXT K a cls d) := by
  subst hK
  intro pins s σ H xs us Q I r h
  obtain ⟨D, tp, cs, ws, b, rfl, rfl, C, rfl, hT, k, e, q⟩ := h
  cases r with
  | cons rx rr =>
    cases rr with
    | @cons _ u2 _ _ rt rr =>
      cases rr
      cases rx
      cases (show u2 = Value.ref tp from rt)
      obtain ⟨hget, _⟩ := I.pin (a, oe) (List.mem_append.mpr (.inl List.mem_cons_self))
      obtain ⟨vs, hv⟩ := hf
      have J : PySem.W.InstAt s.heap a oe D none := by
        obtain ⟨oc, od, oda, osl⟩ := oe
        obtain ⟨h1, h2⟩ := hz
        dsimp only at h1 h2 hv
        subst h1 h2 hv
        exact ⟨hget, rfl, rfl, trivial⟩
      obtain ⟨_, its, rv, o, h1, h2, n, h3⟩ := (show ObjOk X.prog X.w H s.heap tp (.tup cs) from I.hok tp _ hT)
      have e3 := ClsV.all k rv
      subst e3
      obtain ⟨oc, od, dt, sl⟩ := o
      simp only at h2 h3
      subst h2 h3
      exact PySem.W.kia_tup (PySem.W.handS_kitx_exc C.hg C.hk C.hs C.hd C.ha C.hn C.ht C.hm) I.kIn J h1 e (fun z => nomatch z) fun tk => ⟨.bl b, H, I.kept (t' := tk) fun _ _ z => z, rfl, q⟩
theorem rx_isX {i : Nat} {a D : Addr} {c : V} {cv : Value} {b : Bool} (hs : ρ[i]? = some (.adr a)) (ec : ExcC K D) (k : ClsV c cv) (e : PySem.W.kitOne K (.ref D) cv = some b) : RX K (tCB (rIsX K a (.ref D) none) (tCons (tVar i) (tCons (tC c) tNil))) ρ O (.bool b) O := ⟨fun _ _ _ _ F H Q E S kk =>
  ⟨_, E.adr hs, D, c, cv, b, rfl, rfl, ec, rfl, k, e, kk _ F H (Same.refl _) S (.bl b)⟩⟩
def tCs : List V → TA
  | [] => tNil
  | c :: cs => tCons (tC c) (tCs cs)
theorem tCs_run : ∀ (cs : List V) (σ : L2.St) (H : Hp) (Q : List V → Hp → Prop), Q cs H → tCs cs σ H Q
  | [], σ, H, Q, h => h
  | c :: cs, σ, H, Q, h => tCs_run cs σ H (fun vs H' => Q (c :: vs) H') h
theorem rx_isXT {i : Nat} {a D : Addr} {cs : List V} {us : List Value} {b : Bool} (hs : ρ[i]? = some (.adr a)) (ec : ExcC K D) (hl : cs.length ≤ 1000) (k : Paired ClsV cs us) (e : PySem.W.kitAny K (.ref D) us = some b) : RX K (tCB (rIsXT K a (.ref D) none) (tCons (tVar i) (tCons (tTup (tCs cs)) tNil))) ρ O (.bool b) O := ⟨fun _ _ _ _ F H Q E S kk =>
  ⟨_, E.adr hs, tCs_run cs _ _ _ ⟨by rw [sizeLine_eq]; omega, fun T hT => ⟨D, T, cs, us, b, rfl, rfl, ec, rfl, upd_same, k, e, kk _ F _ (Same.refl _) (S.junk hT) (.bl b)⟩⟩⟩⟩
theorem st_setTU3 {R : List PyData → List (List PyData) → Prop} {ds : List PyData} {e1 e2 e3 : List PyData} {i j l : Nat} {E0 : XK} {D : Ends} {σ : L2.St} {F0 H0 F H : Hp} {D0 : List Addr} (hR : R ds [e1, e2, e3]) (ha : RA K t ρ O (ds.map .val) O1) (E : EnvR K F σ ρ) (S : Hx K F0 H0 D0 F O H)
    (k : ∀ (p q r : Addr) (σ' : L2.St) (F' H' : Hp), Same F F' → EnvR K F' σ' (((ρ.set i (.adr p)).set j (.adr q)).set l (.adr r)) → Hx K F0 H0 D0 F' (⟨p, true, e1⟩ :: ⟨q, true, e2⟩ :: ⟨r, true, e3⟩ :: O1) H' → D.nx σ' H') :
    tAsg (tCall (SpT K R) [] E0 t) (gTup K 3 (gCons (gName i) (gCons (gName j) (gCons (gName l) gNil)))) D σ H :=
  ha.go E S fun vs F1 H1 f1 E1 S1 r1 => by
    show SpT K R (vs ++ []) H1 _ E0
    rw [List.append_nil]
    refine ⟨F1, ds, _, r1.all, S1.fh, hR, fun T ps F' H' st q hl nd h => ?_⟩
    have S2 := S1.inT st hl nd h
    obtain ⟨p, q', r, rfl⟩ := len3 hl
    have E2 := E1.up st.ff
    exact ⟨T, _, rfl, same_t S2.fh q, rfl, _, _, rfl, _, _, rfl, _, _, rfl, rfl, k p q' r _ F' H' (f1.trans st.ff) (EnvR.seta (EnvR.seta (EnvR.seta E2 i) j) l) S2⟩
theorem kit_none {D : Addr} : ∀ (us : List Value), (∀ u ∈ us, PySem.W.kitOne K (.ref D) u = some false) → PySem.W.kitAny K (.ref D) us = some false
  | [], _ => kitAny_nil
  | u :: us, h => kitAny_cons (h u (List.mem_cons_self ..)) (fun _ => kit_none us fun y hy => h y (List.mem_cons_of_mem _ hy)) fun z => by cases z
end
end TL

/-! texts: a.join(list of texts), text * int -/
namespace L2
open PySem PySem.Spec PyProof.Rows
def rMulS : R2 := fun x y H Q => ∃ (z : Str) (n : Int), x = .str z ∧ y = .int n ∧ MulOk z n ∧ Q (.str (Txt.mul z n)) H
theorem op_mulS {X : Cx} : OpR X (binaryOp .Mult) rMulS := by
  intro pins s σ H x y v u Q I rx ry h
  obtain ⟨z, n, rfl, rfl, hok, q⟩ := h
  obtain ⟨t, rfl⟩ := rx
  obtain ⟨t', rfl⟩ := ry
  exact SB.mul hok fun t' k => ⟨.str _, H, I.tok k, ⟨_, rfl⟩, q⟩
end L2
namespace TL
open PySem L2
open Enc
def joinO (a : Str) (ys : List Str) : Option Str := if (ys.map (·.length)).sum + ys.length * a.length ≤ 16777216 then some (Txt.join a ys) else none
def mulSO (z : Str) (n : Int) : Option Str := if z.length ≤ 1000 ∧ 0 ≤ n ∧ n ≤ 1000 then some (Txt.mul z n) else none
section
variable {K : Fg} {ta tb : TE} {ρ : List Sl} {O O1 O2 : Os}
def rJoin (K : Fg) : V → List V → Hp → VK → Prop := fun x xs H Q => ∃ a p, ∃ ys : List Str, x = .str a ∧ xs = [.ref p] ∧ (SqL K H p (ys.map V.str) ∨ SqT K H p (ys.map V.str)) ∧ (ys.map (·.length)).sum + ys.length * a.length ≤ 16777216 ∧ Q (.str (Txt.join a ys)) H
theorem k_join {X : Cx} (K : Fg) {o e : Expr} {to te : TE} {apos pos : Pos} (ho : PE X o to) (he : PE X e te) (hs : starEach [e] X.env = [(false, eval e X.env)] := by rfl) (hbase : attributeBase o "join" X.env (eval o X.env) = eval o X.env := by rfl) (hline : (apos.endLine == pos.line) = true := by rfl) (hK : X.K = K := by rfl) :
    PE X (.Call (.Attribute o "join" apos) [e] [] pos) (tM1 (rJoin K) to te) := by subst hK; exact pe_join ho he hs hbase hline
theorem rx_join {a z : Str} {ys : List Str} (h : joinO a ys = some z) (ha : RX K ta ρ O (.str a) O1) (hb : RXs K tb ρ O1 (ys.map .str) O2) : RX K (tM1 (rJoin K) ta tb) ρ O (.str z) O2 := ⟨fun _ _ _ _ _ _ Q E S k => by
  unfold joinO at h
  split at h
  · rename_i hc
    cases h
    refine ha.go E S fun x F1 H1 f1 E1 S1 r1 => ?_
    cases r1
    refine ⟨⟨a, rfl⟩, hb.go E1 S1 fun p F2 H2 f2 E2 S2 r2 => ?_⟩
    obtain ⟨vs, q1, q2, q3⟩ := r2 F2 H2 (Same.refl _) S2
    have hv := q3.strs
    subst hv
    exact ⟨a, p, ys, rfl, rfl, .inl q1, hc, k _ F2 H2 (f1.trans f2) S2 (.str _)⟩
  · cases h⟩
theorem rx_mulS {z r : Str} {n : Int} (h : mulSO z n = some r) (ha : RX K ta ρ O (.str z) O1) (hb : RX K tb ρ O1 (.int n) O2) : RX K (tOp rMulS ta tb) ρ O (.str r) O2 := ⟨fun _ _ _ _ _ _ Q E S k => by
  unfold mulSO at h
  split at h
  · rename_i hc
    cases h
    refine ha.go E S fun x F1 H1 f1 E1 S1 r1 => hb.go E1 S1 fun y F2 H2 f2 E2 S2 r2 => ?_
    cases r1
    cases r2
    refine ⟨z, n, rfl, rfl, ⟨?_, fun h1 h2 => ?_, fun h1 h2 => ?_⟩, k _ F2 H2 (f1.trans f2) S2 (.str _)⟩
    · rw [decide_eq_false (by omega), decide_eq_false (by omega)]; rfl
    · have : (1000 : Int) ≤ (2 ^ 63 - 1) / n := by
        rw [Int.le_ediv_iff_mul_le (by omega)]
        omega
      omega
    · have := Nat.mul_le_mul (show z.length ≤ 1000 by omega) (show n.toNat ≤ 1000 by omega)
      unfold Builtin.Str.tooLong
      rw [sizeLine_eq]
      exact decide_eq_false (by omega)
  · cases h⟩
/-- a tuple of texts of the module's own top -/
def GT (K : Fg) (a : Addr) (ss : List Str) : Prop := ∃ (o : Obj) (its : Array Value) (n : Nat), K.lookup a = some o ∧ o.cls = .type "tuple" ∧ o.data = .seq its n ∧ its.size ≤ sizeLine ∧ Vals (ss.map V.str) its.toList
theorem RpAll.of_strs {F : Hp} : ∀ (ss : List Str), RpAll K F (ss.map V.str) (ss.map PyData.str)
  | [] => .nil
  | n :: ns => .cons (.str n) (RpAll.of_strs ns)
theorem rx_gtup {a : Addr} {ss : List Str} (h : GT K a ss) : RX K (tC (.ref a)) ρ O (enc (Tp.mk ss)) O := ⟨fun _ _ _ _ F H Q E S k => by
  obtain ⟨o, its, n, h1, h2, h3, h4, h5⟩ := h
  have hl := h5.length
  exact k _ F H (Same.refl _) S (.tup (.inr ⟨o, its, n, h1, h2, h3, h4, h5⟩) (by rw [hl, Array.length_toList]; exact h4) (RpAll.of_strs ss))⟩
end
end TL

/-! sorting pairs of an int and a tuple of ints: sorted(l), sorted(l, key=f) -/
namespace SrtT
open PySem PyProof.Rows Srt SrtO PySem.SeqAt
theorem ints_at : ∀ {vs : List Value} {ns : List Int}, IntsAre vs ns → ∀ (i : Nat) (h : i < vs.length), ∃ (n : Int) (t : Tok), vs[i] = .int n t ∧ ns[i]? = some n
  | _, _, .nil, i, h => by simp at h
  | _, _, .cons n t r, 0, h => ⟨n, t, rfl, rfl⟩
  | _, _, .cons n t r, i + 1, h => by
    obtain ⟨m, u, e1, e2⟩ := ints_at r i (by simpa using h)
    exact ⟨m, u, by simpa using e1, by simpa using e2⟩
theorem ints_uniq : ∀ {vs : List Value} {ns ms : List Int}, IntsAre vs ns → IntsAre vs ms → ns = ms
  | _, _, _, .nil, .nil => rfl
  | _, _, _, .cons n t r, h => by
    cases h with
    | cons _ _ r' => rw [ints_uniq r r']
theorem eq_all {ns ms : List Int} : ((List.range (min ns.length ms.length)).all (fun j => decide (ns[j]? = ms[j]?)) && ns.length == ms.length) = decide (ns = ms) := by
  rw [Bool.eq_iff_iff, Bool.and_eq_true, List.all_eq_true, beq_iff_eq, decide_eq_true_eq]
  constructor
  · rintro ⟨h1, h2⟩
    apply List.ext_getElem?
    intro i
    by_cases q : i < ns.length
    · exact of_decide_eq_true (h1 i (List.mem_range.mpr (by omega)))
    · rw [List.getElem?_eq_none (by omega), List.getElem?_eq_none (by omega)]
  · rintro rfl
    exact ⟨fun x _ => decide_eq_true rfl, rfl⟩
theorem eq_tupInts {A : Around} {s : Shared} {l b : Addr} {items items2 : Array Value} {ns ms : List Int} (hl : s.heap.IsTuple l items) (hb : s.heap.IsTuple b items2) (hi : IntsAre items.toList ns) (hj : IntsAre items2.toList ms) (hu : A.units < cLine) : EqAt A s (.ref l) (.ref b) (decide (ns = ms)) := by
  by_cases e : l = b
  · subst e
    obtain ⟨o, ho, hc, n, hd⟩ := id hl
    obtain ⟨o2, ho2, hc2, n2, hd2⟩ := id hb
    rw [ho] at ho2
    cases ho2
    rw [hd] at hd2
    cases hd2
    have e := ints_uniq hi hj
    rw [decide_eq_true e]
    exact EqAt.same _
  · have h1 := hi.length
    have h2 := hj.length
    rw [Array.length_toList] at h1 h2
    have r := RcAt.tuples (A := A) (s := s) (e := fun j => decide (ns[j]? = ms[j]?)) hl hb hu fun j q1 q2 => by
      obtain ⟨n, t, e1, e2⟩ := ints_at hi j (by simpa using q1)
      obtain ⟨m, u, e3, e4⟩ := ints_at hj j (by simpa using q2)
      rw [Array.getElem_toList] at e1 e3
      rw [e1, e3, e2, e4]
      have := EqAt.int_int (A := A.in1) (s := s) n t m u
      have e5 : (n == m) = decide (some n = some m) := by rw [Bool.eq_iff_iff]; simp
      rw [e5] at this
      exact this
    have e2 : (items.size == items2.size) = (ns.length == ms.length) := by rw [h1, h2]
    rw [h1, h2, eq_all] at r
    exact EqAt.of_refs e r
/-- v is a tuple of an int and a tuple of ints -/
def IsPT (h : Heap) (v : Value) (ks : List Int) : Prop := ∃ (a : Addr) (o : Obj) (x : Int) (t : Tok) (b : Addr) (n : Nat) (items : Array Value) (ns : List Int), ks = x :: ns ∧ v = .ref a ∧ h.get? a = some o ∧ o.cls = .type "tuple" ∧ o.data = .seq #[.int x t, .ref b] n ∧ h.IsTuple b items ∧ IntsAre items.toList ns
theorem IsPT.keeps {h h' : Heap} {v : Value} {ks : List Int} (p : IsPT h v ks) (k : ∀ b o, h.get? b = some o → o.cls = .type "tuple" → h'.get? b = some o) : IsPT h' v ks := by
  obtain ⟨a, o, x, t, b, n, items, ns, e, e2, ho, hc, hd, ⟨o2, ho2, hc2, n2, hd2⟩, hi⟩ := p
  exact ⟨a, o, x, t, b, n, items, ns, e, e2, k _ _ ho hc, hc, hd, ⟨o2, k _ _ ho2 hc2, hc2, n2, hd2⟩, hi⟩
theorem pt_firsts {h : Heap} {k : Value → List Int} : ∀ {vs : List Value}, (∀ v ∈ vs, IsPT h v (k v)) → ∃ fs : List Value, PySem.W.KatTups h vs fs ∧ fs.length = vs.length ∧ ∀ f ∈ fs, ∃ x t, f = Value.int x t
  | [], _ => ⟨[], PySem.W.KatTups.nil, rfl, fun _ hm => by simp at hm⟩
  | v :: vs, hp => by
    obtain ⟨fs, h1, h2, h3⟩ := pt_firsts (vs := vs) fun v' hm => hp v' (List.mem_cons_of_mem _ hm)
    obtain ⟨a, o, x, t, b, n, items, ns, _, e, ho, hc, hd, _⟩ := hp v (List.mem_cons_self ..)
    subst e
    refine ⟨.int x t :: fs, PySem.W.KatTups.cons ho hc hd rfl h1, by rw [List.length_cons, List.length_cons, h2], fun f hm => ?_⟩
    rcases List.mem_cons.mp hm with rfl | hm
    · exact ⟨x, t, rfl⟩
    · exact h3 f hm
section
variable {prog : Program} {w : World} {A : Around} {E : Value → Shared → Prop} {s : Shared}
theorem pt_lt {v u : Value} {ks js : List Int} {Q : Bool → Shared → Prop} {E : Value → Shared → Prop} (hu : A.units < cLine) (h1 : IsPT s.heap v ks) (h2 : IsPT s.heap u js) (h : Q (HT.lexLt ks js) s) : wpAny (model prog w) A (keyLt' (tuples' true) v u) Q E s := by
  obtain ⟨a, o, x, t, b, n, items, ns, rfl, rfl, ho, hc, hd, hb, hi⟩ := h1
  obtain ⟨a', o', x', t', b', n', items', ms, rfl, rfl, ho', hc', hd', hb', hi'⟩ := h2
  refine PySem.W.kat_lt ho hd ho' hd' ?_
  show PySem.W.KatLex prog w A true (decide (2 < 2)) _ [(.int x t, .int x' t'), (.ref b, .ref b')] 0 s
  refine PySem.W.kat_cons (SeqAt.EqAt.int_int x t x' t' prog w _ _ ?_)
  have hlex : HT.lexLt (x :: ns) (x' :: ms) = if x = x' then HT.lexLt ns ms else decide (x < x') := rfl
  rw [hlex] at h
  refine PySem.W.kat_go (fun e1 => ?_) (fun e1 => ?_)
  · have ex : x = x' := by simpa using e1
    rw [if_pos ex] at h
    refine PySem.W.kat_yes (PySem.W.kat_cons (eq_tupInts hb hb' hi hi' hu prog w _ _ ?_))
    refine PySem.W.kat_go (fun e2 => ?_) (fun e2 => ?_)
    · have ey : ns = ms := by simpa using e2
      have e3 : HT.lexLt ns ms = false := by
        rw [ey]
        have := (NtL.swo_lexL (fun l : List Int => l)).asym ms ms
        cases q : HT.lexLt ms ms with
        | false => rfl
        | true => exact (this q).symm.trans q |>.symm ▸ rfl
      rw [e3] at h
      exact PySem.W.kat_yes (PySem.W.kat_nil h)
    · exact PySem.W.kat_no (PySem.W.kat_one _ _ (HT.lt_tupInts hb hb' hi hi' hu h))
  · have ex : ¬ x = x' := by simpa using e1
    rw [if_neg ex] at h
    exact PySem.W.kat_no (oneLt_int h)
theorem pt_cmp {vs : List Value} {k : Value → List Int} (hu : A.units < cLine) (hp : ∀ v ∈ vs, IsPT s.heap v (k v)) : Cmp prog w A s (tuples' true) (fun p => p.1 ∈ vs) (lt2 fun v u => HT.lexLt (k v) (k u)) := by
  intro p q hm hm'
  exact pt_lt hu (hp _ hm) (hp _ hm') ⟨rfl, rfl⟩
theorem pt_kind {vs : List Value} {k : Value → List Int} {Q : SortKind → Shared → Prop} {E : Value → Shared → Prop} (h0 : 0 < vs.length) (hp : ∀ v ∈ vs, IsPT s.heap v (k v)) (h : Q (tuples' true) s) : wpAny (model prog w) A (keyKind' vs.toArray) Q E s := by
  obtain ⟨fs, h1, h2, h3⟩ := pt_firsts hp
  refine PySem.W.kat_kind (T := .type "int") h1 (by omega) (fun f hm => ?_) (by rfl) ?_
  · obtain ⟨x, t, rfl⟩ := h3 f hm
    exact PySem.W.Looks.now
  · have e : (Value.type "int" != Value.type "tuple") = true := by first | decide +kernel | rfl | decide
    rw [e]
    exact h
theorem pt_sortable {a : Addr} {vs : List Value} {k : Value → List Int} (hu : A.units < cLine) (h0 : 0 < vs.length) (hp : ∀ v ∈ vs, IsPT s.heap v (k v)) (ha : ∀ o, s.heap.get? a = some o → o.cls ≠ .type "tuple") : SortableO prog w A s a vs fun v u => HT.lexLt (k v) (k u) := by
  intro h' keep
  have hp' : ∀ v ∈ vs, IsPT h' v (k v) := fun v hm => (hp v hm).keeps fun b o e c => keep b o (fun z => by subst z; exact ha o e c) e
  exact ⟨tuples' true, fun Q E hq => pt_kind (s := { s with heap := h' }) h0 hp' hq, pt_cmp (s := { s with heap := h' }) hu hp'⟩
end
end SrtT

/-! sorted(l, key=f), f a def of the text -/
namespace SrtT
open PySem PyProof.Rows Srt SrtO PySem.SeqAt PySem.W
section
variable {prog : Program} {w : World} {A : Around} {E : Value → Shared → Prop} {s : Shared}
theorem IsPT.uniq {h : Heap} {v : Value} {ks js : List Int} (x : IsPT h v ks) (y : IsPT h v js) : ks = js := by
  obtain ⟨a, o, x1, t, b, n, items, ns, rfl, rfl, ho, hc, hd, ⟨ob, hob, hcb, nb, hdb⟩, hi⟩ := x
  obtain ⟨a', o', x2, t', b', n', items', ms, rfl, e, ho', hc', hd', ⟨ob', hob', hcb', nb', hdb'⟩, hi'⟩ := y
  cases e
  rw [ho] at ho'
  cases ho'
  rw [hd] at hd'
  have e0 := (Data.seq.inj hd').1
  have e1 := congrArg Array.toList e0
  simp only at e1
  have e2 := List.cons.inj e1
  have e3 := List.cons.inj e2.2
  have e4 : x1 = x2 := by have := e2.1; injection this
  have e5 : b = b' := by have := e3.1; injection this
  subst e4 e5
  rw [hob] at hob'
  cases hob'
  rw [hdb] at hdb'
  cases hdb'
  rw [ints_uniq hi hi']
open Classical in
noncomputable def keyAt (h : Heap) (v : Value) : List Int := if p : ∃ ks, IsPT h v ks then Classical.choose p else []
theorem keyAt_eq {h : Heap} {v : Value} {ks : List Int} (p : IsPT h v ks) : keyAt h v = ks := by
  unfold keyAt
  rw [dif_pos ⟨ks, p⟩]
  exact (Classical.choose_spec (p := fun ks => IsPT h v ks) ⟨ks, p⟩).uniq p
theorem zip_swap (g : Value → List Int) : ∀ (ks is : List Value), (ks.zip is).map (fun p : Keyed => (p.2, g p.1)) = is.zip (ks.map g)
  | [], is => by simp
  | k :: ks, [] => by simp
  | k :: ks, i :: is => by rw [List.zip_cons_cons, List.map_cons, zip_swap g ks is]; rfl
/-- the end of a sort by keys -/
theorem key_end {a kS : Addr} {items : List Value} {keys : Array Value} {ds : List (List Int)} {e e1 : Nat} {P : PySem.Fin → Shared → Prop} (hu : A.units < cLine) (hk : s.heap.get? kS = some (seqObj "list" keys e)) (ha : s.heap.get? a = some (seqObj "list" #[] e1)) (hne : kS ≠ a)
    (hl : keys.toList.length = items.length) (hz : items.length ≤ sizeLine) (hd : ds.length = items.length) (hp : ∀ (i : Nat) v ks, keys.toList[i]? = some v → ds[i]? = some ks → IsPT s.heap v ks)
    (h : ∀ (h' : Heap) (zs : List (Value × List Int)) (c : Nat), (∀ b o, b ≠ a → (s.heap.update kS (Obj.mapSeq fun _ => (#[] : Array Value))).get? b = some o → h'.get? b = some o) → zs.Perm (items.zip ds) → zs.Pairwise (fun p q => HT.lexLt q.2 p.2 = false) → h'.get? a = some (seqObj "list" (zs.map (·.1)).toArray c) →
      P (.done (.ret .none)) { s with heap := h' }) : wpAny (model prog w) A (ksk_end a false items.toArray e1 (.ref kS) keys) P E s := by
  have hlen : keys.size = items.length := by rw [← hl, Array.length_toList]
  have hkz : (keys.zip items.toArray).toList = keys.toList.zip items := ksk_zip keys items
  have fin : ∀ st : SortSt, Srtd (lt2 fun v u => HT.lexLt (keyAt s.heap v) (keyAt s.heap u)) (arrOf st).toList → Stb (lt2 fun v u => HT.lexLt (keyAt s.heap v) (keyAt s.heap u)) (arrOf st).toList (keys.zip items.toArray).toList → failedOf st = none → wpAny (model prog w) A (ksk_tail a false e1 (.ref kS) st) P E s := by
    intro st h1 h2 hf
    have hpm := h2.perm
    rw [hkz] at hpm
    have hsz : ((arrOf st).map (·.2)).size = items.length := by
      rw [Array.size_map, ← Array.length_toList, hpm.length_eq, List.length_zip]
      omega
    unfold ksk_tail
    try dsimp only
    have s1 := Heap.SameBut.update s.heap kS (Obj.mapSeq fun _ => (#[] : Array Value))
    have na1 : (s.heap.update kS (Obj.mapSeq fun _ => (#[] : Array Value))).get? a = some (seqObj "list" #[] e1) := (s1.2 a hne.symm).trans ha
    have s2 := Heap.SameBut.update (s.heap.update kS (Obj.mapSeq fun _ => (#[] : Array Value))) a (Obj.mapSeq fun _ => (arrOf st).map (·.2))
    obtain ⟨c2, hc2⟩ : ∃ c2, ((s.heap.update kS (Obj.mapSeq fun _ => (#[] : Array Value))).update a (Obj.mapSeq fun _ => (arrOf st).map (·.2))).get? a = some (seqObj "list" ((arrOf st).map (·.2)) c2) := ⟨_, get?_update_seq na1 fun _ => (arrOf st).map (·.2)⟩
    obtain ⟨c3, hc3⟩ : ∃ c3, (s.heap.update kS (Obj.mapSeq fun _ => (#[] : Array Value))).get? kS = some (seqObj "list" #[] c3) := ⟨_, get?_update_seq hk fun _ => #[]⟩
    refine wpAny_bind (listUpdate_at hk rfl ?_ (by rw [hlen]; exact hz) (Nat.zero_le _))
    refine wpAny_bind (wpAny_letGo ?_)
    refine wpAny_bind (seqEpoch_at na1 rfl ?_)
    refine wpAny_bind (listUpdate_at na1 rfl ?_ (Nat.zero_le _) (by show ((arrOf st).map (·.2)).size ≤ _; rw [hsz]; omega))
    rw [hf]
    simp only [bne_self_eq_false, Bool.false_eq_true, if_false]
    have hzm : ((arrOf st).toList.map fun p : Keyed => (p.2, keyAt s.heap p.1)).Perm (items.zip ds) := by
      have q := hpm.map (fun p : Keyed => (p.2, keyAt s.heap p.1))
      have e2 : (keys.toList.zip items).map (fun p : Keyed => (p.2, keyAt s.heap p.1)) = items.zip ds := by
        rw [zip_swap (keyAt s.heap)]
        congr 1
        apply List.ext_getElem?
        intro i
        rw [List.getElem?_map]
        by_cases q : i < ds.length
        · have hi : i < keys.toList.length := by omega
          rw [List.getElem?_eq_getElem hi, List.getElem?_eq_getElem q]
          exact congrArg some (keyAt_eq (hp i _ _ (List.getElem?_eq_getElem hi) (List.getElem?_eq_getElem q)))
        · rw [List.getElem?_eq_none (by omega), List.getElem?_eq_none (by omega)]; rfl
      rw [e2] at q
      exact q
    refine wpAny_pure (h _ ((arrOf st).toList.map fun p : Keyed => (p.2, keyAt s.heap p.1)) c2 (fun b o n2 q => ?_) hzm ?_ ?_)
    · exact (s2.2 b n2).trans q
    · rw [List.pairwise_map]
      exact h1
    · rw [hc2, List.map_map]
      congr 3
      apply Array.ext'
      simp [Array.toList_map]
  unfold ksk_end
  try dsimp only
  simp only [Bool.false_eq_true, if_false]
  by_cases h2 : items.toArray.size < 2
  · rw [if_pos h2, if_pos h2]
    refine wpAny_bind (wpAny_pure ?_)
    rw [StateT.run_pure]
    refine wpAny_bind (wpAny_pure ?_)
    try dsimp only
    refine fin (SortSt.mk' general' (keys.zip items.toArray) #[] 7 none) ?_ (Stb.refl _) rfl
    show Srtd _ (keys.zip items.toArray).toList
    rw [hkz]
    have h3 : (keys.toList.zip items).length < 2 := by rw [List.length_zip]; simp at h2; omega
    match q : keys.toList.zip items, h3 with
    | [], _ => exact List.Pairwise.nil
    | [v], _ => exact List.pairwise_singleton _ _
    | _ :: _ :: l, h => exact absurd h (by rw [List.length_cons, List.length_cons]; omega)
  · rw [if_neg h2, if_neg h2]
    have h2' : 2 ≤ items.length := by simp at h2; omega
    have hmem : ∀ v ∈ keys.toList, IsPT s.heap v (keyAt s.heap v) := fun v hv => by
      obtain ⟨i, hi⟩ := List.mem_iff_getElem?.mp hv
      have hil : i < ds.length := by
        have := (List.getElem?_eq_some_iff.mp hi).1
        omega
      have p := hp i v ds[i] hi (List.getElem?_eq_getElem hil)
      rw [keyAt_eq p]
      exact p
    have hkk : keys = keys.toList.toArray := by simp
    refine wpAny_bind ?_
    rw [hkk]
    refine pt_kind (k := keyAt s.heap) (by omega) hmem ?_
    rw [← hkk]
    have T := pt_cmp (prog := prog) (w := w) (A := A) (s := s) (vs := keys.toList) (k := keyAt s.heap) hu hmem
    have hall : AllL (fun p : Keyed => p.1 ∈ keys.toList) (keys.zip items.toArray).toList := fun p hm => by
      rw [hkz] at hm
      exact (List.of_mem_zip hm).1
    refine wpAny_bind (wpAny_mono (wpS_sortO (st0 := SortSt.mk' (tuples' true) (keys.zip items.toArray) #[] 7 none)
      (Q := fun _ st' => Srtd (lt2 fun v u => HT.lexLt (keyAt s.heap v) (keyAt s.heap u)) (arrOf st').toList ∧ Stb (lt2 fun v u => HT.lexLt (keyAt s.heap v) (keyAt s.heap u)) (arrOf st').toList (keys.zip items.toArray).toList ∧ failedOf st' = none) (swo2 (NtL.swo_lexL (keyAt s.heap))) T rfl hall rfl rfl fun st' a1 a2 a3 => ⟨a1, a2, a3⟩) ?_ fun _ _ e => e)
    rintro ⟨⟨⟩, st'⟩ s' ⟨rfl, hp1, hp2, hf⟩
    try dsimp only
    exact fin st' hp1 hp2 hf
end
end SrtT
namespace L2
open PySem PySem.Spec PyProof.Rows PySem.W SrtT
/-- the key: a tuple of an int and a tuple of ints -/
def PtV (K : PySem.W.Frag) (H : Hp) (x : V) (ks : List Int) : Prop := ∃ (t b : Addr) (y : Int) (ns : List Int), ks = y :: ns ∧ x = .ref t ∧ SqT K H t [.int y, .ref b] ∧ SqT K H b (ns.map V.int)
theorem PtV.is {X : Cx} {pins : List (Addr × Obj)} {σ : St} {H : Hp} {s : Shared} {x : V} {u : Value} {ks : List Int} (I : Inv X pins σ H s) (p : PtV X.K H x ks) (r : RelV x u) : IsPT s.heap u ks := by
  obtain ⟨t, b, y, ns, rfl, rfl, ht, hb⟩ := p
  cases (show u = Value.ref t from r)
  obtain ⟨its, rv, ⟨o, ho, hc, n, hd⟩, _⟩ := I.tuple ht
  obtain ⟨its2, rv2, hb2, _⟩ := I.tuple hb
  cases rv with
  | cons r1 rr =>
    cases rr with
    | @cons _ u2 _ _ r2 rr =>
      cases rr
      obtain ⟨t1, rfl⟩ := r1
      cases (show u2 = Value.ref b from r2)
      exact ⟨t, o, y, t1, b, n, its2.toArray, ns, rfl, rfl, ho, hc, hd, hb2, ints_of_vals rv2⟩
/-- W i ks H: i items have their keys; kS holds them -/
structure KeyW (sp : Sp) (E : XK) (K : PySem.W.Frag) (xs : List V) (ds : List (List Int)) (kS : Addr) (W : Nat → Hp → Prop) (Q : VK) : Prop where
  at_ : ∀ i H, W i H → ∃ acc, H kS = some (.lst acc) ∧ acc.length = i
  turn : ∀ (i : Nat) (x : V) H acc, xs[i]? = some x → W i H → H kS = some (.lst acc) → sp [x] H (fun v H' => H' kS = some (.lst acc) ∧ W (i + 1) (upd H' kS (.lst (acc ++ [v])))) E
  keys : ∀ H acc, W xs.length H → H kS = some (.lst acc) → ∀ (i : Nat) v ks, acc[i]? = some v → ds[i]? = some ks → PtV K H v ks
  fin : ∀ H (zs : List (V × List Int)) (p : Addr), W xs.length H → zs.Perm (xs.zip ds) → zs.Pairwise (fun p q => HT.lexLt q.2 p.2 = false) → H p = none → p ≠ kS → Q (.ref p) (upd (upd H kS (.lst [])) p (.lst (zs.map (·.1))))
def rSortKeyF (K : PySem.W.Frag) (f : Addr) (sp : Sp) (E : XK) : List V → List V → Hp → VK → Prop := fun vs zs H Q => ∃ (a : Addr) (xs : List V) (ds : List (List Int)), vs = [V.ref a] ∧ zs = [.ref f] ∧ SqL K H a xs ∧ xs.length < sizeLine ∧ ds.length = xs.length ∧ (∀ x ∈ xs, ∃ p, x = V.ref p) ∧
  ∀ kS, H kS = none → ∃ W, W 0 (upd H kS (.lst [])) ∧ KeyW sp E K xs ds kS W Q
section
variable {X : Cx} {CX : CXT} {k : Nat} {f : Addr} {fd : FuncData} {ps : List Str} {sp : Sp} {E : XK}
theorem vals_at : ∀ {xs : List V} {us : List Value}, Vals xs us → ∀ (i : Nat) (u : Value), us[i]? = some u → ∃ x, xs[i]? = some x ∧ RelV x u
  | _, _, .nil, i, u, h => by simp at h
  | _, _, .cons r t, 0, u, h => by simp at h; subst h; exact ⟨_, rfl, r⟩
  | _, _, .cons r t, i + 1, u, h => by
    obtain ⟨x, h1, h2⟩ := vals_at t i u (by simpa using h)
    exact ⟨x, by simpa using h1, h2⟩
theorem cr_sortedKeyF (F : FnOk X.prog X.w X.K X.mg X.base CX0 k f fd ps sp) (hr : Room (k + 2) X.A) (hb : Binds X.K fd ps []) : CallRK X (.builtin "sorted") [Str.ofString "key"] (rSortKeyF X.K f sp E) := by
  intro pins s σ H vs zs us ws Q I r rz h
  obtain ⟨l, xs, ds, rfl, rfl, hs, hz1, hdl, hrf, q⟩ := h
  obtain rfl := Vals.ref1 r
  obtain ⟨w1, rfl, e1⟩ := vals1 rz
  obtain rfl : w1 = Value.ref f := e1
  obtain ⟨its, rv, hl, hz⟩ := I.list hs
  obtain ⟨exs, hits⟩ := refs_back rv hrf
  have hlen : its.length = xs.length := rv.length.symm
  have hitz : its.length ≤ sizeLine := by omega
  refine call_function_entry_kw kind_sorted plain_sorted entry_sorted (ksk_s1 _ _) ?_
  unfold Builtin.«sorted»
  refine wpAny_bind (m := checkCount "sorted" 1 1 _) (wpAny_pure ?_)
  refine wpAny_bind (collect_list hl.isList ?_ hitz)
  refine wpAny_bind (wpAny_newList ?_ hitz)
  generalize hh1 : (s.heap.push (seqObj "list" #[] 0)).update s.heap.objs.size (Obj.mapSeq (· ++ its.toArray)) = h1
  have k1 : ∀ b o, s.heap.get? b = some o → h1.get? b = some o := fun b o e => by
    rw [← hh1, Heap.get?_update_ne _ _ _ _ (Nat.ne_of_lt (Heap.lt_size e))]
    exact Heap.get?_push_of_some _ e
  have z1 : s.heap.objs.size ≤ h1.objs.size := by rw [← hh1, Heap.size_update]; exact Nat.le_of_lt (by rw [Heap.size_push]; exact Nat.lt_succ_self _)
  show wpAny _ _ _ _ _ { s with heap := h1.push (seqObj "list" its.toArray 0) }
  generalize ha : h1.objs.size = a
  have hoA : (h1.push (seqObj "list" its.toArray 0)).get? a = some (seqObj "list" its.toArray 0) := by rw [← ha]; exact Heap.get?_push_size _ rfl
  refine wpAny_bind (wpAny_holding (wpAny_call_entry_kw slot_list_sort ⟨_, hoA, rfl⟩ entry_list_sort ?_ (ksk_l1 _ _)))
  show wpAny _ _ (Builtin.«list.sort» ⟨[.ref a], [(Str.ofString "key", .ref f)]⟩) _ _ _
  rw [ksk_t1]
  unfold ksk_tree
  refine wpAny_bind (listItems_at hoA rfl ?_)
  refine wpAny_bind (listUpdate_at hoA rfl ?_ (by rw [List.size_toArray]; exact hitz) (Nat.zero_le _))
  obtain ⟨e1, ho1⟩ : ∃ e1, ((h1.push (seqObj "list" its.toArray 0)).update a (Obj.mapSeq fun _ => (#[] : Array Value))).get? a = some (seqObj "list" #[] e1) := ⟨_, get?_update_seq hoA fun _ => #[]⟩
  generalize hh2 : (h1.push (seqObj "list" its.toArray 0)).update a (Obj.mapSeq fun _ => (#[] : Array Value)) = h2 at ho1 ⊢
  have k2 : ∀ b o, s.heap.get? b = some o → h2.get? b = some o := fun b o e => by
    have := k1 b o e
    rw [← hh2, Heap.get?_update_ne _ _ _ _ (by rw [← ha]; exact Nat.ne_of_lt (Heap.lt_size this))]
    exact Heap.get?_push_of_some _ this
  refine wpAny_bind (seqEpoch_at ho1 rfl ?_)
  refine wpAny_bind (wpAny_newTuple ?_ (by simpa using hitz))
  refine wpAny_bind (wpAny_newList ?_ (Nat.zero_le _))
  refine wpAny_holding ?_
  generalize hh3 : h2.push { cls := .type "tuple", data := .seq its.toArray.toList.toArray } = h3
  have k3 : ∀ b o, h2.get? b = some o → h3.get? b = some o := fun b o e => by rw [← hh3]; exact Heap.get?_push_of_some _ e
  have z3 : a < h3.objs.size := Heap.lt_size (k3 _ _ ho1)
  generalize hkS : h3.objs.size = kS
  have hoK : (h3.push { cls := .type "list", data := .seq ([] : List Value).toArray }).get? kS = some (seqObj "list" #[] 0) := by rw [← hkS]; exact Heap.get?_push_size _ rfl
  generalize hh4 : h3.push { cls := .type "list", data := .seq ([] : List Value).toArray } = h4 at hoK ⊢
  have k4 : ∀ b o, h3.get? b = some o → h4.get? b = some o := fun b o e => by rw [← hh4]; exact Heap.get?_push_of_some _ e
  have hka : kS ≠ a := Nat.ne_of_gt (by rw [← hkS]; exact z3)
  have ha0 : s.heap.objs.size ≤ a := by omega
  have hk0 : s.heap.objs.size ≤ kS := by omega
  have hHa : H a = none := I.hok.fresh ha0
  have hHk : H kS = none := I.hok.fresh hk0
  obtain ⟨W, w0, KW⟩ := q kS hHk
  have I4 : Inv X pins σ (upd H kS (.lst [])) { s with heap := h4, toks := s.toks } := I.laid (fun b o e => k4 b o (k3 b o (k2 b o e))) hk0 ⟨Nat.zero_le _, [], 0, .nil, hoK⟩
  have hfr : a ∉ frs X.stack := fun hm => by
    obtain ⟨_, o, ho, _⟩ := I.stack.mem hm
    exact absurd (Heap.lt_size ho) (Nat.not_lt.mpr ha0)
  -- the keys
  unfold ksk_rest
  refine wpAny_bind (wpAny_rule ?_)
  first
    | rw [List.forIn_toArray]
    | (rw [← Array.forIn_toList]; simp only [List.toList_toArray])
    | rw [← Array.forIn_toList]
  refine wpAny_bind (ksk_fold (fun i s' => ∃ H', Inv X pins σ H' s' ∧ s'.heap.get? a = some (seqObj "list" #[] e1) ∧ H' a = none ∧ W i H' ∧ s'.os = s.os) its 0 _
    ⟨upd H kS (.lst []), I4, k4 _ _ (k3 _ _ ho1), by rw [upd_ne hka.symm]; exact hHa, w0, rfl⟩ ?step ?done)
  case step =>
    rintro j x s' hxj ⟨H', I', oa, na, w, hos⟩
    simp only [Nat.zero_add] at w ⊢
    obtain ⟨acc, hacc, hal⟩ := KW.at_ j H' w
    have hj : j < its.length := (List.getElem?_eq_some_iff.mp hxj).1
    have hxv : xs[j]? = some (backV x) := by rw [exs, List.getElem?_map, hxj]; rfl
    have rx : Vals [backV x] [x] := by
      obtain ⟨t, rfl⟩ := hits x (List.mem_of_getElem? hxj)
      exact .cons rfl .nil
    have hsp := KW.turn j (backV x) H' acc hxv w hacc
    have hlp : [x].length = ps.length := F.len [backV x] H' _ _ hsp
    refine wpAny_bind (wpAny_attempt (wpAny_call (codeAny_mono (F.run X.A.in1.in1 X.stack s' H' ⟨[x], []⟩ [x] [backV x] _ E hr.in1.in1 I'.env0.in1.in1 (hb s' [x] I'.kIn hlp) rx hsp) fun r s2 hq => ?_)))
    cases r with
    | error e => exact False.elim hq
    | ok fl =>
      cases fl with
      | next => exact False.elim hq
      | brk => exact False.elim hq
      | cont => exact False.elim hq
      | ret u =>
        obtain ⟨v, H2, hos2, bare, un, hok, rv2, ⟨hk2, w2⟩⟩ := hq
        have na2 := un.free a _ oa na (by simp)
        have oa2 := un.keep a _ oa na hfr (by simp)
        have I2 : Inv X pins σ H2 s2 := I'.call' hos2 un hok bare (fun b z => absurd z (by simp))
        obtain ⟨hz2, its2, n2, rv3, hob2⟩ := I2.hok kS _ hk2
        try dsimp only
        have hl2 : its2.length = j := by rw [← rv3.length]; exact hal
        have s1 := Heap.SameBut.update s2.heap kS (Obj.mapSeq (·.push u))
        obtain ⟨c2, hc2⟩ : ∃ c2, (s2.heap.update kS (Obj.mapSeq (·.push u))).get? kS = some (seqObj "list" (its2.toArray.push u) c2) := ⟨_, get?_update_seq hob2 (·.push u)⟩
        have ep : its2.toArray.push u = (its2 ++ [u]).toArray := by simp
        refine wpAny_bind (listUpdate_at hob2 rfl ?_ (by rw [List.size_toArray]; omega) (by show (its2.toArray.push u).size ≤ _; rw [Array.size_push, List.size_toArray]; omega))
        refine wpAny_pure ⟨rfl, upd H2 kS (.lst (acc ++ [v])), ?_, (s1.2 a hka.symm).trans oa2, by rw [upd_ne hka.symm]; exact na2, w2, hos2.trans hos⟩
        exact I2.write (t' := s2.toks) (by rw [hk2]; trivial) (.inl rfl) (fun b o hb e => (s1.2 b hb).trans e) ⟨_, hc2⟩ ⟨by rw [List.length_append, List.length_singleton]; omega, its2 ++ [u], c2, rv3.append (.cons rv2 .nil), by rw [hc2, ep]⟩
  case done =>
    rintro s' ⟨H', I', oa, na, w, hos⟩
    rw [show 0 + its.length = xs.length by omega] at w
    obtain ⟨acc, hacc, hal⟩ := KW.at_ _ H' w
    obtain ⟨hz2, its2, n2, rv3, hob2⟩ := I'.hok kS _ hacc
    have hl2 : its2.length = its.length := by rw [← rv3.length, hal, hlen]
    try dsimp only
    refine wpAny_bind (listItems_at hob2 rfl ?_)
    refine key_end (ds := ds) (by have := hr.in1.in1.units0; exact this) hob2 oa hka (by simpa using hl2) hitz (by omega) (fun i v ks e1 e2 => ?_) fun h' zs c hk hp hw hoA' => ?_
    · have e1 : its2[i]? = some v := by simpa using e1
      obtain ⟨x, ex, rx⟩ := vals_at rv3 i v e1
      exact (KW.keys H' acc w hacc i x ks ex e2).is I' rx
    · have hzm : (zs.map fun p => (backV p.1, p.2)).Perm (xs.zip ds) := by
        have q := hp.map (fun p : Value × List Int => (backV p.1, p.2))
        rw [exs]
        have e2 : (its.zip ds).map (fun p : Value × List Int => (backV p.1, p.2)) = (its.map backV).zip ds := by rw [List.zip_map_left]; rfl
        rw [e2] at q
        exact q
      have hrefs : ∀ u ∈ zs.map (·.1), ∃ a, u = Value.ref a := fun u hu => by
        obtain ⟨p, hpm, e⟩ := List.mem_map.mp hu
        have := hp.mem_iff.mp hpm
        obtain ⟨p1, p2⟩ := p
        subst e
        exact hits _ (List.of_mem_zip this).1
      have hQ := KW.fin H' (zs.map fun p => (backV p.1, p.2)) a w hzm (by rw [List.pairwise_map]; exact hw) na hka.symm
      have em : (zs.map fun p => (backV p.1, p.2)).map (·.1) = (zs.map (·.1)).map backV := by rw [List.map_map, List.map_map]; rfl
      rw [em] at hQ
      have hlz : ((zs.map (·.1)).map backV).length ≤ sizeLine := by rw [List.length_map, List.length_map, hp.length_eq, List.length_zip]; omega
      refine ⟨_, rfl, wpAny_pure ⟨_, rfl, ?_⟩⟩
      have s1 := Heap.SameBut.update s'.heap kS (Obj.mapSeq fun _ => (#[] : Array Value))
      obtain ⟨c3, hc3⟩ : ∃ c3, (s'.heap.update kS (Obj.mapSeq fun _ => (#[] : Array Value))).get? kS = some (seqObj "list" #[] c3) := ⟨_, get?_update_seq hob2 fun _ => #[]⟩
      generalize hhm : s'.heap.update kS (Obj.mapSeq fun _ => (#[] : Array Value)) = hm at hk s1 hc3
      have I5 : Inv X pins σ (upd H' kS (.lst [])) { s' with heap := hm, toks := s'.toks } := I'.write (x := kS) (e := kS) (by rw [hacc]; trivial) (.inl rfl) (fun b o hb e => (s1.2 b hb).trans e) ⟨_, hc3⟩ ⟨Nat.zero_le _, [], c3, .nil, hc3⟩
      have na5 : upd H' kS (.lst []) a = none := by rw [upd_ne hka.symm]; exact na
      have oa5 : hm.get? a = some (seqObj "list" #[] e1) := (s1.2 a hka.symm).trans oa
      have aL : a ≠ X.env.locals := fun z => by
        obtain ⟨m, ⟨o, _, _, ho, _⟩, _⟩ := I.loc
        rw [← z] at ho
        exact absurd (Heap.lt_size ho) (Nat.not_lt.mpr ha0)
      have aC : ∀ x c, X.env.cells.lookup x = some c → c ≠ a := fun x c e z => by
        obtain ⟨v, o, ho, _⟩ := I.cell x c e
        rw [z] at ho
        exact absurd (Heap.lt_size ho) (Nat.not_lt.mpr ha0)
      have aP : ∀ p ∈ X.pn ++ pins, p.1 ≠ a := fun p hp z => by
        have ho := (I.pin p hp).1
        rw [z] at ho
        exact absurd (Heap.lt_size ho) (Nat.not_lt.mpr ha0)
      have aS : X.s_0.heap.objs.size ≤ a := Nat.le_trans I.sz ha0
      have I6 : Inv X pins σ (upd H' kS (.lst [])) { s' with heap := h', toks := s'.toks } := Inv.turned (s := { s' with heap := hm, toks := s'.toks }) (h' := h') (t' := s'.toks) (it := a) I5 hk na5 aL (.inr aS) aC aP
      have hob : ObjOk X.prog X.w (upd (upd H' kS (.lst [])) a (.lst ((zs.map (·.1)).map backV))) h' a (.lst ((zs.map (·.1)).map backV)) := ⟨hlz, _, c, vals_back hrefs, hoA'⟩
      refine ⟨.ref a, upd (upd H' kS (.lst [])) a (.lst ((zs.map (·.1)).map backV)), Inv.call (s := { s' with heap := h', toks := s'.toks }) (h' := h') (ch := [a]) (g' := s'.gens) (d' := s'.drawn) (t' := s'.toks) I6 ⟨fun b o e _ _ _ => e, fun b o e _ _ _ => ⟨o.slots, e⟩, fun b o _ n hx => ?_, fun b o e _ => ⟨o, e⟩, fun b x e => ?_, fun b o x e => ?_, fun b p e => ?_⟩ (I6.hok.laidN (fun _ _ e => e) na5 hob) I6.bare (fun b hb => ?_), rfl, hQ⟩
      · rw [upd_ne (by simpa using hx)]; exact n
      · rw [upd_ne (ne_of_none e na5)]; exact e
      · rw [upd_ne (ne_of_none e na5)]; exact e
      · exact ⟨#[], by rw [upd_ne (ne_of_none e na5), e]; simp⟩
      · have e : b = a := by simpa using hb
        subst e
        exact ⟨.inr aS, aL, aC, aP⟩
end
end L2

/-! sorted by a key, of pairs; bit_length; in a list of tuples; what keeps tells -/
namespace L2
open PySem PySem.Spec PyProof.Rows PySem.W SrtT
def rSortPT (K : PySem.W.Frag) : List V → Hp → VK → Prop := fun vs H Q => ∃ (a : Addr) (xs : List V) (ds : List (List Int)), vs = [V.ref a] ∧ SqL K H a xs ∧ xs.length < sizeLine ∧ ds.length = xs.length ∧ (∀ x ∈ xs, ∃ p, x = V.ref p) ∧
  (∀ (i : Nat) x ks, xs[i]? = some x → ds[i]? = some ks → PtV K H x ks) ∧
  ∀ (zs : List (V × List Int)) (p : Addr), zs.Perm (xs.zip ds) → zs.Pairwise (fun p q => HT.lexLt q.2 p.2 = false) → H p = none → Q (.ref p) (upd H p (.lst (zs.map (·.1))))
theorem cr_sortedPT {X : Cx} (hu : X.A.units + 64 < cLine) : CallR X (.builtin "sorted") (rSortPT X.K) := by
  intro pins s σ H vs us Q I r h
  obtain ⟨l, xs, ds, rfl, hs, hz1, hdl, hrf, hpt, q⟩ := h
  obtain rfl := Vals.ref1 r
  obtain ⟨its, rv, hl, hz⟩ := I.list hs
  obtain ⟨exs, hits⟩ := refs_back rv hrf
  have hlen : its.length = xs.length := rv.length.symm
  have hitz : its.length ≤ sizeLine := by omega
  have hp : ∀ v ∈ its, IsPT s.heap v (keyAt s.heap v) := fun v hv => by
    obtain ⟨i, hi⟩ := List.mem_iff_getElem?.mp hv
    obtain ⟨x, ex, rx⟩ := vals_at rv i v hi
    have hil : i < ds.length := by have := (List.getElem?_eq_some_iff.mp ex).1; omega
    have p := (hpt i x ds[i] ex (List.getElem?_eq_getElem hil)).is I rx
    rw [keyAt_eq p]
    exact p
  have hds : its.map (keyAt s.heap) = ds := by
    apply List.ext_getElem?
    intro i
    rw [List.getElem?_map]
    by_cases q : i < ds.length
    · have hi : i < its.length := by omega
      rw [List.getElem?_eq_getElem hi, List.getElem?_eq_getElem q]
      obtain ⟨x, ex, rx⟩ := vals_at rv i _ (List.getElem?_eq_getElem hi)
      exact congrArg some (keyAt_eq ((hpt i x _ ex (List.getElem?_eq_getElem q)).is I rx))
    · rw [List.getElem?_eq_none (by omega), List.getElem?_eq_none (by omega)]; rfl
  refine SrtO.sorted_ord (NtL.swo_lexL (keyAt s.heap)) hl.isList hitz (fun h2 h₁ a ha kk => pt_sortable (by show X.A.units + 1 + 1 < cLine; omega) (by omega) (fun v hv => (hp v hv).keeps fun b o e _ => (kk b o e).2) fun o e => ?_) fun out h1 h2 => ?_
  · rw [ha] at e
    cases e
    exact fun z => by injection z with z3; exact absurd z3 (by decide)
  · have hrefs : ∀ u ∈ out, ∃ a, u = Value.ref a := fun u hu => hits u (h2.perm.mem_iff.mp hu)
    have hzm : (out.map fun v => (backV v, keyAt s.heap v)).Perm (xs.zip ds) := by
      have q := h2.perm.map (fun v => (backV v, keyAt s.heap v))
      have e2 : its.map (fun v => (backV v, keyAt s.heap v)) = xs.zip ds := by
        rw [exs, ← hds]
        generalize its = l
        induction l with
        | nil => rfl
        | cons v l ih => rw [List.map_cons, List.map_cons, List.map_cons, List.zip_cons_cons, ih]
      rw [e2] at q
      exact q
    obtain ⟨ep, he'⟩ := PyProof.Rows.sortedAll_at s.heap its out.toArray
    have em : (out.map fun v => (backV v, keyAt s.heap v)).map (·.1) = out.map backV := by rw [List.map_map]; rfl
    have hlz : (out.map backV).length ≤ sizeLine := by rw [List.length_map, h2.perm.length_eq]; exact hitz
    have hQ := q _ (s.heap.objs.size + 1) hzm (by rw [List.pairwise_map]; exact h1) (I.hok.fresh (Nat.le_succ _))
    rw [em] at hQ
    exact ⟨.ref _, upd H (s.heap.objs.size + 1) (.lst (out.map backV)), I.laid (t' := s.toks) (fun _ _ => PyProof.Rows.sortedAll_old) (Nat.le_succ _) ⟨hlz, _, ep, vals_back hrefs, he'⟩, rfl, hQ⟩
def rSortKeyG (K : PySem.W.Frag) (sp : Sp) (x : V) (H : Hp) (Q : VK) : Prop := ∃ (a : Addr) (xs : List V) (ds : List (List Int)), x = V.ref a ∧ SqL K H a xs ∧ xs.length < sizeLine ∧ ds.length = xs.length ∧ (∀ x ∈ xs, ∃ p, x = V.ref p) ∧
  ∀ kS, H kS = none → ∃ W, W 0 (upd H kS (.lst [])) ∧ KeyW sp (fun _ _ _ => False) K xs ds kS W Q
def tSortK (K : PySem.W.Frag) (sp : Sp) (ta : TE) : TE := fun σ H Q => ta σ H fun x H1 => rSortKeyG K sp x H1 Q
end L2
namespace TL
open PySem L2
open Enc
theorem Room.u65 {k : Nat} {A : Around} (r : Room k A) : A.units + 65 < cLine := by have := r.un; omega
/-! ### the order -/
theorem lexLt_tri : ∀ (a b : List Int), HT.lexLt a b = false → HT.lexLt b a = false → a = b
  | [], [], _, _ => rfl
  | [], y :: b, h, _ => by cases h
  | x :: a, [], _, h => by cases h
  | x :: a, y :: b, h1, h2 => by
    have e1 : HT.lexLt (x :: a) (y :: b) = if x = y then HT.lexLt a b else decide (x < y) := rfl
    have e2 : HT.lexLt (y :: b) (x :: a) = if y = x then HT.lexLt b a else decide (y < x) := rfl
    rw [e1] at h1
    rw [e2] at h2
    by_cases e : x = y
    · subst e
      rw [if_pos rfl] at h1 h2
      rw [lexLt_tri a b h1 h2]
    · rw [if_neg e] at h1
      rw [if_neg (fun z => e z.symm)] at h2
      have := of_decide_eq_false h1
      have := of_decide_eq_false h2
      omega
def sortLB (xs : List (List Int)) : List (List Int) := xs.mergeSort fun a b => !HT.lexLt b a
theorem sortLB_sorted (xs : List (List Int)) : (sortLB xs).Pairwise fun a b => HT.lexLt b a = false := by
  have S := NtL.swo_lexL (fun l : List Int => l)
  refine (List.pairwise_mergeSort (le := fun a b : List Int => !HT.lexLt b a) (fun a b c h1 h2 => ?_) (fun a b => ?_) xs).imp fun h => by simpa using h
  · simp only [Bool.not_eq_true'] at *
    exact S.tr _ _ _ h1 h2
  · cases q : HT.lexLt b a with
    | false => rfl
    | true => rw [S.asym _ _ q]; rfl
theorem sortLB_perm (xs : List (List Int)) : (sortLB xs).Perm xs := List.mergeSort_perm _ _
theorem sortLB_of {xs ys : List (List Int)} (p : ys.Perm xs) (s : ys.Pairwise fun a b => HT.lexLt b a = false) : ys = sortLB xs := by
  refine (p.trans (sortLB_perm xs).symm).eq_of_pairwise (le := fun a b => HT.lexLt b a = false) (fun a b _ _ h1 h2 => lexLt_tri a b h2 h1) s (sortLB_sorted xs)
def keyL (p : Int × Tp Int) : List Int := p.1 :: p.2.l
def sortPT (xs : List (Int × Tp Int)) : List (Int × Tp Int) := (sortLB (xs.map keyL)).map fun k => (k.headD 0, Tp.mk k.tail)
def sortKyO (f : Tp Int → Option (Int × Tp Int)) (xs : List (Tp Int)) : Option (List (Tp Int)) := (mapO f xs).bind fun ks => if ks.map (·.2) = xs ∧ xs.length < 16777216 then some ((sortPT ks).map (·.2)) else none
section
variable {K : Fg} {ta tb : TE} {ρ : List Sl} {O O1 O2 : Os}
theorem RpAll.refs {F : Hp} {α : Type} {g : α → List PyData} : ∀ {vs : List V} {xs : List α}, RpAll K F vs (xs.map fun x => .tuple (g x)) → ∀ v ∈ vs, ∃ p, v = V.ref p
  | _, [], h => by cases h; intro v hv; cases hv
  | _, x :: xs, h => by
    cases h with
    | cons r t =>
      intro v hv
      rcases List.mem_cons.mp hv with rfl | hv
      · cases r with
        | tup => exact ⟨_, rfl⟩
      · exact RpAll.refs t v hv
theorem ptv_of {F H : Hp} {v : V} {p : Int × Tp Int} (f : Same F H) (r : Rp K F v (enc p)) : PtV K H v (keyL p) := by
  cases r with
  | @tup t xs _ h1 h2 h3 =>
    cases h3 with
    | cons r1 rr =>
      cases rr with
      | cons r2 rr =>
        cases rr
        cases r1
        cases r2 with
        | @tup b ys _ q1 q2 q3 =>
          have e := q3.ints
          subst e
          exact ⟨t, b, p.1, p.2.l, rfl, rfl, same_t f h1, same_t f q1⟩
/-- the sorted items are data -/
theorem rp_sorted {F : Hp} {xs : List V} {ps : List (Int × Tp Int)} {ds : List PyData} {g : List Int → PyData} (hr : RpAll K F xs ds) (hg : ds = ps.map fun p => g (keyL p)) {zs : List (V × List Int)} (hp : zs.Perm (xs.zip (ps.map keyL))) : RpAll K F (zs.map (·.1)) ((zs.map (·.2)).map g) := by
  have h : ∀ q ∈ zs, Rp K F q.1 (g q.2) := fun q hq => by
    have hm := hp.mem_iff.mp hq
    obtain ⟨i, hi⟩ := List.mem_iff_getElem?.mp hm
    rw [List.getElem?_zip_eq_some] at hi
    obtain ⟨d, e1, r⟩ := hr.getV hi.1
    rw [hg, List.getElem?_map] at e1
    have e2 := hi.2
    rw [List.getElem?_map] at e2
    cases e : ps[i]? with
    | none => rw [e] at e1; cases e1
    | some p =>
      rw [e] at e1 e2
      have e3 : keyL p = q.2 := Option.some.inj e2
      have e4 : g (keyL p) = d := Option.some.inj e1
      rw [← e3, e4]; exact r
  clear hp
  induction zs with
  | nil => exact .nil
  | cons q zs ih => exact .cons (h q (List.mem_cons_self ..)) (ih fun y hy => h y (List.mem_cons_of_mem _ hy))
theorem snd_perm {xs : List V} {ds : List (List Int)} (hl : ds.length = xs.length) {zs : List (V × List Int)} (hp : zs.Perm (xs.zip ds)) : (zs.map (·.2)).Perm ds := by
  have q := hp.map (·.2)
  rw [show (xs.zip ds).map (·.2) = ds from List.map_snd_zip (by omega)] at q
  exact q
theorem rxo_sortPT {ps : List (Int × Tp Int)} (hz : ps.length < 16777216) (ha : RXs K ta ρ O (ps.map enc) O1) : RXo K (tCB (rSortPT K) (tCons ta tNil)) ρ O ((sortPT ps).map enc) O1 := ⟨fun _ _ _ _ _ _ Q E S k =>
  ha.go E S fun a F1 H1 f1 E1 S1 r1 => by
    obtain ⟨vs, q1, q2, q3⟩ := r1 F1 H1 (Same.refl _) S1
    have hl : vs.length = ps.length := by rw [q3.length, List.length_map]
    refine ⟨a, vs, ps.map keyL, rfl, q1, by rw [sizeLine_eq]; omega, by rw [List.length_map, hl], RpAll.refs (g := fun p : Int × Tp Int => [enc p.1, enc p.2]) q3, fun i x ks e1 e2 => ?_, fun zs p hp hs hn => ?_⟩
    · obtain ⟨d, e3, r⟩ := q3.getV e1
      rw [List.getElem?_map] at e2 e3
      cases e : ps[i]? with
      | none => rw [e] at e2; cases e2
      | some p =>
        rw [e] at e2 e3
        cases e2
        cases e3
        exact ptv_of S1.fh r
    · have hsn := snd_perm (by rw [List.length_map, hl]) hp
      have es := sortLB_of hsn (by rw [List.pairwise_map]; exact hs)
      have hr := rp_sorted (g := fun k => enc ((k.headD 0, Tp.mk k.tail) : Int × Tp Int)) q3 rfl hp
      have ed : (zs.map (·.2)).map (fun k => enc ((k.headD 0, Tp.mk k.tail) : Int × Tp Int)) = (sortPT ps).map enc := by
        unfold sortPT
        rw [es, List.map_map]; rfl
      rw [ed] at hr
      refine k p F1 _ f1 (S1.mine hn ?_ hr)
      rw [List.length_map, hp.length_eq, List.length_zip, List.length_map, sizeLine_eq]
      omega⟩
theorem pe_sortKy {X : Cx} (K : Fg) {k : Nat} {x : Str} {ps : List Str} {sp : Sp} {e : Expr} {p p2 kpos pos : Pos} (C : Cal X.prog X.w X.K X.mg X.base k x ps sp) {j : Nat} (hr : Room j X.A) (hg : Gl X "sorted") (hm : X.mg "sorted" = none) (hgx : Gl X x) (ha : PE X e ta) (hk : k + 2 ≤ j := by decide) (hdb : (x == ("__debug__" : Str)) = false := by decide) (hK : X.K = K := by rfl)
    (hs : starEach [e] X.env = (false, eval e X.env) :: starEach [] X.env := by rfl) (he : backTo pos (starEach [e] X.env) = (false, eval e X.env) :: backTo pos (starEach [] X.env) := by rfl) (hpl : (backTo pos (starEach [e] X.env)).any (·.1) = false := by rfl)
    (hall : (backToKw pos (keywordEach [⟨some "key", .Name x p2, kpos⟩] X.env)).all (·.1.isSome) = true := by rfl) (hnone : (backToKw pos (keywordEach [⟨some "key", .Name x p2, kpos⟩] X.env)).any (·.1.isNone) = false := by rfl) (hks : (backToKw pos (keywordEach [⟨some "key", .Name x p2, kpos⟩] X.env)).filterMap (·.1) = [("key" : Str)] := by rfl) :
    PE X (.Call (.Name "sorted" p) [e] [⟨some "key", .Name x p2, kpos⟩] pos) (tSortK K sp ta) := by
  subst hK
  obtain ⟨f, fd, F, m, kp, b⟩ := C
  refine ⟨fun pins s σ H Q I h => ?_⟩
  have hv : bootBuiltins "sorted" = some (.builtin "sorted") := by decide +kernel
  refine wpAny_Call_Name_kw (ld_blt I hg hm hv ?_ (by decide) (by decide))
  have hpk := pk_cons (X := X) (nm := some "key") (kpos := kpos) (pe_glob (pos := p2) (v := .ref f) hgx m rfl hdb) pk_nil
  refine PyProof.Rows.callWith_kw (thn ((pa_cons ha pa_nil hs).run pos pins s σ H (fun vs H1 => match vs with | [v] => rSortKeyG X.K sp v H1 Q | _ => False) I h) fun us s1 ⟨vs, H1, I1, r1, q1⟩ => thn (hpk.run pos pins s1 σ H1 (fun zs H2 => zs = [.ref f] ∧ H2 = H1) I1 ⟨rfl, rfl⟩) fun ws s2 ⟨zs, H2, I2, r2, q2⟩ => ?_) he hpl hall hnone
  rw [hks]
  obtain ⟨rfl, rfl⟩ := q2
  refine cr_sortedKeyF (E := fun _ _ _ => False) F (hr.mono hk) b pins s2 σ H2 vs [.ref f] us ws Q I2 r1 r2 ?_
  match vs, q1 with
  | [v], q1 =>
    obtain ⟨a, xs, ds, rfl, q⟩ := q1
    exact ⟨a, xs, ds, rfl, rfl, q⟩
theorem mapO_at {α β : Type} {f : α → Option β} : ∀ {xs : List α} {ks : List β}, mapO f xs = some ks → ∀ (i : Nat) t, xs[i]? = some t → ∃ r, ks[i]? = some r ∧ f t = some r
  | [], ks, hm, i, t, ht => by cases ht
  | y :: ys, ks, hm, i, t, ht => by
    unfold mapO at hm
    obtain ⟨r, e1, hm⟩ := bindE hm
    obtain ⟨rs, e2, hm⟩ := bindE hm
    have hm := Option.some.inj hm
    subst hm
    cases i with
    | zero => cases ht; exact ⟨r, rfl, e1⟩
    | succ i => exact mapO_at e2 i t (by simpa using ht)
theorem rxo_sortKy {R : List PyData → PyData → Prop} {f : Tp Int → Option (Int × Tp Int)} {xs zs : List (Tp Int)} (h : sortKyO f xs = some zs) (hR : ∀ t r, f t = some r → R [enc t] (enc r)) (ha : RXs K ta ρ O (xs.map enc) O1) : RXo K (tSortK K (SpP K R) ta) ρ O (zs.map enc) O1 := ⟨fun F0 H0 D0 _ _ _ Q E S k =>
  ha.go E S fun a F1 H1 f1 E1 S1 r1 => by
    obtain ⟨ks, hm, h⟩ := bindE h
    split at h
    rotate_left
    · cases h
    rename_i hc
    obtain ⟨hc, hz⟩ := hc
    have h := Option.some.inj h
    subst h
    obtain ⟨vs, q1, q2, q3⟩ := r1 F1 H1 (Same.refl _) S1
    have hl : vs.length = xs.length := by rw [q3.length, List.length_map]
    have hkl : ks.length = xs.length := by rw [← hc, List.length_map]
    have hat := mapO_at hm
    refine ⟨a, vs, ks.map keyL, rfl, q1, by rw [sizeLine_eq]; omega, by rw [List.length_map, hl, hkl], RpAll.refs (g := fun t : Tp Int => t.l.map enc) q3, fun kS hkS => ?_⟩
    refine ⟨fun i H => i ≤ ks.length ∧ ∃ F, Same F1 F ∧ Hx K F0 H0 D0 F (⟨kS, true, (ks.take i).map enc⟩ :: O1) H, ⟨Nat.zero_le _, F1, Same.refl _, S1.mine hkS (Nat.zero_le _) .nil⟩, ⟨fun i H w => ?_, fun i x H acc hx w hacc => ?_, fun H acc w hacc i v kk e1 e2 => ?_, fun H ps p w hp hs hn hne => ?_⟩⟩
    · obtain ⟨hi, F, f2, S2⟩ := w
      obtain ⟨_, _, _, us, g4, g5, g6⟩ := S2.get (j := 0) rfl
      exact ⟨us, g4, by rw [RpAll.length g6, List.length_map, List.length_take]; omega⟩
    · obtain ⟨hi, F, f2, S2⟩ := w
      obtain ⟨_, _, _, us, g4, g5, g6⟩ := S2.get (j := 0) rfl
      have eacc : us = acc := by have := g4.symm.trans hacc; injection this with z; injection z
      subst eacc
      obtain ⟨d, e1, r⟩ := q3.getV hx
      rw [List.getElem?_map] at e1
      cases e : xs[i]? with
      | none => rw [e] at e1; cases e1
      | some t =>
        rw [e] at e1
        cases e1
        obtain ⟨rr, er, ef⟩ := hat i t e
        refine ⟨F, [enc t], enc rr, .cons (r.up f2) .nil, S2.fh, hR t rr ef, fun v F' H' st rv => ?_⟩
        have S3 := S2.call st
        obtain ⟨n1, n2, n3, us2, m4, m5, m6⟩ := S3.get (j := 0) rfl
        have hk' := st.keep _ _ g4 (by simp)
        have hlt : i < ks.length := (List.getElem?_eq_some_iff.mp er).1
        have hul : us.length = i := by rw [RpAll.length g6, List.length_map, List.length_take]; omega
        refine ⟨hk', by omega, F', f2.trans st.ff, ?_⟩
        have S4 := S3.mut (j := 0) (l := kS) (nw := true) (ds := (ks.take i).map enc) (vs := us ++ [v]) (ds' := (ks.take (i + 1)).map enc) rfl (by rw [List.length_append, List.length_singleton, sizeLine_eq]; omega) (by
          rw [List.take_succ, er, List.map_append]
          exact (RpAll.up g6 st.ff).append (.cons rv .nil))
        exact S4
    · obtain ⟨hi, F, f2, S2⟩ := w
      obtain ⟨_, _, _, us, g4, g5, g6⟩ := S2.get (j := 0) rfl
      have eacc : us = acc := by have := g4.symm.trans hacc; injection this with z; injection z
      subst eacc
      rw [hl, ← hkl, List.take_of_length_le (Nat.le_refl _)] at g6
      obtain ⟨d, e3, r⟩ := RpAll.getV g6 e1
      rw [List.getElem?_map] at e2 e3
      cases e : ks[i]? with
      | none => rw [e] at e2; cases e2
      | some p =>
        rw [e] at e2 e3
        cases e2
        cases e3
        exact ptv_of S2.fh r
    · obtain ⟨hi, F, f2, S2⟩ := w
      have hlk : (ks.map keyL).length = vs.length := by rw [List.length_map, hl, hkl]
      have hsn := snd_perm hlk hp
      have es := sortLB_of hsn (by rw [List.pairwise_map]; exact hs)
      have hr := rp_sorted (g := fun k => enc (Tp.mk k.tail)) (ps := ks) (q3.up f2) (by rw [← hc, List.map_map]; rfl) hp
      have ed : (ps.map (·.2)).map (fun k => enc (Tp.mk k.tail)) = ((sortPT ks).map (·.2)).map enc := by
        unfold sortPT
        rw [es, List.map_map, List.map_map]; rfl
      rw [ed] at hr
      have S3 := S2.mut (j := 0) (l := kS) (nw := true) (vs := []) (ds' := []) rfl (Nat.zero_le _) .nil
      have S4 := S3.drop 0
      have hn' : upd H kS (.lst []) p = none := by rw [upd_ne hne]; exact hn
      refine k p F _ (f1.trans f2) (S4.mine hn' ?_ hr)
      rw [List.length_map, hp.length_eq, List.length_zip, List.length_map, sizeLine_eq]
      omega⟩
theorem rx_bits {i : Int} (h : RX K ta ρ O (.int i) O1) : RX K (tBits ta) ρ O (.int (Builtin.Int.intBits i : Nat)) O1 := ⟨fun _ _ _ _ _ _ Q E S k => h.go E S fun x F1 H1 f1 E1 S1 r1 => by
  cases r1
  exact ⟨i, rfl, k _ _ _ f1 S1 (.int _)⟩⟩
theorem any_eqv {α : Type} [Enc α] [DecidableEq α] [EqD α] (x : α) (xs : List α) : ((xs.map enc).any fun z => PyData.eqv z (enc x)) = decide (x ∈ xs) := by
  rw [Bool.eq_iff_iff, List.any_eq_true, decide_eq_true_eq]
  constructor
  · rintro ⟨z, hz, e⟩
    obtain ⟨y, hy, rfl⟩ := List.mem_map.mp hz
    rw [EqD.eqv, decide_eq_true_eq] at e
    subst e
    exact hy
  · intro h
    exact ⟨enc x, List.mem_map_of_mem h, by rw [EqD.eqv]; exact decide_eq_true rfl⟩
theorem shaped_of {α : Type} [Enc α] [DecidableEq α] [EqD α] {z : α} (hd : EqD.dp α ≤ 64) (h : EqD.ok z = true) : SeqAt.shaped (enc z) = true := by
  unfold SeqAt.shaped
  rw [EqD.lay z h, Bool.true_and]
  exact decide_eq_true (Nat.le_trans (EqD.dep z) hd)
theorem rx_inD {α : Type} [Enc α] [DecidableEq α] [EqD α] {x : α} {xs : List α} (ha : RXh K ta ρ O (enc x) O1) (hb : RXh K tb ρ O1 (enc xs) O1) (hd : EqD.dp (List α) ≤ 64) (hd2 : EqD.dp α ≤ 64) (hx : EqD.ok x = true) (hy : EqD.ok xs = true) :
    RX K (tOp (rInD K) ta tb) ρ O (.bool (decide (x ∈ xs))) O1 := rx_opH ha hb fun H u v Q ru rv k => by
  refine ⟨enc x, xs.map enc, ru.dp _ _, rv.dp _ _, shaped_of hd2 hx, shaped_of (z := xs) hd hy, ?_⟩
  rw [any_eqv]
  exact k _ fun _ => .bl _
theorem rx_notInD {α : Type} [Enc α] [DecidableEq α] [EqD α] {x : α} {xs : List α} (ha : RXh K ta ρ O (enc x) O1) (hb : RXh K tb ρ O1 (enc xs) O1) (hd : EqD.dp (List α) ≤ 64) (hd2 : EqD.dp α ≤ 64) (hx : EqD.ok x = true) (hy : EqD.ok xs = true) :
    RX K (tOp (rNotInD K) ta tb) ρ O (.bool (!decide (x ∈ xs))) O1 := rx_opH ha hb fun H u v Q ru rv k => by
  refine ⟨enc x, xs.map enc, ru.dp _ _, rv.dp _ _, shaped_of hd2 hx, shaped_of (z := xs) hd hy, ?_⟩
  rw [any_eqv]
  exact k _ fun _ => .bl _
theorem k_inD {X : Cx} (K : Fg) (hu : X.A.units + 65 < cLine) (hK : X.K = K := by rfl) : OpR X (compareOp .In) (rInD K) := by subst hK; exact op_inD hu
theorem k_notInD {X : Cx} (K : Fg) (hu : X.A.units + 65 < cLine) (hK : X.K = K := by rfl) : OpR X (compareOp .NotIn) (rNotInD K) := by subst hK; exact op_notInD hu
theorem k_sortPT {X : Cx} (K : Fg) (hu : X.A.units + 64 < cLine) (hK : X.K = K := by rfl) : CallR X (.builtin "sorted") (rSortPT K) := by subst hK; exact cr_sortedPT hu
end
/-! ### ("keeps",) or ("loses", bad, turned, number) -/
inductive Kp where
  | a1 (s : Str)
  | a4 (s : Str) (b t : Tp Int) (n : Option Int)
  deriving DecidableEq
def Kp.en : Kp → PyData
  | .a1 s => .tuple [.str s]
  | .a4 s b t n => .tuple [.str s, enc b, enc t, enc n]
@[reducible] instance : Enc Kp := ⟨Kp.en⟩
def Kp.ok : Kp → Bool
  | .a1 s => EqD.ok s
  | .a4 s _ _ _ => EqD.ok s
instance : EqD Kp := ⟨Kp.ok, fun x y => by
  cases x <;> cases y
  · rename_i s s'
    have := EqD.eqv (Tp.mk [s]) (Tp.mk [s'])
    have e : decide (Kp.a1 s = Kp.a1 s') = decide (Tp.mk [s] = Tp.mk [s']) := by simp
    rw [e]; exact this
  · simp [enc, Kp.en, PyData.eqv, PyData.eqvAll]
  · simp [enc, Kp.en, PyData.eqv, PyData.eqvAll]
  · rename_i s b t n s' b' t' n'
    have := EqD.eqv (T4.mk s b t n) (T4.mk s' b' t' n')
    have e : decide (Kp.a4 s b t n = Kp.a4 s' b' t' n') = decide (T4.mk s b t n = T4.mk s' b' t' n') := by simp
    rw [e]; exact this, EqD.dp (Tp Str) + EqD.dp (T4 Str (Tp Int) (Tp Int) (Option Int)), fun x => by
  cases x with
  | a1 s => exact Nat.le_trans (EqD.dep (Tp.mk [s])) (Nat.le_add_right _ _)
  | a4 s b t n => exact Nat.le_trans (EqD.dep (T4.mk s b t n)) (Nat.le_add_left _ _), fun x h => by
  cases x with
  | a1 s => exact EqD.lay (Tp.mk [s]) (by have h : EqD.ok s = true := h; show ([s].all EqD.ok) = true; simp [h])
  | a4 s b t n => exact EqD.lay (T4.mk s b t n) (by have h : EqD.ok s = true := h; show (EqD.ok s && (EqD.ok b && (EqD.ok t && EqD.ok n))) = true; rw [h, EqT.ok b, EqT.ok t, EqT.ok n]; rfl)⟩
/-- a whole number or a tuple of such -/
inductive IT where
  | i (n : Int)
  | t (x : Tp Int)
  deriving DecidableEq
def IT.en : IT → PyData
  | .i n => enc n
  | .t x => enc x
@[reducible] instance : Enc IT := ⟨IT.en⟩
instance : EqD IT := ⟨fun _ => true, fun x y => by
  cases x <;> cases y
  · rename_i a b
    have := EqD.eqv a b
    have e : decide (IT.i a = IT.i b) = decide (a = b) := by simp
    rw [e]; exact this
  · simp [enc, IT.en, PyData.eqv]
  · simp [enc, IT.en, PyData.eqv]
  · rename_i a b
    have := EqD.eqv a b
    have e : decide (IT.t a = IT.t b) = decide (a = b) := by simp
    rw [e]; exact this, EqD.dp (Tp Int) + EqD.dp Int, fun x => by
  cases x with
  | i n => exact Nat.le_trans (EqD.dep n) (Nat.le_add_left _ _)
  | t x => exact Nat.le_trans (EqD.dep x) (Nat.le_add_right _ _), fun x _ => by
  cases x with
  | i n => exact EqD.lay n rfl
  | t x => exact EqD.lay x (EqT.ok x)⟩
instance : EqT IT := ⟨fun _ => rfl⟩
/-- a list of three -/
structure L3p (α : Type) where
  a : α
  b : α
  c : α
  deriving DecidableEq
@[reducible] instance {α : Type} [Enc α] : Enc (L3p α) := ⟨fun p => .list [enc p.a, enc p.b, enc p.c]⟩
def l3O {α : Type} : List α → Option (L3p α)
  | [a, b, c] => some ⟨a, b, c⟩
  | _ => none
theorem l3O_enc {α : Type} [Enc α] {xs : List α} {p : L3p α} (h : l3O xs = some p) : enc xs = enc p := by
  unfold l3O at h
  split at h
  · cases h; rfl
  · cases h
theorem l3O_map {α : Type} [Enc α] : ∀ {xss : List (List α)} {ps : List (L3p α)}, mapO l3O xss = some ps → xss.map enc = ps.map enc
  | [], ps, h => by cases h; rfl
  | xs :: xss, ps, h => by
    unfold mapO at h
    obtain ⟨r, e1, h⟩ := bindE h
    obtain ⟨rs, e2, h⟩ := bindE h
    have h := Option.some.inj h
    subst h
    rw [List.map_cons, List.map_cons, l3O_enc e1, l3O_map e2]
theorem ri_l3 {K : Fg} {α : Type} [Enc α] {wi : TI} {ρ : List Sl} {O O1 : Os} {xss : List (List α)} {ps : List (L3p α)} (h : mapO l3O xss = some ps) (r : RI K wi ρ O (xss.map enc) O1) : RI K wi ρ O (ps.map enc) O1 := by
  rw [← l3O_map h]; exact r
theorem rx_l3 {K : Fg} {α : Type} [Enc α] {ta : TE} {ρ : List Sl} {O O1 : Os} {xs : List α} {p : L3p α} (h : l3O xs = some p) (r : RX K ta ρ O (enc xs) O1) : RX K ta ρ O (enc p) O1 := by
  rw [← l3O_enc h]; exact r
theorem rxo_sortPTO {K : Fg} {ta : TE} {ρ : List Sl} {O O1 : Os} {ps zs : List (Int × Tp Int)} (h : (if ps.length < 16777216 then some (sortPT ps) else none) = some zs) (ha : RXs K ta ρ O (ps.map enc) O1) : RXo K (tCB (rSortPT K) (tCons ta tNil)) ρ O (zs.map enc) O1 := by
  split at h
  · cases h
    exact rxo_sortPT ‹_› ha
  · cases h
end TL

/-! sorted(set(xs)), xs a list of ints or of texts -/
namespace TL
open PySem PySem.Spec PyProof.Rows L2
/-! ### sets of texts -/
def keyT (e : Int × Value) : Str := match e.2 with | .str k _ => k | _ => Str.empty
def GoodT (w : World) (e : Int × Value) : Prop := ∃ k tk, e.2 = Value.str k tk ∧ e.1 = hashStr w k
/-- the set of texts at a: S its members, n their number -/
def SetT (w : World) (h : Heap) (a : Addr) (S : Str → Bool) (n : Nat) : Prop :=
  ∃ o es ep t, h.get? a = some o ∧ o.ExactSet ∧ o.data = .set es ep t ∧ (∀ e ∈ es.toList, GoodT w e) ∧ (es.toList.map keyT).Nodup ∧ (∀ k, S k = true ↔ k ∈ es.toList.map keyT) ∧
    es.size < scanBound ∧ t.fits es.size = true ∧ es.size = n ∧ Ris t.place.toList ∧ (w.params.followText "set-order" = true ∨ t.led = true)
section
variable {P : Program} {w : World} {h h' : Heap} {a : Addr} {S : Str → Bool} {n : Nat}
theorem SetT.at (R : SetT w h a S n) (k : ∀ o, h.get? a = some o → h'.get? a = some o) : SetT w h' a S n := by
  obtain ⟨o, es, ep, t, ho, r⟩ := R
  exact ⟨o, es, ep, t, k o ho, r⟩
theorem SetT.congr {S' : Str → Bool} (R : SetT w h a S n) (e : ∀ k, S' k = S k) : SetT w h a S' n := by
  have q : S' = S := funext e
  rw [q]; exact R
theorem goodT_elems {l : List (Int × Value)} (g : ∀ e ∈ l, GoodT w e) : ElemsOf (strKind P w) l := fun e he => by
  obtain ⟨k, tk, h1, h2⟩ := g e he
  exact ⟨⟨k, by rw [h1]; exact strKind_is P w k tk, h2⟩, by rw [h1] <;> rfl⟩
theorem goodT_is {e : Int × Value} (g : GoodT w e) (k : Str) : (strKind P w).is k e.2 = true ↔ keyT e = k := by
  obtain ⟨k0, tk, h1, _⟩ := g
  unfold keyT
  rw [h1]
  have h0 := strKind_is P w k0 tk
  constructor
  · intro z
    exact (strKind P w).inj (.str k0 tk) k0 k h0 z
  · rintro rfl
    exact h0
theorem goodT_mem {l : List (Int × Value)} (g : ∀ e ∈ l, GoodT w e) (k : Str) : k ∈ l.map keyT ↔ ∃ e ∈ l, (strKind P w).is k e.2 = true := by
  rw [List.mem_map]
  constructor
  · rintro ⟨e, he, q⟩
    exact ⟨e, he, (goodT_is (g e he) k).2 q⟩
  · rintro ⟨e, he, q⟩
    exact ⟨e, he, (goodT_is (g e he) k).1 q⟩
end
section
variable {P : Program} {w : World} {A : Around} {E : Value → Shared → Prop} {s : Shared} {a : Addr} {S : Str → Bool} {n : Nat}
theorem setT_add_tail {g : Bool → Sem Unit} (hg : ∀ (b : Bool) (s₁ : Shared) (Q' : Unit → Shared → Prop), Q' () s₁ → wpAny (model P w) A (g b) Q' E s₁)
    {o : Obj} {es : Array (Int × Value)} {ep : Nat} {t : SetTable} (ho : s.heap.get? a = some o) (hex : o.ExactSet) (hd : o.data = .set es ep t)
    {es1 : Array (Int × Value)} {t2 : SetTable} {S' : Str → Bool} (g1 : ∀ e ∈ es1.toList, GoodT w e) (nd1 : (es1.toList.map keyT).Nodup) (m1 : ∀ k, S' k = true ↔ k ∈ es1.toList.map keyT)
    (hb1 : es1.size < scanBound) (hf2 : t2.fits es1.size = true) (hr : Ris t2.place.toList) (hl : w.params.followText "set-order" = true ∨ t2.led = true) {wasDummy : Bool} {R : Option Bool → Shared → Prop}
    (hR : ∀ h', Heap.SameBut a s.heap h' → SetT w h' a S' es1.size → R (some true) { s with heap := h' }) :
    wpAny (model P w) A (do
        storeSet a es1 t2
        if (!wasDummy && t2.tooFull) = true then do
            g (relayAll t2 es1 (SetTable.grown es1.size)).2.2
            storeSet a (relayAll t2 es1 (SetTable.grown es1.size)).1 (relayAll t2 es1 (SetTable.grown es1.size)).2.1
            pure (some true)
          else pure (some true)) R E s := by
  refine wpAny_bind (wpAny_storeSet_of ho hd ?_ (fits_of_scanBound hb1))
  have ho1 := store_at (es' := es1) (t' := t2) ho hd
  have sb1 := Heap.SameBut.update s.heap a (Obj.putSet es1 t2)
  split
  · have pm := relayAll_perm t2 es1 (SetTable.grown es1.size)
    have hf3 := relayAll_fits t2 es1 (SetTable.grown es1.size)
    have hr3 := relayAll_ris t2 es1 (SetTable.grown es1.size)
    have hl3 := relayAll_led t2 es1 (SetTable.grown es1.size)
    generalize relayAll t2 es1 (SetTable.grown es1.size) = Z at pm hf3 hr3 hl3 ⊢
    obtain ⟨es2, t3, gave⟩ := Z
    dsimp only at pm hf3 hr3 hl3 ⊢
    have hsz : es2.size = es1.size := by rw [← Array.length_toList, pm.length_eq, Array.length_toList]
    have hb2 : es2.size < scanBound := by rw [hsz]; exact hb1
    refine wpAny_bind (hg _ _ _ ?_)
    refine wpAny_bind (wpAny_storeSet_of ho1 rfl ?_ (fits_of_scanBound hb2))
    have ho2 := store_at (es' := es2) (t' := t3) ho1 rfl
    refine wpAny_pure (hR _ (sb1.trans (Heap.SameBut.update _ a _)) ?_)
    exact ⟨_, es2, _, t3, ho2, hex, rfl, fun e he => g1 e (pm.mem_iff.mp he), (pm.map keyT).nodup_iff.mpr nd1, fun k => (m1 k).trans (pm.map keyT).mem_iff.symm, hb2, hf3, hsz, hr3,
      hl.imp id fun z => by rw [hl3]; exact z⟩
  · exact wpAny_pure (hR _ sb1 ⟨_, es1, _, t2, ho1, hex, rfl, g1, nd1, m1, hb1, hf2, rfl, hr, hl⟩)
theorem setT_add_hashed {k : Str} {tk : Tok} {Q : Bool → Shared → Prop} (R : SetT w s.heap a S n) (room : n + 1 < scanBound)
    (hQ : ∀ h', Heap.SameBut a s.heap h' → SetT w h' a (fun j => S j || decide (j = k)) (if S k = true then n else n + 1) → Q (!S k) { s with heap := h' }) :
    wpAny (model P w) A (setAddHashed a (.str k tk) ((strKind P w).hash k)) Q E s := by
  obtain ⟨o, es, ep, t, ho, hex, hd, g, nd, hm, hb, hf, hn, hr, hl⟩ := R
  have hkey : (strKind P w).is k (.str k tk) = true := strKind_is P w k tk
  have hsc : (Value.str k tk).scannable = true := rfl
  have hel : ElemsOf (strKind P w) es.toList := goodT_elems g
  unfold setAddHashed setAddHashedIn
  refine wpAny_holding (wpAny_bind (wpAny_setState_of ho hd hf ?_))
  dsimp only
  rw [byScan_of hsc hb hel]
  simp only [↓reduceIte]
  unfold setAddByScan
  refine wpAny_bind ?_
  refine wpAny_bind (wpAny_rule ?_)
  refine wpAny_bind (wpAny_setScan_of hkey ho hd hf hel ?_)
  cases hfi : List.findIdx? (fun e => (strKind P w).is k e.2) es.toList with
  | some j =>
    dsimp only
    obtain ⟨hj, pj, _⟩ := List.findIdx?_eq_some_iff_getElem.mp hfi
    have hSk : S k = true := (hm k).2 ((goodT_mem (P := P) (w := w) g k).2 ⟨es.toList[j], List.getElem_mem hj, pj⟩)
    refine wpAny_pure (wpAny_pure ?_)
    have q := hQ s.heap (Heap.SameBut.refl a s.heap) ⟨o, es, ep, t, ho, hex, hd, g, nd, fun i => by
      rw [Bool.or_eq_true, decide_eq_true_eq, ← hm i]
      exact ⟨fun z => z.elim id (fun e => e ▸ hSk), .inl⟩, hb, hf, by rw [if_pos hSk]; exact hn, hr, hl⟩
    rw [hSk] at q
    exact q
  | none =>
    dsimp only
    have hnk : k ∉ es.toList.map keyT := fun z => by
      obtain ⟨e, he, q⟩ := (goodT_mem (P := P) (w := w) g k).1 z
      have c := List.findIdx?_eq_none_iff.mp hfi e he
      rw [q] at c
      cases c
    have hSk : S k = false := by
      cases q : S k with
      | false => rfl
      | true => exact absurd ((hm k).1 q) hnk
    have hgw : ∀ (b : Bool) {s₁ : Shared} {Q' : Unit → Shared → Prop}, Q' () s₁ → wpAny (model P w) A (match b with | true => rule "set.scan.the-table-gave-way" | false => pure ()) Q' E s₁ :=
      fun b s₁ Q' q => by cases b <;> first | exact wpAny_pure q | exact wpAny_rule q
    have pm := layNew_perm t es ((strKind P w).hash k) (.str k tk)
    have hf1 := layNew_fits t es ((strKind P w).hash k) (.str k tk)
    have hr1 := layNew_ris t es ((strKind P w).hash k) (.str k tk) hr
    have hl1 := layNew_led t es ((strKind P w).hash k) (.str k tk)
    generalize layNew t es ((strKind P w).hash k) (.str k tk) = Z at pm hf1 hr1 hl1 ⊢
    obtain ⟨es1, t1, wasDummy, gave⟩ := Z
    dsimp only at pm hf1 hr1 hl1 ⊢
    rw [Array.toList_push] at pm
    have pc : es1.toList.Perm (((strKind P w).hash k, Value.str k tk) :: es.toList) := pm.trans (List.perm_append_singleton _ _)
    have pk : (es1.toList.map keyT).Perm (k :: es.toList.map keyT) := pc.map keyT
    have g1 : ∀ e ∈ es1.toList, GoodT w e := fun e he => by
      rcases List.mem_cons.mp (pc.mem_iff.mp he) with z | z
      · rw [z]; exact ⟨k, tk, rfl, rfl⟩
      · exact g e z
    have nd1 : (es1.toList.map keyT).Nodup := pk.nodup_iff.mpr (List.nodup_cons.mpr ⟨hnk, nd⟩)
    have m1 : ∀ i, (S i || decide (i = k)) = true ↔ i ∈ es1.toList.map keyT := fun i => by
      rw [Bool.or_eq_true, decide_eq_true_eq, hm i, pk.mem_iff, List.mem_cons]
      exact Or.comm
    have hsz : es1.size = n + 1 := by rw [← Array.length_toList, pc.length_eq, List.length_cons, Array.length_toList, hn]
    have hb1 : es1.size < scanBound := by rw [hsz]; exact room
    have hled : w.params.followText "set-order" = true ∨ t1.led = true := hl.imp id fun z => by rw [hl1]; exact z
    have fin : ∀ h', Heap.SameBut a s.heap h' → SetT w h' a (fun j => S j || decide (j = k)) es1.size → Q true { s with heap := h' } := fun h' sb r => by
      have q := hQ h' sb
      rw [hSk] at q
      rw [hsz] at r
      exact q r
    refine wpAny_bind (hgw _ ?_)
    split
    · refine wpAny_bind ?_
      rw [hashByValue_scannable 8 hsc]
      refine wpAny_pure ?_
      refine setT_add_tail ?_ ho hex hd g1 nd1 m1 hb1 ?_ ?_ ?_ ?_
      · intro b s₁ Q' q; cases b <;> first | exact wpAny_pure q | exact wpAny_rule q
      · first | (split <;> first | exact hf1 | exact SetTable.fits_plain_off hf1) | exact hf1
      · first | (split <;> exact hr1) | exact hr1
      · first | (split <;> exact hled) | exact hled
      · intro h' sb r; dsimp only; exact wpAny_pure (fin h' sb r)
    · refine wpAny_bind (wpAny_pure ?_)
      simp only [↓reduceIte]
      refine setT_add_tail ?_ ho hex hd g1 nd1 m1 hb1 hf1 hr1 hled ?_
      · intro b s₁ Q' q; cases b <;> first | exact wpAny_pure q | exact wpAny_rule q
      · intro h' sb r; dsimp only; exact wpAny_pure (fin h' sb r)
theorem setT_new_at {h : Heap} {a : Addr} {xs : List Str} (ho : h.get? a = some { cls := .type "set", dict := none, data := .set #[] 0 (.fresh 0 0 (!w.params.followText "set-order")) }) : SetT w h a (fun j => decide (j ∈ xs.take 0)) 0 :=
  ⟨_, #[], 0, _, ho, ⟨rfl, rfl, rfl⟩, rfl, (fun e he => by simp at he), (by simp), (fun k => by simp), (by decide), (by rfl), rfl, List.Pairwise.nil, by
    show _ ∨ (!w.params.followText "set-order") = true
    cases w.params.followText "set-order"
    · exact .inr rfl
    · exact .inl rfl⟩
theorem set_update_texts {I : Addr} {fp wr : List Addr} {G : Array GenState → Array GenState → Prop} {n : Nat} {Pv : Nat → Value → Prop} {St : Nat → Shared → Prop} {R : Result → Shared → Prop}
    (W : WalksS P w A.in1 I fp wr G n Pv St) (S : Addr) (hSf : S ∉ fp) (ns : List Str) (hn : n = ns.length) (hb : ns.length + 1 < scanBound) (hval : ∀ i v, Pv i v → ∃ k t, ns[i]? = some k ∧ v = .str k t) :
    ∀ (k i : Nat) (s : Shared), n - i = k → i ≤ n → St i s → (∃ c, c ≤ i ∧ SetT w s.heap S (fun j => decide (j ∈ ns.take i)) c) →
      (∀ s' c, Moved (S :: wr) G s s' → c ≤ n → SetT w s'.heap S (fun j => decide (j ∈ ns)) c → R (.ok (.ret .none)) s') →
      codeAny (model P w) A (.builtin "set.update.loop" ⟨[.ref S, .ref I], []⟩) R s := by
  have hSw : S ∉ wr := fun h => hSf (W.sub _ h)
  have hsub : ∀ b ∈ wr, b ∈ S :: wr := fun b hb => List.mem_cons_of_mem _ hb
  intro k
  induction k with
  | zero =>
    intro i s hk' hi hst ⟨c, hc, hS⟩ hR
    have hin : i = n := by omega
    subst hin
    refine codeAny_builtin F.entry_set_update_loop ?_
    rw [Around.under_plainId F.plain_set_update_loop _]
    show wpAny _ A.in1 (pyNext (.ref I) >>= _) _ _ s
    refine wpAny_bind (W.done s _ _ hst fun s' hm => ?_)
    show wpAny _ A.in1 (ret Value.none) _ _ s'
    have e : ns.take i = ns := List.take_of_length_le (by omega)
    rw [e] at hS
    exact wpAny_pure (hR s' c (hm.mono hsub) hc (hS.at fun o e => hm.heap S o hSw e))
  | succ k ih =>
    intro i s hk' hi hst ⟨c, hc, hS⟩ hR
    have hlt : i < n := by omega
    refine codeAny_builtin F.entry_set_update_loop ?_
    rw [Around.under_plainId F.plain_set_update_loop _]
    show wpAny _ A.in1 (pyNext (.ref I) >>= _) _ _ s
    refine wpAny_bind (W.item i s _ _ hlt hst fun v s' hP hst' hm => ?_)
    obtain ⟨z, t, hz, rfl⟩ := hval i v hP
    have hS' : SetT w s'.heap S (fun j => decide (j ∈ ns.take i)) c := hS.at fun o e => hm.heap S o hSw e
    show wpAny _ A.in1 (holding [Value.str z t] (setAdd S (.str z t)) >>= _) _ _ s'
    refine wpAny_bind (wpAny_holding ?_)
    unfold setAdd
    refine wpAny_holding ?_
    refine wpAny_bind ((strKind P w).pyHash (k := z) (strKind_is _ _ _ _) ?_)
    refine setT_add_hashed (s := { s' with toks := s'.toks + 1 }) hS' (by omega) fun h' hsb hS2 => ?_
    have hS3 : SetT w h' S (fun j => decide (j ∈ ns.take (i + 1))) (if decide (z ∈ ns.take i) = true then c else c + 1) := hS2.congr fun j => by
      rw [List.take_add_one, hz]
      simp [List.mem_append]
    have hc3 : (if decide (z ∈ ns.take i) = true then c else c + 1) ≤ i + 1 := by
      split <;> omega
    refine wpAny_pure ⟨plainId_quiet F.plain_set_update_loop _, ih (i + 1) _ (by omega) hlt (W.frame _ s' _ _ hst' (Nat.le_succ _) fun b hb o e => ?_) ⟨_, hc3, hS3⟩ fun s'' c2 hm'' hc'' hS'' => ?_⟩
    · rw [hsb.2 b (fun h : b = S => hSf (by rw [← h]; exact hb))]; exact e
    · refine hR s'' c2 (Moved.trans W.gtrans ((hm.mono hsub).then_heap (Nat.le_succ _) fun b o hb e => ?_) hm'') hc'' hS''
      rw [hsb.2 b (fun h : b = S => hb (by rw [h]; exact List.mem_cons_self))]; exact e
set_option maxHeartbeats 3200000 in
/-- set(xs), by what its loop does -/
theorem call_set_listG {l : Addr} {items : Array Value} {Z : Heap → Nat → Prop} {Q : Value → Shared → Prop} (hh : A.handled = none) (hl : s.heap.IsList l items)
    (loop : ∀ (A' : Around) (I : Addr) (fp wr : List Addr) (G : Array GenState → Array GenState → Prop) (St : Nat → Shared → Prop) (s1 : Shared) (R : Result → Shared → Prop), WalksS P w A'.in1 I fp wr G items.size (fun i v => items[i]? = some v) St → s.heap.objs.size ∉ fp →
      St 0 s1 → s1.heap.get? s.heap.objs.size = some { cls := .type "set", dict := none, data := .set #[] 0 (.fresh 0 0 (!w.params.followText "set-order")) } →
      (∀ s' c, Moved (s.heap.objs.size :: wr) G s1 s' → c ≤ items.size → Z s'.heap c → R (.ok (.ret .none)) s') → codeAny (model P w) A' (.builtin "set.update.loop" ⟨[.ref s.heap.objs.size, .ref I], []⟩) R s1)
    (h : ∀ (h' : Heap) (tk c : Nat), Z h' c → c ≤ items.size → (∀ b o, s.heap.get? b = some o → h'.get? b = some o) → Q (.ref s.heap.objs.size) { s with heap := h', toks := tk }) :
    wpAny (model P w) A (call (.type "set") [.ref l]) Q E s := by
  obtain ⟨c, tl, hmro⟩ := F.called_set.mro
  have hmade := F.called_set.made
  have hsub := F.called_set.sub
  refine wpAny_call (codeAny_of_tree ?_)
  show wpAny _ _ (callAny (.type "set") _) _ _ _
  refine wpAny_pure ⟨Code.quiet_builtin _ (by decide +kernel), codeAny_builtin F.entry_type_call ?_⟩
  rw [Around.under_plain (weight_type_call_type "set" [.ref l] []) rfl]
  have h1 := F.called_set.notType
  have h2 := F.called_set.canCreate
  have hct := F.typeCall_set_1 (.ref l)
  repeat (any_goals (first | assumption | wp_step))
  refine codeAny_mono (code_set_led1 (.ref l) (E := E) (Q₁ := fun obj s₁ => obj = .ref s.heap.objs.size ∧ s₁ = { s with heap := s.heap.push { cls := .type "set", dict := none, data := .set #[] 0 (.fresh 0 0 (!w.params.followText "set-order")) } }) ⟨rfl, rfl⟩) fun r s₁ hr => ?_
  cases r with
  | error e => exact hr
  | ok fl =>
    cases fl with
    | ret obj =>
      obtain ⟨rfl, rfl⟩ := hr
      have hS : (s.heap.push { cls := .type "set", dict := none, data := .set #[] 0 (.fresh 0 0 (!w.params.followText "set-order")) }).get? s.heap.objs.size = some { cls := .type "set", dict := none, data := .set #[] 0 (.fresh 0 0 (!w.params.followText "set-order")) } := Heap.get?_push_size _ rfl
      have hT : Shared.TypeIs { s with heap := s.heap.push { cls := .type "set", dict := none, data := .set #[] 0 (.fresh 0 0 (!w.params.followText "set-order")) } } (.ref s.heap.objs.size) "set" := ⟨_, hS, rfl⟩
      have hli := F.called_set.init.lookup
      have hbi := F.called_set.init.bind (.ref s.heap.objs.size)
      repeat (any_goals (first | assumption | wp_step))
      refine codeAny_mono (codeAny_call_builtin (R := wants (fun r s₂ => r = .none ∧ ∃ h' tk c, s₂ = { s with heap := h', toks := tk } ∧ Z h' c ∧ c ≤ items.size ∧
          (∀ b o, s.heap.get? b = some o → h'.get? b = some o)) E) F.called_set.init.plain F.entry_set_init (check_set_init_1 hT ?_)) fun r₂ s₂ hr₂ => ?_
      · obtain ⟨ol, hol, hcl, nl, hdl⟩ := hl
        obtain ⟨ocls, odict, odata, oslots⟩ := ol
        simp only at hcl hdl
        subst hcl; subst hdl
        have hol' : (s.heap.push { cls := .type "set", dict := none, data := .set #[] 0 (.fresh 0 0 (!w.params.followText "set-order")) }).get? l = some { cls := .type "list", dict := odict, data := .seq items nl, slots := oslots } := Heap.get?_push_of_some _ hol
        have hsls := F.sub_list_set
        have hslf := F.sub_list_frozenset
        have hne : (Value.type "list" == Value.type "dict") = false := by decide
        have hl1 : (s.heap.push { cls := .type "set", dict := none, data := .set #[] 0 (.fresh 0 0 (!w.params.followText "set-order")) }).IsList l items := ⟨_, hol', rfl, nl, rfl⟩
        unfold Builtin.«set.__init__» noKeywords Builtin.Frozenset.updateFrom
        generalize hPI : pyIter = PI
        wp_walk
        subst hPI
        refine wpAny_pyIter_list hl1 ?_
        refine wpAny_bind (wpAny_runValue ?_)
        have hlS : l < s.heap.objs.size := Heap.lt_size hol
        have hh3 : A.in1.in1.in1.handled = none := by simp [hh]
        have hneI : l ≠ (s.heap.push { cls := .type "set", dict := none, data := .set #[] 0 (.fresh 0 0 (!w.params.followText "set-order")) }).objs.size := by
          rw [Heap.size_push]; exact Nat.ne_of_lt (Nat.lt_succ_of_lt hlS)
        have hSf : s.heap.objs.size ∉ [(s.heap.push { cls := .type "set", dict := none, data := .set #[] 0 (.fresh 0 0 (!w.params.followText "set-order")) }).objs.size, l] := by
          rw [Heap.size_push]; simp only [List.mem_cons, List.mem_singleton, List.not_mem_nil, or_false, not_or]
          exact ⟨Nat.ne_of_lt (Nat.lt_succ_self _), Nat.ne_of_gt hlS⟩
        refine loop _ _ _ _ _ _ _ _ ((Walks.list hh3 _ l hneI items).toS) hSf
          ⟨⟨_, Heap.get?_push_size _ rfl, rfl, rfl⟩, (hl1.push _)⟩ (Heap.get?_push_of_some _ hS) ?hR
        case hR =>
          intro s' c' hm hc' hS'
          obtain ⟨h', g2, d', tk', os'⟩ := s'
          have eg : g2 = s.gens := hm.gens
          have ed : d' = s.drawn := hm.drawn
          have eo : os' = s.os := hm.os
          subst eg; subst ed; subst eo
          show wpAny _ _ _ _ _ _
          refine wpAny_pure ?_
          show wpAny _ _ (ret Value.none) _ _ _
          refine wpAny_pure ⟨rfl, h', tk', c', rfl, hS', hc', fun b o e => ?_⟩
          have hb0 : b < s.heap.objs.size := Heap.lt_size e
          have hb1 : b ≠ s.heap.objs.size := Nat.ne_of_lt hb0
          have hb2 : b ≠ (s.heap.push { cls := .type "set", dict := none, data := .set #[] 0 (.fresh 0 0 (!w.params.followText "set-order")) }).objs.size := by
            rw [Heap.size_push]; exact Nat.ne_of_lt (Nat.lt_succ_of_lt hb0)
          exact hm.heap b o (by simp only [List.mem_cons, List.mem_singleton, List.not_mem_nil, or_false, not_or]; exact ⟨hb1, hb2⟩) (Heap.get?_push_of_some _ (Heap.get?_push_of_some _ e))
      · cases r₂ with
        | error e => exact hr₂
        | ok fl₂ =>
          cases fl₂ with
          | ret r =>
            obtain ⟨rfl, h', tk, c', rfl, hS', hc', hk'⟩ := hr₂
            repeat (any_goals (first | assumption | wp_step))
            exact h _ _ _ hS' hc' hk'
          | _ => exact hr₂.elim
    | _ => exact hr.elim
end
end TL

/-! sorted(set(xs)) over the layer; len(sorted(set(xs))) -/
namespace TL
open PySem PySem.Spec PyProof.Rows L2
section
variable {P : Program} {w : World} {A : Around} {E : Value → Shared → Prop} {s : Shared} {a : Addr}
theorem texts_of : ∀ (l : List Value), (∀ v ∈ l, ∃ k tk, v = Value.str k tk) → StrsAre l (l.map strOf)
  | [], _ => .nil
  | v :: l, h => by
    obtain ⟨k, tk, rfl⟩ := h v List.mem_cons_self
    exact .cons k tk (texts_of l fun u hu => h u (List.mem_cons_of_mem _ hu))
theorem sorted_setT' {S : Str → Bool} {n : Nat} {Q : Value → Shared → Prop} (R : SetT w s.heap a S n) (hh : A.handled = none) (h64 : n < 64)
    (hQ : ∀ s' p (out : Array Value) (c : Nat) (ns : List Str), (∀ b o, s.heap.get? b = some o → s'.heap.get? b = some o) → s'.gens = s.gens → s'.os = s.os → s.heap.objs.size ≤ p →
      s'.heap.get? p = some (seqObj "list" out c) → StrsAre out.toList ns → ns.Nodup → (∀ k, k ∈ ns ↔ S k = true) → ns.length = n → Q (.ref p) s') :
    wpAny (model P w) A (call (.builtin "sorted") [.ref a]) Q E s := by
  obtain ⟨o, es, ep, t, ho, hex, hd, g, nd, hm, hb, hf, hn, hr, hl⟩ := R
  refine Calls.call_function_entry kind_sorted plain_sorted entry_sorted (args_sorted1 _) ?_
  unfold Builtin.«sorted»
  refine wpAny_bind (m := checkCount "sorted" 1 1 _) (wpAny_pure ?_)
  refine wpAny_bind (collect_set (A := A.in1) hh ⟨o, ho, hex.1, hd⟩ hf hb hr hl fun s1 vs k1 hz g1 o1 pm => ?_)
  have hvl : vs.length = n := by rw [pm.length_eq, List.length_map, Array.length_toList]; exact hn
  have hvz : vs.length ≤ sizeLine := by rw [hvl, ← hn]; exact fits_of_scanBound hb
  have hI : StrsAre vs (vs.map strOf) := texts_of vs fun v hv => by
    obtain ⟨e, he, q⟩ := List.mem_map.mp (pm.mem_iff.mp hv)
    obtain ⟨k, tk, h1, _⟩ := g e he
    exact ⟨k, tk, by rw [← q]; exact h1⟩
  have ek : (es.toList.map (·.2)).map strOf = es.toList.map keyT := by
    rw [List.map_map]
    refine List.map_congr_left fun e he => ?_
    obtain ⟨k, tk, h1, _⟩ := g e he
    show strOf e.2 = keyT e
    unfold keyT
    rw [h1]
    rfl
  have pk : (vs.map strOf).Perm (es.toList.map keyT) := by
    have q := pm.map strOf
    rw [ek] at q
    exact q
  refine wpAny_bind (wpAny_newList ?_ hvz)
  have hoL : (s1.heap.push (seqObj "list" vs.toArray 0)).get? s1.heap.objs.size = some (seqObj "list" vs.toArray 0) := Heap.get?_push_size _ rfl
  refine wpAny_bind (wpAny_holding (wpAny_call_entry slot_list_sort ⟨_, hoL, rfl⟩ entry_list_sort (list_sort_treeK strKind_oneLt hoL hI.keysOf (fun v₁ v₂ rest e => keyKind_strs (by rw [← e]; exact hI)) (by rw [hvl]; exact h64) fun st' hp hs => ⟨_, rfl, ?_⟩) (args_list_sort _)))
  obtain ⟨ns', a1, a2, a3⟩ := sorted_out_str hI hp hs
  obtain ⟨c, hc⟩ := sortedHeap_at (vs := vs) (out := (arrOf st').map (·.2)) hoL
  have pn : ns'.Perm (es.toList.map keyT) := a2.trans pk
  refine wpAny_pure ⟨_, rfl, hQ _ s1.heap.objs.size _ c ns' (fun b u e => ?_) g1 o1 hz hc a1 (pn.nodup_iff.mpr nd) (fun k => by rw [pn.mem_iff, ← hm k]) ?_⟩
  · have q := k1 b u e
    have hlt := Heap.lt_size q
    show (sortedHeap (s1.heap.push (seqObj "list" vs.toArray 0)) s1.heap.objs.size vs _).get? b = some u
    rw [sortedHeap_old (Nat.ne_of_lt hlt) (by rw [size_push']; exact Nat.lt_succ_of_lt hlt)]
    exact Heap.get?_push_of_some _ q
  · rw [pn.length_eq, List.length_map, Array.length_toList]; exact hn
end
section
variable {X : Cx}
def SetTX (w : World) (a : Addr) (S : Str → Bool) (n : Nat) : HO := .ext fun h => SetT w h a S n
theorem setTX_new {w : World} {P : Program} {H : Hp} {h : Heap} {a : Addr} {S : Str → Bool} {n : Nat} (R : SetT w h a S n) : ObjOk P w H h a (SetTX w a S n) := by
  have ⟨o, _, _, _, ho, _⟩ := R
  exact ⟨R, ⟨o, ho⟩, fun h1 h2 p k => SetT.at p k⟩
theorem setTX_get {pins : List (Addr × Obj)} {σ : L2.St} {H : Hp} {s : Shared} {a : Addr} {S : Str → Bool} {n : Nat} (I : Inv X pins σ H s) (ha : H a = some (SetTX X.w a S n)) : SetT X.w s.heap a S n := (I.hok a _ ha).1
def rSetOfI (K : Fg) (w : World) : List V → Hp → VK → Prop := fun xs H Q => ∃ (l : Addr) (ns : List Int), xs = [V.ref l] ∧ SqL K H l (ns.map V.int) ∧ ns.length + 1 < scanBound ∧
  ∀ p (S : Int → Bool) n, H p = none → (∀ k, S k = true ↔ k ∈ ns) → n ≤ ns.length → Q (.ref p) (upd H p (SetO w p S n))
def rSetOfS (K : Fg) (w : World) : List V → Hp → VK → Prop := fun xs H Q => ∃ (l : Addr) (ns : List Str), xs = [V.ref l] ∧ SqL K H l (ns.map V.str) ∧ ns.length + 1 < scanBound ∧
  ∀ p (S : Str → Bool) n, H p = none → (∀ k, S k = true ↔ k ∈ ns) → n ≤ ns.length → Q (.ref p) (upd H p (SetTX w p S n))
theorem cr_setOfI (hc : X.calm = true) : CallR X (.type "set") (rSetOfI X.K X.w) := by
  intro pins s σ H xs us Q I r h
  obtain ⟨l, ns, rfl, hl, hb, q⟩ := h
  rw [Vals.ref1 r]
  obtain ⟨its, rv, pl, hz⟩ := I.list hl
  have hn : H s.heap.objs.size = none := I.hok.fresh (Nat.le_refl _)
  have hi : IntsAre its.toArray.toList ns := by simpa using rv.ints
  have hisz : its.toArray.size = ns.length := by
    have q := IntsAre.length hi
    rw [Array.length_toList] at q
    exact q
  refine call_set_listG (Z := fun h' c => SetR X.w h' s.heap.objs.size (fun j => decide (j ∈ ns)) c) (I.ok.hd hc) pl.isList (fun A' I' fp wr G St s1 R W hSf h0 hS hR => ?_) fun h' tk c R hc' k => ?_
  · refine set_update_ints W _ hSf ns hisz hb (fun i v hv => ?_) (its.toArray.size - 0) 0 s1 (by omega) (Nat.zero_le _) h0 ⟨0, Nat.le_refl 0, setR_new_at hS⟩ hR
    have hi' : i < ns.length := by rw [← hisz]; exact (Array.getElem?_eq_some_iff.mp hv).1
    obtain ⟨t, e⟩ := PyProof.Rows.IntsAre.int_at hi i v (by rw [Array.getElem?_toList]; exact hv)
    refine ⟨ns[i], t, List.getElem?_eq_getElem hi', ?_⟩
    rw [e, List.getD_eq_getElem?_getD, List.getElem?_eq_getElem hi'] <;> rfl
  · exact ⟨.ref s.heap.objs.size, upd H s.heap.objs.size (SetO X.w s.heap.objs.size _ c), I.laid (t' := tk) k (Nat.le_refl _) (setO_new R), rfl, q _ _ c hn (fun k => by simp) (by rw [← hisz]; exact hc')⟩
theorem cr_setOfS (hc : X.calm = true) : CallR X (.type "set") (rSetOfS X.K X.w) := by
  intro pins s σ H xs us Q I r h
  obtain ⟨l, ns, rfl, hl, hb, q⟩ := h
  rw [Vals.ref1 r]
  obtain ⟨its, rv, pl, hz⟩ := I.list hl
  have hn : H s.heap.objs.size = none := I.hok.fresh (Nat.le_refl _)
  have hi : StrsAre its.toArray.toList ns := by simpa using rv.strs
  have hisz : its.toArray.size = ns.length := by
    have q := StrsAre.length hi
    rw [Array.length_toList] at q
    exact q
  refine call_set_listG (Z := fun h' c => SetT X.w h' s.heap.objs.size (fun j => decide (j ∈ ns)) c) (I.ok.hd hc) pl.isList (fun A' I' fp wr G St s1 R W hSf h0 hS hR => ?_) fun h' tk c R hc' k => ?_
  · refine set_update_texts W _ hSf ns hisz hb (fun i v hv => ?_) (its.toArray.size - 0) 0 s1 (by omega) (Nat.zero_le _) h0 ⟨0, Nat.le_refl 0, setT_new_at hS⟩ hR
    have hi' : i < ns.length := by rw [← hisz]; exact (Array.getElem?_eq_some_iff.mp hv).1
    obtain ⟨t, e⟩ := SS.strs_at hi i v (by rw [Array.getElem?_toList]; exact hv)
    refine ⟨ns[i], t, List.getElem?_eq_getElem hi', ?_⟩
    rw [e, List.getD_eq_getElem?_getD, List.getElem?_eq_getElem hi'] <;> rfl
  · exact ⟨.ref s.heap.objs.size, upd H s.heap.objs.size (SetTX X.w s.heap.objs.size _ c), I.laid (t' := tk) k (Nat.le_refl _) (setTX_new R), rfl, q _ _ c hn (fun k => by simp) (by rw [← hisz]; exact hc')⟩
def rSortedTX (w : World) : List V → Hp → VK → Prop := fun vs H Q => ∃ (a : Addr) (S : Str → Bool) (n : Nat), vs = [V.ref a] ∧ H a = some (SetTX w a S n) ∧ n < 64 ∧
  ∀ (ns : List Str) (p : Addr), ns.Nodup → (∀ k : Str, k ∈ ns ↔ S k = true) → ns.length = n → H p = none → Q (.ref p) (upd H p (.lst (ns.map V.str)))
theorem cr_sortedTX (hc : X.calm = true) : CallR X (.builtin "sorted") (rSortedTX X.w) := by
  intro pins s σ H vs us Q I r h
  obtain ⟨a, S, n, rfl, ha, h64, q⟩ := h
  have R := setTX_get I ha
  rw [Vals.ref1 r]
  refine sorted_setT' R (I.ok.hd hc) h64 fun s' p out c ns k g o hp hg hi hs hm hl => ?_
  have hlen : (ns.map V.str).length ≤ sizeLine := by rw [List.length_map, hl, sizeLine_eq]; omega
  have hn : H p = none := I.hok.fresh hp
  have J : Inv X pins σ (upd H p (.lst (ns.map V.str))) { s with heap := s'.heap, gens := s'.gens, drawn := s'.drawn, toks := s'.toks } :=
    I.call (ch := []) (Un.laid k hp hn) (I.hok.laid k hp ⟨hlen, out.toList, c, vals_of_strs hi, hg⟩) (by rw [g]; exact I.bare) (fun _ z => nomatch z)
  have e : s' = { s with heap := s'.heap, gens := s'.gens, drawn := s'.drawn, toks := s'.toks } := by
    cases s'
    cases s
    cases o
    rfl
  rw [e]
  exact ⟨.ref p, _, J, rfl, q ns p hs hm hl hn⟩
theorem k_setOfI (K : Fg) (w : World) (hc : X.calm = true := by rfl) (hK : X.K = K := by rfl) (hw : X.w = w := by rfl) : CallR X (.type "set") (rSetOfI K w) := by subst hK; subst hw; exact cr_setOfI hc
theorem k_setOfS (K : Fg) (w : World) (hc : X.calm = true := by rfl) (hK : X.K = K := by rfl) (hw : X.w = w := by rfl) : CallR X (.type "set") (rSetOfS K w) := by subst hK; subst hw; exact cr_setOfS hc
theorem k_sortedI2 (w : World) (hc : X.calm = true := by rfl) (hw : X.w = w := by rfl) : CallR X (.builtin "sorted") (rSortedSet w) := by subst hw; exact cr_sortedSet hc
theorem k_sortedTX (w : World) (hc : X.calm = true := by rfl) (hw : X.w = w := by rfl) : CallR X (.builtin "sorted") (rSortedTX w) := by subst hw; exact cr_sortedTX hc
end
/-! ### how many unlike ones -/
def cardL {α : Type} [DecidableEq α] : List α → Nat
  | [] => 0
  | x :: xs => if x ∈ xs then cardL xs else cardL xs + 1
def cardO {α : Type} [DecidableEq α] (xs : List α) : Option Int := if xs.length < 64 then some ((cardL xs : Nat) : Int) else none
theorem cardL_cons {α : Type} [DecidableEq α] (x : α) (xs : List α) : cardL (x :: xs) = if x ∈ xs then cardL xs else cardL xs + 1 := rfl
theorem card_le {α : Type} [DecidableEq α] : ∀ xs : List α, cardL xs ≤ xs.length
  | [] => Nat.le_refl _
  | x :: xs => by
    have := card_le xs
    rw [cardL_cons]
    split
    · rw [List.length_cons]; omega
    · rw [List.length_cons]; omega
theorem card_nodup {α : Type} [DecidableEq α] : ∀ xs : List α, cardL xs = xs.length ↔ xs.Nodup
  | [] => by simp [cardL]
  | x :: xs => by
    have h1 := card_le xs
    have h2 := card_nodup xs
    rw [List.nodup_cons, ← h2]
    rw [cardL_cons]
    split
    · rename_i c
      rw [List.length_cons]
      constructor
      · intro q; omega
      · rintro ⟨q, _⟩; exact absurd c q
    · rename_i c
      rw [List.length_cons]
      constructor
      · intro q; exact ⟨c, by omega⟩
      · rintro ⟨_, q⟩; omega
theorem card_of {α : Type} [DecidableEq α] : ∀ (xs ys : List α), ys.Nodup → (∀ k, k ∈ ys ↔ k ∈ xs) → ys.length = cardL xs
  | [], ys, _, h => by
    cases ys with
    | nil => rfl
    | cons y ys => exact absurd ((h y).mp (List.mem_cons_self ..)) (by simp)
  | x :: xs, ys, nd, h => by
    rw [cardL_cons]
    split
    · rename_i c
      refine card_of xs ys nd fun k => (h k).trans ?_
      rw [List.mem_cons]
      exact ⟨fun q => q.elim (fun e => e ▸ c) id, .inr⟩
    · rename_i c
      have hx : x ∈ ys := (h x).mpr (List.mem_cons_self ..)
      have pe := List.perm_cons_erase hx
      have nd2 := pe.nodup_iff.mp nd
      obtain ⟨n1, n2⟩ := List.nodup_cons.mp nd2
      have e := card_of xs (ys.erase x) n2 fun k => ?_
      · rw [pe.length_eq, List.length_cons, e]
      · have hk := h k
        rw [pe.mem_iff, List.mem_cons, List.mem_cons] at hk
        constructor
        · intro q
          rcases hk.mp (.inr q) with r | r
          · rw [r] at q; exact absurd q n1
          · exact r
        · intro q
          rcases hk.mpr (.inr q) with r | r
          · rw [r] at q; exact absurd q c
          · exact r
section
variable {K : Fg} {ta : TE} {ρ : List Sl} {O O1 : Os} {w : World}
theorem rx_cardI {ns : List Int} {n : Int} (hn : cardO ns = some n) (ha : RXs K ta ρ O (ns.map .int) O1) :
    RX K (tCB (rLenQ K) (tCons (tCB (rSortedSet w) (tCons (tCB (rSetOfI K w) (tCons ta tNil)) tNil)) tNil)) ρ O (.int n) O1 := ⟨fun _ _ _ _ _ _ Q E S k =>
  ha.go E S fun a F1 H1 f1 E1 S1 r1 => by
    unfold cardO at hn
    split at hn
    · rename_i h64
      cases hn
      obtain ⟨vs, q1, q2, q3⟩ := r1 F1 H1 (Same.refl _) S1
      have hv := q3.ints
      subst hv
      refine ⟨a, ns, rfl, q1, by unfold scanBound; omega, fun p S' n hp hS hn => ?_⟩
      have S2 := S1.loose (o := SetO w p S' n) hp
      refine ⟨p, S', n, rfl, upd_same, by omega, fun out q hs hm hl hq => ?_⟩
      have S3 := S2.loose (o := .lst (out.map V.int)) hq
      have el : out.length = cardL ns := card_of ns out (up_nd hs) fun k => (hm k).trans (hS k)
      refine ⟨q, out.map V.int, rfl, .inl (SqL.of upd_same), ?_⟩
      rw [List.length_map, el]
      exact k _ F1 _ f1 S3 (.int _)
    · cases hn⟩
theorem rx_cardS {ns : List Str} {n : Int} (hn : cardO ns = some n) (ha : RXs K ta ρ O (ns.map .str) O1) :
    RX K (tCB (rLenQ K) (tCons (tCB (rSortedTX w) (tCons (tCB (rSetOfS K w) (tCons ta tNil)) tNil)) tNil)) ρ O (.int n) O1 := ⟨fun _ _ _ _ _ _ Q E S k =>
  ha.go E S fun a F1 H1 f1 E1 S1 r1 => by
    unfold cardO at hn
    split at hn
    · rename_i h64
      cases hn
      obtain ⟨vs, q1, q2, q3⟩ := r1 F1 H1 (Same.refl _) S1
      have hv := q3.strs
      subst hv
      refine ⟨a, ns, rfl, q1, by unfold scanBound; omega, fun p S' n hp hS hn => ?_⟩
      have S2 := S1.loose (o := SetTX w p S' n) hp
      refine ⟨p, S', n, rfl, upd_same, by omega, fun out q hs hm hl hq => ?_⟩
      have S3 := S2.loose (o := .lst (out.map V.str)) hq
      have el : out.length = cardL ns := card_of ns out hs fun k => (hm k).trans (hS k)
      refine ⟨q, out.map V.str, rfl, .inl (SqL.of upd_same), ?_⟩
      rw [List.length_map, el]
      exact k _ F1 _ f1 S3 (.int _)
    · cases hn⟩
end
end TL

/-! own dicts by flat keys -/
namespace TL
open PySem L2
open Enc
/-! ### pairs -/
section
variable {κ β : Type} [DecidableEq κ]
def putM (xs : List (κ × β)) (k : κ) (v : β) : List (κ × β) := if (xs.any fun p => decide (p.1 = k)) = true then xs.map (fun p => if p.1 = k then (p.1, v) else p) else xs ++ [(k, v)]
def getM (xs : List (κ × β)) (k : κ) : Option β := (xs.find? fun p => decide (p.1 = k)).map (·.2)
def hasM (xs : List (κ × β)) (k : κ) : Bool := (getM xs k).isSome
def putMO (xs : List (κ × β)) (k : κ) (v : β) : Option (List (κ × β)) := if xs.length < 16777216 then some (putM xs k v) else none
theorem putM_len (xs : List (κ × β)) (k : κ) (v : β) : (putM xs k v).length ≤ xs.length + 1 := by
  unfold putM
  split
  · rw [List.length_map]; omega
  · rw [List.length_append]; exact Nat.le_refl _
end
theorem getM_cons {κ β : Type} [DecidableEq κ] (k j : κ) (v : β) (xs : List (κ × β)) : getM ((k, v) :: xs) j = if k = j then some v else getM xs j := by
  unfold getM
  rw [List.find?_cons]
  by_cases e : k = j
  · simp [e]
  · simp [e]
theorem getM_any {κ β : Type} [DecidableEq κ] : ∀ (xs : List (κ × β)) (k : κ), (xs.any fun p => decide (p.1 = k)) = (getM xs k).isSome
  | [], _ => rfl
  | (j, v) :: xs, k => by
    rw [List.any_cons, getM_any xs k, getM_cons]
    by_cases e : j = k
    · simp [e]
    · simp [e]
theorem getM_app {κ β : Type} [DecidableEq κ] : ∀ (xs : List (κ × β)) (k j : κ) (v : β), getM (xs ++ [(k, v)]) j = if (getM xs j).isSome then getM xs j else if k = j then some v else none
  | [], k, j, v => by
    rw [List.nil_append, getM_cons]
    rfl
  | (i, x) :: xs, k, j, v => by
    rw [List.cons_append, getM_cons, getM_cons, getM_app xs k j v]
    by_cases e : i = j
    · simp [e]
    · simp only [if_neg e]
theorem getM_map {κ β : Type} [DecidableEq κ] : ∀ (xs : List (κ × β)) (k j : κ) (v : β), getM (xs.map fun p => if p.1 = k then (p.1, v) else p) j = if k = j then (getM xs j).map fun _ => v else getM xs j
  | [], k, j, v => by
    show (none : Option β) = _
    split <;> rfl
  | (i, x) :: xs, k, j, v => by
    rw [List.map_cons]
    by_cases e : i = k
    · subst e
      rw [if_pos rfl, getM_cons, getM_cons, getM_map xs i j v]
      by_cases e2 : i = j
      · simp [e2]
      · simp [e2]
    · rw [if_neg e, getM_cons, getM_cons, getM_map xs k j v]
      by_cases e2 : i = j
      · have e3 : ¬ k = j := fun z => e (e2.trans z.symm)
        simp [e2, e3]
      · simp only [if_neg e2]
/-- what is found behind a store -/
theorem getM_put {κ β : Type} [DecidableEq κ] (xs : List (κ × β)) (k j : κ) (v : β) : getM (putM xs k v) j = if k = j then some v else getM xs j := by
  unfold putM
  rw [getM_any]
  split
  · rename_i c
    rw [getM_map]
    split
    · rename_i e
      subst e
      obtain ⟨z, hz⟩ := Option.isSome_iff_exists.mp c
      rw [hz]
      rfl
    · rfl
  · rename_i c
    rw [getM_app]
    split
    · rename_i c2
      have ne : ¬ k = j := by
        rintro rfl
        exact c c2
      rw [if_neg ne]
    · rename_i c2
      split
      · rfl
      · cases q : getM xs j with
        | none => rfl
        | some z => rw [q] at c2; exact absurd rfl c2
/-! ### flat keys -/
class KeyC (κ : Type) [DecidableEq κ] [Enc κ] where
  key : κ → Key
  inj : ∀ a b : κ, key a = key b → a = b
  rp : ∀ (K : Fg) (F : Hp) (v : V) (a : κ), Rp K F v (enc a) → v = kV (key a)
instance : KeyC Int := ⟨Sum.inl, fun a b e => Sum.inl.inj e, fun K F v a h => by cases h; rfl⟩
instance : KeyC Str := ⟨Sum.inr, fun a b e => Sum.inr.inj e, fun K F v a h => by cases h; rfl⟩
section
variable {κ β : Type} [DecidableEq κ] [Enc κ] [KeyC κ] [Enc β]
def encK (xs : List (κ × β)) : List (Key × PyData) := xs.map fun p => (KeyC.key p.1, enc p.2)
theorem encK_any (k : κ) : ∀ xs : List (κ × β), ((encK xs).any fun p => decide (p.1 = KeyC.key k)) = xs.any fun p => decide (p.1 = k)
  | [] => rfl
  | (j, v) :: xs => by
    show (decide (KeyC.key j = KeyC.key k) || (encK xs).any _) = _
    rw [encK_any k xs, List.any_cons]
    have e : decide (KeyC.key j = KeyC.key k) = decide (j = k) := by
      by_cases e : j = k
      · simp [e]
      · have : ¬ KeyC.key j = KeyC.key k := fun z => e (KeyC.inj _ _ z)
        simp [e, this]
    rw [e]
theorem encK_put (xs : List (κ × β)) (k : κ) (v : β) : putM (encK xs) (KeyC.key k) (enc v) = encK (putM xs k v) := by
  unfold putM
  rw [encK_any]
  split
  · unfold encK
    rw [List.map_map, List.map_map]
    refine List.map_congr_left fun p _ => ?_
    show (if KeyC.key p.1 = KeyC.key k then (KeyC.key p.1, enc v) else (KeyC.key p.1, enc p.2)) = _
    by_cases e : p.1 = k
    · rw [if_pos (by rw [e])]
      show _ = (KeyC.key (if p.1 = k then (p.1, v) else p).1, enc (if p.1 = k then (p.1, v) else p).2)
      rw [if_pos e]
    · rw [if_neg fun z => e (KeyC.inj _ _ z)]
      show _ = (KeyC.key (if p.1 = k then (p.1, v) else p).1, enc (if p.1 = k then (p.1, v) else p).2)
      rw [if_neg e]
  · unfold encK
    rw [List.map_append]
    rfl
theorem encK_get (k : κ) : ∀ xs : List (κ × β), getM (encK xs) (KeyC.key k) = (getM xs k).map enc
  | [] => rfl
  | (j, v) :: xs => by
    show getM ((KeyC.key j, enc v) :: encK xs) _ = _
    rw [getM_cons, getM_cons, encK_get k xs]
    by_cases e : j = k
    · rw [if_pos e, if_pos (by rw [e])]; rfl
    · rw [if_neg e, if_neg fun z => e (KeyC.inj _ _ z)]
end
section
variable {κ : Type} [DecidableEq κ] {K : Fg} {F : Hp}
theorem KD.nil : KD K F ([] : List (κ × V)) [] := ⟨rfl, .nil⟩
theorem KD.tl {p : κ × V} {q : κ × PyData} {vs : List (κ × V)} {kvs : List (κ × PyData)} (h : KD K F (p :: vs) (q :: kvs)) : (p.1 = q.1 ∧ Rp K F p.2 q.2) ∧ KD K F vs kvs := by
  obtain ⟨h1, h2⟩ := h
  rw [List.map_cons, List.map_cons] at h1 h2
  cases h2 with
  | cons r t => exact ⟨⟨(List.cons.inj h1).1, r⟩, (List.cons.inj h1).2, t⟩
theorem KD.cons {p : κ × V} {q : κ × PyData} {vs : List (κ × V)} {kvs : List (κ × PyData)} (e : p.1 = q.1) (r : Rp K F p.2 q.2) (h : KD K F vs kvs) : KD K F (p :: vs) (q :: kvs) := by
  refine ⟨?_, ?_⟩
  · rw [List.map_cons, List.map_cons, e, h.1]
  · rw [List.map_cons, List.map_cons]
    exact .cons r h.2
theorem KD.get (k : κ) : ∀ {vs : List (κ × V)} {kvs : List (κ × PyData)}, KD K F vs kvs → (getM kvs k = none ∧ valV vs k = none) ∨ ∃ d v, getM kvs k = some d ∧ valV vs k = some v ∧ Rp K F v d
  | [], [], _ => .inl ⟨rfl, rfl⟩
  | [], _ :: _, h => by have := h.1; cases this
  | _ :: _, [], h => by have := h.1; cases this
  | p :: vs, q :: kvs, h => by
    obtain ⟨⟨h1, h2⟩, h3⟩ := h.tl
    by_cases e : p.1 = k
    · have e2 : q.1 = k := h1.symm.trans e
      exact .inr ⟨q.2, p.2, by rw [show q = (q.1, q.2) from rfl, getM_cons, if_pos e2], valV_pos e, h2⟩
    · have e2 : ¬ q.1 = k := fun z => e (h1.trans z)
      have g : getM (q :: kvs) k = getM kvs k := by rw [show q = (q.1, q.2) from rfl, getM_cons, if_neg e2]
      rw [valV_neg e, g]
      exact KD.get k h3
theorem KD.len {vs : List (κ × V)} {kvs : List (κ × PyData)} (h : KD K F vs kvs) : vs.length = kvs.length := by
  have := congrArg List.length h.1
  rw [List.length_map, List.length_map] at this
  exact this
theorem KD.snoc {k : κ} {v : V} {d : PyData} (r : Rp K F v d) : ∀ {vs : List (κ × V)} {kvs : List (κ × PyData)}, KD K F vs kvs → KD K F (vs ++ [(k, v)]) (kvs ++ [(k, d)])
  | [], [], _ => .cons rfl r .nil
  | [], _ :: _, h => by have := h.1; cases this
  | _ :: _, [], h => by have := h.1; cases this
  | p :: vs, q :: kvs, h => by
    obtain ⟨⟨h1, h2⟩, h3⟩ := h.tl
    exact .cons h1 h2 (KD.snoc r h3)
theorem KD.repl {k : κ} {v : V} {d : PyData} (r : Rp K F v d) : ∀ {vs : List (κ × V)} {kvs : List (κ × PyData)}, KD K F vs kvs → KD K F (vs.map fun kv => if kv.1 = k then (kv.1, v) else kv) (kvs.map fun kv => if kv.1 = k then (kv.1, d) else kv)
  | [], [], _ => .nil
  | [], _ :: _, h => by have := h.1; cases this
  | _ :: _, [], h => by have := h.1; cases this
  | p :: vs, q :: kvs, h => by
    obtain ⟨⟨h1, h2⟩, h3⟩ := h.tl
    rw [List.map_cons, List.map_cons]
    by_cases e : p.1 = k
    · have e2 : q.1 = k := h1.symm.trans e
      rw [if_pos e, if_pos e2]
      exact .cons h1 r (KD.repl r h3)
    · have e2 : ¬ q.1 = k := fun z => e (h1.trans z)
      rw [if_neg e, if_neg e2]
      exact .cons h1 h2 (KD.repl r h3)
theorem KD.put {k : κ} {v : V} {d : PyData} {vs : List (κ × V)} {kvs : List (κ × PyData)} (h : KD K F vs kvs) (r : Rp K F v d) : KD K F (putK vs k v) (putM kvs k d) := by
  unfold putK putM
  have e : (vs.any fun kv => decide (kv.1 = k)) = kvs.any fun p => decide (p.1 = k) := by
    rw [valV_any, getM_any]
    rcases h.get k with ⟨e1, e2⟩ | ⟨d, v, e1, e2, _⟩
    · rw [e1, e2]; rfl
    · rw [e1, e2]; rfl
  rw [e]
  split
  · exact h.repl r
  · exact h.snoc r
end
/-! ### the layer -/
section
variable {K : Fg} {F0 H0 F H : Hp} {D0 : List Addr} {O O1 O2 O3 : Os} {σ : L2.St} {ρ : List Sl} {D : Ends} {tv ty tx : TE} {d : PyData}
theorem st_newK {i : Nat} (E : EnvR K F σ ρ) (S : Hx K F0 H0 D0 F O H) (k : ∀ p σ' F' H', Same F F' → EnvR K F' σ' (ρ.set i (.adr p)) → Hx K F0 H0 D0 F' (⟨p, true, .k []⟩ :: O) H' → D.nx σ' H') : tAsg tDNewK (gName i) D σ H := fun p hp =>
  k p _ F _ (Same.refl _) (E.seta i) (S.mineD hp ⟨[], upd_same, Nat.zero_le _, .nil⟩)
/-- where a dict stands: own, or frozen -/
inductive DkAt (ρ : List Sl) (O : Os) (i : Nat) (kvs : List (Key × PyData)) : Prop
  | own {a : Addr} {nw : Bool} {j : Nat} : ρ[i]? = some (.adr a) → O[j]? = some ⟨a, nw, .k kvs⟩ → DkAt ρ O i kvs
  | frz : ρ[i]? = some (.dk kvs) → DkAt ρ O i kvs
theorem DkAt.at {i : Nat} {kvs : List (Key × PyData)} (h : DkAt ρ O i kvs) (E : EnvR K F σ ρ) (S : Hx K F0 H0 D0 F O H) : ∃ a, σ[i]? = some (some (.ref a)) ∧ ∀ F' H', Same F F' → Hx K F0 H0 D0 F' O H' → ∃ vs, H' a = some (.dK vs) ∧ KD K F' vs kvs := by
  cases h with
  | @own a nw j h1 h2 =>
    exact ⟨a, E.adr h1, fun F' H' f S' => by
      obtain ⟨_, _, _, vs, h3, h4, h5⟩ := S'.getD h2
      exact ⟨vs, h3, h5⟩⟩
  | frz h1 =>
    obtain ⟨s, h2, t, vs, rfl, h3, h4, h5⟩ := E.at h1
    exact ⟨t, h2, fun F' H' f S' => ⟨vs, S'.fh _ _ (f _ _ h3), h5.up f⟩⟩
section
variable {κ β : Type} [DecidableEq κ] [Enc κ] [KeyC κ] [Enc β]
theorem st_dput {i j : Nat} {a : Addr} {nw : Bool} {xs xs' : List (κ × β)} {k : κ} {v : β} (hn : putMO xs k v = some xs') (hs : ρ[i]? = some (.adr a)) (hv : RX K tv ρ O (enc v) O1) (hk : RX K ty ρ O1 (enc k) O2) (hj : O2[j]? = some ⟨a, nw, .k (encK xs)⟩)
    (E : EnvR K F σ ρ) (S : Hx K F0 H0 D0 F O H) (kk : ∀ F' H', Same F F' → EnvR K F' σ ρ → Hx K F0 H0 D0 F' (O2.set j ⟨a, nw, .k (encK xs')⟩) H' → D.nx σ H') : sDPut (tVar i) ty tv D σ H :=
  hv.go E S fun v1 F1 H1 f1 E1 S1 r1 => ⟨_, E1.adr hs, hk.go E1 S1 fun y F2 H2 f2 E2 S2 r2 => by
    unfold putMO at hn
    split at hn
    · rename_i hl
      cases hn
      have ey := KeyC.rp K F2 y k r2
      subst ey
      obtain ⟨_, _, _, vs, h3, h4, h5⟩ := S2.getD hj
      have hl2 : vs.length < sizeLine := by rw [h5.len, sizeLine_eq]; unfold encK; rw [List.length_map]; exact hl
      have h6 : KD K F2 (putK vs (KeyC.key k) v1) (encK (putM xs k v)) := by rw [← encK_put]; exact h5.put (r1.up f2)
      refine ⟨a, _, rfl, DPut.k h3 hl2, kk F2 _ (f1.trans f2) E2 (S2.mutD hj ⟨_, upd_same, ?_, h6⟩)⟩
      have := length_putK vs (KeyC.key k) v1
      omega
    · cases hn⟩
theorem rx_dkget {i : Nat} {xs : List (κ × β)} {k : κ} {v : β} (hn : getM xs k = some v) (hd : DkAt ρ O i (encK xs)) (hk : RX K ty ρ O (enc k) O) : RX K (tDGet (tVar i) ty) ρ O (enc v) O := ⟨fun _ _ _ _ _ _ Q E S kk => by
  obtain ⟨a, h1, h2⟩ := hd.at E S
  refine ⟨_, h1, hk.go E S fun y F2 H2 f2 E2 S2 r2 => ?_⟩
  have ey := KeyC.rp K F2 y k r2
  subst ey
  obtain ⟨vs, h3, h5⟩ := h2 F2 H2 f2 S2
  have g : getM (encK xs) (KeyC.key k) = some (enc v) := by rw [encK_get, hn]; rfl
  rcases h5.get (KeyC.key k) with ⟨e, _⟩ | ⟨d, u, e1, e2, r⟩
  · rw [e] at g; cases g
  · rw [e1] at g
    have g := Option.some.inj g
    subst g
    exact ⟨a, u, rfl, by rw [← e2]; exact DGet.k h3, kk u F2 H2 f2 S2 r⟩⟩
theorem rx_dkget2 {i : Nat} {xs : List (κ × β)} {k : κ} {v : β} (hd : DkAt ρ O i (encK xs)) (hk : RX K ty ρ O (enc k) O) (hx : RX K tx ρ O (enc v) O) : RX K (tDGet2 (tVar i) ty tx) ρ O (enc ((getM xs k).getD v)) O := ⟨fun _ _ _ _ _ _ Q E S kk => by
  obtain ⟨a, h1, h2⟩ := hd.at E S
  obtain ⟨vs0, h30, _⟩ := h2 _ _ (Same.refl _) S
  refine ⟨_, h1, a, rfl, .inl ⟨_, .inl h30⟩, hk.go E S fun y F2 H2 f2 E2 S2 r2 => hx.go E2 S2 fun z F3 H3 f3 E3 S3 r3 => ?_⟩
  have ey := KeyC.rp K F2 y k r2
  subst ey
  obtain ⟨vs, h3, h5⟩ := h2 F3 H3 (f2.trans f3) S3
  have g := encK_get k xs
  rcases h5.get (KeyC.key k) with ⟨e, e2⟩ | ⟨d, u, e1, e2, r⟩
  · rw [e] at g
    refine ⟨none, by rw [← e2]; exact DGet.k h3, kk z F3 H3 (f2.trans f3) S3 ?_⟩
    cases q : getM xs k with
    | none => exact r3
    | some w => rw [q] at g; cases g
  · rw [e1] at g
    refine ⟨some u, by rw [← e2]; exact DGet.k h3, kk u F3 H3 (f2.trans f3) S3 ?_⟩
    cases q : getM xs k with
    | none => rw [q] at g; cases g
    | some w =>
      rw [q] at g
      have g := Option.some.inj g
      subst g
      exact r⟩
theorem din_of {i : Nat} {xs : List (κ × β)} {k : κ} (hd : DkAt ρ O i (encK xs)) (E : EnvR K F σ ρ) (S : Hx K F0 H0 D0 F O H) : ∃ a, σ[i]? = some (some (.ref a)) ∧ ∃ o, DGet H a (kV (KeyC.key k)) o ∧ o.isSome = hasM xs k := by
  obtain ⟨a, h1, h2⟩ := hd.at E S
  obtain ⟨vs, h3, h5⟩ := h2 _ _ (Same.refl _) S
  refine ⟨a, h1, _, DGet.k h3, ?_⟩
  have g := encK_get k xs
  unfold hasM
  rcases h5.get (KeyC.key k) with ⟨e, e2⟩ | ⟨d, u, e1, e2, r⟩
  · rw [e2]
    cases q : getM xs k with
    | none => rfl
    | some w => rw [e, q] at g; cases g
  · rw [e2]
    cases q : getM xs k with
    | none => rw [e1, q] at g; cases g
    | some w => rfl
theorem rx_dkin {i : Nat} {xs : List (κ × β)} {k : κ} (hk : RX K ty ρ O (enc k) O) (hd : DkAt ρ O i (encK xs)) : RX K (tDIn ty (tVar i)) ρ O (.bool (hasM xs k)) O := ⟨fun _ _ _ _ _ _ Q E S kk => hk.go E S fun y F2 H2 f2 E2 S2 r2 => by
  have ey := KeyC.rp K F2 y k r2
  subst ey
  obtain ⟨a, h1, o, h2, h3⟩ := din_of (k := k) hd E2 S2
  refine ⟨_, h1, a, o, rfl, h2, ?_⟩
  rw [h3]
  exact kk _ F2 H2 f2 S2 (.bl _)⟩
theorem rx_dknotin {i : Nat} {xs : List (κ × β)} {k : κ} (hk : RX K ty ρ O (enc k) O) (hd : DkAt ρ O i (encK xs)) : RX K (tDNotIn ty (tVar i)) ρ O (.bool (!hasM xs k)) O := ⟨fun _ _ _ _ _ _ Q E S kk => hk.go E S fun y F2 H2 f2 E2 S2 r2 => by
  have ey := KeyC.rp K F2 y k r2
  subst ey
  obtain ⟨a, h1, o, h2, h3⟩ := din_of (k := k) hd E2 S2
  refine ⟨_, h1, a, o, rfl, h2, ?_⟩
  rw [h3]
  exact kk _ F2 H2 f2 S2 (.bl _)⟩
end
/-- an own dict is frozen -/
theorem frz_dk {i j : Nat} {a : Addr} {kvs : List (Key × PyData)} (hs : ρ[i]? = some (.adr a)) (hj : O[j]? = some ⟨a, true, .k kvs⟩) (E : EnvR K F σ ρ) (S : Hx K F0 H0 D0 F O H) :
    ∃ F', Same F F' ∧ EnvR K F' σ (ρ.set i (.dk kvs)) ∧ Hx K F0 H0 D0 F' (O.eraseIdx j) H := by
  obtain ⟨h1, _, _, vs, h3, h4, h5⟩ := S.getD hj
  obtain ⟨f, S'⟩ := S.frzD hj h3
  have q := E.adr hs
  have E2 := EnvR.set (s := some (.ref a)) (r := .dk kvs) (K := K) (F := upd F a (.dK vs)) ⟨a, vs, rfl, upd_same, h4, h5.up f⟩ i (E.up f)
  rw [set_same q] at E2
  exact ⟨_, f, E2, S'⟩
/-! ### calls that are handed a frozen dict -/
def SpA (K : Fg) (R : List Sl → PyData → Prop) : Sp := fun vs H Q _ => ∃ F as d, AsR K F vs as ∧ Same F H ∧ R as d ∧ ∀ v F' H', Stp [] F H F' H' → Rp K F' v d → Q v H'
theorem spa_len {R : List Sl → PyData → Prop} {n : Nat} (h : ∀ ds d, R ds d → ds.length = n) : ∀ vs H Q E, SpA K R vs H Q E → vs.length = n := fun vs H Q E ⟨F, as, d, r, _, hR, _⟩ => r.length.trans (h as d hR)
theorem rx_callA {R : List Sl → PyData → Prop} {t : TA} {as : List Sl} (hR : R as d) (ha : RA K t ρ O as O1) : RX K (tCall (SpA K R) [] E0 t) ρ O d O1 := ⟨fun _ _ _ _ _ _ Q E S k => ha.go E S fun vs F1 H1 f1 E1 S1 r1 => by
  rw [List.append_nil]
  exact ⟨F1, as, d, r1, S1.fh, hR, fun v F' H' st r => k v F' H' (f1.trans st.ff) (S1.call st) r⟩⟩
theorem ra_dk {t : TA} {i : Nat} {kvs : List (Key × PyData)} {as : List Sl} (h : ρ[i]? = some (.dk kvs)) (hr : RA K t ρ O as O2) : RA K (tCons (tVar i) t) ρ O (.dk kvs :: as) O2 := ⟨fun _ _ _ _ _ _ Q E S k => by
  obtain ⟨s, h2, a, vs, rfl, h3, h4, h5⟩ := E.at h
  exact ⟨_, h2, hr.go E S fun ws F2 H2 f2 E2 S2 r2 => k _ F2 H2 f2 S2 (.dk (f2 _ _ h3) h4 (h5.up f2) r2)⟩⟩
end
end TL

/-! lists of names and ints, or names and tuples, as lists of one kind -/
namespace TL
open PySem L2
open Enc
def itIL (xs : List (Str × Int)) : List (Str × IT) := xs.map fun p => (p.1, IT.i p.2)
def itTL (xs : List (Str × Tp Int)) : List (Str × IT) := xs.map fun p => (p.1, IT.t p.2)
theorem enc_itIL (xs : List (Str × Int)) : (enc xs : PyData) = enc (itIL xs) := by
  show PyData.list _ = PyData.list _
  unfold itIL
  rw [List.map_map]
  rfl
theorem enc_itTL (xs : List (Str × Tp Int)) : (enc xs : PyData) = enc (itTL xs) := by
  show PyData.list _ = PyData.list _
  unfold itTL
  rw [List.map_map]
  rfl
theorem rx_cv {α β : Type} [Enc α] [Enc β] {K : Fg} {ta : TE} {ρ : List Sl} {O O' : Os} {x : α} {y : β} (e : (enc x : PyData) = enc y) (h : RX K ta ρ O (enc x) O') : RX K ta ρ O (enc y) O' := e ▸ h
/-! ### a list of ints, or of texts -/
inductive LIS where
  | i (l : List Int)
  | s (l : List Str)
  deriving DecidableEq
def LIS.en : LIS → PyData
  | .i l => enc l
  | .s l => enc l
@[reducible] instance : Enc LIS := ⟨LIS.en⟩
def LIS.len : LIS → Int
  | .i l => (l.length : Nat)
  | .s l => (l.length : Nat)
def LIS.card : LIS → Option Int
  | .i l => cardO l
  | .s l => cardO l
def rSetOfU (K : Fg) (w : World) : List V → Hp → VK → Prop := fun xs H Q => rSetOfI K w xs H Q ∨ rSetOfS K w xs H Q
def rSortedU (w : World) : List V → Hp → VK → Prop := fun xs H Q => rSortedSet w xs H Q ∨ rSortedTX w xs H Q
theorem k_setOfU {X : Cx} (K : Fg) (w : World) (hc : X.calm = true := by rfl) (hK : X.K = K := by rfl) (hw : X.w = w := by rfl) : CallR X (.type "set") (rSetOfU K w) := by
  subst hK; subst hw
  intro pins s σ H xs us Q I r h
  exact h.elim (fun h => cr_setOfI hc pins s σ H xs us Q I r h) (fun h => cr_setOfS hc pins s σ H xs us Q I r h)
theorem k_sortedU {X : Cx} (w : World) (hc : X.calm = true := by rfl) (hw : X.w = w := by rfl) : CallR X (.builtin "sorted") (rSortedU w) := by
  subst hw
  intro pins s σ H xs us Q I r h
  exact h.elim (fun h => cr_sortedSet hc pins s σ H xs us Q I r h) (fun h => cr_sortedTX hc pins s σ H xs us Q I r h)
section
variable {K : Fg} {ta : TE} {ρ : List Sl} {O O1 : Os} {w : World}
theorem rx_lenU {x : LIS} (ha : RX K ta ρ O (enc x) O1) : RX K (tCB (rLenQ K) (tCons ta tNil)) ρ O (.int x.len) O1 := by
  cases x with
  | i l =>
    have := rx_len (RX.s (ds := l.map enc) ha)
    rw [List.length_map] at this
    exact this
  | s l =>
    have := rx_len (RX.s (ds := l.map enc) ha)
    rw [List.length_map] at this
    exact this
theorem rx_cardU {x : LIS} {n : Int} (hn : x.card = some n) (ha : RX K ta ρ O (enc x) O1) :
    RX K (tCB (rLenQ K) (tCons (tCB (rSortedU w) (tCons (tCB (rSetOfU K w) (tCons ta tNil)) tNil)) tNil)) ρ O (.int n) O1 := by
  cases x with
  | i l =>
    refine ⟨fun _ _ _ _ _ _ Q E S k => RX.go ha E S fun v F1 H1 f1 E1 S1 r1 => ?_⟩
    have r1 : Rp K F1 v (.list (l.map PyData.int)) := r1
    have hn : cardO l = some n := hn
    unfold cardO at hn
    split at hn
    · rename_i h64
      cases hn
      cases r1 with
      | @lst a vs _ q1 q2 q3 =>
      have hv := q3.ints
      subst hv
      refine .inl ⟨a, l, rfl, S1.fh.seq q1, by unfold scanBound; omega, fun p S' n hp hS hn => ?_⟩
      have S2 := S1.loose (o := SetO w p S' n) hp
      refine .inl ⟨p, S', n, rfl, upd_same, by omega, fun out q hs hm hl hq => ?_⟩
      have S3 := S2.loose (o := .lst (out.map V.int)) hq
      have el : out.length = cardL l := card_of l out (up_nd hs) fun k => (hm k).trans (hS k)
      refine ⟨q, out.map V.int, rfl, .inl (SqL.of upd_same), ?_⟩
      rw [List.length_map, el]
      exact k _ F1 _ f1 S3 (.int _)
    · cases hn
  | s l =>
    refine ⟨fun _ _ _ _ _ _ Q E S k => RX.go ha E S fun v F1 H1 f1 E1 S1 r1 => ?_⟩
    have r1 : Rp K F1 v (.list (l.map PyData.str)) := r1
    have hn : cardO l = some n := hn
    unfold cardO at hn
    split at hn
    · rename_i h64
      cases hn
      cases r1 with
      | @lst a vs _ q1 q2 q3 =>
      have hv := q3.strs
      subst hv
      refine .inr ⟨a, l, rfl, S1.fh.seq q1, by unfold scanBound; omega, fun p S' n hp hS hn => ?_⟩
      have S2 := S1.loose (o := SetTX w p S' n) hp
      refine .inr ⟨p, S', n, rfl, upd_same, by omega, fun out q hs hm hl hq => ?_⟩
      have S3 := S2.loose (o := .lst (out.map V.str)) hq
      have el : out.length = cardL l := card_of l out hs fun k => (hm k).trans (hS k)
      refine ⟨q, out.map V.str, rfl, .inl (SqL.of upd_same), ?_⟩
      rw [List.length_map, el]
      exact k _ F1 _ f1 S3 (.int _)
    · cases hn
end
/-! ### list(range(a, b)) -/
theorem rng2O_ok {a b : Int} {r : List Int} (h : rng2O a b = some r) : RgOk a b ∧ rgV a b = r.map V.int ∧ r.length ≤ 16777216 := by
  unfold rng2O at h
  split at h
  · rename_i hc
    obtain ⟨c1, c2, c3, c4, c5⟩ := hc
    cases h
    refine ⟨⟨by omega, by omega, by omega, by omega, by omega⟩, ?_, by rw [rngL_length]; omega⟩
    unfold rgV rngL
    rw [List.map_map]
    rfl
  · cases h
theorem rxo_listRg2 {K : Fg} {ta tb : TE} {ρ : List Sl} {O O1 O2 : Os} {a b : Int} {r : List Int} (h : rng2O a b = some r) (ha : RX K ta ρ O (.int a) O1) (hb : RX K tb ρ O1 (.int b) O2) : RXo K (tLstRg (tRg2 ta tb)) ρ O (r.map .int) O2 := ⟨fun _ _ _ _ _ _ Q E S k => ha.go E S fun x F1 H1 f1 E1 S1 r1 => hb.go E1 S1 fun y F2 H2 f2 E2 S2 r2 => by
  cases r1
  cases r2
  obtain ⟨h1, h2, h3⟩ := rng2O_ok h
  refine ⟨a, b, rfl, rfl, h1, fun q hq => ?_⟩
  rw [h2]
  exact k q F2 _ (f1.trans f2) (S2.mine hq (by rw [List.length_map, sizeLine_eq]; exact h3) (RpAll.of_ints r))⟩
end TL

/-! enumerate of a tuple -/
namespace TL
open PySem PySem.Spec PyProof.Rows L2
open Enc
theorem meets_enumerate_1B {v : Value} {o : Obj} {H : Heap → Prop} (B : Begins v o H) :
    Meets (Builtin.«enumerate.__new__» ⟨[.type "enumerate", v], []⟩) (fun _ R s => H s.heap ∧
      R (.ok (.ret (.ref (s.heap.push o).objs.size))) { s with heap := (s.heap.push o).push { cls := .type "enumerate", data := .fields #[.none, .bool false, .ref s.heap.objs.size, rawInt 0, .none, .none] } }) :=
  .of_wp fun prog w A R s h => by
    obtain ⟨hp, g, d, tk, os⟩ := s; obtain ⟨h1, h⟩ := h
    have hsub := sub_enumerate
    have q1 : ∀ {A' : Around} {E : Value → Shared → Prop} {Q : Value → Shared → Prop}, Q (.ref hp.objs.size) ⟨hp.push o, g, d, tk, os⟩ → wpAny (model prog w) A' (pyIter v) Q E ⟨hp, g, d, tk, os⟩ :=
      fun q => B.iter prog w _ _ ⟨hp, g, d, tk, os⟩ _ h1 q
    wp_walk using q1
    refine wpAny_stack_any fun st => wpAny_pure ?_
    split
    · rename_i c _ _ _ _ _
      cases (c == Value.type "enumerate")
      · wp_walk using q1
        exact ⟨_, rfl, h⟩
      · wp_walk using q1
        exact ⟨_, rfl, h⟩
    · wp_walk using q1
      exact ⟨_, rfl, h⟩
theorem enum_begins1 {prog : Program} {w : World} {A : Around} {E : Value → Shared → Prop} {s : Shared} {v : Value} {o : Obj} {H : Heap → Prop} {Q : Value → Shared → Prop} (B : Begins v o H) (h1 : H s.heap)
    (h : ∀ h', IsEnum h' (s.heap.objs.size + 1) s.heap.objs.size 0 .none → h'.get? s.heap.objs.size = some o → h'.objs.size = s.heap.objs.size + 2 →
      (∀ b o, s.heap.get? b = some o → h'.get? b = some o) → Q (.ref (s.heap.objs.size + 1)) { s with heap := h' }) :
    wpAny (model prog w) A (call (.type "enumerate") [v]) Q E s := by
  refine callType_new F.called_enumerate (by decide) (F.typeCall_enumerate_1 _) (F.newCall_enumerate_1 _) (fun obj => F.args_object_init_2 obj _) F.entry_enumerate_new
    (meets_enumerate_1B B) ⟨h1, ?_⟩
  have hz : (s.heap.push o).objs.size = s.heap.objs.size + 1 := Heap.size_push ..
  show _ ∧ _
  rw [hz]
  have he : IsEnum ((s.heap.push o).push { cls := .type "enumerate", data := .fields #[.none, .bool false, .ref s.heap.objs.size, rawInt 0, .none, .none] }) (s.heap.objs.size + 1) s.heap.objs.size 0 .none := by
    have := Heap.get?_push_size (s.heap.push o) (o := { cls := .type "enumerate", data := .fields #[.none, .bool false, .ref s.heap.objs.size, rawInt 0, .none, .none] }) rfl
    rw [hz] at this; exact this
  refine ⟨⟨_, he, rfl⟩, h _ he (Heap.get?_push_of_some _ (Heap.get?_push_size _ B.free)) (by rw [Heap.size_push, hz]) fun b o x => Heap.get?_push_of_some _ (Heap.get?_push_of_some _ x)⟩
/-- the tuple at a, each item in a new pair -/
def ItEt (K : Fg) (a : Addr) : It :=
  ⟨fun i H => ∃ (xs : List V) (x : V), SqT K H a xs ∧ xs[i]? = some x, fun i H v H' => ∃ T x, v = .ref T ∧ H T = none ∧ H' = upd H T (.tup [.int (i : Nat), x]) ∧ ∀ xs, SqT K H a xs → xs[i]? = some x, fun i H => ∃ xs : List V, SqT K H a xs ∧ xs.length = i⟩
theorem turn_et {P : Program} {w : World} {K : Fg} {elts : List Expr} {kk : Nat} {tpos : Pos} {a e it : Addr} (hal : a ≠ it) (hea : e ≠ a) :
    Turn P w K (.Tuple elts kk tpos) (ItEt K a) [e, it] e (fun i h => (∃ old, IsEnum h e it ((i : Nat) : Int) old) ∧ h.IsTupleIter it a i ∧ e ≠ it) where
  mem := by simp
  obj := fun i h st b hb => by
    obtain ⟨⟨old, he⟩, ⟨o, ho, hc, hd⟩, _⟩ := st
    have e' : b = e ∨ b = it := by simpa using hb
    rcases e' with z | z
    · rw [z]; exact ⟨_, he, fun v q => nomatch q⟩
    · rw [z]; exact ⟨o, ho, fun v q => by rw [hd] at q; cases q⟩
  keep := fun i h h' st k => let ⟨⟨old, he⟩, hi, hne⟩ := st; ⟨⟨old, k e (by simp) _ he⟩, hi.at fun o q => k it (by simp) o q, hne⟩
  item := by
    intro X hP hw hK hc i pins s σ H E I hf st hg
    subst hP hw hK
    obtain ⟨⟨old, he⟩, hit, hne⟩ := st
    obtain ⟨xs, x, hq, hx⟩ := hg
    obtain ⟨its, rv, p, hz⟩ := I.tuple hq
    obtain ⟨u, hu, ru⟩ := rv.get hx
    have hel : e < s.heap.objs.size := Heap.lt_size he
    have hil : it < s.heap.objs.size := by obtain ⟨_, q, _⟩ := hit; exact Heap.lt_size q
    have hh : X.A.in1.handled = none := I.ok.hd hc
    refine wpAny_pyNext_enum_itemD (Draws.tuple hh it a hal its.toArray) he ⟨hit, p⟩ (by simpa using (List.getElem?_eq_some_iff.mp hu).1) hne (by simp [hne, hea]) fun y h' tk ey ho hit' hT hsz hk => ?_
    have exy : y = u := Option.some.inj (ey.symm.trans (by simpa using hu))
    subst exy
    refine ⟨_, rfl, wpAny_letOwnedTupleGo_enum (s := { s with heap := h', toks := tk + 1 }) ho fun h'' he' sb => ?_⟩
    have hT2 : h''.get? s.heap.objs.size = some { cls := .type "tuple", data := .seq #[.int i tk, y] } := (sb.2 _ (Nat.ne_of_gt hel)).trans hT
    have new : ObjOk X.prog X.w (upd H s.heap.objs.size (.tup [.int (i : Nat), x])) h'' s.heap.objs.size (.tup [.int (i : Nat), x]) :=
      ⟨by show 2 ≤ sizeLine; decide, [.int i tk, y], .cons ⟨_, rfl⟩ (.cons ru .nil), ⟨_, hT2, rfl, _, rfl⟩⟩
    have I1 : Inv X pins σ (upd H s.heap.objs.size (.tup [.int (i : Nat), x])) { s with heap := h'', toks := tk + 1 } :=
      I.turnedNew (ch := [e, it]) (fun b ob hb q => (sb.2 b (fun z => hb (by simp [z]))).trans (hk b ob (fun z => hb (by simp [z])) (fun z => hb (by simp [z])) q)) hf (Nat.le_refl _) new
    refine ⟨.ref s.heap.objs.size, _, I1, rfl, ⟨_, x, rfl, I.hok.fresh (Nat.le_refl _), rfl, fun ys hy => by rw [I.tuple_inj hy hq]; exact hx⟩, ⟨⟨y, ?_⟩, hit'.1.at fun o q => (sb.2 it (Ne.symm hne)).trans q, hne⟩, fun b hb => ?_⟩
    · have e1 : ((i + 1 : Nat) : Int) = (i : Int) + 1 := by omega
      rw [e1]; exact he'
    · have hb' : b < s.heap.objs.size := by
        have e' : b = e ∨ b = it := by simpa using hb
        rcases e' with z | z
        · rw [z]; exact hel
        · rw [z]; exact hil
      rw [upd_ne (Nat.ne_of_lt hb')]
      exact (hf b hb).1
  done := by
    intro X hP hw hK hc i pins s σ H E I hf st hg
    subst hP hw hK
    obtain ⟨⟨old, he⟩, hit, hne⟩ := st
    obtain ⟨xs, hq, hx⟩ := hg
    obtain ⟨its, rv, p, hz⟩ := I.tuple hq
    obtain ⟨f0, f1, f2, f3, f4, f5⟩ := hf it (by simp)
    have hl := rv.length
    have hh : X.A.in1.handled = none := I.ok.hd hc
    have en : its.toArray.size = i := by simp; omega
    refine wpAny_pyNext_enum_endD (i := ((i : Nat) : Int)) (Draws.tuple hh it a hal its.toArray) he ⟨by rw [en]; exact hit, p⟩ fun h' eb => ⟨rfl, I.turned (t' := s.toks) (fun b o hb q => eb b o hb q) f0 f1 f3 f4 f5⟩
  self := fun A i s Q E st h => let ⟨⟨_, he⟩, _⟩ := st; wpAny_pyIter_enum he h
def iEnumT (K : Fg) (ta : TA) : TI := fun σ H R => ta σ H fun vs H1 => ∃ a xs, vs = [.ref a] ∧ SqT K H1 a xs ∧ R (ItEt K a) H1
theorem k_pi_enumT {X : Cx} (K : Fg) {e : Expr} {ta : TA} {p pos tpos : Pos} {elts : List Expr} {kk : Nat} (hg : Gl X "enumerate") (hm : X.mg "enumerate" = none) (ha : PA X [e] ta) (hs : starEach [e] X.env = [(false, eval e X.env)] := by rfl) (hK : X.K = K := by rfl) :
    PI X (.Tuple elts kk tpos) (.Call (.Name "enumerate" p) [e] [] pos) (iEnumT K ta) := by
  subst hK
  refine ⟨fun pins s σ H R I h => ?_⟩
  refine Call_ (ld_blt I hg hm boot_enumerate (PyProof.Rows.callWith_type1 (thn (ha.run pos pins s σ H _ I h) fun us s1 ⟨vs, H1, I1, r1, q1⟩ => ?_) hs rfl))
  obtain ⟨a, xs, ex, hq, q⟩ := q1
  subst ex
  cases r1 with
  | cons r rr =>
    cases rr
    cases r
    obtain ⟨its, rv, p', hz⟩ := I1.tuple hq
    obtain ⟨o2, ho2, p3⟩ := id p'
    have lt1 := Heap.lt_size ho2
    refine enum_begins1 (begins_tuple a its.toArray) p' fun h' he hit hsz hk => wpAny_pyIter_enum he ?_
    have I2 : Inv X pins σ H1 { s1 with heap := h' } := I1.kept (t' := s1.toks) hk
    refine ⟨s1.heap.objs.size + 1, [s1.heap.objs.size + 1, s1.heap.objs.size], _, _, H1, rfl, I2, turn_et (a := a) (e := s1.heap.objs.size + 1) (it := s1.heap.objs.size) (Nat.ne_of_lt lt1) (Nat.ne_of_gt (Nat.lt_succ_of_lt lt1)), ⟨⟨.none, he⟩, ⟨_, hit, rfl, rfl⟩, Nat.succ_ne_self _⟩, fun b hb => ?_, q⟩
    have e' : b = s1.heap.objs.size + 1 ∨ b = s1.heap.objs.size := by simpa using hb
    have hle : s1.heap.objs.size ≤ b := by
      rcases e' with z | z
      · rw [z]; exact Nat.le_add_right _ _
      · rw [z]; exact Nat.le_refl _
    exact I1.fpOk hle (I1.hok.fresh hle)
section
variable {K : Fg} {ta : TE} {ρ : List Sl} {O O1 : Os}
theorem ri_enumT0 {ys : List PyData} (h : RX K ta ρ O (.tuple ys) O1) : RI K (iEnumT K (tCons ta tNil)) ρ O (enumD ys) O1 := ⟨fun _ _ _ _ _ _ R E S k => h.go E S fun x F1 H1 f1 E1 S1 r1 => by
  cases r1 with
  | @tup a xs _ q1 q2 q3 =>
    have hl : (enumD ys).length = ys.length := by unfold enumD; simp
    refine ⟨a, xs, rfl, same_t S1.fh q1, k _ F1 H1 f1 S1 ⟨by rw [hl, ← q3.length]; exact q2, fun _ _ _ F O H i hi f S => ?_, fun _ _ _ F O H f S => ?_, fun _ _ _ F O H i x H' hi f S y => ?_⟩⟩
    · rw [hl, ← q3.length] at hi
      exact ⟨xs, xs[i], same_t (f.trans S.fh) q1, by simp [hi]⟩
    · exact ⟨xs, same_t (f.trans S.fh) q1, by rw [q3.length, hl]⟩
    · obtain ⟨T, z, rfl, hT, rfl, y⟩ := y
      obtain ⟨d, e, r⟩ := (q3.up f).getV (y xs (same_t (f.trans S.fh) q1))
      obtain ⟨F2, f2, S2, r2⟩ := pair_put S hT (.int (i : Nat)) r
      exact ⟨F2, _, f2, S2, by unfold enumD; simp [e], r2⟩⟩
theorem ri_enumTT {α : Type} [Enc α] {xs : List α} (h : RX K ta ρ O (.tuple (xs.map enc)) O1) : RI K (iEnumT K (tCons ta tNil)) ρ O ((enumL xs).map enc) O1 := by
  have e : (enumL xs).map enc = enumD (xs.map enc) := by
    unfold enumL enumD
    rw [List.map_map, List.zipIdx_map, List.map_map]
    rfl
  rw [e]
  exact ri_enumT0 h
end
end TL

/-! dicts by tuples; len(set(xs)); list.index of data; a call that reads an own list -/
namespace TL
open PySem PySem.Spec PyProof.Rows L2
open Enc
/-! ### pairs by other keys -/
section
variable {κ κ' β : Type} [DecidableEq κ] [DecidableEq κ'] [Enc β] {f : κ → κ'}
def encF (f : κ → κ') (xs : List (κ × β)) : List (κ' × PyData) := xs.map fun p => (f p.1, enc p.2)
theorem encF_any (hf : ∀ a b, f a = f b → a = b) (k : κ) : ∀ xs : List (κ × β), ((encF f xs).any fun p => decide (p.1 = f k)) = xs.any fun p => decide (p.1 = k)
  | [] => rfl
  | (j, v) :: xs => by
    show (decide (f j = f k) || (encF f xs).any _) = _
    rw [encF_any hf k xs, List.any_cons]
    have e : decide (f j = f k) = decide (j = k) := by
      by_cases e : j = k
      · simp [e]
      · have : ¬ f j = f k := fun z => e (hf _ _ z)
        simp [e, this]
    rw [e]
theorem encF_put (hf : ∀ a b, f a = f b → a = b) (xs : List (κ × β)) (k : κ) (v : β) : putM (encF f xs) (f k) (enc v) = encF f (putM xs k v) := by
  unfold putM
  rw [encF_any hf]
  split
  · unfold encF
    rw [List.map_map, List.map_map]
    refine List.map_congr_left fun p _ => ?_
    show (if f p.1 = f k then (f p.1, enc v) else (f p.1, enc p.2)) = _
    by_cases e : p.1 = k
    · rw [if_pos (by rw [e])]
      show _ = (f (if p.1 = k then (p.1, v) else p).1, enc (if p.1 = k then (p.1, v) else p).2)
      rw [if_pos e]
    · rw [if_neg fun z => e (hf _ _ z)]
      show _ = (f (if p.1 = k then (p.1, v) else p).1, enc (if p.1 = k then (p.1, v) else p).2)
      rw [if_neg e]
  · unfold encF
    rw [List.map_append]
    rfl
theorem encF_get (hf : ∀ a b, f a = f b → a = b) (k : κ) : ∀ xs : List (κ × β), getM (encF f xs) (f k) = (getM xs k).map enc
  | [] => rfl
  | (j, v) :: xs => by
    show getM ((f j, enc v) :: encF f xs) _ = _
    rw [getM_cons, getM_cons, encF_get hf k xs]
    by_cases e : j = k
    · rw [if_pos e, if_pos (by rw [e])]; rfl
    · rw [if_neg e, if_neg fun z => e (hf _ _ z)]
end
class KeyT (κ : Type) [DecidableEq κ] [Enc κ] where
  parts : κ → List PyData
  enc_eq : ∀ a : κ, enc a = .tuple (parts a)
  keys : κ → List Key
  inj : ∀ a b : κ, keys a = keys b → a = b
  rp : ∀ (K : Fg) (F : Hp) (vs : List V) (a : κ), RpAll K F vs (parts a) → vs = (keys a).map kV
theorem RpAll.k1 {κ : Type} [DecidableEq κ] [Enc κ] [KeyC κ] {K : Fg} {F : Hp} {vs : List V} {a : κ} {ds : List PyData} {ks : List Key} (h : RpAll K F vs (enc a :: ds)) (k : ∀ ws, RpAll K F ws ds → ws = ks.map kV) : vs = (KeyC.key a :: ks).map kV := by
  cases h with
  | cons r t => rw [KeyC.rp K F _ a r, k _ t]; rfl
instance {α β γ δ : Type} [DecidableEq α] [Enc α] [KeyC α] [DecidableEq β] [Enc β] [KeyC β] [DecidableEq γ] [Enc γ] [KeyC γ] [DecidableEq δ] [Enc δ] [KeyC δ] : KeyT (T4 α β γ δ) :=
  ⟨fun p => [enc p.a, enc p.b, enc p.c, enc p.d], fun _ => rfl, fun p => [KeyC.key p.a, KeyC.key p.b, KeyC.key p.c, KeyC.key p.d], fun p q e => by
    injection e with e1 e; injection e with e2 e; injection e with e3 e; injection e with e4 e
    cases p; cases q
    replace e1 := KeyC.inj _ _ e1; replace e2 := KeyC.inj _ _ e2; replace e3 := KeyC.inj _ _ e3; replace e4 := KeyC.inj _ _ e4
    dsimp only at e1 e2 e3 e4
    subst e1 e2 e3 e4
    rfl,
    fun K F vs a h => h.k1 fun _ h => h.k1 fun _ h => h.k1 fun _ h => h.k1 fun _ h => by cases h; rfl⟩
section
variable {κ β : Type} [DecidableEq κ] [Enc κ] [KeyT κ] [Enc β]
def encT (xs : List (κ × β)) : List (List Key × PyData) := encF KeyT.keys xs
end
/-! ### d.get(k, x) by a tuple -/
section
variable {X : Cx} {pins : List (Addr × Obj)} {σ : L2.St} {H : Hp} {s : Shared} {a b : Addr} {d : V} {r : Value} {k : List Key} {kvs : List (List Key × V)} {A : Around} {E : Value → Shared → Prop}
theorem key_ofS (I : Inv X pins σ H s) (h : SqT X.K H b (k.map kV)) : (tupleKind (mixKind X.prog X.w)).is s.heap k b := by
  obtain ⟨its, rv, ⟨o, ho, hc, n, hd⟩, _⟩ := I.tuple h
  exact ⟨o, its.toArray, n, ho, hc, hd, by simpa using items_are rv⟩
theorem d_get2T {Q : Value → Shared → Prop} (hu : A.units + 1 < cLine) (I : Inv X pins σ H s) (e : Rd H a (.dT kvs)) (hb : SqT X.K H b (k.map kV)) (rd : RelV d r) (h : ∀ w' s', Inv X pins σ H s' → RelV ((valV kvs k).getD d) w' → Q w' s') :
    wpAny (model X.prog X.w) A (call (.builtin "dict.get") [.ref a, .ref b, r]) Q E s := by
  obtain ⟨z, hd, xs, rel, dd⟩ := dt_rd I.hok e
  exact call_meetsIn PySem.F.slot_dict_get dd.typeIs PySem.F.entry_dict_get (PySem.F.args_dict_get_3 _ _ _) (meetsH_dict_get_default (tupleKind (mixKind X.prog X.w)) a b hd r) ⟨tupleKind_room_in1 hu, k, xs, key_ofS I hb, dd, h _ _ (I.tok _) ((rel.val k).getD rd)⟩
end
def tDGet2T (K : Fg) (td ty tx : TE) : TE := fun σ H Q => td σ H fun x H1 => ∃ a, x = .ref a ∧ IsD H1 a ∧ ty σ H1 fun y H2 => tx σ H2 fun z H3 => ∃ kvs k b, Rd H3 a (.dT kvs) ∧ y = .ref b ∧ SqT K H3 b (k.map kV) ∧ Q ((valV kvs k).getD z) H3
theorem pe_dget2T {X : Cx} (K : Fg) {o e f : Expr} {apos cpos : Pos} {td ty tx : TE} (hu : X.A.units + 1 < cLine) (ho : PE X o td) (he : PE X e ty) (hf : PE X f tx) (m : M2 X o "get" apos e f cpos) (hK : X.K = K := by rfl) : PE X (.Call (.Attribute o "get" apos) [e, f] [] cpos) (tDGet2T K td ty tx) := by
  subst hK
  refine ⟨fun pins s σ H Q I h => ?_⟩
  refine wpAny_Call_method m.base m.few m.line PySem.F.plainAttrs_dict PySem.F.slot_dict_get PySem.F.type_dict_get (thn (ho.run pins s σ H _ I h) fun u s1 ⟨x, H1, I1, rx, a, ex, d, q1⟩ => ?_)
  subst ex
  obtain rfl : u = Value.ref a := rx
  obtain ⟨t1, t2, _⟩ := isD_at I1 d
  refine ⟨t1, t2, ?_⟩
  rw [m.trees]
  refine Calls.callWith_builtin rfl (Calls.evalArgs_plain (Calls.spliced_cons (thn (he.run pins s1 σ H1 _ I1 q1) fun iv s2 ⟨y, H2, I2, ry, q2⟩ => Calls.spliced_cons (thn (hf.run pins s2 σ H2 _ I2 q2) fun jv s3 ⟨z, H3, I3, rz, kvs, k, b, e1, e2, e3, q3⟩ => Calls.spliced_nil ?_))))
  subst e2
  obtain rfl : iv = Value.ref b := ry
  exact d_get2T hu I3 e1 e3 rz fun w' s4 I4 rw' => ⟨_, H3, I4, rw', q3⟩
section
variable {K : Fg} {F0 H0 F H : Hp} {D0 : List Addr} {O O1 O2 O3 : Os} {σ : L2.St} {ρ : List Sl} {D : Ends} {tv ty tx : TE} {d : PyData}
theorem st_newT {i : Nat} (E : EnvR K F σ ρ) (S : Hx K F0 H0 D0 F O H) (k : ∀ p σ' F' H', Same F F' → EnvR K F' σ' (ρ.set i (.adr p)) → Hx K F0 H0 D0 F' (⟨p, true, .t []⟩ :: O) H' → D.nx σ' H') : tAsg tDNewT (gName i) D σ H := fun p hp =>
  k p _ F _ (Same.refl _) (E.seta i) (S.mineD hp ⟨[], upd_same, Nat.zero_le _, .nil⟩)
inductive DtAt (ρ : List Sl) (O : Os) (i : Nat) (kvs : List (List Key × PyData)) : Prop
  | own {a : Addr} {nw : Bool} {j : Nat} : ρ[i]? = some (.adr a) → O[j]? = some ⟨a, nw, .t kvs⟩ → DtAt ρ O i kvs
  | frz : ρ[i]? = some (.dt kvs) → DtAt ρ O i kvs
theorem DtAt.at {i : Nat} {kvs : List (List Key × PyData)} (h : DtAt ρ O i kvs) (E : EnvR K F σ ρ) (S : Hx K F0 H0 D0 F O H) : ∃ a, σ[i]? = some (some (.ref a)) ∧ ∀ F' H', Same F F' → Hx K F0 H0 D0 F' O H' → ∃ vs, H' a = some (.dT vs) ∧ KD K F' vs kvs := by
  cases h with
  | @own a nw j h1 h2 =>
    exact ⟨a, E.adr h1, fun F' H' f S' => by
      obtain ⟨_, _, _, vs, h3, h4, h5⟩ := S'.getD h2
      exact ⟨vs, h3, h5⟩⟩
  | frz h1 =>
    obtain ⟨s, h2, t, vs, rfl, h3, h4, h5⟩ := E.at h1
    exact ⟨t, h2, fun F' H' f S' => ⟨vs, S'.fh _ _ (f _ _ h3), h5.up f⟩⟩
variable {κ β : Type} [DecidableEq κ] [Enc κ] [KeyT κ] [Enc β]
theorem st_dputT {i j : Nat} {a : Addr} {nw : Bool} {xs xs' : List (κ × β)} {k : κ} {v : β} {t : TA} (hn : putMO xs k v = some xs') (hs : ρ[i]? = some (.adr a)) (hv : RX K tv ρ O (enc v) O1) (hk : RA K t ρ O1 ((KeyT.parts k).map .val) O2) (hz : (KeyT.parts k).length ≤ 1000) (hj : O2[j]? = some ⟨a, nw, .t (encT xs)⟩)
    (E : EnvR K F σ ρ) (S : Hx K F0 H0 D0 F O H) (kk : ∀ F' H', Same F F' → EnvR K F' σ ρ → Hx K F0 H0 D0 F' (O2.set j ⟨a, nw, .t (encT xs')⟩) H' → D.nx σ H') : sDPut (tVar i) (tTup t) tv D σ H :=
  hv.go E S fun v1 F1 H1 f1 E1 S1 r1 => ⟨_, E1.adr hs, hk.go E1 S1 fun vs F2 H2 f2 E2 S2 r2 => by
    have r2 := r2.all
    have hvl := r2.length
    refine ⟨Nat.le_trans (by omega : vs.length ≤ 1000) (by decide), fun p hp => ?_⟩
    unfold putMO at hn
    split at hn
    · rename_i hl
      cases hn
      have ey := KeyT.rp K F2 vs k r2
      subst ey
      have f3 := same_upd (o := .tup ((KeyT.keys k).map kV)) (S2.nof hp)
      have S3 := S2.put (o := .tup ((KeyT.keys k).map kV)) hp
      obtain ⟨_, _, _, ws, h3, h4, h5⟩ := S3.getD hj
      have hl2 : ws.length < sizeLine := by rw [h5.len, sizeLine_eq]; unfold encT encF; rw [List.length_map]; exact hl
      have h6 : KD K (upd F2 p (.tup ((KeyT.keys k).map kV))) (putK ws (KeyT.keys k) v1) (encT (putM xs k v)) := by
        unfold encT at h5 ⊢
        rw [← encF_put KeyT.inj]
        exact h5.put ((r1.up f2).up f3)
      refine ⟨a, _, rfl, DPut.t h3 upd_same hl2, kk _ _ ((f1.trans f2).trans f3) (E2.up f3) (S3.mutD hj ⟨_, upd_same, ?_, h6⟩)⟩
      have := length_putK ws (KeyT.keys k) v1
      omega
    · cases hn⟩
theorem rx_dtget2 {i : Nat} {xs : List (κ × β)} {k : κ} {v : β} (hd : DtAt ρ O i (encT xs)) (hk : RX K ty ρ O (enc k) O) (hx : RX K tx ρ O (enc v) O) : RX K (tDGet2T K (tVar i) ty tx) ρ O (enc ((getM xs k).getD v)) O := ⟨fun _ _ _ _ _ _ Q E S kk => by
  obtain ⟨a, h1, h2⟩ := hd.at E S
  obtain ⟨vs0, h30, _⟩ := h2 _ _ (Same.refl _) S
  refine ⟨_, h1, a, rfl, .inr ⟨_, .inl h30⟩, hk.go E S fun y F2 H2 f2 E2 S2 r2 => hx.go E2 S2 fun z F3 H3 f3 E3 S3 r3 => ?_⟩
  rw [KeyT.enc_eq] at r2
  cases r2 with
  | @tup b ws _ q1 q2 q3 =>
  have ey := KeyT.rp K F2 ws k q3
  subst ey
  obtain ⟨vs, h3, h5⟩ := h2 F3 H3 (f2.trans f3) S3
  have g := encF_get (f := KeyT.keys) (KeyT.inj (κ := κ)) k xs
  refine ⟨vs, KeyT.keys k, b, .inl h3, rfl, same_t (f3.trans S3.fh) q1, ?_⟩
  rcases h5.get (KeyT.keys k) with ⟨e, e2⟩ | ⟨d, u, e1, e2, r⟩
  · rw [show getM (encT xs) (KeyT.keys k) = getM (encF KeyT.keys xs) (KeyT.keys k) from rfl] at e
    rw [e] at g
    rw [e2]
    refine kk z F3 H3 (f2.trans f3) S3 ?_
    cases q : getM xs k with
    | none => exact r3
    | some w => rw [q] at g; cases g
  · rw [show getM (encT xs) (KeyT.keys k) = getM (encF KeyT.keys xs) (KeyT.keys k) from rfl] at e1
    rw [e1] at g
    rw [e2]
    refine kk u F3 H3 (f2.trans f3) S3 ?_
    cases q : getM xs k with
    | none => rw [q] at g; cases g
    | some w =>
      rw [q] at g
      have g := Option.some.inj g
      subst g
      exact r⟩
end
/-! ### len(set(xs)) of ints -/
section
variable {X : Cx}
def rSetOfN (K : Fg) (w : World) : List V → Hp → VK → Prop := fun xs H Q => ∃ (l : Addr) (ns : List Int), xs = [V.ref l] ∧ SqL K H l (ns.map V.int) ∧ ns.length + 1 < scanBound ∧
  ∀ p (S : Int → Bool), H p = none → Q (.ref p) (upd H p (SetO w p S (cardL ns)))
theorem cr_setOfN (hc : X.calm = true) : CallR X (.type "set") (rSetOfN X.K X.w) := by
  intro pins s σ H xs us Q I r h
  obtain ⟨l, ns, rfl, hl, hb, q⟩ := h
  rw [Vals.ref1 r]
  obtain ⟨its, rv, pl, hz⟩ := I.list hl
  have hn : H s.heap.objs.size = none := I.hok.fresh (Nat.le_refl _)
  have hi : IntsAre its.toArray.toList ns := by simpa using rv.ints
  have hisz : its.toArray.size = ns.length := by
    have q := IntsAre.length hi
    rw [Array.length_toList] at q
    exact q
  refine call_set_listG (Z := fun h' c => SetR X.w h' s.heap.objs.size (fun j => decide (j ∈ ns)) c) (I.ok.hd hc) pl.isList (fun A' I' fp wr G St s1 R W hSf h0 hS hR => ?_) fun h' tk c R hc' k => ?_
  · refine set_update_ints W _ hSf ns hisz hb (fun i v hv => ?_) (its.toArray.size - 0) 0 s1 (by omega) (Nat.zero_le _) h0 ⟨0, Nat.le_refl 0, setR_new_at hS⟩ hR
    have hi' : i < ns.length := by rw [← hisz]; exact (Array.getElem?_eq_some_iff.mp hv).1
    obtain ⟨t, e⟩ := PyProof.Rows.IntsAre.int_at hi i v (by rw [Array.getElem?_toList]; exact hv)
    refine ⟨ns[i], t, List.getElem?_eq_getElem hi', ?_⟩
    rw [e, List.getD_eq_getElem?_getD, List.getElem?_eq_getElem hi'] <;> rfl
  · have hcard : c = cardL ns := by
      obtain ⟨o, es, ep, t, ho, hex, hd, g, nd, hm, hb2, hf, hn2, _⟩ := R
      rw [← hn2, ← Array.length_toList, ← List.length_map (f := keyOf)]
      exact card_of ns _ nd fun k => by rw [← hm k]; simp
    subst hcard
    exact ⟨.ref s.heap.objs.size, upd H s.heap.objs.size (SetO X.w s.heap.objs.size _ (cardL ns)), I.laid (t' := tk) k (Nat.le_refl _) (setO_new R), rfl, q _ _ hn⟩
def rLenSO (w : World) : List V → Hp → VK → Prop := fun xs H Q => ∃ (a : Addr) (S : Int → Bool) (n : Nat), xs = [V.ref a] ∧ H a = some (SetO w a S n) ∧ n < 16777216 ∧ Q (.int (n : Nat)) H
theorem cr_lenSO : CallR X (.builtin "len") (rLenSO X.w) := by
  intro pins s σ H vs us Q I r h
  obtain ⟨a, S, n, rfl, ha, hz, q⟩ := h
  have R := setO_get I ha
  rw [Vals.ref1 r]
  obtain ⟨o, es, ep, t, ho, hex, hd, g, nd, hm, hb, hf, hn, _⟩ := R
  refine call_len_set ho hex hd hf (by rw [hn]; omega) ⟨.int (n : Nat), H, I.tok _, ⟨_, by rw [hn]⟩, q⟩
theorem k_setOfN (K : Fg) (w : World) (hc : X.calm = true := by rfl) (hK : X.K = K := by rfl) (hw : X.w = w := by rfl) : CallR X (.type "set") (rSetOfN K w) := by subst hK; subst hw; exact cr_setOfN hc
theorem k_lenSO (w : World) (hw : X.w = w := by rfl) : CallR X (.builtin "len") (rLenSO w) := by subst hw; exact cr_lenSO
end
section
variable {K : Fg} {ta tb : TE} {ρ : List Sl} {O O1 : Os} {w : World}
theorem rx_lenSet {ns : List Int} {n : Int} (hn : cardO ns = some n) (ha : RXs K ta ρ O (ns.map .int) O1) :
    RX K (tCB (rLenSO w) (tCons (tCB (rSetOfN K w) (tCons ta tNil)) tNil)) ρ O (.int n) O1 := ⟨fun _ _ _ _ _ _ Q E S k =>
  ha.go E S fun a F1 H1 f1 E1 S1 r1 => by
    unfold cardO at hn
    split at hn
    · rename_i h64
      cases hn
      obtain ⟨vs, q1, q2, q3⟩ := r1 F1 H1 (Same.refl _) S1
      have hv := q3.ints
      subst hv
      refine ⟨a, ns, rfl, q1, by unfold scanBound; omega, fun p S' hp => ?_⟩
      have S2 := S1.loose (o := SetO w p S' (cardL ns)) hp
      have := card_le ns
      exact ⟨p, S', _, rfl, upd_same, by omega, k _ F1 _ f1 S2 (.int _)⟩
    · cases hn⟩
/-! ### xs.index(x) of data -/
def indexO {α : Type} [Enc α] [DecidableEq α] [EqD α] (xs : List α) (x : α) : Option Int := if EqD.ok x = true ∧ EqD.ok xs = true then (xs.findIdx? fun y => decide (y = x)).map fun j => ((j : Nat) : Int) else none
theorem rx_indexD {α : Type} [Enc α] [DecidableEq α] [EqD α] {xs : List α} {x : α} {n : Int} (hn : indexO xs x = some n) (ha : RXs K ta ρ O (xs.map enc) O1) (hb : RX K tb ρ O1 (enc x) O1) (hd : EqD.dp (List α) ≤ 64) (hd2 : EqD.dp α ≤ 64) :
    RX K (tBM K "list" (rIndexD K) ta (tCons tb tNil)) ρ O (.int n) O1 := ⟨fun _ _ _ _ _ _ Q E S k =>
  ha.go E S fun a F1 H1 f1 E1 S1 r1 => by
    obtain ⟨vs1, p1, _, _⟩ := r1 F1 H1 (Same.refl _) S1
    refine ⟨.inl ⟨rfl, _, p1⟩, hb.go E1 S1 fun y F2 H2 f2 E2 S2 r2 => ?_⟩
    obtain ⟨vs, q1, q2, q3⟩ := r1 F2 H2 f2 S2
    unfold indexO at hn
    split at hn
    · rename_i ok
      obtain ⟨j, hj, e⟩ := Option.map_eq_some_iff.mp hn
      subst e
      obtain ⟨hl, hp, hno⟩ := List.findIdx?_eq_some_iff_getElem.mp hj
      have hx : xs[j] = x := of_decide_eq_true hp
      refine ⟨a, y, enc x, xs.map enc, j, enc x, rfl, rfl, ?_, (r2.up S2.fh).dp _ _, shaped_of (z := xs) hd ok.2, shaped_of hd2 ok.1, ?_, ?_, fun m z' hm hz => ?_, k _ F2 H2 (f1.trans f2) S2 (.int _)⟩
      · exact Rp.dp _ _ (.lst q1 q2 (q3.up S2.fh))
      · rw [List.getElem?_map, List.getElem?_eq_getElem hl, hx]; rfl
      · rw [EqD.eqv]; exact decide_eq_true rfl
      · rw [List.getElem?_map] at hz
        have hm2 : m < xs.length := by omega
        rw [List.getElem?_eq_getElem hm2] at hz
        have hz := Option.some.inj hz
        subst hz
        rw [EqD.eqv]
        have := hno m hm
        simpa using this
    · cases hn⟩
theorem k_indexD {X : Cx} (K : Fg) (hu : X.A.units + 65 < cLine) (hK : X.K = K := by rfl) : MtR X "list.index" (rIndexD K) := by subst hK; exact mt_indexD hu
end
/-! ### a call that reads an own list -/
theorem rx_callH1 {K : Fg} {ta : TE} {ρ : List Sl} {O O1 : Os} {R : List PyData → PyData → Prop} {d : PyData} {E0 : XK} (hR : R [d] .none) (ha : RXh K ta ρ O d O1) : RX K (tCall (SpP K R) [] E0 (tCons ta tNil)) ρ O .none O1 := ⟨fun _ _ _ _ _ _ Q E S k =>
  ha.go E S fun x F1 H1 f1 E1 S1 r1 => by
    refine ⟨H1, [d], .none, .cons (r1 F1 H1 (Same.refl _) S1) .nil, Same.refl _, hR, fun v F' H' st r => ?_⟩
    have keep : Same H1 H' := fun a o q => st.keep a o q (by simp)
    cases r
    exact k _ F1 H' f1 (S1.call ⟨Same.refl _, S1.fh.trans keep, st.keep, st.live, fun _ _ _ q => q⟩) .non⟩
theorem rxh_cv {α β : Type} [Enc α] [Enc β] {K : Fg} {ta : TE} {ρ : List Sl} {O O' : Os} {x : α} {y : β} (e : (enc x : PyData) = enc y) (h : RXh K ta ρ O (enc x) O') : RXh K ta ρ O (enc y) O' := e ▸ h
end TL

/-! dict(pairs) -/
namespace TL
open PySem PySem.Spec PyProof.Rows L2
open Enc
def mergeM {κ β : Type} [DecidableEq κ] (xs : List (κ × β)) : List (κ × β) := xs.foldl (fun acc p => putM acc p.1 p.2) []
def rDictP (K : Fg) : List V → Hp → VK → Prop := fun xs H Q => ∃ (a : Addr) (ps : List Addr) (kvs : List (Key × V)), xs = [.ref a] ∧ SqL K H a (ps.map V.ref) ∧ Paired (fun p kv => SqT K H p [kV kv.1, kv.2]) ps kvs ∧
    ∀ p, H p = none → Q (.ref p) (upd H p (.dK (mergeK [] kvs)))
theorem k_dictP {X : Cx} (K : Fg) (hc : X.calm = true := by rfl) (hK : X.K = K := by rfl) : CallR X (.type "dict") (rDictP K) := by subst hK; exact call_dictP hc
section
variable {κ β : Type} [DecidableEq κ] [Enc κ] [KeyC κ] [Enc β] {K : Fg}
theorem pairs_at {F : Hp} : ∀ {vs : List V} {xs : List (κ × β)}, RpAll K F vs (xs.map enc) → ∃ (ps : List Addr) (kvs : List (Key × V)), vs = ps.map V.ref ∧ Paired (fun p kv => SqT K F p [kV kv.1, kv.2]) ps kvs ∧ KD K F kvs (encK xs)
  | _, [], h => by cases h; exact ⟨[], [], rfl, .nil, .nil⟩
  | _, x :: xs, h => by
    cases h with
    | cons r t =>
      obtain ⟨ps, kvs, e, hp, hk⟩ := pairs_at t
      have r : Rp K F _ (.tuple [enc x.1, enc x.2]) := r
      cases r with
      | @tup a ws _ q1 q2 q3 =>
        cases q3 with
        | cons r1 q3 =>
          cases q3 with
          | cons r2 q3 =>
            cases q3
            have ey := KeyC.rp K F _ x.1 r1
            subst ey
            refine ⟨a :: ps, (KeyC.key x.1, _) :: kvs, by rw [e]; rfl, .cons q1 hp, ?_⟩
            exact KD.cons (q := (KeyC.key x.1, enc x.2)) rfl r2 hk
theorem Paired.same {F H : Hp} (f : Same F H) {ps : List Addr} {kvs : List (Key × V)} (h : Paired (fun p kv => SqT K F p [kV kv.1, kv.2]) ps kvs) : Paired (fun p kv => SqT K H p [kV kv.1, kv.2]) ps kvs := Paired.mapP h fun _ _ z => same_t f z
theorem merge_kd {F : Hp} : ∀ {kvs : List (Key × V)} {xs : List (κ × β)} {acc : List (Key × V)} {ys : List (κ × β)}, KD K F kvs (encK xs) → KD K F acc (encK ys) → KD K F (mergeK acc kvs) (encK (xs.foldl (fun acc p => putM acc p.1 p.2) ys))
  | [], [], _, _, _, h => h
  | [], _ :: _, _, _, h, _ => by have := h.1; cases this
  | _ :: _, [], _, _, h, _ => by have := h.1; cases this
  | p :: kvs, x :: xs, acc, ys, h, ha => by
    obtain ⟨⟨h1, h2⟩, h3⟩ := KD.tl h
    have e : KD K F (putK acc p.1 p.2) (encK (putM ys x.1 x.2)) := by
      rw [← encK_put]
      have := ha.put (k := p.1) h2
      rw [h1] at this
      rw [h1]
      exact this
    exact merge_kd (acc := putK acc p.1 p.2) (ys := putM ys x.1 x.2) h3 e
variable {F0 H0 F H : Hp} {D0 : List Addr} {O O1 : Os} {σ : L2.St} {ρ : List Sl} {D : Ends} {te : TE}
theorem st_setDP {i : Nat} {xs : List (κ × β)} (h : RXs K te ρ O (xs.map enc) O1) (E : EnvR K F σ ρ) (S : Hx K F0 H0 D0 F O H)
    (k : ∀ σ' F' H', Same F F' → EnvR K F' σ' (ρ.set i (.dk (encK (mergeM xs)))) → Hx K F0 H0 D0 F' O1 H' → D.nx σ' H') : tAsg (tCB (rDictP K) (tCons te tNil)) (gName i) D σ H :=
  h.go E S fun a F1 H1 f1 E1 S1 q => by
    obtain ⟨vs, q1, q2, q3⟩ := q F1 H1 (Same.refl _) S1
    obtain ⟨ps, kvs, e, hp, hk⟩ := pairs_at q3
    refine ⟨a, ps, kvs, rfl, by rw [← e]; exact q1, Paired.same S1.fh hp, fun p hn => ?_⟩
    have S2 := S1.put (o := .dK (mergeK [] kvs)) hn
    have f2 := same_upd (o := .dK (mergeK [] kvs)) (S1.nof hn)
    have km : KD K F1 (mergeK [] kvs) (encK (mergeM xs)) := merge_kd hk KD.nil
    have hz : (mergeK [] kvs).length ≤ sizeLine := by
      refine Nat.le_trans (length_mergeK kvs []) ?_
      have := congrArg List.length e
      rw [List.length_map] at this
      rw [List.length_nil, Nat.zero_add, ← hp.length]
      omega
    exact k _ _ _ (f1.trans f2) (EnvR.set (s := some (.ref p)) (r := .dk (encK (mergeM xs))) ⟨p, _, rfl, upd_same, hz, km.up f2⟩ i (E1.up f2)) S2
end
end TL

namespace TL
open PySem L2
section
variable {K : Fg} {ρ : List Sl} {O O1 : List OE} {ta : TE}
/-- tuple() of a tuple is the tuple -/
theorem rx_tupleT {ds : List PyData} (ha : RX K ta ρ O (.tuple ds) O1) : RX K (tCB (rTupleOf K) (tCons ta tNil)) ρ O (.tuple ds) O1 := ⟨fun _ _ _ _ _ _ Q E S k =>
  ha.go E S fun x F1 H1 f1 E1 S1 r1 => by
    cases r1 with
    | tup q1 q2 q3 => exact ⟨_, _, rfl, .inr ⟨same_t S1.fh q1, k _ F1 _ f1 S1 (.tup q1 q2 q3)⟩⟩⟩
end
/-! the second argument an own list -/
section
variable {K : Fg} {ρ : List Sl} {O O1 : List OE} {t : TA} {E0 : XK}
/-- the second argument an own list, of the data c, that is changed to c' -/
def SpP1 (K : Fg) (R : List PyData → List PyData → PyData → List PyData → Prop) : Sp := fun vs H Q _ => ∃ F p w ws xs c ds d c', vs = w :: .ref p :: ws ∧ RpAll K F (w :: ws) ds ∧ Same F H ∧ F p = none ∧ H p = some (.lst xs) ∧ xs.length ≤ sizeLine ∧ RpAll K F xs c ∧ R c ds d c' ∧
  ∀ v F' H' ys, Stp [p] F H F' H' → F' p = none → H' p = some (.lst ys) → ys.length ≤ sizeLine → RpAll K F' ys c' → Rp K F' v d → Q v H'
theorem spo1_len {R : List PyData → List PyData → PyData → List PyData → Prop} {n : Nat} (h : ∀ c ds d c', R c ds d c' → ds.length + 1 = n) : ∀ vs H Q E, SpP1 K R vs H Q E → vs.length = n := fun vs H Q E ⟨F, p, w, ws, xs, c, ds, d, c', e, r, _, _, _, _, _, hR, _⟩ => by
  subst e
  have := r.length
  have := h c ds d c' hR
  simp at *
  omega
theorem AsR.of_all1 {F : Hp} {w : V} {p : Addr} {ws : List V} {d0 : PyData} {ds : List PyData} (h : RpAll K F (w :: ws) (d0 :: ds)) : AsR K F (w :: .ref p :: ws) (.val d0 :: .adr p :: ds.map .val) := by
  cases h with
  | cons r t => exact .val r (.adr (AsR.of_all t))
theorem rx_callo1 {R : List PyData → List PyData → PyData → List PyData → Prop} {a : Addr} {nw : Bool} {j : Nat} {c c' ds : List PyData} {d0 d : PyData} (ha : RA K t ρ O (.val d0 :: .adr a :: ds.map .val) O1) (hj : O1[j]? = some ⟨a, nw, c⟩) (hR : R c (d0 :: ds) d c') :
    RX K (tCall (SpP1 K R) [] E0 t) ρ O d (O1.set j ⟨a, nw, c'⟩) := ⟨fun _ _ _ _ _ _ Q E S k => ha.go E S fun vs F1 H1 f1 E1 S1 r1 => by
  rw [List.append_nil]
  obtain ⟨g1, g2, g3, xs, g4, g5, g6⟩ := S1.get hj
  cases r1 with
  | val r0 r1 =>
    cases r1 with
    | adr r1 =>
      exact ⟨F1, a, _, _, xs, c, d0 :: ds, d, c', rfl, .cons r0 r1.all, S1.fh, g1, g4, g5, g6, hR, fun v F' H' ys st h1 h2 h3 h4 r => k v F' H' (f1.trans st.ff) (S1.call1 hj st h2 h3 h4) r⟩⟩
end
end TL

/-! t[::-1] of a tuple -/
namespace TL
open PySem PySem.Spec PyProof.Rows L2 HT
theorem adjust_rev (n : Nat) : Builtin.Slice.sliceAdjust none none (-1) (n : Int) = ((n : Int) - 1, -1) := by
  unfold Builtin.Slice.sliceAdjust
  simp
theorem places_rev (n : Nat) : Builtin.Slice.slicePlaces ((n : Int) - 1) (-1) (-1) = n := by
  unfold Builtin.Slice.slicePlaces
  rw [if_neg (by decide)]
  split
  · rw [show (-(-1) : Int) = 1 by decide, Int.ediv_one]; omega
  · omega
theorem fm_congr {α β : Type} {f g : α → Option β} : ∀ (xs : List α), (∀ x ∈ xs, f x = g x) → xs.filterMap f = xs.filterMap g
  | [], _ => rfl
  | x :: xs, h => by
    rw [List.filterMap_cons, List.filterMap_cons, h x (List.mem_cons_self ..), fm_congr xs fun y hy => h y (List.mem_cons_of_mem _ hy)]
theorem pick_rev (xs : Array Value) : ((List.range xs.size).filterMap fun (m : Nat) => xs[(((xs.size : Int) - 1) + (m : Int) * (-1)).toNat]?).toArray = xs.toList.reverse.toArray := by
  congr 1
  have e : ((List.range xs.size).filterMap fun (m : Nat) => xs[(((xs.size : Int) - 1) + (m : Int) * (-1)).toNat]?) = ((List.range xs.size).map fun k => xs.size - 1 - k).filterMap (xs[·]?) := by
    rw [List.filterMap_map]
    refine fm_congr _ fun m hm => ?_
    have := List.mem_range.mp hm
    show xs[(((xs.size : Int) - 1) + (m : Int) * (-1)).toNat]? = xs[xs.size - 1 - m]?
    rw [show (((xs.size : Int) - 1) + (m : Int) * (-1)).toNat = xs.size - 1 - m by omega]
  rw [e, PySem.W.krv_range, List.filterMap_reverse, PySem.W.krv_all]
section
variable {prog : Program} {w : World} {A : Around} {E : Value → Shared → Prop} {s : Shared}
theorem applied_rev {sl : Addr} {vl vu vs : Value} {n : Nat} {Q : Int × Int × Nat → Shared → Prop} (hs : s.heap.IsSliceOf sl vl vu vs) (pl : IsPart vl none) (pu : IsPart vu none) (ps : IsPart vs (some (-1)))
    (h : Q ((n : Int) - 1, -1, n) s) : wpAny (model prog w) A (Builtin.Slice.sliceApplied (.ref sl) (pure (n : Int))) Q E s := by
  obtain ⟨os, hos, hcs, hds⟩ := id hs
  unfold Builtin.Slice.sliceApplied Builtin.Slice.sliceFields
  refine wpAny_bind (wpAny_bind (wpAny_field hos hds (x := vl) rfl (wpAny_bind (wpAny_field hos hds (x := vu) rfl (wpAny_bind (wpAny_field hos hds (x := vs) rfl (wpAny_pure ?_)))))))
  refine wpAny_bind (slicePart_ ps ?_)
  show wpAny _ _ (if ((-1 : Int) == 0) = true then _ else _) _ _ s
  rw [if_neg (by decide)]
  refine wpAny_bind (slicePart_ pl (wpAny_bind (slicePart_ pu (wpAny_bind (wpAny_pure ?_)))))
  show wpAny _ _ (match Builtin.Slice.sliceAdjust none none (-1) (n : Int) with | (lo, hi) => pure (lo, (-1 : Int), Builtin.Slice.slicePlaces lo hi (-1))) _ _ s
  rw [adjust_rev n]
  show wpAny _ _ (pure ((n : Int) - 1, (-1 : Int), Builtin.Slice.slicePlaces ((n : Int) - 1) (-1) (-1))) _ _ s
  rw [places_rev]
  exact wpAny_pure h
theorem getItem_tuple_rev {t sl : Addr} {items : Array Value} {vl vu vs : Value} {Q : Value → Shared → Prop} (ht : IsTup s.heap t items) (hs : s.heap.IsSliceOf sl vl vu vs) (pl : IsPart vl none) (pu : IsPart vu none) (ps : IsPart vs (some (-1)))
    (h : Q (.ref s.heap.objs.size) { s with heap := s.heap.push { cls := .type "tuple", data := .seq items.toList.reverse.toArray } })
    (hsz : items.size ≤ sizeLine) : wpAny (model prog w) A (getItem (.ref t) (.ref sl)) Q E s := by
  have htake : sizeOk (.seq items.toList.reverse.toArray) := by
    show items.toList.reverse.toArray.size ≤ sizeLine
    rw [List.size_toArray, List.length_reverse, Array.length_toList]
    exact hsz
  obtain ⟨os, hos, hcs, hds⟩ := id hs
  have hTs : s.TypeIs (.ref sl) "slice" := ⟨os, hos, hcs⟩
  unfold getItem
  try with_reducible refine wpAny_holding ?_
  first | refine wpAny_bind (wpAny_pure ?_) | skip
  refine wpAny_bind (wpAny_sequenceKey ht.typeIs (by decide) ?_)
  refine wpAny_bind (wpAny_callSpecial?_slot (name := Str.ofString "__getitem__") ht.typeIs PyProof.Rows.slot_tuple_getitem
    (wpAny_call_entry PyProof.Rows.slot_tuple_getitem ht.typeIs entry_tuple_getitem ?_ (args_tuple_getitem _ _)))
  show wpAny _ _ (Builtin.Tuple.tupleItemsOf (.ref t) >>= _) _ _ s
  refine wpAny_bind (tupleItemsOf_ ht ?_)
  refine wpAny_bind (wpAny_typeOf hTs ?_)
  rw [if_pos (by decide)]
  refine wpAny_bind (applied_rev hs pl pu ps ?_)
  have hno : ¬ ((((items.size : Int) - 1) == 0 && (-1 : Int) == 1 && items.size == items.size) = true) := by simp
  show wpAny _ _ (if (((items.size : Int) - 1) == 0 && (-1 : Int) == 1 && items.size == items.size) = true then _ else _) _ _ s
  rw [if_neg hno, pick_rev]
  first
    | exact wpAny_bind (m := Builtin.Tuple.tupleExact _) (wpAny_newObj_type (wpAny_pure ⟨_, rfl, wpAny_pure h⟩) htake)
    | exact wpAny_bind (m := Builtin.Tuple.tupleExact _) (wpAny_newObj_type (wpAny_bind (wpAny_pure (wpAny_pure ⟨_, rfl, wpAny_pure h⟩))) htake)
    | exact wpAny_bind (wpAny_bind (m := Builtin.Tuple.tupleExact _) (wpAny_newObj_type (wpAny_pure (wpAny_pure ⟨_, rfl, wpAny_pure h⟩)) htake))
    | exact wpAny_bind (wpAny_bind (m := Builtin.Tuple.tupleExact _) (wpAny_newObj_type (wpAny_pure ⟨_, rfl, wpAny_pure h⟩) htake))
end
def tRevT (K : PySem.W.Frag) (te : TE) : TE := fun σ H Q => te σ H fun x H1 => ∃ a xs, x = .ref a ∧ SqT K H1 a xs ∧ ∀ p, H1 p = none → Q (.ref p) (upd H1 p (.tup xs.reverse))
section
variable {X : Cx}
theorem pe_revT {e : Expr} {te : TE} {k : Nat} {p1 p2 p3 pos : Pos} (he : PE X e te) : PE X (.Subscript e (.Slice none none (some (.UnaryOp .USub (.Constant (.int 1) k p1) p2)) p3) pos) (tRevT X.K te) := by
  refine ⟨fun pins s σ H Q I h => ?_⟩
  refine Subscript_ (thn (he.run pins s σ H _ I h) fun v s1 ⟨x, H1, I1, r1, q1⟩ => ?_)
  obtain ⟨a, xs, ex, hx, q⟩ := q1
  subst ex
  cases r1
  have hst : PO X (some (.UnaryOp .USub (.Constant (.int 1) k p1) p2)) (tPart (tUn (rU fun i => .int (-i)) (tC (.int 1)))) := po_some (pe_un un_neg pe_int)
  refine wpAny_Slice (thn (po_none.run pins s1 σ H1 (fun o H2 => o = none ∧ H2 = H1) I1 ⟨rfl, rfl⟩) fun vl s2 ⟨l, H2, I2, pl, el, e2⟩ => ?_)
  subst el e2
  refine thn (po_none.run pins s2 σ H2 (fun o H3 => o = none ∧ H3 = H2) I2 ⟨rfl, rfl⟩) fun vu s3 ⟨u, H3, I3, pu, eu, e3⟩ => ?_
  subst eu e3
  refine thn (hst.run pins s3 σ H3 (fun o H4 => o = some (-1) ∧ H4 = H3) I3 ⟨1, rfl, -1, rfl, rfl, rfl⟩) fun vs s4 ⟨o, H4, I4, ps, eo, e4⟩ => ?_
  subst eo e4
  have I5 : Inv X pins σ H4 { s4 with heap := s4.heap.push { cls := .type "slice", data := .fields #[vl, vu, vs] } } := I4.kept (t' := s4.toks) fun b ob q => Heap.get?_push_of_some _ q
  obtain ⟨its, r, ht, hz⟩ := I5.tuple hx
  show wpAny (model X.prog X.w) X.A (subscriptTail e (.Slice none none (some (.UnaryOp .USub (.Constant (.int 1) k p1) p2)) p3) (.ref a) (.ref s4.heap.objs.size)) (EP X pins σ Q) X.xe { s4 with heap := s4.heap.push { cls := .type "slice", data := .fields #[vl, vu, vs] } }
  refine tail_any (ops := [.ref a, .ref s4.heap.objs.size]) ht.typeIs (PyProof.Rows.slot_tuple_getitem.lookup) ?_ (by with_unfolding_all rfl)
  have hlen : its.toArray.size = xs.length := by rw [List.size_toArray]; exact r.length.symm
  refine getItem_tuple_rev ht (Heap.IsSliceOf.new _ vl vu vs) pl pu ps ?_ (by rw [hlen]; exact hz)
  refine ⟨.ref _, _, I5.laid (t' := s4.toks) (o := .tup xs.reverse) (fun b ob q => Heap.get?_push_of_some _ q) (Nat.le_refl _) ?_, rfl, q _ (I5.hok.fresh (Nat.le_refl _))⟩
  exact ⟨by rw [List.length_reverse]; exact hz, _, r.reverse, IsTup.new _ _⟩
theorem k_revT {e : Expr} {te : TE} {k : Nat} {p1 p2 p3 pos : Pos} (K : Fg) (he : PE X e te) (hK : X.K = K := by rfl) : PE X (.Subscript e (.Slice none none (some (.UnaryOp .USub (.Constant (.int 1) k p1) p2)) p3) pos) (tRevT K te) := by subst hK; exact pe_revT he
end
section
variable {K : Fg} {ρ : List Sl} {O O1 : List OE} {ta : TE}
theorem rx_revT {ds : List PyData} (ha : RX K ta ρ O (.tuple ds) O1) : RX K (tRevT K ta) ρ O (.tuple ds.reverse) O1 := ⟨fun _ _ _ _ _ _ Q E S k =>
  ha.go E S fun x F1 H1 f1 E1 S1 r1 => by
    cases r1 with
    | @tup _ xs _ q1 q2 q3 =>
      refine ⟨_, _, rfl, same_t S1.fh q1, fun p hp => ?_⟩
      have f2 := same_upd (o := .tup xs.reverse) (S1.nof hp)
      exact k _ _ _ (f1.trans f2) (S1.put hp) (.tup (SqT.of upd_same) (by rw [List.length_reverse]; exact q2) (q3.reverse.up f2))⟩
theorem rx_revTM {α : Type} {f : α → PyData} {xs : List α} (ha : RX K ta ρ O (.tuple (xs.map f)) O1) : RX K (tRevT K ta) ρ O (.tuple (xs.reverse.map f)) O1 := by
  rw [List.map_reverse]
  exact rx_revT ha
end
end TL

/-! an exception kept beyond its suite: except C as e: x = e; later isinstance(x, ..), x is None -/
namespace TL
open PySem PySem.Spec PyProof.Rows L2
open Enc
/-- what is known of an exception's object that is kept -/
def ExK (cls : Value) (d : Option Addr) (a : Addr) : HO := .ext fun h => ∃ (u : Obj) (vs : Array Value), h.get? a = some u ∧ Zc cls d u ∧ u.data = .fields vs
section
variable {X : Cx} {pins : List (Addr × Obj)} {σ τ : L2.St} {H G : Hp} {s sI : Shared} {a : Addr} {u : Obj} {vs : Array Value} {cls : Value} {d : Option Addr}
theorem seen_new (J : Inv X pins τ G sI) (nI : sI.heap.get? a = none) (hex : X.ex = []) : X.s_0.heap.get? a = none := by
  cases q : X.s_0.heap.get? a with
  | none => rfl
  | some o =>
    obtain ⟨o', e⟩ := J.base.there a o q (by rw [hex]; exact List.not_mem_nil)
    rw [nI] at e
    cases e
/-- it is tracked -/
theorem seen (J : Inv X pins τ G sI) (nI : sI.heap.get? a = none) (hex : X.ex = []) (I : Inv X pins σ H s) (e : s.heap.get? a = some u) (z : Zc cls d u) (f : u.data = .fields vs) (na : H a = none) (nL : a ≠ X.env.locals) :
    Inv X pins σ (upd H a (ExK cls d a)) s := by
  have n0 := seen_new J nI hex
  have ne : ∀ b o, H b = some o → b ≠ a := fun b o q => ne_of_none q na
  constructor
  case ok => exact I.ok
  case os => exact I.os
  case bare => exact I.bare
  case loc => exact I.loc
  case cell => exact I.cell
  case len => exact I.len
  case base =>
    constructor
    case keep => exact I.base.keep
    case slot => exact I.base.slot
    case there => exact I.base.there
    case free =>
      intro b o q n hx
      rw [upd_ne (fun z => by rw [z, n0] at q; cases q)]
      exact I.base.free b o q n hx
    case tups =>
      intro b xs q
      have := I.base.tups b xs q
      rw [upd_ne (ne _ _ this)]
      exact this
    case frzs =>
      intro b o v q
      have := I.base.frzs b o v q
      rw [upd_ne (ne _ _ this)]
      exact this
    case tbls =>
      intro b ps q
      obtain ⟨more, this⟩ := I.base.tbls b ps q
      exact ⟨more, by rw [upd_ne (ne _ _ this)]; exact this⟩
  case free => rw [upd_ne (Ne.symm nL)]; exact I.free
  case freeC =>
    intro x c q
    have : c ≠ a := by
      rintro rfl
      obtain ⟨v, o, h1, h2⟩ := I.cell x c q
      rw [e] at h1
      cases h1
      rw [f] at h2
      cases h2
    rw [upd_ne this]
    exact I.freeC x c q
  case pin =>
    intro p hp
    have np : p.1 ≠ a := by
      intro q
      have := (J.pin p hp).1
      rw [q, nI] at this
      cases this
    obtain ⟨h1, h2, h3⟩ := I.pin p hp
    exact ⟨h1, by rw [upd_ne np]; exact h2, h3⟩
  case hok =>
    intro b o q
    by_cases hb : b = a
    · subst hb
      rw [upd_same] at q
      cases q
      exact ⟨⟨u, vs, e, z, f⟩, ⟨u, e⟩, fun h1 h2 ⟨o, w, r1, r2⟩ k => ⟨o, w, k o r1, r2⟩⟩
    · rw [upd_ne hb] at q
      exact ObjOk.stay (I.hok b o q) (fun _ _ _ r => r) (fun c r => by rw [upd_ne (ne _ _ r)]; exact r) fun c xs r => by rw [upd_ne (ne _ _ r)]; exact r
end
/-- as wAs; behind the suite the exception is tracked -/
def wAsK (K : Fg) (c : Value) (i : Nat) (ts : Addr → Value → Option Addr → TS) (W : WX) (D : Ends) : WX := fun cls d σ H =>
  ∃ b, PySem.W.exmOne K cls c = some b ∧ (b = false → W cls d σ H) ∧
    (b = true → ∀ a, H a = none → ts a cls d { nx := fun σ' H' => H' a = none → D.nx (σ'.set i none) (upd H' a (ExK cls d a)), rt := D.rt, bk := fun _ _ => False, ct := fun _ _ => False } (σ.set i (some (.ref a))) H)
section
variable {X : Cx} {x n : Str} {c : Value} {i : Nat} {body suite : List Stmt} {b0 : Stmt} {np pos pos' : Pos} {tb : WX → TS} {ts : Addr → Value → Option Addr → TS} {W : WX}
theorem ps_try_asK (hex : X.ex = []) (hs : X.stack = X.env :: X.outer) (hf : X.env.frame = some X.env.locals) (hN : X.N.Nodup) (hi : X.N[i]? = some n) (hln : X.env.kindOf n = some .local) (hc : Names X x c) (tk : Takes X W)
    (hb : ∀ (V : WX) (pn : List (Addr × Obj)) (xe : Value → Shared → Prop), Takes (X.tr pn xe) V → PassesOwn (model X.prog X.w) X.A X.env xe → PSs (X.tr pn xe) body (tb V))
    (hu : ∀ (a : Addr) (oe : Obj) (cls : Value) (d : Option Addr) (pn : List (Addr × Obj)), Zc cls d oe → (∃ vs, oe.data = .fields vs) → PSs (X.suite a ((a, oe) :: pn)) (b0 :: suite) (ts a cls d)) :
    PS X (.Try body [.ExceptHandler (some (.Name x np)) (some n) (b0 :: suite) pos'] [] [] pos) (fun D σ H => tb (wAsK X.K c i ts W D) D σ H) := ⟨by
  intro pins s σ H D I h
  have ok := I.ok
  have frm : X.A.frames = some (X.env :: X.outer) := by rw [ok.frames, hs]
  have vis : Loc X.env.scope n := Or.inl hln
  apply wpAny_Try_except
  have run := (hb (wAsK X.K c i ts W D) (X.pn ++ pins) (fun e s1 => wpAny (model X.prog X.w) X.A (noteFrame e X.env)
      (fun _ s2 => wpAny (model X.prog X.w) X.A (setFlight e none)
        (fun _ s3 => wpAny (model X.prog X.w) X.A (handleBy e X.env [.ExceptHandler (some (.Name x np)) (some n) (b0 :: suite) pos']) (SP X pins D) X.xe s3) X.xe s2) X.xe s1)
      (by
        rintro e s' ⟨a, B, sI, pins', σ', H', cls, d, rfl, J', nb, up, sky, na, os, ag, b, hb1, hno, hyes⟩
        have J : Inv X pins σ' H' sI := J'.ofTry ok
        have sky2 : Sky B (X.env :: X.outer) a (Zc cls d) X.env.locals s'.heap := by rw [← hs]; exact sky
        refine Sky.land Zc.steady frm hf sky2 ?_
        intro h3 fl3 up3
        have J3 : Inv X pins σ' H' { s' with heap := h3 } := J.landed nb fl3.1 (up.trans up3) os ag
        obtain ⟨o3, v3, he3, hz3, hd3⟩ := fl3.there
        have out : a ∉ frs (X.env :: X.outer) := by
          intro hm
          obtain ⟨_, o', e', hnf⟩ := fl3.2.2.1.mem hm
          rw [he3] at e'
          cases e'
          exact hnf _ hd3
        have nL : a ≠ X.env.locals := by
          intro z
          exact out (List.mem_filterMap.mpr ⟨X.env, List.mem_cons_self, by rw [hf, z]⟩)
        have nF : a ∉ X.fs := by
          intro hm
          obtain ⟨e, he, q⟩ := List.mem_filterMap.mp hm
          exact out (List.mem_filterMap.mpr ⟨e, List.mem_cons_of_mem _ he, q⟩)
        have nI : sI.heap.get? a = none := by
          cases q : sI.heap.get? a with
          | none => rfl
          | some o =>
            have := nb a o q (by rw [hs]; exact out)
            rw [fl3.2.1] at this
            cases this
        have S3 := J3.suite he3 hd3 na nL nF
        apply wpAny_handleBy_cons _ (by intro q; cases q)
        apply codeAny_handlers_test
        have LT : PySem.W.Looks (model X.prog X.w) h3 (typeOf (.ref a)) cls := fun A Q E s k q => wpAny_typeOf_ref (k _ _ he3) (by rw [hz3.1]; exact q)
        have LM := PySem.W.exm_one (M := model X.prog X.w) J3.kIn LT hb1
        have name : ∀ {Q : Value → Shared → Prop} {E : Value → Shared → Prop}, Q c { s' with heap := h3 } → wpAny (model X.prog X.w) (X.A.mark (some (.ref a))) (eval (.Name x np) X.env) Q E { s' with heap := h3 } := by
          intro Q E q
          obtain ⟨hg, hdb, m | ⟨m, v, nn⟩⟩ := hc
          · exact ld_glob (X := X.suite a ((a, o3) :: (X.pn ++ pins))) S3 hg m q hdb
          · exact ld_blt (X := X.suite a ((a, o3) :: (X.pn ++ pins))) S3 hg m v q nn hdb
        apply name
        apply LM.here
        cases b with
        | false =>
          show wpAny _ X.A (handleBy (.ref a) X.env []) _ _ _
          apply wpAny_handleBy_nil
          obtain ⟨k1, k2, k3, o, w, T, oT, wT, he, hz, hd, h1, hr⟩ := id fl3
          unfold PySem.passOn
          apply wpAny_bind
          apply wpAny_field he hd h1
          rw [if_neg (show ¬ ((Value.ref T == Value.none) = true) from by simp)]
          have last : wpAny (model X.prog X.w) X.A (setFlight (.ref a) X.env.frame) (fun _ s4 => wpAny (model X.prog X.w) X.A (throw (.ref a) : Sem Flow) (SP X pins D) X.xe s4) X.xe { s' with heap := h3 } := by
            rw [hf]
            refine HandSPX.setFlight_upZ fl3 ?_
            intro h4 hh4 up4
            apply wpAny_throw
            apply tk
            exact ⟨a, B, sI, pins, σ', H', cls, d, rfl, J, nb, (up.trans up3).trans up4, .inr (.inr (by rw [hs]; exact hh4)), na, os, ag, hno rfl⟩
          first
            | exact wpAny_bind (wpAny_pure (wpAny_bind last))
            | exact wpAny_bind last
        | true =>
          apply codeAny_handlers_suite_as
          refine HandSPX.lands_againZ fl3 ?_
          intro h4 fl4 up4
          have J4 : Inv X pins σ' H' { s' with heap := h4 } := J.landed nb fl4.1 ((up.trans up3).trans up4) os ag
          obtain ⟨o4, v4, he4, hz4, hd4⟩ := fl4.there
          refine store_ok (X := X.suite a ((a, o4) :: (X.pn ++ pins))) (v := .ref a) (J4.suite he4 hd4 na nL nF) hN hi vis rfl ?_ (.inr hln)
          intro s5 S5
          have body := (hu a o4 cls d (X.pn ++ pins) hz4 ⟨_, hd4⟩).run [] s5 _ H' _ S5 (hyes rfl a na)
          refine wpAny_mono body ?_ (fun _ _ z => False.elim z)
          intro f s6 hsp
          cases f with
          | next =>
            obtain ⟨σ6, H6, S6, q6⟩ := hsp
            obtain ⟨p1, p2, _⟩ := S6.pin (a, o4) (List.mem_append_left _ List.mem_cons_self)
            have U := S6.unsuite ok
            have T := seen (cls := cls) (d := d) J nI hex U p1 hz4 hd4 p2 nL
            refine gone_ok T hN hi hln ?_
            intro s7 J7
            exact ⟨_, _, J7, q6 p2⟩
          | brk =>
            obtain ⟨σ6, H6, S6, q6⟩ := hsp
            exact q6.elim
          | cont =>
            obtain ⟨σ6, H6, S6, q6⟩ := hsp
            exact q6.elim
          | ret u =>
            obtain ⟨v6, σ6, H6, S6, r6, q6⟩ := hsp
            refine gone_ok (S6.unsuite ok) hN hi hln ?_
            intro s7 J7
            exact ⟨_, _, _, J7, r6, q6⟩)
      PassesOwn.looking).run [] s σ H D (I.toTry _) h
  refine wpAny_mono run ?_ (fun e s1 he => he)
  intro f s1 hsp
  cases f with
  | next =>
    obtain ⟨σ', H', J', q⟩ := hsp
    exact wpAny_execs_nil ⟨σ', H', J'.ofTry ok, q⟩
  | brk =>
    obtain ⟨σ', H', J', q⟩ := hsp
    exact ⟨σ', H', J'.ofTry ok, q⟩
  | cont =>
    obtain ⟨σ', H', J', q⟩ := hsp
    exact ⟨σ', H', J'.ofTry ok, q⟩
  | ret u =>
    obtain ⟨v, σ', H', J', r, q⟩ := hsp
    exact ⟨v, σ', H', J'.ofTry ok, r, q⟩⟩
end
def okO {α : Type} : Option (Rx α) → Option α
  | some (.ok a) => some a
  | _ => none
theorem okO_some {α : Type} : ∀ {o : Option (Rx α)} {a : α}, okO o = some a → o = some (.ok a)
  | some (.ok _), _, h => by cases h; rfl
  | some (.er _), _, h => by cases h
  | none, _, h => by cases h
theorem takesF {X : Cx} : Takes X (fun _ _ _ _ => False) := fun u s' h => by
  obtain ⟨a, B, sI, pins, σ, H, cls, d, _, _, _, _, _, _, _, _, w⟩ := h
  exact w.elim
/-! ### isinstance of what was kept -/
def rIsK (K : Fg) : List V → Hp → VK → Prop := fun xs H Q => ∃ (a D : Addr) (c : V) (cv : Value) (b : Bool), xs = [.ref a, c] ∧ H a = some (ExK (.ref D) none a) ∧ ExcC K D ∧ ClsV c cv ∧ PySem.W.kitOne K (.ref D) cv = some b ∧ Q (.bl b) H
def rIsKT (K : Fg) : List V → Hp → VK → Prop := fun xs H Q => ∃ (a D tp : Addr) (cs : List V) (us : List Value) (b : Bool), xs = [.ref a, .ref tp] ∧ H a = some (ExK (.ref D) none a) ∧ ExcC K D ∧ H tp = some (.tup cs) ∧ Paired ClsV cs us ∧ PySem.W.kitAny K (.ref D) us = some b ∧ Q (.bl b) H
theorem exk_inst {P : Program} {w : World} {H : Hp} {h : Heap} {a D : Addr} (x : HOk P w H h) (e : H a = some (ExK (.ref D) none a)) : ∃ o, PySem.W.InstAt h a o D none := by
  obtain ⟨⟨o, vs, h1, ⟨h2, h3⟩, h4⟩, _⟩ := x a _ e
  obtain ⟨oc, od, oda, osl⟩ := o
  dsimp only at h2 h3 h4
  subst h2 h3 h4
  exact ⟨_, h1, rfl, rfl, trivial⟩
theorem k_isK {X : Cx} (K : Fg) (hK : X.K = K := by rfl) : CallR X (.builtin "isinstance") (rIsK K) := by
  subst hK
  intro pins s σ H xs us Q I r h
  obtain ⟨a, D, c, cv, b, rfl, hH, C, k, e, q⟩ := h
  cases r with
  | cons rx rr =>
    cases rr with
    | cons rt rr =>
      cases rr
      cases rx
      have ec := k.eq rt
      subst ec
      obtain ⟨o, J⟩ := exk_inst I.hok hH
      exact PySem.W.kia_one (PySem.W.handS_kitx_exc C.hg C.hk C.hs C.hd C.ha C.hn C.ht C.hm) I.kIn J e (fun z => nomatch z) fun tk => ⟨.bl b, H, I.kept (t' := tk) fun _ _ z => z, rfl, q⟩
theorem k_isKT {X : Cx} (K : Fg) (hK : X.K = K := by rfl) : CallR X (.builtin "isinstance") (rIsKT K) := by
  subst hK
  intro pins s σ H xs us Q I r h
  obtain ⟨a, D, tp, cs, ws, b, rfl, hH, C, hT, k, e, q⟩ := h
  cases r with
  | cons rx rr =>
    cases rr with
    | @cons _ u2 _ _ rt rr =>
      cases rr
      cases rx
      cases (show u2 = Value.ref tp from rt)
      obtain ⟨o1, J⟩ := exk_inst I.hok hH
      obtain ⟨_, its, rv, o, h1, h2, n, h3⟩ := (show ObjOk X.prog X.w H s.heap tp (.tup cs) from I.hok tp _ hT)
      have e3 := ClsV.all k rv
      subst e3
      obtain ⟨oc, od, dt, sl⟩ := o
      simp only at h2 h3
      subst h2 h3
      exact PySem.W.kia_tup (PySem.W.handS_kitx_exc C.hg C.hk C.hs C.hd C.ha C.hn C.ht C.hm) I.kIn J h1 e (fun z => nomatch z) fun tk => ⟨.bl b, H, I.kept (t' := tk) fun _ _ z => z, rfl, q⟩
section
variable {K : Fg} {ρ : List Sl} {O : Os} {F0 H0 F H : Hp} {D0 : List Addr} {σ : L2.St} {D : Ends}
theorem rx_isK {i : Nat} {a D : Addr} {c : V} {cv : Value} {b : Bool} (hs : ρ[i]? = some (.obj a (ExK (.ref D) none a))) (ec : ExcC K D) (k : ClsV c cv) (e : PySem.W.kitOne K (.ref D) cv = some b) : RX K (tCB (rIsK K) (tCons (tVar i) (tCons (tC c) tNil))) ρ O (.bool b) O := ⟨fun _ _ _ _ F H Q E S kk => by
  obtain ⟨s, h1, h2, h3⟩ := E.at hs
  subst h2
  exact ⟨_, h1, a, D, c, cv, b, rfl, S.fh _ _ h3, ec, k, e, kk _ F H (Same.refl _) S (.bl b)⟩⟩
theorem rx_isKT {i : Nat} {a D : Addr} {cs : List V} {us : List Value} {b : Bool} (hs : ρ[i]? = some (.obj a (ExK (.ref D) none a))) (ec : ExcC K D) (hl : cs.length ≤ 1000) (k : Paired ClsV cs us) (e : PySem.W.kitAny K (.ref D) us = some b) : RX K (tCB (rIsKT K) (tCons (tVar i) (tCons (tTup (tCs cs)) tNil))) ρ O (.bool b) O := ⟨fun _ _ _ _ F H Q E S kk => by
  obtain ⟨s, h1, h2, h3⟩ := E.at hs
  subst h2
  have h4 := S.fh _ _ h3
  exact ⟨_, h1, tCs_run cs _ _ _ ⟨by rw [sizeLine_eq]; omega, fun T hT => ⟨a, D, T, cs, us, b, rfl, by rw [upd_ne (ne_of_none h4 hT)]; exact h4, ec, upd_same, k, e, kk _ F _ (Same.refl _) (S.junk hT) (.bl b)⟩⟩⟩⟩
/-- x is None, x what was kept -/
theorem rx_objN {i : Nat} {a : Addr} {u : HO} (hs : ρ[i]? = some (.obj a u)) : RX K (tIsN (tVar i)) ρ O (.bool false) O := ⟨fun _ _ _ _ F H Q E S kk => by
  obtain ⟨s, h1, h2, h3⟩ := E.at hs
  subst h2
  refine ⟨_, h1, ?_⟩
  show Q (.bl (decide (V.ref a = V.non))) H
  rw [show decide (V.ref a = V.non) = false from by simp]
  exact kk _ F H (Same.refl _) S (.bl false)⟩
theorem rx_objNN {i : Nat} {a : Addr} {u : HO} (hs : ρ[i]? = some (.obj a u)) : RX K (tNotN (tVar i)) ρ O (.bool true) O := ⟨fun _ _ _ _ F H Q E S kk => by
  obtain ⟨s, h1, h2, h3⟩ := E.at hs
  subst h2
  refine ⟨_, h1, ?_⟩
  show Q (.bl (!decide (V.ref a = V.non))) H
  rw [show (!decide (V.ref a = V.non)) = true from by simp]
  exact kk _ F H (Same.refl _) S (.bl true)⟩
/-- kept: c = e, the whole suite -/
theorem st_keep {i j : Nat} {C : Addr} {c : Value} {Wb : WX} (hm : PySem.W.exmOne K (.ref C) c = some true) (E : EnvR K F σ ρ) (S : Hx K F0 H0 D0 F O H) (hij : i ≠ j)  (hl : i < ρ.length)
    (k : ∀ a σ' F' H', Same F F' → EnvR K F' σ' (((ρ.set i (.adr a)).set j (.obj a (ExK (.ref C) none a))).set i .un) → Hx K F0 H0 D0 F' O H' → D.nx σ' H') :
    wAsK K c i (fun _ _ _ => tAsg (tVar i) (gName j)) Wb D (.ref C) none σ H := by
  unfold wAsK
  refine ⟨true, hm, ⟨fun z => Bool.noConfusion z, fun _ a ha => ?_⟩⟩
  have E1 := EnvR.seta (a := a) E i
  have e1 : (ρ.set i (.adr a))[i]? = some (.adr a) := by rw [List.getElem?_set_self hl]
  refine ⟨_, E1.adr e1, fun hn => ?_⟩
  have S1 : Hx K F0 H0 D0 (upd F a (ExK (.ref C) none a)) O (upd H a (ExK (.ref C) none a)) := S.put hn
  have f1 : Same F (upd F a (ExK (.ref C) none a)) := same_upd (S.nof hn)
  have E2 := EnvR.set (s := some (.ref a)) (r := .obj a (ExK (.ref C) none a)) ⟨rfl, upd_same⟩ j (E1.up f1)
  exact k a _ _ _ f1 (EnvR.set (s := none) (r := .un) trivial i E2) S1
end
end TL

/-! likeness of texts, ints and tuples, by a filter of the places that are unlike -/
namespace TL
open PySem L2
open Enc
mutual
inductive SiK : Nat → PyData → PyData → Bool → Prop
  | int {n : Nat} (i j : Int) : SiK n (.int i) (.int j) (decide (i = j))
  | str {n : Nat} (i j : Str) : SiK n (.str i) (.str j) (decide (i = j))
  | tuple {n : Nat} {xs ys : List PyData} {b : Bool} (h : SiKAll n xs ys b) : SiK (n + 1) (.tuple xs) (.tuple ys) (decide (xs.length = ys.length) && b)
inductive SiKAll : Nat → List PyData → List PyData → Bool → Prop
  | nil {n : Nat} (ys : List PyData) : SiKAll n [] ys true
  | nil' {n : Nat} (xs : List PyData) : SiKAll n xs [] true
  | cons {n : Nat} {x y : PyData} {xs ys : List PyData} {b c : Bool} (h : SiK n x y b) (t : SiKAll n xs ys c) : SiKAll n (x :: xs) (y :: ys) (b && c)
end
mutual
theorem SiK.mono {n m : Nat} {x y : PyData} {b : Bool} (h : SiK n x y b) (e : n ≤ m) : SiK m x y b := by
  cases h with
  | int i j => exact .int i j
  | str i j => exact .str i j
  | tuple h =>
    cases m with
    | zero => omega
    | succ m => exact .tuple (SiKAll.mono h (by omega))
theorem SiKAll.mono {n m : Nat} {xs ys : List PyData} {b : Bool} (h : SiKAll n xs ys b) (e : n ≤ m) : SiKAll m xs ys b := by
  cases h with
  | nil ys => exact .nil ys
  | nil' xs => exact .nil' xs
  | cons h t => exact .cons (SiK.mono h e) (SiKAll.mono t e)
end
def SiKR (n : Nat) : List PyData → PyData → Prop := fun ds d => ∃ x y b, ds = [x, y] ∧ SiK n x y b ∧ d = .bool b
theorem SiKAll.all {n : Nat} {xs ys : List PyData} {b : Bool} (h : SiKAll n xs ys b) : ∃ zs : List (PyData × PyData × Bool), zs.map (fun t => PyData.tuple [t.1, t.2.1]) = zipD xs ys ∧ (∀ t ∈ zs, SiK n t.1 t.2.1 t.2.2) ∧ (zs.map (·.2.2)).all id = b := by
  induction xs generalizing ys b with
  | nil => cases h; exact ⟨[], rfl, fun t e => by simp at e, rfl⟩; exact ⟨[], rfl, fun t e => by simp at e, rfl⟩
  | cons x xs ih =>
    cases h with
    | nil' => exact ⟨[], rfl, fun t e => by simp at e, rfl⟩
    | @cons _ _ y _ ys b c h t =>
      obtain ⟨zs, h1, h2, h3⟩ := ih t
      refine ⟨(x, y, b) :: zs, ?_, fun t ht => ?_, by rw [List.map_cons, List.all_cons, h3]; rfl⟩
      · rw [List.map_cons, h1]; rfl
      · rcases List.mem_cons.mp ht with e | ht
        · subst e; exact h
        · exact h2 t ht
theorem siKAll_ints : ∀ xs ys : List Int, ∃ b, SiKAll 0 (xs.map enc) (ys.map enc) b ∧ (decide (xs.length = ys.length) && b) = decide (xs = ys)
  | [], ys => ⟨true, .nil _, by cases ys <;> simp⟩
  | x :: xs, [] => ⟨true, .nil' _, by simp⟩
  | x :: xs, y :: ys => by
    obtain ⟨b, h, e⟩ := siKAll_ints xs ys
    refine ⟨_, .cons (.int x y) h, ?_⟩
    have e1 : decide (x :: xs = y :: ys) = (decide (x = y) && decide (xs = ys)) := by simp
    rw [e1, ← e]
    have e2 : decide ((x :: xs).length = (y :: ys).length) = decide (xs.length = ys.length) := by simp
    rw [e2]
    cases decide (x = y) <;> cases decide (xs.length = ys.length) <;> cases b <;> rfl
theorem siK_tp (x y : Tp Int) : SiK 1 (enc x) (enc y) (decide (x = y)) := by
  obtain ⟨xs⟩ := x
  obtain ⟨ys⟩ := y
  obtain ⟨b, h, e⟩ := siKAll_ints xs ys
  have := SiK.tuple h
  rw [List.length_map, List.length_map, e] at this
  have e2 : decide (Tp.mk xs = Tp.mk ys) = decide (xs = ys) := by simp
  rw [e2]
  exact this
def Kp.fin : Kp → Bool
  | .a1 _ => true
  | .a4 _ _ _ n => n.isSome
def alkO (x y : Kp) : Option Bool := if (x.fin && y.fin) = true then some (decide (x = y)) else none
theorem alkO_ok {x y : Kp} {b : Bool} (h : alkO x y = some b) : SiK 2 (enc x) (enc y) b := by
  unfold alkO at h
  split at h
  · rename_i hf
    obtain rfl := Option.some.inj h
    cases x with
    | a1 s =>
      cases y with
      | a1 s' =>
        have := SiK.tuple (n := 1) (.cons (.str s s') (.nil []))
        rw [show decide (Kp.a1 s = Kp.a1 s') = (decide ([PyData.str s].length = [PyData.str s'].length) && (decide (s = s') && true)) from by simp]
        exact this
      | a4 s' b' t' n' => exact SiK.tuple (n := 1) (xs := [_]) (ys := [_, _, _, _]) (.cons (.str s s') (.nil _))
    | a4 s b t n =>
      cases y with
      | a1 s' => exact SiK.tuple (n := 1) (xs := [_, _, _, _]) (ys := [_]) (.cons (.str s s') (.nil' _))
      | a4 s' b' t' n' =>
        cases n with
        | none => simp [Kp.fin] at hf
        | some i =>
          cases n' with
          | none => simp [Kp.fin] at hf
          | some i' =>
            have := SiK.tuple (n := 1) (.cons (.str s s') (.cons (siK_tp b b') (.cons (siK_tp t t') (.cons (.int i i') (.nil [])))))
            rw [show decide (Kp.a4 s b t (some i) = Kp.a4 s' b' t' (some i')) = (decide ([PyData.str s, enc b, enc t, PyData.int i].length = [PyData.str s', enc b', enc t', PyData.int i'].length) && (decide (s = s') && (decide (b = b') && (decide (t = t') && (decide (i = i') && true))))) from by simp [Bool.decide_and]]
            exact this
  · cases h
theorem filtO_pure {α : Type} (q : α → Bool) : ∀ xs : List α, filtO (fun k => some (q k)) (fun k => some k) xs = some (xs.filter q)
  | [] => rfl
  | x :: xs => by
    unfold filtO
    rw [filtO_pure q xs, List.filter_cons]
    cases q x <;> rfl
theorem filt_none {α : Type} [DecidableEq α] (g : α → Bool) (xs : List α) : decide (xs.filter (fun k => !g k) = []) = xs.all g := by
  rw [Bool.eq_iff_iff, decide_eq_true_iff, List.filter_eq_nil_iff, List.all_eq_true]
  constructor
  · intro h x hx
    have := h x hx
    simpa using this
  · intro h x hx
    simp [h x hx]
end TL

/-! [f(x) for x in ..], f an own def that may raise: the exception leaves the comprehension -/
namespace TL
open PySem PySem.Spec PyProof.Rows L2
/-- what is wanted behind a comprehension's block: its list, or the exception handed on -/
def postX (M : Model) (A : Around) (E : Value → Shared → Prop) (Q : Value → Shared → Prop) (acc : Value) (ce : Env) : Result → Shared → Prop
  | .ok _, t => ∃ m, t.heap.Ns ce.locals m ∧ ∀ g, Heap.SameBut ce.locals t.heap g → Q acc { t with heap := g }
  | .error x, t => ∃ m, t.heap.Ns ce.locals m ∧ ∀ g, Heap.SameBut ce.locals t.heap g → wpAny M A (passOn "comprehension.variables-let-go" x ce : Sem Value) (fun _ _ => False) E { t with heap := g }
section
variable {M : Model} {A : Around} {E : Value → Shared → Prop} {s : Shared} {env : Env}
theorem comp_x {e : Expr} {scope : Scope} {pos : Pos} {newAcc first : Sem Value} {g : Comprehension} {gs : List Comprehension} {cl : List (Str × Addr)} {Q : Value → Shared → Prop}
    (h1 : clausesOf e = g :: gs) (h2 : ∀ x, foldedSetIterable g.iter env x = pure x) (h3 : closureFor scope env = pure cl) (h4 : scope.kind = .function) (h5 : ∀ x ∈ scope.names, x.2 = .local → scope.names.lookup x.1 = some .local)
    (h : wpAny M A first (fun x s1 => wpAny M A (pyIter x) (fun it s2 => wpAny M A newAcc (fun acc s3 => wpAny M A (newFunctionEnv scope env.globals cl [] env.qual none .none (some env))
      (fun ce s4 => codeAny M A (.compStart e 0 it acc { ce with scope := relabel scope env }) (postX M A E Q acc { ce with scope := relabel scope env }) s4) E s3) E s2) E s1) E s) :
    wpAny M A (comprehension e scope env pos newAcc false first none) Q E s := by
  unfold comprehension
  rw [h3, h1]
  apply wpAny_bind
  apply wpAny_mono h _ (fun _ _ z => z)
  intro x s1 q1
  apply wpAny_bind
  apply wpAny_standAt
  apply wpAny_bind
  apply wpAny_of_eq (h2 x)
  apply wpAny_bind
  apply wpAny_holding
  apply wpAny_mono q1 _ (fun _ _ z => z)
  intro it s2 q2
  apply wpAny_standIf
  apply wpAny_bind
  apply wpAny_mono q2 _ (fun _ _ z => z)
  intro acc s3 q3
  apply wpAny_bind
  apply wpAny_pure
  apply wpAny_bind
  apply wpAny_mono q3 _ (fun _ _ z => z)
  intro ce s4 q4
  dsimp only
  have own : ∀ x ∈ (scope.names.filter fun x => (x.2 == .local || x.2 == .cell) && x.1 != (".0" : Str)).reverse, x.2 = .local → Env.kindOf { ce with scope := relabel scope env } x.1 = some .local := by
    intro x hx hl
    have := List.mem_reverse.mp hx
    exact lookup_relabel_local (h5 x (List.mem_filter.mp this).1 hl)
  apply wpAny_holding
  apply wpAny_bind
  apply wpAny_attempt
  apply wpAny_holding
  refine wpAny_run (codeAny_mono q4 ?_)
  intro r t q
  cases r with
  | ok f =>
    obtain ⟨m, hn, q⟩ := q
    apply wpAny_bind
    apply wpAny_holding
    refine wpAny_comp_letGo (cenv := { ce with scope := relabel scope env }) h4 _ t m own hn ?_
    intro g _ _ sb
    exact wpAny_pure (q g sb)
  | error x =>
    obtain ⟨m, hn, q⟩ := q
    apply wpAny_bind
    apply wpAny_holding
    refine wpAny_comp_letGo (cenv := { ce with scope := relabel scope env }) h4 _ t m own hn ?_
    intro g _ _ sb
    exact wpAny_mono (q g sb) (fun _ _ z => z.elim) (fun _ _ z => z)
end
theorem ff_move {base base' h h' : Heap} : ∀ {l : List Env}, h.FunFrames base l → (∀ L ∈ frs l, h'.get? L = h.get? L) → (∀ L ∈ frs l, base'.get? L = none) → h'.FunFrames base' l
  | [], _, _, _ => trivial
  | env :: l, q, k, n => by
    obtain ⟨hk, ⟨L, o, hf, _, ho, hd⟩, hr⟩ := q
    have hm : L ∈ frs (env :: l) := List.mem_filterMap.mpr ⟨env, List.mem_cons_self, hf⟩
    have sub : ∀ b ∈ frs l, b ∈ frs (env :: l) := by
      intro b hb
      obtain ⟨e, he, q⟩ := List.mem_filterMap.mp hb
      exact List.mem_filterMap.mpr ⟨e, List.mem_cons_of_mem _ he, q⟩
    exact ⟨hk, ⟨L, o, hf, n L hm, (k L hm).trans ho, hd⟩, ff_move hr (fun b hb => k b (sub b hb)) fun b hb => n b (sub b hb)⟩
/-- the block's context, what is wanted of an exception being told -/
abbrev blkX (X : Cx) (s : Shared) (H : Hp) (scope : Scope) (ce : Env) (fp : List Addr) (xe : Value → Shared → Prop) : Cx := { X.blk s H scope ce fp with xe := xe }
section
variable {X : Cx} {pins pinb : List (Addr × Obj)} {σ σb : L2.St} {H3 H : Hp} {s3 s s' : Shared} {scope : Scope} {ce : Env} {fp : List Addr} {xe : Value → Shared → Prop} {E : XK} {W : WX} {u acc : Value} {Qf : Value → Shared → Prop}
theorem raise_blk (hs : X.stack = X.env :: X.outer) (hf : X.env.frame = some X.env.locals) (tk : Takes X W) (hW : ∀ cls d H, E cls d H → W cls d σ H) (I3 : Inv X pins σ H3 s3) (f3 : ∀ b ∈ fp, FpOk X pins H3 b)
    (hC : ce.locals = s3.heap.objs.size) (hF : ce.frame = X.env.frame) (Ib : Inv (blkX X s3 H3 scope ce fp xe) pinb σb H s) (c : L2.CX X.prog X.w X.stack H s E u s') :
    notedBy (model X.prog X.w) X.A ce (fun e t => postX (model X.prog X.w) X.A X.xe Qf acc ce (.error e) t) u s' := by
  obtain ⟨a, B, H', cls, d, rfl, fl, hok, ub, na, os, ag, hE⟩ := c
  have frm : X.A.frames = some (X.env :: X.outer) := by rw [I3.ok.frames, hs]
  generalize hc : ce.locals = C at hC
  have cH : H C = none := by rw [← hc]; exact Ib.free
  obtain ⟨m, hm, _⟩ := Ib.loc
  have hm : s.heap.Ns C m := by rw [← hc]; exact hm
  obtain ⟨oC, es, ep, hoC, hm2⟩ := hm
  have c3 : s3.heap.get? C = none := Heap.get?_none_of_le (by rw [hC]; exact Nat.le_refl _)
  have cF : C ∉ frs X.stack := by
    intro z
    obtain ⟨_, o, ho, _⟩ := I3.stack.mem z
    rw [c3] at ho
    cases ho
  have cB : B.get? C = some oC := ub.keep C oC hoC cH cF
  have aC : a ≠ C := by
    intro z
    have := fl.2.1
    rw [z, cB] at this
    cases this
  have nf : noteFrame (.ref a) ce = noteFrame (.ref a) X.env := by
    unfold noteFrame PySem.frameOf
    rw [hF]
  unfold notedBy
  rw [nf]
  have fl' : HandSPX.FlyingZ B (X.env :: X.outer) a (Zc cls d) s'.heap := by rw [← hs]; exact fl
  refine HandSPX.looks_onZ Zc.steady frm hf fl' ?_
  intro h1 hh1 up1
  refine ⟨m, ?_, ?_⟩
  · rw [hc]
    exact ⟨oC, es, ep, hh1.1 C oC cB, hm2⟩
  intro g sb
  rw [hc] at sb
  -- the ground without the block's names
  generalize hB : PySem.W.hideAll B [C] = B1
  have b1 : ∀ b o, B1.get? b = some o → B.get? b = some o ∧ b ≠ C := by
    intro b o e
    rw [← hB] at e
    refine ⟨PySem.W.of_hideAll _ e, ?_⟩
    intro z
    rw [z, PySem.W.hideAll_none [C] List.mem_cons_self] at e
    cases e
  have b2 : ∀ b o, B.get? b = some o → b ≠ C → B1.get? b = some o := by
    intro b o e n
    rw [← hB]
    exact PySem.W.hideAll_get _ e (by simpa using n)
  have b3 : ∀ b, B.get? b = none → B1.get? b = none := by
    intro b e
    cases q : B1.get? b with
    | none => rfl
    | some o =>
      have := (b1 b o q).1
      rw [e] at this
      cases this
  have hg : ∀ b, b ≠ C → g.get? b = h1.get? b := sb.2
  have stay : B1.StaysIn g := by
    intro b o e
    obtain ⟨e1, n1⟩ := b1 b o e
    rw [hg b n1]
    exact hh1.1 b o e1
  have cF' : C ∉ frs (X.env :: X.outer) := by rw [← hs]; exact cF
  have held : HandSPX.HeldZ B1 (X.env :: X.outer) a (Zc cls d) X.env.locals g := by
    obtain ⟨k1, k2, k3, oe, vs, T, oT, ts, he, hz, hd, e1, hnT, hTe, hT, hdT, e3⟩ := hh1
    have nT : T ≠ C := by
      intro z
      rw [z, cB] at hnT
      cases hnT
    refine ⟨stay, b3 a k2, ff_move k3 (fun L hL => hg L (fun z => cF' (z ▸ hL))) (fun L hL => b3 L (k3.mem hL).1), oe, vs, T, oT, ts, ?_, hz, hd, e1, b3 T hnT, hTe, ?_, hdT, e3⟩
    · rw [hg a aC]; exact he
    · rw [hg T nT]; exact hT
  unfold PySem.passOn
  obtain ⟨k1, k2, k3, oe, vs, T, oT, ts, he, hz, hd, e1, hr⟩ := id held
  apply wpAny_bind
  apply wpAny_field he hd e1
  rw [if_neg (show ¬ ((Value.ref T == Value.none) = true) from by simp)]
  have last : wpAny (model X.prog X.w) X.A (setFlight (.ref a) ce.frame) (fun _ t => wpAny (model X.prog X.w) X.A (throw (.ref a) : Sem Value) (fun _ _ => False) X.xe t) X.xe { s' with heap := g } := by
    rw [hF, hf]
    refine HandSPX.setFlight_onZ held ?_
    intro g2 hh2 up2
    apply wpAny_throw
    apply tk
    -- the exception is in the def's air
    obtain ⟨G, g1, gn⟩ := L2.restrict g2 fun b => (B1.get? b).isSome || decide (b ∈ frs X.stack)
    have gB : ∀ b o, B1.get? b = some o → G.get? b = some o := by
      intro b o e
      rw [g1 b (by simp [e])]
      exact hh2.1 b o e
    have gF : ∀ b, b ∈ frs X.stack → G.get? b = g2.get? b := fun b hb => g1 b (by simp [hb])
    have og : ∀ b o, G.get? b = some o → g2.get? b = some o ∧ ((B1.get? b).isSome = true ∨ b ∈ frs X.stack) := by
      intro b o e
      cases q : ((B1.get? b).isSome || decide (b ∈ frs X.stack)) with
      | false => rw [gn b q] at e; cases e
      | true =>
        rw [g1 b q] at e
        exact ⟨e, by simpa [Bool.or_eq_true] using q⟩
    have n3 : ∀ b o, s3.heap.get? b = some o → b ≠ C := by
      intro b o e z
      rw [z, c3] at e
      cases e
    have nC : H' C = none := ub.free C oC hoC cH
    have okB : HOk X.prog X.w H' B1 := by
      intro b o e
      have nb : b ≠ C := by
        intro z
        rw [z, nC] at e
        cases e
      refine ObjOk.stay (hok b o e) (fun c v hc r => b2 c v r ?_) (fun _ r => r) fun _ _ r => r
      rcases hc with rfl | hc
      · exact nb
      · intro z
        rw [z, nC] at hc
        cases hc
    have un : Un (frs X.stack) fp H3 H' s3.heap G := by
      have base := Ib.base
      constructor
      case keep =>
        intro b o e n hb hx
        exact gB b o (b2 b o (ub.keep b o (base.keep b o e n hb hx) (base.free b o e n hx) hb) (n3 b o e))
      case slot =>
        intro b o e n hb hx
        obtain ⟨sl, q⟩ := base.slot b o e n hb hx
        obtain ⟨sl2, q2⟩ := ub.slot b _ q hb
        obtain ⟨_, o', e', hnf⟩ := I3.stack.mem hb
        rw [e] at e'
        cases e'
        obtain ⟨sl3, q3⟩ := up1 b _ q2 hnf
        have q4 : g.get? b = some { o with slots := sl3 } := by rw [hg b (n3 b o e)]; exact q3
        obtain ⟨sl5, q5⟩ := up2 b _ q4 hnf
        exact ⟨sl5, by rw [gF b hb]; exact q5⟩
      case free =>
        intro b o e n hx
        obtain ⟨o', q⟩ := base.there b o e hx
        exact ub.free b o' q (base.free b o e n hx)
      case there =>
        intro b o e hx
        obtain ⟨o', q⟩ := base.there b o e hx
        by_cases hb : b ∈ frs X.stack
        · obtain ⟨sl2, q2⟩ := ub.slot b _ q hb
          have hn3 := I3.stkFree b hb
          obtain ⟨_, o4, e4, hnf⟩ := I3.stack.mem hb
          rw [e] at e4
          cases e4
          obtain ⟨sl0, q0⟩ := base.slot b o e hn3 hb hx
          rw [q] at q0
          cases q0
          obtain ⟨sl3, q3⟩ := up1 b _ q2 hnf
          have q4 : g.get? b = some { o with slots := sl3 } := by rw [hg b (n3 b o e)]; exact q3
          obtain ⟨sl5, q5⟩ := up2 b _ q4 hnf
          exact ⟨_, by rw [gF b hb]; exact q5⟩
        · obtain ⟨o2, q2⟩ := ub.there b o' q hb
          exact ⟨o2, gB b o2 (b2 b o2 q2 (n3 b o e))⟩
      case tups => exact fun b xs e => ub.tups b xs (base.tups b xs e)
      case frzs => exact fun b o v e => ub.frzs b o v (base.frzs b o v e)
      case tbls =>
        intro b ps e
        obtain ⟨m1, q1⟩ := base.tbls b ps e
        obtain ⟨m2, q2⟩ := ub.tbls b _ q1
        exact ⟨m1 ++ m2, by rw [q2, Array.append_assoc]⟩
    have J : Inv X pins σ H' { s' with heap := G } := by
      refine I3.call' (ch := fp) (s' := { s' with heap := G }) (os.trans Ib.os) un (okB.kept gB) ag ?_
      intro b hb
      obtain ⟨q1, q2, q3, q4, q5, q6⟩ := f3 b hb
      exact ⟨q4, q2, q5, q6⟩
    refine ⟨a, B1, { s' with heap := G }, pins, σ, H', cls, d, rfl, J, ?_, Heap.UpToSlots.of_keeps (fun b o e => (og b o e).1), .inr (.inr (by rw [hs]; exact hh2)), na, rfl, ag, hW _ _ _ hE⟩
    intro b o e hb
    obtain ⟨e', q⟩ := og b o e
    rcases q with q | q
    · obtain ⟨o', q'⟩ := Option.isSome_iff_exists.mp q
      have z := hh2.1 b o' q'
      rw [e'] at z
      cases z
      exact q'
    · exact absurd q hb
  first
    | exact wpAny_bind (wpAny_pure (wpAny_bind last))
    | exact wpAny_bind last
end
section
variable {X : Cx} {W : WX} {E : XK} {elt tg iter : Expr} {scope : Scope} {own : List (Str × Nat)} {pos : Pos} {wi : TI} {g : TG} {te : TE}
/-- [elt for tg in iter], elt a call of a def that may raise -/
theorem pe_lcX (hst : X.stack = X.env :: X.outer) (hfr : X.env.frame = some X.env.locals) (hc : X.calm = true) (hN : X.N.Nodup) (hi : PI X tg iter wi) (ok : BlkOk X.N X.env.scope scope own) (tk : Takes X W) (hW : ∀ cls d σ H, E cls d H → W cls d σ H)
    (hg : ∀ (s : Shared) (H : Hp) (C : Addr) (cl : List (Str × Addr)) (fp : List Addr) (xe : Value → Shared → Prop), PG (blkX X s H scope (compEnvC scope cl C X.env) fp xe) tg g)
    (he : ∀ (s : Shared) (H : Hp) (C : Addr) (cl : List (Str × Addr)) (fp : List Addr) (xe : Value → Shared → Prop), Passes (L2.CX X.prog X.w) (blkX X s H scope (compEnvC scope cl C X.env) fp xe) E → PE (blkX X s H scope (compEnvC scope cl C X.env) fp xe) elt te)
    (hs : ∀ x, foldedSetIterable iter X.env x = pure x := by intro _; rfl) : PE X (.ListComp elt [⟨tg, iter, [], 0⟩] scope pos) (tLc wi g tYes te (own.map (·.2))) := ⟨by
  intro pins s σ H Q I h
  rw [eval_ListComp]
  have frees : ∀ y ∈ scope.names, y.2 = .free → ∃ c, X.env.cells.lookup y.1 = some c := by
    intro y hy e
    rcases ok.free y hy e with k | k
    · exact I.ok.has _ (.inl k)
    · exact I.ok.has _ (.inr k)
  refine comp_x rfl hs (closure_ok frees) ok.kind (fun y hy e => by rw [ok.uniq y hy, e]) (thn (hi.run pins s σ H _ I h) fun xv s1 hx => thn hx fun itv s2 h2 => ?_)
  obtain ⟨it, fp, tn, J, H2, e, I2, T, t2, f2, q⟩ := h2
  subst e
  refine wpAny_newObj_type (newEnv_comp ?_) (Nat.zero_le _)
  generalize hD : s2.heap.objs.size = D
  have hDn : H2 D = none := I2.hok.fresh (Nat.le_of_eq hD)
  obtain ⟨Wv, ⟨m0, w0⟩, turn⟩ := q D hDn
  generalize hs3 : ({ s2 with heap := s2.heap.push { cls := .type "list", data := .seq ([] : List Value).toArray } } : Shared) = s3
  have e3 : s3.heap = s2.heap.push { cls := .type "list", data := .seq ([] : List Value).toArray } := by rw [← hs3]
  have I3 : Inv X pins σ (upd H2 D (.lst [])) s3 := by
    rw [← hs3]
    refine I2.laid (t' := s2.toks) (fun b o e => Heap.get?_push_of_some _ e) (Nat.le_of_eq hD) ?_
    refine ⟨Nat.zero_le _, [], 0, .nil, ?_⟩
    rw [← hD]
    exact Heap.get?_push_size _ rfl
  have lt2 : ∀ b ∈ fp, b < s2.heap.objs.size := by
    intro b hb
    obtain ⟨o, e, _⟩ := T.obj _ _ t2 b hb
    exact Heap.lt_size e
  have f3 : ∀ b ∈ fp, FpOk X pins (upd H2 D (.lst [])) b ∧ b < s3.heap.objs.size := by
    intro b hb
    have hlt := lt2 b hb
    have ne : b ≠ D := by rw [← hD]; exact Nat.ne_of_lt hlt
    refine ⟨⟨by rw [upd_ne ne]; exact (f2 b hb).1, (f2 b hb).2⟩, ?_⟩
    rw [e3, Heap.size_push]
    exact Nat.lt_succ_of_lt hlt
  have t3 : tn 0 s3.heap := T.keep _ _ _ t2 (by intro b _ o e; rw [e3]; exact Heap.get?_push_of_some _ e)
  have I4 := block_start I3 ok hN f3
  generalize hcl : cellsFrom (s3.heap.objs.size + 1) scope.names (cloFrom X.env.cells scope.names []) = cl at I4
  generalize hH3 : upd H2 D (.lst []) = H3 at I3 I4 w0 f3
  show codeAny _ _ (.compStart (.ListComp elt [⟨tg, iter, [], 0⟩] scope pos) 0 (.ref it) (.ref D) (compEnvC scope cl s3.heap.objs.size X.env))
    (postX (model X.prog X.w) X.A X.xe (EP X pins σ Q) (.ref D) (compEnvC scope cl s3.heap.objs.size X.env)) { s3 with heap := pushCells (s3.heap.push { cls := .type "dict", data := .dict #[] }) scope.names }
  have pg := hg s3 H3 s3.heap.objs.size cl fp
  have pe := he s3 H3 s3.heap.objs.size cl fp
  generalize hce : compEnvC scope cl s3.heap.objs.size X.env = ce at I4 pg pe ⊢
  have cL : ce.locals = s3.heap.objs.size := by subst hce; rfl
  have cF : ce.frame = X.env.frame := by subst hce; rfl
  generalize hxe : (fun (e : Value) (t : Shared) => notedBy (model X.prog X.w) X.A ce (fun e t => postX (model X.prog X.w) X.A X.xe (EP X pins σ Q) (.ref D) ce (.error e) t) e t) = xe
  have pass : Passes (L2.CX X.prog X.w) (blkX X s3 H3 scope ce fp xe) E := by
    intro pb σb Hb sb u sb' Ib c
    show xe u sb'
    rw [← hxe]
    exact raise_blk hst hfr tk (fun cls d H => hW cls d σ H) I3 (fun b hb => (f3 b hb).1) cL cF Ib c
  have pgx := pg xe
  have pex := pe xe pass
  have nfp : ∀ b ∈ fp, H3 b = none := fun b hb => (f3 b hb).1.1
  have I4 : Inv (blkX X s3 H3 scope ce fp xe) [] (wipe σ (own.map (·.2))) H3 { s3 with heap := pushCells (s3.heap.push { cls := .type "dict", data := .dict #[] }) scope.names } := I4.wish xe
  generalize hs4 : ({ s3 with heap := pushCells (s3.heap.push { cls := .type "dict", data := .dict #[] }) scope.names } : Shared) = s4 at I4 ⊢
  have t4 : tn 0 s4.heap := T.keep _ _ _ t3 (by intro b _ o e; rw [← hs4]; exact pushCells_keeps _ _ _ _ (Heap.get?_push_of_some _ e))
  have fpo : ∀ {σ' : L2.St} {H' : Hp} {s' : Shared}, Inv (blkX X s3 H3 scope ce fp xe) [] σ' H' s' → (∀ b ∈ fp, H' b = none) → ∀ b ∈ fp, FpOk (blkX X s3 H3 scope ce fp xe) [] H' b := by
    intro σ' H' s' I' hn b hb
    exact ⟨hn b hb, (I'.ok.exf b hb).1, I'.ok.exfs b hb, .inl hb, fun x c e => (I'.ok.exf b hb).2 x c e, fun p hp => absurd (show p ∈ ([] : List (Addr × Obj)) ++ [] from hp) (by simp)⟩
  have hxe' : ∀ e t, xe e t → notedBy (model X.prog X.w) X.A ce (fun e t => postX (model X.prog X.w) X.A X.xe (EP X pins σ Q) (.ref D) ce (.error e) t) e t := by
    intro e t z
    rw [← hxe] at z
    exact z
  have loop : codeAny (model X.prog X.w) X.A (.compLoop (.ListComp elt [⟨tg, iter, [], 0⟩] scope pos) 0 (.ref it) (.ref D) ce) (postX (model X.prog X.w) X.A X.xe (EP X pins σ Q) (.ref D) ce) s4 := by
    refine compLoop_any (fun n t => ∃ i G, Inv (blkX X s3 H3 scope ce fp xe) [] (wipe σ (own.map (·.2))) G t ∧ tn i t.heap ∧ (∀ b ∈ fp, G b = none) ∧ Wv i n G) ?_ m0 ⟨0, H3, I4, t4, nfp, w0⟩
    rintro n s5 ⟨i, H5, I5, t5, n5, w5⟩
    rcases turn i n H5 w5 with ⟨stop, qq⟩ | ⟨go, Nx, hNx, step⟩
    · have td := T.done (blkX X s3 H3 scope ce fp xe) rfl rfl rfl hc i [] s5 _ H5 (fun _ _ => False) I5 (fpo I5 n5) t5 stop
      refine thnF td ?_
      intro r s6 ⟨hr, I6⟩
      subst hr
      have I7 : Inv X pins σ H5 s6 := I3.call' (ch := fp) I6.os I6.base I6.hok I6.bare (by
        intro b hb
        obtain ⟨q1, q2, q3, q4, q5, q6⟩ := (f3 b hb).1
        exact ⟨q4, q2, q5, q6⟩)
      have nC : H5 s3.heap.objs.size = none := by
        have z : H5 ce.locals = none := I6.free
        rw [cL] at z
        exact z
      obtain ⟨m, hn, _⟩ := I6.loc
      have hn : s6.heap.Ns ce.locals m := hn
      obtain ⟨f0, f1, f2, f3, f4, f5⟩ := I3.fpOk (Nat.le_refl _) nC
      refine ⟨m, hn, ?_⟩
      intro h'' sb
      rw [cL] at sb
      exact ⟨.ref D, H5, I7.turned (t' := s6.toks) (fun b o hb e => (sb.2 b hb).trans e) f0 f1 f3 f4 f5, rfl, qq⟩
    · have ti := T.item (blkX X s3 H3 scope ce fp xe) rfl rfl rfl hc i [] s5 _ H5 (fun _ _ => False) I5 (fpo I5 n5) t5 go
      refine thnF ti ?_
      intro r s6 ⟨u, hr, h6⟩
      subst hr
      refine thnF h6 ?_
      intro _ s7 ⟨x, H7, I7, r7, y7, t7, n7⟩
      have I7' := I7.pinned (fpo I7 n7) (T.obj _ _ t7)
      refine wpAny_mono (pgx.run _ s7 _ H7 x u _ I7' r7 (step x H7 y7)) ?_ hxe'
      intro _ s8 ⟨σ8, H8, I8, hw8, q8⟩
      have q8 : te σ8 H8 _ := q8
      apply wpAny_tests_nil
      rw [if_pos rfl]
      refine wpAny_mono (pex.run _ s8 σ8 H8 _ I8 q8) ?_ hxe'
      intro z s9 ⟨y, H9, I9, r9, acc, hD9, hz9, nx⟩
      refine app_ok (X := blkX X s3 H3 scope ce fp xe) I9 hD9 hz9 r9 ?_
      intro s10 I10
      obtain ⟨m', hm, w'⟩ := hNx _ nx
      have pin' : ∀ b ∈ fp, ∀ o, s7.heap.get? b = some o → s10.heap.get? b = some o ∧ upd H9 D (.lst (acc ++ [y])) b = none := by
        intro b hb o e
        have z := I10.pin (b, o) (List.mem_append_right _ (List.mem_append_right _ (mem_pinsAt hb e)))
        exact ⟨z.1, z.2.1⟩
      have hl : (wipe σ (own.map (·.2))).length = σ8.length := by rw [← hw8, wipe_length]
      refine ⟨m', hm, i + 1, _, (I10.unpinned (pins := [])).weak hl ?_, T.keep _ _ _ t7 (fun b hb o e => (pin' b hb o e).1), ?_, w'⟩
      · intro j v e
        rw [← hw8] at e
        exact (wipe_some e).1
      · intro b hb
        obtain ⟨o, e, _⟩ := T.obj _ _ t7 b hb
        exact (pin' b hb o e).2
  exact codeAny_compStart_list loop (T.self X.A 0 _ _ _ t4 loop)⟩
end
end TL

/-! texts cut and parted; a written dict's get; fields of an own class; methods; comprehensions that raise -/
namespace TL
open PySem PySem.Spec PyProof.Rows L2
open Enc
section
variable {K : Fg} {ta tb tc to tv ty tx te : TE} {t : TA} {ρ : List Sl} {O O1 O2 O3 : Os} {d : PyData} {F0 H0 F H : Hp} {D0 : List Addr} {σ : L2.St} {D : Ends}
/-! ### texts -/
theorem rxo_split {z b : Str} (hb : (b.length == 0) = false) (hz : z.length + 2 ≤ 16777216) (ha : RX K ta ρ O (.str z) O1) (hbb : RX K tb ρ O1 (.str b) O2) :
    RXo K (tM1 (fun x xs H Q => ∃ a b, x = .str a ∧ xs = [.str b] ∧ (b.length == 0) = false ∧ a.length + 2 ≤ sizeLine ∧ rNewStrs (Txt.split a b) H Q) ta tb) ρ O ((Txt.split z b).map enc) O2 := ⟨fun _ _ _ _ _ _ Q E S k => ha.go E S fun x F1 H1 f1 E1 S1 r1 => by
  cases r1
  refine ⟨⟨z, rfl⟩, hbb.go E1 S1 fun y F2 H2 f2 E2 S2 r2 => ?_⟩
  cases r2
  refine ⟨z, b, rfl, rfl, hb, by rw [sizeLine_eq]; exact hz, fun p hp => ?_⟩
  have hl : (Txt.split z b).length ≤ sizeLine := Nat.le_trans (PyProof.Rows.split_le z b) (by rw [sizeLine_eq]; omega)
  exact k p F2 _ (f1.trans f2) (S2.mine hp (by rw [List.length_map]; exact hl) (RpAll.of_strs _))⟩
theorem rx_parted {z b : Str} (hb : (b.length == 0) = false) (hz : z.length ≤ 16777216) (ha : RX K ta ρ O (.str z) O1) (hbb : RX K tb ρ O1 (.str b) O2) :
    RX K (tM1 (fun x xs H Q => ∃ a b, x = .str a ∧ xs = [.str b] ∧ (b.length == 0) = false ∧ a.length ≤ sizeLine ∧ ∀ p, H p = none → Q (.ref p) (upd H p (.tup [.str (Txt.partition a b).1, .str (Txt.partition a b).2.1, .str (Txt.partition a b).2.2]))) ta tb) ρ O
      (.tuple [.str (Txt.partition z b).1, .str (Txt.partition z b).2.1, .str (Txt.partition z b).2.2]) O2 := ⟨fun _ _ _ _ _ _ Q E S k => ha.go E S fun x F1 H1 f1 E1 S1 r1 => by
  cases r1
  refine ⟨⟨z, rfl⟩, hbb.go E1 S1 fun y F2 H2 f2 E2 S2 r2 => ?_⟩
  cases r2
  refine ⟨z, b, rfl, rfl, hb, by rw [sizeLine_eq]; exact hz, fun p hp => ?_⟩
  have f3 := same_upd (o := .tup [.str (Txt.partition z b).1, .str (Txt.partition z b).2.1, .str (Txt.partition z b).2.2]) (S2.nof hp)
  exact k _ _ _ ((f1.trans f2).trans f3) (S2.put hp) (.tup (SqT.of upd_same) (by rw [sizeLine_eq]; show (3 : Nat) ≤ _; decide) (.cons (.str _) (.cons (.str _) (.cons (.str _) .nil))))⟩
/-- a sign that is not in a text -/
theorem rx_signNotIn {c : Nat} {z : Str} (ha : RX K ta ρ O (.str ⟨#[c]⟩) O1) (hb : RX K tb ρ O1 (.str z) O2) : RX K (tOp rNotInS ta tb) ρ O (.bool (!decide (c ∈ z.cps.toList))) O2 := rx_op ha hb fun F H x y Q _ rx ry k => by
  cases rx
  cases ry
  exact ⟨c, z, rfl, rfl, k _ (.bl _)⟩
/-! ### own objects by their address -/
theorem rxs_ad {j : Nat} {a : Addr} {nw : Bool} {ds : List PyData} (h : RAd K to ρ O a) (ho : O[j]? = some ⟨a, nw, ds⟩) : RXs K to ρ O ds O := ⟨fun _ _ _ _ _ _ Q E S k =>
  h.run _ _ _ _ _ _ _ E S (k a _ _ (Same.refl _) S fun F2 H2 f2 S2 => by
    obtain ⟨_, _, _, vs, h4, h5, h6⟩ := S2.get ho
    exact ⟨vs, SqL.of h4, h5, h6⟩)⟩
theorem st_appA {j : Nat} {a : Addr} {nw : Bool} {ds : List PyData} (hl : ds.length < 16777216) (ho : RAd K to ρ O a) (h : RX K te ρ O d O) (hj : O[j]? = some ⟨a, nw, ds⟩) (E : EnvR K F σ ρ) (S : Hx K F0 H0 D0 F O H)
    (k : ∀ F' H', Same F F' → EnvR K F' σ ρ → Hx K F0 H0 D0 F' (O.set j ⟨a, nw, ds ++ [d]⟩) H' → D.nx σ H') : tDrop (tBM K "list" rAppend to (tCons te tNil)) D σ H := by
  obtain ⟨_, _, _, vs0, g0, _⟩ := S.get hj
  refine ho.run _ _ _ _ _ _ _ E S ⟨.inl ⟨rfl, _, .inl (.inl g0)⟩, h.go E S fun v F1 H1 f1 E1 S1 r1 => ?_⟩
  obtain ⟨g1, g2, g3, vs, g4, g5, g6⟩ := S1.get hj
  have g4 : H1 a = some (.lst vs) := g4
  have g6 : RpAll K F1 vs ds := g6
  have hz : vs.length < sizeLine := by rw [g6.length, sizeLine_eq]; exact hl
  exact ⟨a, vs, v, rfl, rfl, g4, hz, k F1 _ f1 E1 (S1.mut hj (by rw [List.length_append, List.length_singleton]; omega) (g6.append (.cons r1 .nil)))⟩
section
variable {κ β : Type} [DecidableEq κ] [Enc κ] [KeyC κ] [Enc β]
theorem dget_ad {j : Nat} {a : Addr} {nw : Bool} {xs : List (κ × β)} (hj : O[j]? = some ⟨a, nw, .k (encK xs)⟩) (S : Hx K F0 H0 D0 F O H) (k : κ) : ∃ o, DGet H a (kV (KeyC.key k)) o ∧ o.isSome = hasM xs k ∧ ∀ v, getM xs k = some v → ∃ u, o = some u ∧ Rp K F u (enc v) := by
  obtain ⟨_, _, _, vs, h3, h4, h5⟩ := S.getD hj
  refine ⟨_, DGet.k h3, ?_, ?_⟩
  · have g := encK_get k xs
    unfold hasM
    rcases h5.get (KeyC.key k) with ⟨e, e2⟩ | ⟨d, u, e1, e2, r⟩
    · rw [e2]
      cases q : getM xs k with
      | none => rfl
      | some w => rw [e, q] at g; cases g
    · rw [e2]
      cases q : getM xs k with
      | none => rw [e1, q] at g; cases g
      | some w => rfl
  · intro v hv
    have g : getM (encK xs) (KeyC.key k) = some (enc v) := by rw [encK_get, hv]; rfl
    rcases h5.get (KeyC.key k) with ⟨e, _⟩ | ⟨d, u, e1, e2, r⟩
    · rw [e] at g; cases g
    · rw [e1] at g
      have g := Option.some.inj g
      subst g
      exact ⟨u, e2, r⟩
theorem st_dputA {j : Nat} {a : Addr} {nw : Bool} {xs : List (κ × β)} {k : κ} {v : β} (hl : xs.length < 16777216) (ho : RAd K to ρ O a) (hv : RX K tv ρ O (enc v) O) (hk : RX K ty ρ O (enc k) O) (hj : O[j]? = some ⟨a, nw, .k (encK xs)⟩)
    (E : EnvR K F σ ρ) (S : Hx K F0 H0 D0 F O H) (kk : ∀ F' H', Same F F' → EnvR K F' σ ρ → Hx K F0 H0 D0 F' (O.set j ⟨a, nw, .k (encK (putM xs k v))⟩) H' → D.nx σ H') : sDPut to ty tv D σ H :=
  hv.go E S fun v1 F1 H1 f1 E1 S1 r1 => ho.run _ _ _ _ _ _ _ E1 S1 (hk.go E1 S1 fun y F2 H2 f2 E2 S2 r2 => by
    have ey := KeyC.rp K F2 y k r2
    subst ey
    obtain ⟨_, _, _, vs, h3, h4, h5⟩ := S2.getD hj
    have hl2 : vs.length < sizeLine := by rw [h5.len, sizeLine_eq]; unfold encK; rw [List.length_map]; exact hl
    have h6 : KD K F2 (putK vs (KeyC.key k) v1) (encK (putM xs k v)) := by rw [← encK_put]; exact h5.put (r1.up f2)
    refine ⟨a, _, rfl, DPut.k h3 hl2, kk F2 _ (f1.trans f2) E2 (S2.mutD hj ⟨_, upd_same, ?_, h6⟩)⟩
    have := length_putK vs (KeyC.key k) v1
    omega)
theorem rx_dkgetA {j : Nat} {a : Addr} {nw : Bool} {xs : List (κ × β)} {k : κ} {v : β} (hn : getM xs k = some v) (ho : RAd K to ρ O a) (hk : RX K ty ρ O (enc k) O) (hj : O[j]? = some ⟨a, nw, .k (encK xs)⟩) : RX K (tDGet to ty) ρ O (enc v) O := ⟨fun _ _ _ _ _ _ Q E S kk =>
  ho.run _ _ _ _ _ _ _ E S (hk.go E S fun y F2 H2 f2 E2 S2 r2 => by
    have ey := KeyC.rp K F2 y k r2
    subst ey
    obtain ⟨o, h1, _, h3⟩ := dget_ad hj S2 k
    obtain ⟨u, rfl, r⟩ := h3 v hn
    exact ⟨a, u, rfl, h1, kk u F2 H2 f2 S2 r⟩)⟩
theorem rx_dknotinA {j : Nat} {a : Addr} {nw : Bool} {xs : List (κ × β)} {k : κ} (hk : RX K ty ρ O (enc k) O) (ho : RAd K to ρ O a) (hj : O[j]? = some ⟨a, nw, .k (encK xs)⟩) : RX K (tDNotIn ty to) ρ O (.bool (!hasM xs k)) O := ⟨fun _ _ _ _ _ _ Q E S kk => hk.go E S fun y F2 H2 f2 E2 S2 r2 => by
  have ey := KeyC.rp K F2 y k r2
  subst ey
  obtain ⟨o, h1, h2, _⟩ := dget_ad hj S2 k
  refine ho.run _ _ _ _ _ _ _ E2 S2 ⟨a, o, rfl, h1, ?_⟩
  rw [h2]
  exact kk _ F2 H2 f2 S2 (.bl _)⟩
def rLenDk : List V → Hp → VK → Prop := fun xs H Q => ∃ a kvs, xs = [V.ref a] ∧ H a = some (.dK kvs) ∧ Q (.int kvs.length) H
theorem k_lenDk {X : Cx} : CallR X (.builtin "len") rLenDk := call_lenD
theorem rx_lenDk {j : Nat} {a : Addr} {nw : Bool} {xs : List (κ × β)} (ho : RAd K to ρ O a) (hj : O[j]? = some ⟨a, nw, .k (encK xs)⟩) : RX K (tCB rLenDk (tCons to tNil)) ρ O (.int xs.length) O := ⟨fun _ _ _ _ _ _ Q E S kk => by
  obtain ⟨_, _, _, vs, h3, h4, h5⟩ := S.getD hj
  refine ho.run _ _ _ _ _ _ _ E S ⟨a, vs, rfl, h3, ?_⟩
  have e : vs.length = xs.length := by rw [h5.len]; unfold encK; rw [List.length_map]
  rw [e]
  exact kk _ _ _ (Same.refl _) S (.int _)⟩
end
/-! ### the fields of an own class -/
theorem rad_fld {i : Nat} {p C dx a : Addr} {fs : List (Str × V)} {f : Str} (hs : ρ[i]? = some (.obj p (.ins C dx fs))) (c : Cls K C) (n : NoAttr K C f) (l : fs.lookup f = some (.ref a)) : RAd K (tFld K (tVar i) f) ρ O a := ⟨fun _ _ _ _ _ _ Q E S k => by
  obtain ⟨s, h1, h2, h3⟩ := E.at hs
  subst h2
  exact ⟨_, h1, p, C, dx, fs, _, rfl, S.fh _ _ h3, c, n, l, k⟩⟩
end
end TL

/-! the reader: what its defs tell, plain; what its class' methods promise -/
namespace TL
open PySem PySem.Spec PyProof.Rows L2
open Enc
/-! ### plain -/
def LETT : Str := "abcdefghijklmnopqrstuvwxyz"
def FIGS : Str := "0123456789"
def BARR : List Str := ["in", "gate", "sure", "out", "not", "and", "or", "xor", "vote"]
def WIDS : List Str := ["1", "2", "3"]
def LEGL : List (Str × Int) := [("not", 1), ("and", 2), ("or", 2), ("xor", 2), ("vote", 3)]
def Rx.bind {α β : Type} : Rx α → (α → Rx β) → Rx β
  | .ok a, f => f a
  | .er x, _ => .er x
def Rx.opt {β : Type} : Rx β → Option β
  | .ok y => some y
  | .er _ => none
def mapX {α β : Type} (f : α → Rx β) : List α → Rx (List β)
  | [] => .ok []
  | x :: xs => (f x).bind fun y => (mapX f xs).bind fun ys => .ok (y :: ys)
def foldX {α S : Type} (f : S → α → Rx S) : List α → S → Rx S
  | [], s => .ok s
  | x :: xs, s => (f s x).bind fun s' => foldX f xs s'
/-- a text of one sign, its sign in a text -/
def sgIn (z t : Str) : Bool := match z.cps.toList with
  | [c] => decide (c ∈ t.cps.toList)
  | _ => false
def isNameB (z : Str) : Bool := if ((!(decide ((1 : Int) ≤ z.length) && decide ((z.length : Int) ≤ 8))) || decide (z ∈ BARR)) = true then false else decide ((signs z).filter (fun x => !sgIn x LETT) = [])
def namedX (z : Str) : Rx Str := if (!isNameB z) = true then .er "NoForm" else .ok z
def badWire (z : Str) : Bool := !isNameB (Txt.partition z ":").1 || ((!decide ((Txt.partition z ":").2.1 = "")) && ((!decide (((Txt.partition z ":").2.2.length : Int) = 1)) || !sgIn (Txt.partition z ":").2.2 FIGS))
def wireX (z : Str) : Rx Str := if badWire z = true then .er "NoForm" else .ok z
inductive Said where
  | i (a : Str) (w : Int)
  | g (a b c : Str) (ws : List Str)
  | o (a : Str) (ws : List Str)
def Said.en : Said → PyData
  | .i a w => .tuple [.str "in", .str a, .int w]
  | .g a b c ws => .tuple [.str a, .str b, .str c, enc ws]
  | .o a ws => .tuple [.str "out", .str a, enc ws]
def widI (z : Str) : Int := if z = "1" then 1 else if z = "2" then 2 else 3
def cIn (ws : List Str) : Bool := (decide (ws.getD 0 "" = "in")) && ((decide ((ws.length : Int) = 3)) && decide (ws.getD 2 "" ∈ WIDS))
def cGate (ws : List Str) : Bool := (decide (ws.getD 0 "" ∈ (["gate", "sure"] : List Str))) && ((decide ((3 : Int) < ws.length)) && decide ((dlit LEGL (ws.getD 2 "")).getD 0 = (ws.length : Int) - 3))
def cOut (ws : List Str) : Bool := (decide (ws.getD 0 "" = "out")) && (decide ((3 : Int) ≤ ws.length) && decide ((ws.length : Int) ≤ 2 + 3))
def rowW (ws : List Str) : Rx Said :=
  if cIn ws = true then (namedX (ws.getD 1 "")).bind fun n => .ok (.i n (widI (ws.getD 2 "")))
  else if cGate ws = true then (namedX (ws.getD 1 "")).bind fun n => (mapX wireX (ws.drop 3)).bind fun l => .ok (.g (ws.getD 0 "") n (ws.getD 2 "") l)
  else if cOut ws = true then (namedX (ws.getD 1 "")).bind fun n => (mapX wireX (ws.drop 2)).bind fun l => .ok (.o n l)
  else .er "NoForm"
def rowX (row : Str) : Rx Said := rowW (Txt.split row " ")
/-- signs of the one are signs of the other -/
def SubS (x y : Str) : Prop := x.length ≤ y.length ∧ ∀ c ∈ x.cps.toList, c ∈ y.cps.toList
theorem SubS.ok {x y : Str} (h : SubS x y) (k : EqD.ok y = true) : EqD.ok x = true := by
  have k : y.cps.all (· < 1114112) = true := k
  have k := Array.all_eq_true'.mp k
  show x.cps.all (· < 1114112) = true
  exact Array.all_eq_true'.mpr fun c hc => k c (Array.mem_toList_iff.mp (h.2 c (Array.mem_toList_iff.mpr hc)))
theorem spl_sub (S : List Nat) : ∀ (l : List Nat) (k : Nat) (acc : List Nat), ∀ p ∈ spl S k acc l, p.length ≤ acc.length + l.length ∧ ∀ c ∈ p, c ∈ acc ∨ c ∈ l
  | [], k, acc, p, h => by
    rw [spl_nil, List.mem_singleton] at h
    subst h
    exact ⟨Nat.le_add_right _ _, fun c hc => .inl hc⟩
  | c :: r, 0, acc, p, h => by
    cases q : pre S (c :: r) with
    | true =>
      rw [spl_hit q] at h
      rcases List.mem_cons.mp h with e | h
      · subst e
        exact ⟨Nat.le_add_right _ _, fun c hc => .inl hc⟩
      · have := spl_sub S r (S.length - 1) [] p h
        refine ⟨by have := this.1; simp at this ⊢; omega, fun x hx => ?_⟩
        rcases this.2 x hx with z | z
        · cases z
        · exact .inr (List.mem_cons_of_mem _ z)
    | false =>
      rw [spl_miss q] at h
      have := spl_sub S r 0 (acc ++ [c]) p h
      refine ⟨by have := this.1; simp at this ⊢; omega, fun x hx => ?_⟩
      rcases this.2 x hx with z | z
      · rcases List.mem_append.mp z with z | z
        · exact .inl z
        · rw [List.mem_singleton] at z
          exact .inr (by rw [z]; exact List.mem_cons_self)
      · exact .inr (List.mem_cons_of_mem _ z)
  | c :: r, k + 1, acc, p, h => by
    have h : p ∈ spl S k acc r := h
    have := spl_sub S r k acc p h
    refine ⟨by have := this.1; simp; omega, fun x hx => ?_⟩
    rcases this.2 x hx with z | z
    · exact .inl z
    · exact .inr (List.mem_cons_of_mem _ z)
theorem spl_ne (S : List Nat) : ∀ (l : List Nat) (k : Nat) (acc : List Nat), spl S k acc l ≠ []
  | [], k, acc => by rw [spl_nil]; simp
  | c :: r, 0, acc => by
    cases q : pre S (c :: r) with
    | true => rw [spl_hit q]; simp
    | false => rw [spl_miss q]; exact spl_ne S r 0 _
  | c :: r, k + 1, acc => spl_ne S r k acc
theorem split_sub {x y : Str} (hy : tl y ≠ []) (hk : y.cps.all (· < 256) = true) : (∀ p ∈ Txt.split x y, SubS p x) ∧ Txt.split x y ≠ [] := by
  have e := split_spl x y hy (kind_ok hk)
  refine ⟨fun p hp => ?_, fun z => ?_⟩
  · have hm : tl p ∈ spl (tl y) 0 [] (tl x) := by rw [← e]; exact List.mem_map.mpr ⟨p, hp, rfl⟩
    have := spl_sub _ _ _ _ _ hm
    refine ⟨by rw [len_tl, len_tl]; simpa using this.1, fun c hc => ?_⟩
    rcases this.2 c hc with z | z
    · cases z
    · exact z
  · rw [z] at e
    exact spl_ne _ _ _ _ e.symm
theorem parted_sub (x y : Str) : SubS (Txt.partition x y).1 x ∧ SubS (Txt.partition x y).2.2 x := by
  have triv : SubS Str.empty x := ⟨Nat.zero_le _, fun c hc => by cases hc⟩
  rcases PyProof.Rows.partition_whole x y with ⟨e, _⟩ | ⟨i, e, _, _⟩
  · rw [e]
    exact ⟨⟨Nat.le_refl _, fun c hc => hc⟩, triv⟩
  · rw [e]
    have cut : ∀ a b, SubS (PySem.Builtin.Str.strSub x a b) x := fun a b => by
      refine ⟨?_, fun c hc => ?_⟩
      · rw [len_tl, len_tl, tl_strSub, List.length_take, List.length_drop]
        omega
      · have hc : c ∈ tl (PySem.Builtin.Str.strSub x a b) := hc
        rw [tl_strSub] at hc
        exact List.mem_of_mem_drop (List.mem_of_mem_take hc)
    exact ⟨cut _ _, cut _ _⟩
theorem cut_from {α : Type} (xs : List α) (k : Nat) : cutL xs (some (k : Int)) none = xs.drop k := by
  unfold cutL HT.sIx
  simp only
  rw [if_neg (by omega)]
  by_cases h : k ≤ xs.length
  · rw [show min (k : Int).toNat xs.length = k by omega]
    exact List.take_of_length_le (by rw [List.length_drop]; omega)
  · rw [show min (k : Int).toNat xs.length = xs.length by omega, List.drop_length, List.drop_eq_nil_of_le (by omega)]
    simp
theorem getD_at {ws : List Str} {k : Nat} (h : k < ws.length) : L2.atI ws (k : Int) = some (ws.getD k "") := by
  unfold L2.atI ixN
  rw [if_pos (by omega), if_pos (by omega)]
  simp only [Option.bind_some]
  rw [show (k : Int).toNat = k by omega, List.getElem?_eq_getElem h, List.getD_eq_getElem?_getD, List.getElem?_eq_getElem h]
  rfl
theorem getD_mem {ws : List Str} {k : Nat} (h : k < ws.length) : ws.getD k "" ∈ ws := by
  rw [List.getD_eq_getElem?_getD, List.getElem?_eq_getElem h]
  exact List.getElem_mem h
/-- the state of a Reading -/
structure Rd where
  i : List (Str × Int)
  g : List (T3 Str (Tp Int) Bool)
  o : List (Str × Tp Int)
  w : List (Str × Int)
  n : List Str
def Rd0 : Rd := ⟨[], [], [], [], []⟩
def figsL (k : Int) : List Str := (cutS FIGS none (some k)).cps.toList.map fun c => ⟨#[c]⟩
def putsM (name : Str) (w : List (Str × Int)) (ps : List Str) : List (Str × Int) := ps.foldl (fun w c => putM w (name ++ ":" ++ c) (w.length : Int)) w
def inX (s : Rd) (name : Str) (width : Int) : Rx Rd :=
  if ((!decide (s.g = [])) || (!decide (s.o = []))) = true then .er "NoPlace"
  else if decide (name ∈ s.n) = true then .er "Twice"
  else if decide ((s.i.length : Int) = 6) = true then .er "Full"
  else .ok ⟨s.i ++ [(name, width)], s.g, s.o, if decide (width = 1) = true then putM s.w name (s.w.length : Int) else putsM name s.w (figsL width), s.n ++ [name]⟩
def numsX (s : Rd) (ws : List Str) : Rx (Tp Int) := if ws.all (fun z => hasM s.w z) = true then .ok ⟨ws.map fun z => (getM s.w z).getD 0⟩ else .er "NoWire"
def gateX (s : Rd) (word name kind : Str) (ws : List Str) : Rx Rd :=
  if (!decide (s.o = [])) = true then .er "NoPlace"
  else if decide (name ∈ s.n) = true then .er "Twice"
  else if decide ((s.g.length : Int) = 60) = true then .er "Full"
  else (numsX s ws).bind fun t => .ok ⟨s.i, s.g ++ [T3.mk kind t (decide (word = "sure"))], s.o, putM s.w name (s.w.length : Int), s.n ++ [name]⟩
def outX (s : Rd) (name : Str) (ws : List Str) : Rx Rd :=
  if decide (name ∈ s.o.map (·.1)) = true then .er "Twice"
  else if decide ((s.o.length : Int) = 6) = true then .er "Full"
  else (numsX s ws).bind fun t => .ok ⟨s.i, s.g, s.o ++ [(name, t)], s.w, s.n⟩
def saidX (s : Rd) : Said → Rx Rd
  | .i a w => inX s a w
  | .g a b c ws => gateX s a b c ws
  | .o a ws => outX s a ws
def readX (z : Str) : Rx (T3 (List (Str × Int)) (List (T3 Str (Tp Int) Bool)) (List (Str × Tp Int))) :=
  let rows := Txt.split z "\n"
  if decide ((80 : Int) < rows.length) = true then .er "TooLong"
  else (foldX (fun s row => (rowX row).bind fun d => saidX s d) rows Rd0).bind fun s =>
    if (decide (s.i = []) || decide (s.o = [])) = true then .er "Open" else .ok (T3.mk s.i s.g s.o)
/-- what the walk asks of a state: its texts are texts, it is small -/
structure Rd.Ok (s : Rd) : Prop where
  i : EqD.ok s.i = true
  g : EqD.ok s.g = true
  o : EqD.ok s.o = true
  li : s.i.length ≤ 1000000
  lg : s.g.length ≤ 1000000
  lo : s.o.length ≤ 1000000
  lw : s.w.length ≤ 1000000
  ln : s.n.length ≤ 1000000
theorem mapX_ok {α β : Type} {f : α → Rx β} : ∀ {xs : List α} {ys : List β}, mapX f xs = .ok ys → mapO (fun x => (f x).opt) xs = some ys
  | [], _, h => by cases h; rfl
  | x :: xs, ys, h => by
    unfold mapX at h
    unfold mapO
    cases e : f x with
    | er z => rw [e] at h; cases h
    | ok y =>
      rw [e] at h
      have h : (mapX f xs).bind (fun ys => .ok (y :: ys)) = .ok ys := h
      cases e2 : mapX f xs with
      | er z => rw [e2] at h; cases h
      | ok zs =>
        rw [e2] at h
        cases h
        rw [mapX_ok e2]
        rfl
theorem mapX_er {α β : Type} {f : α → Rx β} {q : Str} : ∀ {xs : List α}, mapX f xs = .er q → ∃ (k : Nat) (z : α), xs[k]? = some z ∧ f z = .er q ∧ ∀ j w, j < k → xs[j]? = some w → ∃ y, f w = .ok y
  | [], h => by cases h
  | x :: xs, h => by
    unfold mapX at h
    cases e : f x with
    | er z =>
      rw [e] at h
      cases h
      exact ⟨0, x, rfl, e, fun j w hj _ => absurd hj (Nat.not_lt_zero _)⟩
    | ok y =>
      rw [e] at h
      have h : (mapX f xs).bind (fun ys => .ok (y :: ys)) = .er q := h
      cases e2 : mapX f xs with
      | ok zs => rw [e2] at h; cases h
      | er z =>
        rw [e2] at h
        cases h
        obtain ⟨k, w, h1, h2, h3⟩ := mapX_er e2
        refine ⟨k + 1, w, by simpa using h1, h2, fun j v hj hv => ?_⟩
        cases j with
        | zero => simp at hv; subst hv; exact ⟨y, e⟩
        | succ j => exact h3 j v (by omega) (by simpa using hv)
theorem rx_sgNotIn {K : Fg} {ta tb : TE} {ρ : List Sl} {O O1 O2 : Os} {x z : Str} (hx : x.length = 1) (ha : RX K ta ρ O (.str x) O1) (hb : RX K tb ρ O1 (.str z) O2) : RX K (tOp rNotInS ta tb) ρ O (.bool (!sgIn x z)) O2 := by
  obtain ⟨⟨l⟩⟩ := x
  have hx : l.length = 1 := hx
  obtain ⟨c, rfl⟩ : ∃ c, l = [c] := by
    match l, hx with
    | [c], _ => exact ⟨c, rfl⟩
  exact rx_signNotIn ha hb
theorem signs_len {z x : Str} (h : x ∈ signs z) : x.length = 1 := by
  unfold signs at h
  obtain ⟨c, _, rfl⟩ := List.mem_map.mp h
  rfl
theorem signs_ok {z : Str} (h : EqD.ok z = true) : EqD.ok (signs z) = true := by
  show (signs z).all EqD.ok = true
  rw [List.all_eq_true]
  intro x hx
  unfold signs at hx
  obtain ⟨c, hc, rfl⟩ := List.mem_map.mp hx
  have h : z.cps.all (· < 1114112) = true := h
  have h := Array.all_eq_true'.mp h c (Array.mem_toList_iff.mp hc)
  show (#[c] : Array Nat).all (· < 1114112) = true
  simpa using h
theorem filt_ok {α : Type} [Enc α] [DecidableEq α] [EqD α] {xs : List α} (p : α → Bool) (h : EqD.ok xs = true) : EqD.ok (xs.filter p) = true := by
  have h : xs.all EqD.ok = true := h
  show (xs.filter p).all EqD.ok = true
  rw [List.all_eq_true] at h ⊢
  exact fun x hx => h x ((List.mem_filter.mp hx).1)
/-! ### a raise, what is wished for told without slots -/
theorem Hx.bare {K : Fg} {F0 H0 F H : Hp} {D0 : List Addr} {O : Os} (S : Hx K F0 H0 D0 F O H) : Hx K F0 H0 D0 F [] H := ⟨S.f0, S.fh, S.keep, S.live, S.new, fun p h => by simp at h, List.nodup_nil⟩
theorem Hx.re {K : Fg} {F0 H0 F H : Hp} {D0 : List Addr} {O O' : Os} (S : Hx K F0 H0 D0 F O H) (e : O = O') : Hx K F0 H0 D0 F O' H := e ▸ S
structure REx (K : Fg) (mg : Str → Option Value) (E0 : XK) (t : TE) (ρ : List Sl) (O : Os) (x : Str) : Prop where
  run : ∀ (F0 H0 : Hp) (D0 : List Addr) (σ : L2.St) (F H : Hp) (Q : VK), EnvR K F σ ρ → Hx K F0 H0 D0 F O H → (∀ C F' H', mg x = some (.ref C) → Same F F' → Hx K F0 H0 D0 F' [] H' → E0 (.ref C) none H') → t σ H Q
theorem pe_calXE {X : Cx} {E0 : XK} {j k : Nat} {x : Str} {ps : List Str} {sp : Sp} {p pos : Pos} {e : Expr} {es : List Expr} {t : TA} (C : CalX X.prog X.w X.K X.mg X.base j x ps sp) (hr : Room k X.A) (hx : Passes (L2.CX X.prog X.w) X E0) (ha : PA X (e :: es) t) (hjk : j ≤ k := by decide) (hg : Gl X x := by rfl) (hdb : (x == ("__debug__" : Str)) = false := by decide)
    (he : starEach (e :: es) X.env = (false, eval e X.env) :: starEach es X.env := by rfl) (hpl : (backTo pos (starEach es X.env)).any (·.1) = false := by rfl) : PE X (.Call (.Name x p) (e :: es) [] pos) (tCall sp [] E0 t) := by
  obtain ⟨f, fd, F, hm, kp, b⟩ := C
  exact pe_call F (hr.mono hjk) hg hm kp b .nil hx ha hdb he hpl
/-- a raise in a def that wishes E0 -/
theorem pass_own {X : Cx} {E0 : XK} (tk : Takes X (fun cls d _ H => E0 cls d H)) : Passes (L2.CX X.prog X.w) X E0 := passes_call tk fun _ _ _ _ h => h
section
variable {K : Fg} {mg : Str → Option Value} {ta tb te to : TE} {t ts : TA} {ρ : List Sl} {O O1 O2 : Os} {E0 : XK} {d : PyData} {ds : List PyData} {x : Str}
theorem rx_callXE {R : List PyData → Rx PyData → Prop} (hR : R ds (.ok d)) (ha : RA K t ρ O (ds.map .val) O1) : RX K (tCall (SpX K mg R) [] E0 t) ρ O d O1 := ⟨fun _ _ _ _ _ _ Q E S k => ha.go E S fun vs F1 H1 f1 E1 S1 r1 => by
  show SpX K mg R (vs ++ []) H1 Q E0
  rw [List.append_nil]
  exact ⟨F1, ds, .ok d, r1.all, S1.fh, hR, fun d' e v F' H' st r => by cases e; exact k v F' H' (f1.trans st.ff) (S1.call st) r, fun x e => by cases e⟩⟩
theorem re_callXE {R : List PyData → Rx PyData → Prop} (hR : R ds (.er x)) (ha : RA K t ρ O (ds.map .val) O1) : REx K mg E0 (tCall (SpX K mg R) [] E0 t) ρ O x := ⟨fun _ _ _ _ _ _ Q E S k => ha.go E S fun vs F1 H1 f1 E1 S1 r1 => by
  show SpX K mg R (vs ++ []) H1 Q E0
  rw [List.append_nil]
  exact ⟨F1, ds, .er x, r1.all, S1.fh, hR, fun d' e => (by cases e), fun x' e C hC F' H' st => by cases e; exact k C F' H' hC (f1.trans st.ff) (S1.call st).bare⟩⟩
/-- .. among the items of a tuple -/
inductive REs (K : Fg) (mg : Str → Option Value) (E0 : XK) (ρ : List Sl) (x : Str) : TA → Os → Prop
  | here {te : TE} {ts : TA} {O : Os} : REx K mg E0 te ρ O x → REs K mg E0 ρ x (tCons te ts) O
  | next {te : TE} {ts : TA} {O O1 : Os} {d : PyData} : RX K te ρ O d O1 → REs K mg E0 ρ x ts O1 → REs K mg E0 ρ x (tCons te ts) O
theorem REs.run {x : Str} {t : TA} {O : Os} (h : REs K mg E0 ρ x t O) : ∀ (F0 H0 : Hp) (D0 : List Addr) (σ : L2.St) (F H : Hp) (Q : List V → Hp → Prop), EnvR K F σ ρ → Hx K F0 H0 D0 F O H →
    (∀ C F' H', mg x = some (.ref C) → Same F F' → Hx K F0 H0 D0 F' [] H' → E0 (.ref C) none H') → t σ H Q := by
  induction h with
  | here h => exact fun F0 H0 D0 σ F H Q E S k => h.run _ _ _ _ _ _ _ E S k
  | next h _ ih => exact fun F0 H0 D0 σ F H Q E S k => h.go E S fun v F1 H1 f1 E1 S1 r1 => ih _ _ _ _ _ _ _ E1 S1 fun C F' H' hC f S' => k C F' H' hC (f1.trans f) S'
theorem re_tup (h : REs K mg E0 ρ x t O) : REx K mg E0 (tTup t) ρ O x := ⟨fun _ _ _ _ _ _ Q E S k => h.run _ _ _ _ _ _ _ E S k⟩
theorem tyes {σ : L2.St} {H : Hp} {A B : Hp → Prop} (h : A H) : tYes σ H (fun b H3 => if b = true then A H3 else B H3) := by
  show (if true = true then A H else B H)
  rw [if_pos rfl]
  exact h
/-- a comprehension's step raises -/
theorem re_lc {α β : Type} {eα : α → PyData} {eβ : β → PyData} {wi : TI} {g : TG} {vs : List Nat} {xs : List α} {F1 : α → Rx β} (ρx : α → List Sl) (ts : List Nat) (hI : RI K wi ρ O (xs.map eα) O1) (hf : mapX F1 xs = .er x) (hts : ∀ t ∈ ts, t ∈ vs)
    (hg : ∀ z ∈ xs, RG K g (eα z) (wipeS ρ vs) (ρx z) ts) (hok : ∀ z ∈ xs, ∀ y, F1 z = .ok y → ∀ O, RX K te (ρx z) O (eβ y) O) (her : ∀ z ∈ xs, F1 z = .er x → ∀ O, REx K mg E0 te (ρx z) O x) :
    REx K mg E0 (tLc wi g tYes te vs) ρ O x := ⟨fun F0 H0 D0 σ F H Q E S kk => hI.go E S fun J F1' H1 f1 E1 S1 w => by
  obtain ⟨k, zk, hk1, hk2, hk3⟩ := mapX_er hf
  have hkl := (List.getElem?_eq_some_iff.mp hk1).1
  have hl : (xs.map eα).length = xs.length := List.length_map _
  have hsz := w.sz
  intro D hD
  refine ⟨fun i m H => ∃ F, ∃ acc : List PyData, Same F1' F ∧ Hx K F0 H0 D0 F (⟨D, true, acc⟩ :: O1) H ∧ i + m = k + 1 ∧ 1 ≤ m ∧ acc.length ≤ i, ⟨k + 1, F1', [], Same.refl _, S1.mine hD (Nat.zero_le _) .nil, by omega, by omega, Nat.le_refl _⟩, ?_⟩
  intro i m H ⟨F, acc, q1, q2, q3, q4, q5⟩
  have hik : i ≤ k := by omega
  have hi : i < xs.length := by omega
  refine .inr ⟨w.go F0 H0 D0 F _ H i (by omega) q1 q2, fun H' => ∃ F', ∃ acc' : List PyData, Same F1' F' ∧ Hx K F0 H0 D0 F' (⟨D, true, acc'⟩ :: O1) H' ∧ i + 1 ≤ k ∧ acc'.length ≤ i + 1, ?_, ?_⟩
  · intro H' ⟨F', acc', p1, p2, p3, p4⟩
    exact ⟨k - i, by omega, F', acc', p1, p2, by omega, by omega, p4⟩
  · intro v H' hy
    obtain ⟨F2, y', f2, S2, e, r⟩ := w.yld F0 H0 D0 F _ H i v H' (by omega) q1 q2 hy
    rw [List.getElem?_map, List.getElem?_eq_getElem hi] at e
    have e3 : eα xs[i] = y' := Option.some.inj e
    subst e3
    have hm : xs[i] ∈ xs := List.getElem_mem hi
    refine (hg _ hm).run _ F2 H' v _ ((E1.wipe vs).up (q1.trans f2)) r S2.fh fun σ' E' wq => ⟨(wq vs hts).trans (wipe_wipe σ vs), tyes ?_⟩
    by_cases hki : i = k
    · have ez : xs[i] = zk := by
        subst hki
        rw [List.getElem?_eq_getElem hi] at hk1
        exact Option.some.inj hk1
      exact (her _ hm (by rw [ez]; exact hk2) _).run _ _ _ _ _ _ _ E' S2 fun C F' H'' hC f S' => kk C F' H'' hC (((f1.trans q1).trans f2).trans f) S'
    · obtain ⟨y, ey⟩ := hk3 i xs[i] (by omega) (List.getElem?_eq_getElem hi)
      refine (hok _ hm y ey _).go E' S2 fun u F4 H4 f4 E4 S4 r4 => ?_
      obtain ⟨g1, g2, g3, us, g4, g5, g6⟩ := S4.get (j := 0) rfl
      have g4' : H4 D = some (.lst us) := g4
      have gl : us.length = acc.length := RpAll.length g6
      have hlt : us.length < sizeLine := by omega
      refine ⟨us, g4', hlt, F4, acc ++ [eβ y], (q1.trans f2).trans f4, ?_, by omega, by rw [List.length_append, List.length_singleton]; omega⟩
      exact S4.mut (j := 0) (l := D) (nw := true) (ds := acc) (ds' := acc ++ [eβ y]) rfl (by rw [List.length_append, List.length_singleton]; omega) (RpAll.append g6 (.cons r4 .nil))⟩
end
/-! ### a Reading in the heap -/
structure RdA where
  i : Addr
  g : Addr
  o : Addr
  w : Addr
  n : Addr
def rdF (A : RdA) : List (Str × V) := [("ins", .ref A.i), ("gates", .ref A.g), ("outs", .ref A.o), ("wires", .ref A.w), ("names", .ref A.n)]
theorem rdf_ne : (("gates" : Str) == "ins") = false ∧ (("outs" : Str) == "ins") = false ∧ (("outs" : Str) == "gates") = false ∧ (("wires" : Str) == "ins") = false ∧ (("wires" : Str) == "gates") = false ∧ (("wires" : Str) == "outs") = false ∧ (("names" : Str) == "ins") = false ∧ (("names" : Str) == "gates") = false ∧ (("names" : Str) == "outs") = false ∧ (("names" : Str) == "wires") = false := by decide +kernel
theorem rdF_i (A : RdA) : (rdF A).lookup ("ins" : Str) = some (V.ref A.i) := by
  unfold rdF
  simp only [List.lookup_cons, beq_self_eq_true]
theorem rdF_g (A : RdA) : (rdF A).lookup ("gates" : Str) = some (V.ref A.g) := by
  obtain ⟨e1, _⟩ := rdf_ne
  unfold rdF
  simp only [List.lookup_cons, e1, beq_self_eq_true]
theorem rdF_o (A : RdA) : (rdF A).lookup ("outs" : Str) = some (V.ref A.o) := by
  obtain ⟨_, e2, e3, _⟩ := rdf_ne
  unfold rdF
  simp only [List.lookup_cons, e2, e3, beq_self_eq_true]
theorem rdF_w (A : RdA) : (rdF A).lookup ("wires" : Str) = some (V.ref A.w) := by
  obtain ⟨_, _, _, e4, e5, e6, _⟩ := rdf_ne
  unfold rdF
  simp only [List.lookup_cons, e4, e5, e6, beq_self_eq_true]
theorem rdF_n (A : RdA) : (rdF A).lookup ("names" : Str) = some (V.ref A.n) := by
  obtain ⟨_, _, _, _, _, _, e7, e8, e9, e10⟩ := rdf_ne
  unfold rdF
  simp only [List.lookup_cons, e7, e8, e9, e10, beq_self_eq_true]
theorem rdF_no (A : RdA) {m : Str} (h1 : (m == "ins") = false) (h2 : (m == "gates") = false) (h3 : (m == "outs") = false) (h4 : (m == "wires") = false) (h5 : (m == "names") = false) : (rdF A).lookup m = none := by
  unfold rdF
  simp only [List.lookup_cons, h1, h2, h3, h4, h5, List.lookup_nil]
def rdO (nw : Bool) (A : RdA) (s : Rd) : Os := [⟨A.i, nw, .l (s.i.map enc)⟩, ⟨A.g, nw, .l (s.g.map enc)⟩, ⟨A.o, nw, .l (s.o.map enc)⟩, ⟨A.w, nw, .k (encK s.w)⟩, ⟨A.n, nw, .l (s.n.map enc)⟩]
theorem rdO_i (nw : Bool) (A : RdA) (s : Rd) (x : Str × Int) : (rdO nw A s).set 0 ⟨A.i, nw, .l (s.i.map enc ++ [enc x])⟩ = rdO nw A ⟨s.i ++ [x], s.g, s.o, s.w, s.n⟩ := by
  unfold rdO
  simp
theorem rdO_g (nw : Bool) (A : RdA) (s : Rd) (x : T3 Str (Tp Int) Bool) : (rdO nw A s).set 1 ⟨A.g, nw, .l (s.g.map enc ++ [enc x])⟩ = rdO nw A ⟨s.i, s.g ++ [x], s.o, s.w, s.n⟩ := by
  unfold rdO
  simp
theorem rdO_o (nw : Bool) (A : RdA) (s : Rd) (x : Str × Tp Int) : (rdO nw A s).set 2 ⟨A.o, nw, .l (s.o.map enc ++ [enc x])⟩ = rdO nw A ⟨s.i, s.g, s.o ++ [x], s.w, s.n⟩ := by
  unfold rdO
  simp
theorem rdO_w (nw : Bool) (A : RdA) (s : Rd) (v : List (Str × Int)) : (rdO nw A s).set 3 ⟨A.w, nw, .k (encK v)⟩ = rdO nw A ⟨s.i, s.g, s.o, v, s.n⟩ := rfl
theorem rdO_n (nw : Bool) (A : RdA) (s : Rd) (x : Str) : (rdO nw A s).set 4 ⟨A.n, nw, .l (s.n.map enc ++ [enc x])⟩ = rdO nw A ⟨s.i, s.g, s.o, s.w, s.n ++ [x]⟩ := by
  unfold rdO
  simp
theorem rdF_put (A : RdA) : putF "names" (.ref A.n) (putF "wires" (.ref A.w) (putF "outs" (.ref A.o) (putF "gates" (.ref A.g) (putF "ins" (.ref A.i) [])))) = rdF A := by
  have e : ¬ ("ins" : Str) = "gates" ∧ ¬ ("ins" : Str) = "outs" ∧ ¬ ("ins" : Str) = "wires" ∧ ¬ ("ins" : Str) = "names" ∧ ¬ ("gates" : Str) = "outs" ∧ ¬ ("gates" : Str) = "wires" ∧ ¬ ("gates" : Str) = "names" ∧ ¬ ("outs" : Str) = "wires" ∧ ¬ ("outs" : Str) = "names" ∧ ¬ ("wires" : Str) = "names" := by decide +kernel
  obtain ⟨e1, e2, e3, e4, e5, e6, e7, e8, e9, e10⟩ := e
  unfold rdF
  simp only [putF, e1, e2, e3, e4, e5, e6, e7, e8, e9, e10, if_false]
theorem re_appA {K : Fg} {mg : Str → Option Value} {E0 : XK} {to te : TE} {ρ : List Sl} {O : Os} {x : Str} {F0 H0 F H : Hp} {D0 : List Addr} {σ : L2.St} {D : Ends} {j : Nat} {a : Addr} {nw : Bool} {ds : List PyData} (ho : RAd K to ρ O a) (hj : O[j]? = some ⟨a, nw, ds⟩) (h : REx K mg E0 te ρ O x) (E : EnvR K F σ ρ) (S : Hx K F0 H0 D0 F O H)
    (k : ∀ C F' H', mg x = some (.ref C) → Same F F' → Hx K F0 H0 D0 F' [] H' → E0 (.ref C) none H') : tDrop (tBM K "list" rAppend to (tCons te tNil)) D σ H := by
  obtain ⟨_, _, _, vs0, g0, _⟩ := S.get hj
  exact ho.run _ _ _ _ _ _ _ E S ⟨.inl ⟨rfl, _, .inl (.inl g0)⟩, h.run _ _ _ _ _ _ _ E S k⟩
theorem puts_forS (name : Str) (hn : name.length ≤ 1000) : ∀ (ps : List Str) (v : List (Str × Int)), v.length + ps.length ≤ 16777216 → (∀ c ∈ ps, c.length = 1) → forS (fun (c : Str) (v : List (Str × Int)) => putMO v (name ++ ":" ++ c) (v.length : Int)) ps v = some (putsM name v ps)
  | [], v, _, _ => rfl
  | c :: ps, v, h, hc => by
    rw [List.length_cons] at h
    unfold forS
    have e : putMO v (name ++ ":" ++ c) (v.length : Int) = some (putM v (name ++ ":" ++ c) (v.length : Int)) := if_pos (by omega)
    rw [e]
    have := putM_len v (name ++ ":" ++ c) (v.length : Int)
    exact puts_forS name hn ps _ (by omega) fun d hd => hc d (List.mem_cons_of_mem _ hd)
/-- a method's promise: the state ahead, behind, what it hands back or raises -/
def SpM (K : Fg) (mg : Str → Option Value) (C : Addr) (R : Rd → List PyData → Rx (PyData × Rd) → Prop) : Sp := fun vs H Q E0 => ∃ F H1 D1 a dx A st nw ws ds r, vs = .ref a :: ws ∧ RpAll K F ws ds ∧ F a = some (.ins C dx (rdF A)) ∧ Hx K F H1 D1 F (rdO nw A st) H ∧ R st ds r ∧
  (∀ d st', r = .ok (d, st') → ∀ v F' H', Same F F' → Hx K F H1 D1 F' (rdO nw A st') H' → Rp K F' v d → Q v H') ∧
  ∀ x, r = .er x → ∀ D, mg x = some (.ref D) → ∀ F' H', Same F F' → Hx K F H1 D1 F' [] H' → E0 (.ref D) none H'
theorem spm_len {K : Fg} {mg : Str → Option Value} {C : Addr} {R : Rd → List PyData → Rx (PyData × Rd) → Prop} {n : Nat} (h : ∀ st ds r, R st ds r → ds.length + 1 = n) : ∀ vs H Q E0, SpM K mg C R vs H Q E0 → vs.length = n := fun vs H Q E0 ⟨F, H1, D1, a, dx, A, st, nw, ws, ds, r, e, q, _, _, hR, _⟩ => by
  subst e
  rw [List.length_cons, q.length]
  exact h st ds r hR
/-- a method that is there and keeps its promise -/
def MetX (P : Program) (w : World) (K : Fg) (mg : Str → Option Value) (base : Heap) (C : Addr) (k : Nat) (m : Str) (ps : List Str) (sp : Sp) : Prop := ∃ f fd, L2.Meth K C m f ∧ FnOk P w K mg base (L2.CX P w) k f fd ps sp ∧ Binds K fd ps []
def Dfm (K : Fg) (C : Addr) (m qual : Str) (st : Stmt) (ps : List Str) : Prop := ∃ f fd, Fun K m qual st f fd ∧ L2.Meth K C m f ∧ Binds K fd ps []
theorem Dfm.met {P : Program} {w : World} {K : Fg} {mg : Str → Option Value} {base : Heap} {C : Addr} {m qual : Str} {st : Stmt} {N ps : List Str} {k : Nat} {sp : Sp} (h : Dfm K C m qual st ps) (S : FnScope N ps (defScope st)) (len : ∀ vs H Q E, sp vs H Q E → vs.length = ps.length)
    (hbody : ∀ (f : Addr) (cdv : Value) (A : Around) (outer : List Env) (s : Shared) (H : Hp) (vs : List V) (Q : VK) (E : XK), Room k (A.deeper (PyProof.Rows.envOfC qual (defScope st) s.heap.objs.size f cdv)) → sp vs H Q E →
      ∃ t, PSs (cxOf (L2.CX P w) P w K mg base N qual (defScope st) f cdv A outer s H E) (defBody st) t ∧ t { nx := fun _ H' => Q .non H', rt := Q } (start N vs) H) : MetX P w K mg base C (k + 1) m ps sp := by
  obtain ⟨f, fd, F, M, b⟩ := h
  exact ⟨f, fd, M, F.okX S len fun cdv A outer s H vs Q E hr hs => hbody f cdv A outer s H vs Q E hr hs, b⟩
theorem MetX.mono {P : Program} {w : World} {K : Fg} {mg : Str → Option Value} {base : Heap} {C : Addr} {j k : Nat} {m : Str} {ps : List Str} {sp : Sp} (h : MetX P w K mg base C j m ps sp) (hk : j ≤ k) : MetX P w K mg base C k m ps sp := by
  obtain ⟨f, fd, M, F, b⟩ := h
  exact ⟨f, fd, M, F.mono hk, b⟩
theorem pe_metX {X : Cx} {E0 : XK} {C : Addr} {j k : Nat} {m : Str} {ps : List Str} {sp : Sp} {o e : Expr} {es : List Expr} {to : TE} {t : TA} {apos pos : Pos} (M : MetX X.prog X.w X.K X.mg X.base C j m ps sp) (c : Cls X.K C) (hr : Room k X.A) (hx : Passes (L2.CX X.prog X.w) X E0) (ho : PE X o to) (ha : PA X (e :: es) t) (hjk : j ≤ k := by decide)
    (hst : starEach (e :: es) X.env = (false, eval e X.env) :: starEach es X.env := by rfl) (hpl : (backTo pos (starEach es X.env)).any (·.1) = false := by rfl) {pl : Sem Bool}
    (ht : eval (.Call (.Attribute o m apos) (e :: es) [] pos) X.env = (do
      let ov ← eval o X.env
      standAt apos.atName
      let (f, first) ← holding [ov] (getMethod ov m pl)
      callWith pos f first (backTo pos (starEach (e :: es) X.env)) (backToKw pos (keywordEach [] X.env))) := by rfl) : PE X (.Call (.Attribute o m apos) (e :: es) [] pos) (tMeth C m sp [] E0 to t) := by
  obtain ⟨f, fd, hm, F, b⟩ := M
  exact pe_meth ho c hm F (hr.mono hjk) b .nil hx ha hst hpl ht
section
variable {K : Fg} {mg : Str → Option Value} {t : TA} {ρ : List Sl} {E0 : XK} {C dx p : Addr} {A : RdA} {nw : Bool} {st st' : Rd} {i : Nat} {ds : List PyData} {d : PyData} {m x : Str} {R : Rd → List PyData → Rx (PyData × Rd) → Prop}
theorem hx_self {F0 H0 F H : Hp} {D0 : List Addr} {O : Os} (S : Hx K F0 H0 D0 F O H) : ∃ H1 D1, Hx K F H1 D1 F O H ∧ ∀ F' O' H', Hx K F H1 D1 F' O' H' → Hx K F0 H0 D0 F' O' H' := by
  obtain ⟨H1, D1, h1, h2⟩ := Hx.fr (X := []) (O := O) (by rw [List.append_nil]; exact S)
  exact ⟨H1, D1, h1, fun F' O' H' h => by have := h2 F' O' H' h; rw [List.append_nil] at this; exact this⟩
theorem rx_callM (hs : ρ[i]? = some (.obj p (.ins C dx (rdF A)))) (nl : (rdF A).lookup m = none) (hR : R st ds (.ok (d, st'))) (ha : RA K t ρ (rdO nw A st) (ds.map .val) (rdO nw A st)) : RX K (tMeth C m (SpM K mg C R) [] E0 (tVar i) t) ρ (rdO nw A st) d (rdO nw A st') := ⟨fun _ _ _ _ _ _ Q E S k => by
  obtain ⟨s, h1, h2, h3⟩ := E.at hs
  subst h2
  refine ⟨_, h1, p, dx, rdF A, rfl, S.fh _ _ h3, nl, ha.go E S fun vs F1 H1 f1 E1 S1 r1 => ?_⟩
  rw [List.append_nil]
  obtain ⟨H1', D1, S2, back⟩ := hx_self S1
  exact ⟨F1, H1', D1, p, dx, A, st, nw, vs, ds, .ok (d, st'), rfl, r1.all, f1 _ _ h3, S2, hR, fun d2 s2 e v F' H' f S' r => by cases e; exact k v F' H' (f1.trans f) (back _ _ _ S') r, fun x e => by cases e⟩⟩
theorem re_callM (hs : ρ[i]? = some (.obj p (.ins C dx (rdF A)))) (nl : (rdF A).lookup m = none) (hR : R st ds (.er x)) (ha : RA K t ρ (rdO nw A st) (ds.map .val) (rdO nw A st)) : REx K mg E0 (tMeth C m (SpM K mg C R) [] E0 (tVar i) t) ρ (rdO nw A st) x := ⟨fun _ _ _ _ _ _ Q E S k => by
  obtain ⟨s, h1, h2, h3⟩ := E.at hs
  subst h2
  refine ⟨_, h1, p, dx, rdF A, rfl, S.fh _ _ h3, nl, ha.go E S fun vs F1 H1 f1 E1 S1 r1 => ?_⟩
  rw [List.append_nil]
  obtain ⟨H1', D1, S2, back⟩ := hx_self S1
  exact ⟨F1, H1', D1, p, dx, A, st, nw, vs, ds, .er x, rfl, r1.all, f1 _ _ h3, S2, hR, fun d2 s2 e => (by cases e), fun y e D hD F' H' f S' => by cases e; exact k D F' H' hD (f1.trans f) (back _ _ _ S')⟩⟩
/-! ### a new Reading -/
def SpI (K : Fg) (C : Addr) : Sp := fun vs H Q _ => ∃ p dx, vs = [.ref p] ∧ H p = some (.ins C dx []) ∧ ∀ (A : RdA) (H' : Hp), [A.i, A.g, A.o, A.w, A.n].Nodup → (∀ a ∈ [A.i, A.g, A.o, A.w, A.n], H a = none) → H' A.i = some (.lst []) → H' A.g = some (.lst []) → H' A.o = some (.lst []) → H' A.w = some (.dK []) → H' A.n = some (.lst []) →
  H' p = some (.ins C dx (rdF A)) → (∀ b o, H b = some o → b ≠ p → H' b = some o) → Q .non H'
theorem st_mkRd {F0 H0 F H : Hp} {D0 : List Addr} {σ : L2.St} {D : Ends} (E : EnvR K F σ ρ) (S : Hx K F0 H0 D0 F [] H)
    (k : ∀ (x dx : Addr) (A : RdA) σ' F' H', Same F F' → EnvR K F' σ' (ρ.set i (.obj x (.ins C dx (rdF A)))) → Hx K F0 H0 D0 F' (rdO true A Rd0) H' → D.nx σ' H') : tAsg (tMake C (SpI K C) [] E0 tNil) (gName i) D σ H := by
  intro x dx hx hdx ne
  refine ⟨x, dx, rfl, upd_same, fun A H' nd fr h1 h2 h3 h4 h5 h6 h7 => ⟨rfl, ?_⟩⟩
  have nef : ∀ a ∈ [A.i, A.g, A.o, A.w, A.n], a ≠ x ∧ a ≠ dx ∧ H a = none := fun a ha => by
    have q := fr a ha
    have n1 : a ≠ x := by
      rintro rfl
      rw [upd_same] at q
      cases q
    rw [upd_ne n1] at q
    have n2 : a ≠ dx := by
      rintro rfl
      rw [upd_same] at q
      cases q
    rw [upd_ne n2] at q
    exact ⟨n1, n2, q⟩
  have fx : F x = none := S.nof hx
  have fd : F dx = none := S.nof hdx
  have up : ∀ b o, H b = some o → H' b = some o := fun b o e => by
    have b1 : b ≠ x := ne_of_none e hx
    have b2 : b ≠ dx := ne_of_none e hdx
    exact h7 b o (by rw [upd_ne b1, upd_ne b2]; exact e) b1
  have hd' : H' dx = some (.own x) := h7 dx _ (by rw [upd_ne ne, upd_same]) ne
  have ff : Same F (upd (upd F dx (.own x)) x (.ins C dx (rdF A))) := (same_upd fd).trans (same_upd (by rw [upd_ne ne.symm]; exact fx))
  have fn : ∀ a, a ≠ x → a ≠ dx → F a = none → upd (upd F dx (.own x)) x (.ins C dx (rdF A)) a = none := fun a n1 n2 e => by rw [upd_ne n1, upd_ne n2]; exact e
  refine k x dx A _ (upd (upd F dx (.own x)) x (.ins C dx (rdF A))) H' ff (EnvR.set (s := some (.ref x)) (r := .obj x (.ins C dx (rdF A))) ⟨rfl, upd_same⟩ i (E.up ff)) ?_
  constructor
  case f0 => exact S.f0.trans ff
  case fh =>
    intro a u e
    unfold upd at e
    split at e
    · rename_i z
      subst z
      cases e
      exact h6
    · split at e
      · rename_i z
        subst z
        cases e
        exact hd'
      · exact up _ _ (S.fh _ _ e)
  case keep => exact fun a o e n => up _ _ (S.keep a o e n)
  case live =>
    intro a o e
    obtain ⟨o', e'⟩ := S.live a o e
    exact ⟨o', up _ _ e'⟩
  case new =>
    intro a o e n
    obtain ⟨o', e'⟩ := S.live a o e
    exact fn a (ne_of_none e' hx) (ne_of_none e' hdx) (S.new a o e n)
  case own =>
    intro q hq
    have all : ∀ (a : Addr) (ds : OD), a ∈ [A.i, A.g, A.o, A.w, A.n] → OwnAt K (upd (upd F dx (.own x)) x (.ins C dx (rdF A))) H' a ds → upd (upd F dx (.own x)) x (.ins C dx (rdF A)) a = none ∧ (true = true → H0 a = none) ∧ (true = false → a ∈ D0) ∧ OwnAt K (upd (upd F dx (.own x)) x (.ins C dx (rdF A))) H' a ds := fun a ds ha ho => by
      obtain ⟨n1, n2, n3⟩ := nef a ha
      exact ⟨fn a n1 n2 (S.nof n3), fun _ => S.noh0 n3, fun z => Bool.noConfusion z, ho⟩
    unfold rdO at hq
    simp only [List.mem_cons, List.not_mem_nil, or_false] at hq
    rcases hq with rfl | rfl | rfl | rfl | rfl
    · exact all _ _ (by simp) ⟨[], h1, Nat.zero_le _, .nil⟩
    · exact all _ _ (by simp) ⟨[], h2, Nat.zero_le _, .nil⟩
    · exact all _ _ (by simp) ⟨[], h3, Nat.zero_le _, .nil⟩
    · exact all _ _ (by simp) ⟨[], h4, Nat.zero_le _, rfl, .nil⟩
    · exact all _ _ (by simp) ⟨[], h5, Nat.zero_le _, .nil⟩
  case nd => exact nd
/-! ### read's promise: a tuple of three new lists, or a raise -/
def SpXT (K : Fg) (mg : Str → Option Value) (R : List PyData → Rx (List (List PyData)) → Prop) : Sp := fun vs H Q E0 => ∃ F ds r, RpAll K F vs ds ∧ Same F H ∧ R ds r ∧
  (∀ ess, r = .ok ess → ∀ (T : Addr) (ps : List Addr) (F' H' : Hp), Stp [] F H F' H' → SqT K F' T (ps.map .ref) → ps.length = ess.length → ps.Nodup → (∀ (i : Nat) p es, ps[i]? = some p → ess[i]? = some es → H p = none ∧ F' p = none ∧ ∃ xs, H' p = some (.lst xs) ∧ xs.length ≤ sizeLine ∧ RpAll K F' xs es) → Q (.ref T) H') ∧
  ∀ x, r = .er x → ∀ D, mg x = some (.ref D) → ∀ F' H', Stp [] F H F' H' → E0 (.ref D) none H'
theorem spxt_len {R : List PyData → Rx (List (List PyData)) → Prop} {n : Nat} (h : ∀ ds r, R ds r → ds.length = n) : ∀ vs H Q E0, SpXT K mg R vs H Q E0 → vs.length = n := fun vs H Q E0 ⟨F, ds, r, q, _, hR, _⟩ => q.length.trans (h ds r hR)
theorem SpXT.toX {R : List PyData → Rx (List (List PyData)) → Prop} {R' : List PyData → Rx PyData → Prop} (hi : ∀ ds r', R' ds r' → ∃ r, R ds r ∧ r' = r.map (fun ess => .tuple (ess.map .list)) ∧ ∀ ess, r = .ok ess → ess.length ≤ 1000) :
    ∀ vs H Q E0, SpX K mg R' vs H Q E0 → SpXT K mg R vs H Q E0 := fun vs H Q E0 ⟨F, ds, r', q, fh, hR, k1, k2⟩ => by
  obtain ⟨r, h1, rfl, hz⟩ := hi ds r' hR
  refine ⟨F, ds, r, q, fh, h1, fun ess e T ps F' H' st hT hl nd h => ?_, fun x e D hD F' H' st => ?_⟩
  · subst e
    have S := (Hx.start (K := K) fh).inT st hl nd h
    obtain ⟨F2, f2, S2, r2⟩ := S.frzT hl
    exact k1 _ rfl _ F2 H' S2.stp (.tup (same_t f2 hT) (by rw [List.length_map, hl]; exact Nat.le_trans (hz ess rfl) (by decide)) r2)
  · subst e
    exact k2 x rfl D hD F' H' st
theorem CalX.imp {P : Program} {w : World} {base : Heap} {k : Nat} {x : Str} {ps : List Str} {sp sp' : Sp} (h : CalX P w K mg base k x ps sp) (hi : ∀ vs H Q E, sp' vs H Q E → sp vs H Q E) : CalX P w K mg base k x ps sp' := by
  obtain ⟨f, fd, F, r⟩ := h
  exact ⟨f, fd, F.imp hi, r⟩
end
end TL

/-! the reader's constants; LEGS.get -/
namespace TL
open PySem PySem.Spec PyProof.Rows L2
open Enc
/-- the written dict of legs -/
def LegsAt (K : Fg) (w : World) (a : Addr) : Prop := (a == sysModules) = false ∧ ∃ es n, K.lookup a = some ⟨.type "dict", none, .dict es n, #[]⟩ ∧ PySem.W.KeysLit w.params es.toList ∧
  ∀ z, match dlit LEGL z with | some i => ∃ t, findBy PySem.Value.isStrOf es z = some (.int i t) | none => findBy PySem.Value.isStrOf es z = none
theorem legs_mk {K : Fg} {w : World} {a : Addr} {n : Nat} {h1 h2 h3 h4 h5 : Int} {t1 t2 t3 t4 t5 u1 u2 u3 u4 u5 : Tok} (low : (a == sysModules) = false)
    (l : K.lookup a = some ⟨.type "dict", none, .dict #[⟨h1, .str "not" t1, .int 1 u1⟩, ⟨h2, .str "and" t2, .int 2 u2⟩, ⟨h3, .str "or" t3, .int 2 u3⟩, ⟨h4, .str "xor" t4, .int 2 u4⟩, ⟨h5, .str "vote" t5, .int 3 u5⟩] n, #[]⟩)
    (k : PySem.W.KeysLit w.params (#[⟨h1, .str "not" t1, .int 1 u1⟩, ⟨h2, .str "and" t2, .int 2 u2⟩, ⟨h3, .str "or" t3, .int 2 u3⟩, ⟨h4, .str "xor" t4, .int 2 u4⟩, ⟨h5, .str "vote" t5, .int 3 u5⟩] : Array DictEntry).toList) : LegsAt K w a := by
  refine ⟨low, _, _, l, k, fun z => ?_⟩
  have ne : ¬ ("not" : Str) = "and" ∧ ¬ ("not" : Str) = "or" ∧ ¬ ("not" : Str) = "xor" ∧ ¬ ("not" : Str) = "vote" ∧ ¬ ("and" : Str) = "or" ∧ ¬ ("and" : Str) = "xor" ∧ ¬ ("and" : Str) = "vote" ∧ ¬ ("or" : Str) = "xor" ∧ ¬ ("or" : Str) = "vote" ∧ ¬ ("xor" : Str) = "vote" := by decide +kernel
  unfold dlit LEGL findBy
  simp only [List.find?_cons, List.find?_nil]
  have e : ∀ (x : Str) (t : Tok), PySem.Value.isStrOf z (.str x t) = decide (x = z) := fun x t => by
    show (x == z) = decide (x = z)
    rw [Bool.eq_iff_iff]; simp
  simp only [List.find?_toArray, List.find?_cons, List.find?_nil, e]
  by_cases c1 : ("not" : Str) = z
  · simp [c1]
  · by_cases c2 : ("and" : Str) = z
    · simp [c1, c2]
    · by_cases c3 : ("or" : Str) = z
      · simp [c1, c2, c3]
      · by_cases c4 : ("xor" : Str) = z
        · simp [c1, c2, c3, c4]
        · by_cases c5 : ("vote" : Str) = z
          · simp [c1, c2, c3, c4, c5]
          · simp [c1, c2, c3, c4, c5]
/-- LEGS.get(e, f) -/
def tLegs (ty tx : TE) : TE := fun σ H Q => ty σ H fun y H1 => tx σ H1 fun x H2 => ∃ z, y = .str z ∧ Q (match dlit LEGL z with | some i => .int i | none => x) H2
theorem pe_legs {X : Cx} {c : Addr} {o e f : Expr} {ty tx : TE} {apos cpos : Pos} (L : LegsAt X.K X.w c) (ho : PE X o (tC (.ref c))) (he : PE X e ty) (hf : PE X f tx) (m : M2 X o "get" apos e f cpos) : PE X (.Call (.Attribute o "get" apos) [e, f] [] cpos) (tLegs ty tx) := by
  obtain ⟨low, es, n, hl, hk, hv⟩ := L
  refine ⟨fun pins s σ H Q I h => ?_⟩
  refine wpAny_Call_method m.base m.few m.line PySem.F.plainAttrs_dict PySem.F.slot_dict_get PySem.F.type_dict_get (thn (ho.run pins s σ H (fun x H1 => x = .ref c ∧ H1 = H) I ⟨rfl, rfl⟩) ?_)
  intro u s1 ⟨x, H1, I1, rx, q⟩
  obtain ⟨ex, eH⟩ : x = .ref c ∧ H1 = H := q
  subst ex
  subst eH
  obtain rfl : u = Value.ref c := rx
  have D : KDict X.K X.w c es n := ⟨hl, hk, low⟩
  refine ⟨kd_type D I1, ?_, ?_⟩
  · intro b e
    cases e
    exact ⟨_, I1.kIn _ _ hl, rfl⟩
  rw [m.trees]
  refine Calls.callWith_builtin rfl (Calls.evalArgs_plain (Calls.spliced_cons (thn (he.run pins s1 σ _ _ I1 h) ?_)))
  intro iv s2 ⟨y, H2, I2, ry, q2⟩
  refine Calls.spliced_cons (thn (hf.run pins s2 σ H2 _ I2 q2) ?_)
  intro fv s3 ⟨z, H3, I3, rz, k, ey, q3⟩
  refine Calls.spliced_nil ?_
  subst ey
  obtain ⟨t, rfl⟩ : ∃ t, iv = Value.str k t := ry
  have mp := PySem.W.mapOf_K (prog := X.prog) (w := X.w) I3.kIn hl hk
  refine call_meetsIn PySem.F.slot_dict_get mp.typeIs PySem.F.entry_dict_get (PySem.F.args_dict_get_3 _ _ _) (meets_dict_get_default (strKind X.prog X.w) c (strKind_is X.prog X.w k t) low fv) ⟨_, mp, ?_⟩
  have hk := hv k
  cases e : dlit LEGL k with
  | some i =>
    rw [e] at hk q3
    obtain ⟨u, hk⟩ := hk
    show EP X pins σ Q ((findBy PySem.Value.isStrOf es k).getD fv) _
    rw [hk]
    exact ⟨.int i, H3, I3.tok _, ⟨u, rfl⟩, q3⟩
  | none =>
    rw [e] at hk q3
    show EP X pins σ Q ((findBy PySem.Value.isStrOf es k).getD fv) _
    rw [hk]
    exact ⟨_, H3, I3.tok _, rz, q3⟩
section
variable {K : Fg} {ty tx : TE} {ρ : List Sl} {O O1 O2 : Os}
theorem rx_legs {z : Str} {i : Int} (hy : RX K ty ρ O (.str z) O1) (hx : RX K tx ρ O1 (.int i) O2) : RX K (tLegs ty tx) ρ O (.int ((dlit LEGL z).getD i)) O2 := ⟨fun _ _ _ _ _ _ Q E S k => hy.go E S fun y F1 H1 f1 E1 S1 r1 => hx.go E1 S1 fun x F2 H2 f2 E2 S2 r2 => by
  cases r1
  cases r2
  refine ⟨z, rfl, k _ F2 H2 (f1.trans f2) S2 ?_⟩
  cases dlit LEGL z with
  | some j => exact .int j
  | none => exact .int i⟩
end
/-- what the top says of the reader's names -/
structure RdC (K : Fg) (w : World) (mg : Str → Option Value) (cB cW cL C : Addr) : Prop where
  tB : mg "BARRED" = some (.ref cB)
  sB : GT K cB BARR
  tW : mg "WIDTHS" = some (.ref cW)
  sW : GT K cW WIDS
  tL : mg "LEGS" = some (.ref cL)
  sL : LegsAt K w cL
  lett : ∃ t, mg "LETTERS" = some (.str LETT t)
  figs : ∃ t, mg "FIGURES" = some (.str FIGS t)
  long : ∃ t, mg "LONGEST_NAME" = some (.int 8 t)
  rows : ∃ t, mg "MOST_ROWS" = some (.int 80 t)
  ins : ∃ t, mg "MOST_INS" = some (.int 6 t)
  gates : ∃ t, mg "MOST_GATES" = some (.int 60 t)
  outs : ∃ t, mg "MOST_OUTS" = some (.int 6 t)
  wires : ∃ t, mg "MOST_WIRES" = some (.int 3 t)
  cl : Cls K C
  gC : mg "Reading" = some (.ref C)
  nI : NoAttr K C "ins"
  nG : NoAttr K C "gates"
  nO : NoAttr K C "outs"
  nW : NoAttr K C "wires"
  nN : NoAttr K C "names"
  len : mg "len" = none
  int : mg "int" = none
  tuple : mg "tuple" = none
  xNoForm : ∃ c, XC K mg "NoForm" c
  xNoPlace : ∃ c, XC K mg "NoPlace" c
  xTwice : ∃ c, XC K mg "Twice" c
  xFull : ∃ c, XC K mg "Full" c
  xNoWire : ∃ c, XC K mg "NoWire" c
  xOpen : ∃ c, XC K mg "Open" c
  xTooLong : ∃ c, XC K mg "TooLong" c
end TL

/-! the reader, plain: what a row tells is fit, a Reading stays small -/
namespace TL
open PySem PySem.Spec PyProof.Rows L2
open Enc
def SaidOk : Said → Prop
  | .i a w => 1 ≤ w ∧ w ≤ 3 ∧ a.length ≤ 8 ∧ EqD.ok a = true
  | .g a b c ws => (a = "gate" ∨ a = "sure") ∧ ws.length ≤ 16777216 ∧ EqD.ok c = true ∧ b.length ≤ 8
  | .o a ws => ws.length ≤ 16777216 ∧ EqD.ok a = true
theorem named_is {z q : Str} (h : namedX z = .ok q) : q = z ∧ isNameB z = true ∧ z.length ≤ 8 := by
  unfold namedX at h
  split at h
  · cases h
  · rename_i c
    cases h
    have c : isNameB z = true := by
      cases e : isNameB z with
      | true => rfl
      | false => rw [e] at c; exact absurd rfl c
    refine ⟨rfl, c, ?_⟩
    unfold isNameB at c
    split at c
    · cases c
    · rename_i b
      simp only [Bool.or_eq_true, Bool.not_eq_true', Bool.and_eq_false_imp, not_or, decide_eq_true_eq] at b
      have b := b.1
      by_cases q : (z.length : Int) ≤ 8
      · omega
      · exact absurd (fun _ => decide_eq_false q) b
theorem mapX_len {α β : Type} {f : α → Rx β} : ∀ {xs : List α} {ys : List β}, mapX f xs = .ok ys → ys.length = xs.length
  | [], _, h => by cases h; rfl
  | x :: xs, ys, h => by
    unfold mapX at h
    cases e : f x with
    | er z => rw [e] at h; cases h
    | ok y =>
      rw [e] at h
      have h : (mapX f xs).bind (fun ys => .ok (y :: ys)) = .ok ys := h
      cases e2 : mapX f xs with
      | er z => rw [e2] at h; cases h
      | ok zs =>
        rw [e2] at h
        cases h
        rw [List.length_cons, List.length_cons, mapX_len e2]
theorem wid_b (z : Str) : 1 ≤ widI z ∧ widI z ≤ 3 := by
  unfold widI
  split
  · decide
  · split <;> decide
theorem row_said {z : Str} {d : Said} (h : rowX z = .ok d) (hk : EqD.ok z = true) (hz : z.length ≤ 16000000) : SaidOk d := by
  have hsp := split_sub (x := z) (y := (" " : Str)) (by decide +kernel) (by decide +kernel)
  have hln : (Txt.split z " ").length ≤ 16777216 := Nat.le_trans (PyProof.Rows.split_le z " ") (by omega)
  unfold rowX at h
  generalize Txt.split z " " = ws at h hsp hln
  have wok : ∀ k, k < ws.length → EqD.ok (ws.getD k "") = true := fun k hk2 => (hsp.1 _ (getD_mem hk2)).ok hk
  unfold rowW at h
  split at h
  · rename_i c
    unfold cIn at c
    simp only [Bool.and_eq_true, decide_eq_true_eq] at c
    cases e : namedX (ws.getD 1 "") with
    | er x => rw [e] at h; cases h
    | ok n =>
      rw [e] at h
      cases h
      obtain ⟨rfl, _, l⟩ := named_is e
      exact ⟨(wid_b _).1, (wid_b _).2, l, wok 1 (by omega)⟩
  · split at h
    · rename_i c
      unfold cGate at c
      simp only [Bool.and_eq_true, decide_eq_true_eq] at c
      cases e : namedX (ws.getD 1 "") with
      | er x => rw [e] at h; cases h
      | ok n =>
        rw [e] at h
        have h : (mapX wireX (ws.drop 3)).bind (fun l => .ok (.g (ws.getD 0 "") n (ws.getD 2 "") l)) = .ok d := h
        cases e2 : mapX wireX (ws.drop 3) with
        | er x => rw [e2] at h; cases h
        | ok l =>
          rw [e2] at h
          cases h
          obtain ⟨rfl, _, l8⟩ := named_is e
          refine ⟨by simpa using c.1, by rw [mapX_len e2, List.length_drop]; omega, wok 2 (by omega), l8⟩
    · split at h
      · rename_i c
        unfold cOut at c
        simp only [Bool.and_eq_true, decide_eq_true_eq] at c
        cases e : namedX (ws.getD 1 "") with
        | er x => rw [e] at h; cases h
        | ok n =>
          rw [e] at h
          have h : (mapX wireX (ws.drop 2)).bind (fun l => .ok (.o n l)) = .ok d := h
          cases e2 : mapX wireX (ws.drop 2) with
          | er x => rw [e2] at h; cases h
          | ok l =>
            rw [e2] at h
            cases h
            obtain ⟨rfl, _, l8⟩ := named_is e
            exact ⟨by rw [mapX_len e2, List.length_drop]; omega, wok 1 (by omega)⟩
      · cases h
structure Rd.Inv (s : Rd) : Prop where
  i : EqD.ok s.i = true
  g : EqD.ok s.g = true
  o : EqD.ok s.o = true
  li : s.i.length ≤ 6
  lg : s.g.length ≤ 60
  lo : s.o.length ≤ 6
  lw : s.w.length ≤ 3 * s.i.length + s.g.length
  ln : s.n.length = s.i.length + s.g.length
theorem Rd.Inv.ok {s : Rd} (h : s.Inv) : s.Ok := by
  have h1 := h.li
  have h2 := h.lg
  have h3 := h.lo
  have h4 := h.lw
  have h5 := h.ln
  exact ⟨h.i, h.g, h.o, by omega, by omega, by omega, by omega, by omega⟩
theorem inv0 : Rd0.Inv := ⟨rfl, rfl, rfl, Nat.zero_le _, Nat.zero_le _, Nat.zero_le _, Nat.zero_le _, rfl⟩
theorem ok_app {α : Type} [Enc α] [DecidableEq α] [EqD α] {xs : List α} {x : α} (h : EqD.ok xs = true) (h1 : EqD.ok x = true) : EqD.ok (xs ++ [x]) = true := by
  have h : xs.all EqD.ok = true := h
  show (xs ++ [x]).all EqD.ok = true
  rw [List.all_append, h]
  simp [h1]
theorem putsM_len (a : Str) : ∀ (ps : List Str) (v : List (Str × Int)), (putsM a v ps).length ≤ v.length + ps.length
  | [], v => Nat.le_refl _
  | c :: ps, v => by
    have h1 := putM_len v (a ++ ":" ++ c) (v.length : Int)
    have h2 := putsM_len a ps (putM v (a ++ ":" ++ c) (v.length : Int))
    have e : putsM a v (c :: ps) = putsM a (putM v (a ++ ":" ++ c) (v.length : Int)) ps := rfl
    rw [e, List.length_cons]
    omega
theorem figs_len {x : Int} (h1 : 1 ≤ x) (h3 : x ≤ 3) : ((figsL x).length : Int) = x := by
  rcases (by omega : x = 1 ∨ x = 2 ∨ x = 3) with rfl | rfl | rfl <;> decide +kernel
theorem said_inv {s s' : Rd} {d : Said} (I : s.Inv) (hd : SaidOk d) (h : saidX s d = .ok s') : s'.Inv := by
  have h1 := I.li
  have h2 := I.lg
  have h3 := I.lo
  have h4 := I.lw
  have h5 := I.ln
  cases d with
  | i a w =>
    obtain ⟨w1, w3, la, ka⟩ := hd
    have h : inX s a w = .ok s' := h
    unfold inX at h
    split at h
    · cases h
    split at h
    · cases h
    split at h
    · cases h
    rename_i c
    cases h
    have c : ¬ (s.i.length : Int) = 6 := fun e => c (decide_eq_true e)
    refine ⟨ok_app I.i (by show (EqD.ok a && EqD.ok w) = true; rw [ka]; rfl), I.g, I.o, ?_, h2, h3, ?_, ?_⟩
    · show (s.i ++ [(a, w)]).length ≤ 6
      rw [List.length_append, List.length_singleton]
      omega
    · show (if decide (w = 1) = true then putM s.w a (s.w.length : Int) else putsM a s.w (figsL w)).length ≤ 3 * (s.i ++ [(a, w)]).length + s.g.length
      rw [List.length_append, List.length_singleton]
      split
      · have := putM_len s.w a (s.w.length : Int)
        omega
      · have := putsM_len a (figsL w) s.w
        have := figs_len w1 w3
        omega
    · show (s.n ++ [a]).length = (s.i ++ [(a, w)]).length + s.g.length
      rw [List.length_append, List.length_append, List.length_singleton, List.length_singleton]
      omega
  | g a b c ws =>
    obtain ⟨_, lw, kc, _⟩ := hd
    have h : gateX s a b c ws = .ok s' := h
    unfold gateX at h
    split at h
    · cases h
    split at h
    · cases h
    split at h
    · cases h
    rename_i q
    have q : ¬ (s.g.length : Int) = 60 := fun e => q (decide_eq_true e)
    cases e : numsX s ws with
    | er x => rw [e] at h; cases h
    | ok t =>
      rw [e] at h
      cases h
      refine ⟨I.i, ok_app I.g (by show (EqD.ok c && (EqD.ok t && EqD.ok (decide (a = "sure")))) = true; rw [kc, EqT.ok t]; rfl), I.o, h1, ?_, h3, ?_, ?_⟩
      · show (s.g ++ [_]).length ≤ 60
        rw [List.length_append, List.length_singleton]
        omega
      · show (putM s.w b (s.w.length : Int)).length ≤ 3 * s.i.length + (s.g ++ [_]).length
        rw [List.length_append, List.length_singleton]
        have := putM_len s.w b (s.w.length : Int)
        omega
      · show (s.n ++ [b]).length = s.i.length + (s.g ++ [_]).length
        rw [List.length_append, List.length_append, List.length_singleton, List.length_singleton]
        omega
  | o a ws =>
    obtain ⟨lw, ka⟩ := hd
    have h : outX s a ws = .ok s' := h
    unfold outX at h
    split at h
    · cases h
    split at h
    · cases h
    rename_i q
    have q : ¬ (s.o.length : Int) = 6 := fun e => q (decide_eq_true e)
    cases e : numsX s ws with
    | er x => rw [e] at h; cases h
    | ok t =>
      rw [e] at h
      cases h
      refine ⟨I.i, I.g, ok_app I.o (by show (EqD.ok a && EqD.ok t) = true; rw [ka, EqT.ok t]; rfl), h1, h2, ?_, h4, h5⟩
      show (s.o ++ [_]).length ≤ 6
      rw [List.length_append, List.length_singleton]
      omega
def rowS (s : Rd) (row : Str) : Rx Rd := (rowX row).bind fun d => saidX s d
def RowOk (r : Str) : Prop := EqD.ok r = true ∧ r.length ≤ 16000000
theorem row_inv {s s' : Rd} {r : Str} (I : s.Inv) (hr : RowOk r) (h : rowS s r = .ok s') : s'.Inv := by
  unfold rowS at h
  cases e : rowX r with
  | er x => rw [e] at h; cases h
  | ok d =>
    rw [e] at h
    exact said_inv I (row_said e hr.1 hr.2) h
theorem fold_inv : ∀ {rows : List Str} {s s' : Rd}, s.Inv → (∀ r ∈ rows, RowOk r) → foldX rowS rows s = .ok s' → s'.Inv
  | [], s, s', I, _, h => by cases h; exact I
  | r :: rows, s, s', I, hr, h => by
    unfold foldX at h
    cases e : rowS s r with
    | er x => rw [e] at h; cases h
    | ok s1 =>
      rw [e] at h
      exact fold_inv (row_inv I (hr r List.mem_cons_self) e) (fun x hx => hr x (List.mem_cons_of_mem _ hx)) h
def stepR : Rx Rd → Fl Rd Str
  | .ok s => .nx s
  | .er x => .rt x
open Classical in
noncomputable def stepF (row : Str) (s : Rd) : Option (Fl Rd Str) := if s.Inv then some (stepR (rowS s row)) else none
theorem stepF_all : ∀ (rows : List Str) (s : Rd), s.Inv → (∀ r ∈ rows, RowOk r) → forF stepF rows s = some (stepR (foldX rowS rows s))
  | [], s, _, _ => rfl
  | r :: rows, s, I, hr => by
    unfold forF
    have e : stepF r s = some (stepR (rowS s r)) := if_pos I
    rw [e]
    simp only [Option.bind_some]
    unfold foldX
    cases e : rowS s r with
    | er x => rfl
    | ok s1 => exact stepF_all rows s1 (row_inv I (hr r List.mem_cons_self) e) fun x hx => hr x (List.mem_cons_of_mem _ hx)
theorem rows_ok {z : Str} (hk : EqD.ok z = true) (hz : z.length ≤ 16000000) : ∀ r ∈ Txt.split z "\n", RowOk r := fun r hr => by
  have hsp := split_sub (x := z) (y := ("\n" : Str)) (by decide +kernel) (by decide +kernel)
  exact ⟨(hsp.1 r hr).ok hk, Nat.le_trans (hsp.1 r hr).1 hz⟩
/-! ### a text in a text; what a law's defs call -/
def subIn (x z : Str) : Bool := !(PySem.Builtin.Str.occurrences z x 0 z.length 1).isEmpty
theorem subIn_one {x z : Str} (h : x.length = 1) : subIn x z = sgIn x z := by
  obtain ⟨⟨l⟩⟩ := x
  have h : l.length = 1 := h
  obtain ⟨c, rfl⟩ : ∃ c, l = [c] := by
    match l, h with
    | [c], _ => exact ⟨c, rfl⟩
  exact PySem.StrLaws.found_one z c
def rInStr : R2 := fun x y H Q => ∃ i j, x = .str i ∧ y = .str j ∧ Q (.bl (!(PySem.Builtin.Str.occurrences j i 0 j.length 1).isEmpty)) H
def rNotInStr : R2 := fun x y H Q => ∃ i j, x = .str i ∧ y = .str j ∧ Q (.bl (!(!(PySem.Builtin.Str.occurrences j i 0 j.length 1).isEmpty))) H
theorem op_inStr {X : Cx} : OpR X (compareOp .In) rInStr := op_in_str
theorem op_notInStr {X : Cx} : OpR X (compareOp .NotIn) rNotInStr := op_notin_str
def splitO (z b : Str) : Option (List Str) := if z.length ≤ 16000000 ∧ (b.length == 0) = false then some (Txt.split z b) else none
section
variable {K : Fg} {ta tb : TE} {ρ : List Sl} {O O1 O2 : Os}
theorem rx_inStr {x z : Str} (ha : RX K ta ρ O (.str x) O1) (hb : RX K tb ρ O1 (.str z) O2) : RX K (tOp rInStr ta tb) ρ O (.bool (subIn x z)) O2 := rx_op ha hb fun F H u v Q _ rx ry k => by
  cases rx
  cases ry
  exact ⟨x, z, rfl, rfl, k _ (.bl _)⟩
theorem rx_notInStr {x z : Str} (ha : RX K ta ρ O (.str x) O1) (hb : RX K tb ρ O1 (.str z) O2) : RX K (tOp rNotInStr ta tb) ρ O (.bool (!subIn x z)) O2 := rx_op ha hb fun F H u v Q _ rx ry k => by
  cases rx
  cases ry
  exact ⟨x, z, rfl, rfl, k _ (.bl _)⟩
theorem rxo_splitO {z b : Str} {l : List Str} (h : splitO z b = some l) (ha : RX K ta ρ O (.str z) O1) (hbb : RX K tb ρ O1 (.str b) O2) :
    RXo K (tM1 (fun x xs H Q => ∃ a b, x = .str a ∧ xs = [.str b] ∧ (b.length == 0) = false ∧ a.length + 2 ≤ sizeLine ∧ rNewStrs (Txt.split a b) H Q) ta tb) ρ O (l.map enc) O2 := by
  unfold splitO at h
  split at h
  · rename_i c
    cases h
    exact rxo_split c.2 (by omega) ha hbb
  · cases h
end
def signsO (z : Str) : Option (List Str) := if z.length ≤ 16777216 then some (signs z) else none
theorem ri_strO {K : Fg} {ta : TE} {ρ : List Sl} {O O1 : Os} {z : Str} {l : List Str} (h : signsO z = some l) (ha : RX K ta ρ O (.str z) O1) : RI K (iStr ta) ρ O (l.map enc) O1 := by
  unfold signsO at h
  split at h
  · rename_i c
    cases h
    exact ri_str (by rw [sizeLine_eq]; exact c) ha
  · cases h
def m_is_name (z : Str) : Option Bool := if z.length ≤ 16777216 ∧ EqD.ok z = true then some (isNameB z) else none
def R_is_name : List PyData → PyData → Prop := fun ds d => ∃ (z : Str) (r : Bool), ds = [enc z] ∧ d = enc r ∧ m_is_name z = some r
abbrev NetT : Type := T3 (List (Str × Int)) (List (T3 Str (Tp Int) Bool)) (List (Str × Tp Int))
def m_read (z : Str) : Option (Rx NetT) := if z.length ≤ 16000000 ∧ EqD.ok z = true then some (readX z) else none
def R_read : List PyData → Rx PyData → Prop := fun ds r => ∃ (z : Str) (y : Rx NetT), ds = [enc z] ∧ r = y.map enc ∧ m_read z = some y
def RT_read : List PyData → List (List PyData) → Prop := fun ds ess => ∃ (z : Str) (y : NetT), ds = [enc z] ∧ ess = [y.a.map enc, y.b.map enc, y.c.map enc] ∧ okO (m_read z) = some y
/-- a new list of ints that is reckoned from what stands -/
theorem rxo_wholeI {K : Fg} {te : TE} {ρ ρ' : List Sl} {O : Os} {ns : List Int} (w : Vw O ρ ρ') (h : RXo K te ρ' [] (ns.map enc) []) : RXo K te ρ O (ns.map enc) O := ⟨fun F0 H0 D0 σ F H Q E S k => by
  refine h.run _ _ _ _ _ _ Q (E.whole w S) (Hx.start (Same.refl H)) fun p F' H' f S' => ?_
  have st := S'.stp
  have keep : Same H H' := fun a o q => st.keep a o q (by simp)
  obtain ⟨o1, o2, _, xs, o3, o4, o5⟩ := S'.own _ (List.mem_singleton.mpr rfl)
  have o5 : RpAll K F' xs (ns.map PyData.int) := o5
  have e := RpAll.ints o5
  have T := S.inT (ps := [p]) (ess := [ns.map PyData.int]) ⟨Same.refl F, S.fh.trans keep, st.keep, st.live, fun _ _ _ q => q⟩ rfl (by simp) fun i q es h1 h2 => by
    match i, h1, h2 with
    | 0, h1, h2 =>
      obtain rfl := Option.some.inj h1
      obtain rfl := Option.some.inj h2
      exact ⟨o2 rfl, S.nof (o2 rfl), xs, o3, o4, by rw [e]; exact RpAll.of_ints ns⟩
  exact k p F H' (Same.refl _) T⟩
/-! ### likeness of plain data without None -/
mutual
inductive SiM : Nat → PyData → PyData → Bool → Prop
  | int {n : Nat} (i j : Int) : SiM n (.int i) (.int j) (decide (i = j))
  | bool {n : Nat} (i j : Bool) : SiM n (.bool i) (.bool j) (decide (i = j))
  | str {n : Nat} (i j : Str) : SiM n (.str i) (.str j) (decide (i = j))
  | list {n : Nat} {xs ys : List PyData} {b : Bool} (h : SiMAll n xs ys b) : SiM (n + 1) (.list xs) (.list ys) (decide (xs.length = ys.length) && b)
  | tuple {n : Nat} {xs ys : List PyData} {b : Bool} (h : SiMAll n xs ys b) : SiM (n + 1) (.tuple xs) (.tuple ys) (decide (xs.length = ys.length) && b)
inductive SiMAll : Nat → List PyData → List PyData → Bool → Prop
  | nil {n : Nat} (ys : List PyData) : SiMAll n [] ys true
  | nil' {n : Nat} (xs : List PyData) : SiMAll n xs [] true
  | cons {n : Nat} {x y : PyData} {xs ys : List PyData} {b c : Bool} (h : SiM n x y b) (t : SiMAll n xs ys c) : SiMAll n (x :: xs) (y :: ys) (b && c)
end
mutual
theorem SiM.mono {n m : Nat} {x y : PyData} {b : Bool} (h : SiM n x y b) (e : n ≤ m) : SiM m x y b := by
  cases h with
  | int i j => exact .int i j
  | bool i j => exact .bool i j
  | str i j => exact .str i j
  | list h =>
    cases m with
    | zero => omega
    | succ m => exact .list (SiMAll.mono h (by omega))
  | tuple h =>
    cases m with
    | zero => omega
    | succ m => exact .tuple (SiMAll.mono h (by omega))
theorem SiMAll.mono {n m : Nat} {xs ys : List PyData} {b : Bool} (h : SiMAll n xs ys b) (e : n ≤ m) : SiMAll m xs ys b := by
  cases h with
  | nil ys => exact .nil ys
  | nil' xs => exact .nil' xs
  | cons h t => exact .cons (SiM.mono h e) (SiMAll.mono t e)
end
class SiMT (α : Type) [Enc α] [DecidableEq α] where
  dp : Nat
  ok : ∀ x y : α, SiM dp (enc x) (enc y) (decide (x = y))
instance : SiMT Int := ⟨0, fun x y => .int x y⟩
instance : SiMT Bool := ⟨0, fun x y => .bool x y⟩
instance : SiMT Str := ⟨0, fun x y => .str x y⟩
theorem siMAll_map {α : Type} [Enc α] [DecidableEq α] [s : SiMT α] : ∀ xs ys : List α, ∃ b, SiMAll (SiMT.dp α) (xs.map enc) (ys.map enc) b ∧ (decide (xs.length = ys.length) && b) = decide (xs = ys)
  | [], ys => ⟨true, .nil _, by cases ys <;> simp⟩
  | x :: xs, [] => ⟨true, .nil' _, by simp⟩
  | x :: xs, y :: ys => by
    obtain ⟨b, h, e⟩ := siMAll_map xs ys
    refine ⟨_, .cons (SiMT.ok x y) h, ?_⟩
    have e1 : decide (x :: xs = y :: ys) = (decide (x = y) && decide (xs = ys)) := by simp
    rw [e1, ← e]
    have e2 : decide ((x :: xs).length = (y :: ys).length) = decide (xs.length = ys.length) := by simp
    rw [e2]
    cases decide (x = y) <;> cases decide (xs.length = ys.length) <;> cases b <;> rfl
instance {α : Type} [Enc α] [DecidableEq α] [SiMT α] : SiMT (List α) := ⟨SiMT.dp α + 1, fun xs ys => by
  obtain ⟨b, h, e⟩ := siMAll_map xs ys
  have := SiM.list h
  rw [List.length_map, List.length_map, e] at this
  exact this⟩
instance {α : Type} [Enc α] [DecidableEq α] [SiMT α] : SiMT (Tp α) := ⟨SiMT.dp α + 1, fun xs ys => by
  obtain ⟨xs⟩ := xs
  obtain ⟨ys⟩ := ys
  obtain ⟨b, h, e⟩ := siMAll_map xs ys
  have := SiM.tuple h
  rw [List.length_map, List.length_map, e] at this
  have e2 : decide (Tp.mk xs = Tp.mk ys) = decide (xs = ys) := by simp
  rw [e2]
  exact this⟩
instance {α β : Type} [Enc α] [DecidableEq α] [SiMT α] [Enc β] [DecidableEq β] [SiMT β] : SiMT (α × β) := ⟨SiMT.dp α + SiMT.dp β + 1, fun x y => by
  obtain ⟨a, b⟩ := x
  obtain ⟨c, d⟩ := y
  have := SiM.tuple (.cons ((SiMT.ok a c).mono (Nat.le_add_right _ _)) (.cons ((SiMT.ok b d).mono (Nat.le_add_left _ _)) (.nil [])))
  have e2 : decide ((a, b) = (c, d)) = (decide ([enc a, enc b].length = [enc c, enc d].length) && (decide (a = c) && (decide (b = d) && true))) := by simp [Bool.decide_and]
  rw [e2]
  exact this⟩
instance {α β γ : Type} [Enc α] [DecidableEq α] [SiMT α] [Enc β] [DecidableEq β] [SiMT β] [Enc γ] [DecidableEq γ] [SiMT γ] : SiMT (T3 α β γ) := ⟨SiMT.dp α + SiMT.dp β + SiMT.dp γ + 1, fun x y => by
  obtain ⟨a, b, c⟩ := x
  obtain ⟨a', b', c'⟩ := y
  have := SiM.tuple (.cons ((SiMT.ok a a').mono (by omega : SiMT.dp α ≤ SiMT.dp α + SiMT.dp β + SiMT.dp γ)) (.cons ((SiMT.ok b b').mono (by omega)) (.cons ((SiMT.ok c c').mono (by omega)) (.nil []))))
  have e2 : decide (T3.mk a b c = T3.mk a' b' c') = (decide ([enc a, enc b, enc c].length = [enc a', enc b', enc c'].length) && (decide (a = a') && (decide (b = b') && (decide (c = c') && true)))) := by simp [Bool.decide_and]
  rw [e2]
  exact this⟩
def SiMR (n : Nat) : List PyData → PyData → Prop := fun ds d => ∃ x y b, ds = [x, y] ∧ SiM n x y b ∧ d = .bool b
theorem SiMAll.all {n : Nat} {xs ys : List PyData} {b : Bool} (h : SiMAll n xs ys b) : ∃ zs : List (PyData × PyData × Bool), zs.map (fun t => PyData.tuple [t.1, t.2.1]) = zipD xs ys ∧ (∀ t ∈ zs, SiM n t.1 t.2.1 t.2.2) ∧ (zs.map (·.2.2)).all id = b := by
  induction xs generalizing ys b with
  | nil => cases h; exact ⟨[], rfl, fun t e => by simp at e, rfl⟩; exact ⟨[], rfl, fun t e => by simp at e, rfl⟩
  | cons x xs ih =>
    cases h with
    | nil' => exact ⟨[], rfl, fun t e => by simp at e, rfl⟩
    | @cons _ _ y _ ys b c h t =>
      obtain ⟨zs, h1, h2, h3⟩ := ih t
      refine ⟨(x, y, b) :: zs, ?_, fun t ht => ?_, by rw [List.map_cons, List.all_cons, h3]; rfl⟩
      · rw [List.map_cons, h1]; rfl
      · rcases List.mem_cons.mp ht with e | ht
        · subst e; exact h
        · exact h2 t ht
end TL

namespace TL
open PySem L2
/-- it is told, and what is told is so -/
def Ok {α : Type} (m : Option α) (P : α → Prop) : Prop := ∃ r, m = some r ∧ P r
namespace Ok
variable {α β γ S R : Type}
theorem pure {P : α → Prop} {r : α} (h : P r) : Ok (some r) P := ⟨r, rfl, h⟩
theorem bind {m : Option α} {f : α → Option β} {P : α → Prop} {Q : β → Prop} (h : Ok m P) (k : ∀ r, P r → Ok (f r) Q) : Ok (m.bind f) Q := by
  obtain ⟨r, e, p⟩ := h
  subst e
  exact k r p
theorem bindE {m : Option α} {f : α → Option β} {P : α → Prop} {Q : β → Prop} (h : Ok m P) (k : ∀ r, m = some r → P r → Ok (f r) Q) : Ok (m.bind f) Q := by
  obtain ⟨r, e, p⟩ := h
  have := k r e p
  subst e
  exact this
theorem lt {x : α} {f : α → Option β} {Q : β → Prop} (k : Ok (f x) Q) : Ok ((some x).bind f) Q := k
theorem mono {m : Option α} {P Q : α → Prop} (h : Ok m P) (k : ∀ r, P r → Q r) : Ok m Q := by
  obtain ⟨r, e, p⟩ := h
  exact ⟨r, e, k r p⟩
theorem ite {c : Prop} [Decidable c] {a b : Option α} {Q : α → Prop} (h : c → Ok a Q) (k : ¬c → Ok b Q) : Ok (if c then a else b) Q := by
  split
  · exact h ‹_›
  · exact k ‹_›
theorem eqv {m : Option α} {P : α → Prop} {v : α} (h : Ok m P) (k : ∀ r, P r → r = v) : m = some v := by
  obtain ⟨r, e, p⟩ := h
  rw [e, k r p]
theorem forS {f : α → S → Option S} (I : S → Prop) : ∀ (xs : List α) (s : S), I s → (∀ x ∈ xs, ∀ s, I s → Ok (f x s) I) → Ok (forS f xs s) I
  | [], s, h, _ => ⟨s, rfl, h⟩
  | x :: xs, s, h, k => bind (k x (List.mem_cons_self ..) s h) fun s' h' => Ok.forS I xs s' h' fun y hy => k y (List.mem_cons_of_mem _ hy)
/-- the state by what was gone through -/
theorem forSd {f : α → S → Option S} (I : List α → S → Prop) : ∀ (xs ds : List α) (s : S), I ds s → (∀ x ds rs s, I ds s → ds ++ x :: rs = ds ++ xs.drop (ds.length - ds.length) ∨ True → x ∈ xs → Ok (f x s) (I (ds ++ [x]))) → Ok (TL.forS f xs s) (I (ds ++ xs))
  | [], ds, s, h, _ => ⟨s, rfl, by rw [List.append_nil]; exact h⟩
  | x :: xs, ds, s, h, k => bind (k x ds xs s h (.inr trivial) (List.mem_cons_self ..)) fun s' h' => by
      have := Ok.forSd I xs (ds ++ [x]) s' h' fun y ds' rs s q _ m => k y ds' rs s q (.inr trivial) (List.mem_cons_of_mem _ m)
      rw [List.append_assoc] at this
      exact this
/-- the state by how many were gone through -/
theorem forSi {f : α → S → Option S} (I : Nat → S → Prop) : ∀ (xs : List α) (n : Nat) (s : S), I n s → (∀ (i : Nat) (x : α) (s : S), xs[i]? = some x → I (n + i) s → Ok (f x s) (I (n + i + 1))) → Ok (TL.forS f xs s) (I (n + xs.length))
  | [], n, s, h, _ => ⟨s, rfl, h⟩
  | x :: xs, n, s, h, k => bind (k 0 x s rfl h) fun s' h' => by
      have := Ok.forSi I xs (n + 1) s' h' fun i y s e q => by
        have := k (i + 1) y s e (by rw [show n + (i + 1) = n + 1 + i by omega]; exact q)
        rw [show n + (i + 1) + 1 = n + 1 + i + 1 by omega] at this
        exact this
      rw [show n + 1 + xs.length = n + (x :: xs).length by simp; omega] at this
      exact this
/-- gone through whole -/
theorem forF {f : α → S → Option (Fl S R)} (I : S → Prop) : ∀ (xs : List α) (s : S), I s → (∀ x ∈ xs, ∀ s, I s → Ok (f x s) fun r => ∃ s', r = .nx s' ∧ I s') → Ok (forF f xs s) fun r => ∃ s', r = .nx s' ∧ I s'
  | [], s, h, _ => ⟨.nx s, rfl, s, rfl, h⟩
  | x :: xs, s, h, k => by
    obtain ⟨r, e, s', rfl, h'⟩ := k x (List.mem_cons_self ..) s h
    have := Ok.forF I xs s' h' fun y hy => k y (List.mem_cons_of_mem _ hy)
    unfold TL.forF
    rw [e]
    exact this
theorem mapO {f : α → Option β} {P : α → β → Prop} : ∀ (xs : List α), (∀ x ∈ xs, Ok (f x) (P x)) → Ok (mapO f xs) fun ys => ys.length = xs.length ∧ ∀ (i : Nat) x y, xs[i]? = some x → ys[i]? = some y → P x y
  | [], _ => ⟨[], rfl, rfl, fun i x y h => by simp at h⟩
  | x :: xs, h => bind (h x (List.mem_cons_self ..)) fun y hy => bind (Ok.mapO xs fun z hz => h z (List.mem_cons_of_mem _ hz)) fun ys hys => ⟨_, rfl, by simp [hys.1], fun i u v hu hv => by
    cases i with
    | zero => simp at hu hv; subst hu; subst hv; exact hy
    | succ i => exact hys.2 i u v hu hv⟩
theorem mapS {f : α → S → Option (β × S)} (P : α → β → Prop) (I : S → Prop) : ∀ (xs : List α) (s : S), I s → (∀ x ∈ xs, ∀ s, I s → Ok (f x s) fun r => P x r.1 ∧ I r.2) → Ok (mapS f xs s) fun r => I r.2 ∧ r.1.length = xs.length ∧ ∀ (i : Nat) x y, xs[i]? = some x → r.1[i]? = some y → P x y
  | [], s, h, _ => ⟨([], s), rfl, h, rfl, fun i x y h => by simp at h⟩
  | x :: xs, s, h, k => bind (k x (List.mem_cons_self ..) s h) fun r hr => bind (Ok.mapS P I xs r.2 hr.2 fun z hz => k z (List.mem_cons_of_mem _ hz)) fun ys hys => ⟨_, rfl, hys.1, by simp [hys.2.1], fun i u v hu hv => by
    cases i with
    | zero => simp at hu hv; subst hu; subst hv; exact hr.1
    | succ i => exact hys.2.2 i u v hu hv⟩
theorem atI {xs : List α} {i : Int} (h0 : 0 ≤ i) (h1 : i < xs.length) : Ok (atI xs i) fun x => xs[i.toNat]? = some x := by
  unfold L2.atI ixN
  rw [if_pos h0, if_pos h1]
  have : i.toNat < xs.length := by omega
  exact ⟨xs[i.toNat], by simp [this], by simp [this]⟩
theorem atIN {xs : List α} {i : Int} (h0 : i < 0) (h1 : 0 ≤ i + xs.length) : Ok (L2.atI xs i) fun x => xs[(i + xs.length).toNat]? = some x := by
  unfold L2.atI ixN
  rw [if_neg (by omega), if_pos (by omega)]
  have : (i + xs.length).toNat < xs.length := by omega
  exact ⟨xs[(i + xs.length).toNat], by simp [this], by simp [this]⟩
theorem setO {xs : List α} {i : Int} {x : α} (h0 : 0 ≤ i) (h1 : i < xs.length) : Ok (setO xs i x) fun r => r = xs.set i.toNat x := by
  unfold TL.setO ixN
  rw [if_pos h0, if_pos h1]
  exact ⟨_, rfl, rfl⟩
theorem appO {xs : List α} {x : α} (h : xs.length < 16777216) : Ok (appO xs x) fun r => r = xs ++ [x] := by
  unfold TL.appO
  rw [if_pos h]
  exact ⟨_, rfl, rfl⟩
theorem modO {i j : Int} (h : 0 < j) : Ok (modO i j) fun r => r = i % j ∧ 0 ≤ r ∧ r < j := by
  unfold TL.modO
  rw [if_pos h]
  exact ⟨_, rfl, rfl, Int.emod_nonneg _ (by omega), Int.emod_lt_of_pos _ h⟩
theorem fdivO {i j : Int} (h : 0 < j) (h1 : j < 1073741824) : Ok (fdivO i j) fun r => r = i / j := by
  unfold TL.fdivO
  rw [if_pos ⟨h, h1⟩]
  exact ⟨_, rfl, rfl⟩
theorem mulO {i j : Int} (h : -18446744073709551616 < i) (h1 : i < 18446744073709551616) : Ok (mulO i j) fun r => r = i * j := by
  unfold TL.mulO
  rw [if_pos (.inl ⟨h, h1⟩)]
  exact ⟨_, rfl, rfl⟩
theorem rngO {n : Int} (h : -4611686018427387904 ≤ n) (h1 : n ≤ 16777216) : Ok (rngO n) fun r => r = rngL 0 n.toNat := by
  unfold TL.rngO
  rw [if_pos ⟨h, h1⟩]
  exact ⟨_, rfl, rfl⟩
theorem repO1 {x : α} {i : Int} (h : -9223372036854775808 ≤ i) (h1 : i ≤ 16777216) : Ok (repO [x] i) fun r => r = List.replicate i.toNat x := by
  unfold TL.repO
  rw [if_pos ⟨by simp; omega, by omega, by omega⟩]
  refine ⟨_, rfl, ?_⟩
  generalize i.toNat = n
  induction n with
  | zero => rfl
  | succ n ih => rw [List.replicate_succ, List.replicate_succ, List.flatten_cons, ih]; rfl
theorem maxO {xs : List Int} (h : xs ≠ []) : Ok (maxO xs) fun m => m ∈ xs ∧ ∀ x ∈ xs, x ≤ m := by
  unfold TL.maxO
  cases e : xs.max? with
  | none => rw [List.max?_eq_none_iff] at e; exact absurd e h
  | some m =>
    rw [List.max?_eq_some_iff] at e
    exact ⟨m, rfl, e⟩
theorem eqO [Enc α] [DecidableEq α] [EqD α] {x y : α} (h : EqD.ok x = true) (h1 : EqD.ok y = true) : Ok (eqO x y) fun r => r = decide (x = y) := by
  unfold TL.eqO
  rw [if_pos ⟨h, h1⟩]
  exact ⟨_, rfl, rfl⟩
end Ok
theorem mem_rngL {x lo : Int} {n : Nat} : x ∈ rngL lo n ↔ lo ≤ x ∧ x < lo + n := by
  unfold rngL
  rw [List.mem_map]
  constructor
  · rintro ⟨i, hi, rfl⟩
    rw [List.mem_range] at hi
    omega
  · rintro ⟨h1, h2⟩
    exact ⟨(x - lo).toNat, List.mem_range.mpr (by omega), by omega⟩
theorem rngL_get {x lo : Int} {n i : Nat} (h : (rngL lo n)[i]? = some x) : i < n ∧ x = lo + i := by
  unfold rngL at h
  rw [List.getElem?_map] at h
  have hi : i < n := by
    rcases Nat.lt_or_ge i n with q | q
    · exact q
    · rw [List.getElem?_eq_none (by simp; exact q)] at h; cases h
  rw [List.getElem?_eq_getElem (by simp; exact hi)] at h
  simp at h
  exact ⟨hi, h.symm⟩
theorem mem_get {α : Type} {xs : List α} {x : α} (h : x ∈ xs) : ∃ i : Nat, xs[i]? = some x := List.mem_iff_getElem?.mp h
theorem get_mem {α : Type} {xs : List α} {x : α} {i : Nat} (h : xs[i]? = some x) : x ∈ xs := List.mem_iff_getElem?.mpr ⟨i, h⟩
theorem get_lt {α : Type} {xs : List α} {x : α} {i : Nat} (h : xs[i]? = some x) : i < xs.length := by
  rcases Nat.lt_or_ge i xs.length with q | q
  · exact q
  · rw [List.getElem?_eq_none q] at h; cases h
theorem lt_get {α : Type} {xs : List α} {i : Nat} (h : i < xs.length) : ∃ x, xs[i]? = some x := ⟨xs[i], List.getElem?_eq_getElem h⟩
theorem cutL_to {α : Type} (xs : List α) (n : Int) (h : 0 ≤ n) : cutL xs none (some n) = xs.take n.toNat := by
  unfold cutL HT.sIx
  simp only
  rw [if_neg (by omega)]
  simp only [List.drop_zero, Nat.sub_zero]
  rcases Nat.le_total n.toNat xs.length with q | q
  · rw [Nat.min_eq_left q]
  · rw [Nat.min_eq_right q, List.take_of_length_le (Nat.le_refl _), List.take_of_length_le q]
/-- each y of the told list belongs to an x -/
theorem all_of {α β : Type} {xs : List α} {ys : List β} {P : α → β → Prop} (hl : ys.length = xs.length) (h : ∀ (i : Nat) x y, xs[i]? = some x → ys[i]? = some y → P x y) : ∀ y ∈ ys, ∃ x ∈ xs, P x y := fun y hy => by
  obtain ⟨i, e⟩ := mem_get hy
  obtain ⟨x, ex⟩ := lt_get (xs := xs) (i := i) (by rw [← hl]; exact get_lt e)
  exact ⟨x, get_mem ex, h i x y ex e⟩
theorem all_to {α β : Type} {xs : List α} {ys : List β} {P : α → β → Prop} (hl : ys.length = xs.length) (h : ∀ (i : Nat) x y, xs[i]? = some x → ys[i]? = some y → P x y) : ∀ x ∈ xs, ∃ y ∈ ys, P x y := fun x hx => by
  obtain ⟨i, e⟩ := mem_get hx
  obtain ⟨y, ey⟩ := lt_get (xs := ys) (i := i) (by rw [hl]; exact get_lt e)
  exact ⟨y, get_mem ey, h i x y e ey⟩
end TL
namespace TL
theorem mem_dec {α : Type} (P : α → Prop) [DecidablePred P] {xs : List α} (h : xs.all (fun x => decide (P x)) = true) : ∀ x ∈ xs, P x := fun x hx => of_decide_eq_true (List.all_eq_true.mp h x hx)
end TL
namespace TL
open PySem L2
/-- an item of a list of whole numbers, 0 outside -/
def at0 (D : List Int) (i : Int) : Int := (D[i.toNat]?).getD 0
theorem at0_of {D : List Int} {i : Int} {x : Int} (h : D[i.toNat]? = some x) : at0 D i = x := by unfold at0; rw [h]; rfl
theorem at0_app (D : List Int) (x i : Int) (h0 : 0 ≤ i) : at0 (D ++ [x]) i = if i < D.length then at0 D i else if i = D.length then x else 0 := by
  unfold at0
  rw [List.getElem?_append]
  split
  · rw [if_pos (by omega)]
  · rw [if_neg (by omega)]
    split
    · rename_i h; rw [show i.toNat - D.length = 0 by omega]; rfl
    · rw [List.getElem?_eq_none (by simp; omega)]; rfl
theorem at0_set (D : List Int) (x i j : Int) (h0 : 0 ≤ i) (h1 : i < D.length) (h2 : 0 ≤ j) : at0 (D.set i.toNat x) j = if j = i then x else at0 D j := by
  unfold at0
  rw [List.getElem?_set]
  by_cases e : j = i
  · subst e; rw [if_pos rfl, if_pos rfl, if_pos (by omega)]; rfl
  · rw [if_neg (by omega), if_neg e]
theorem at0_rep (n : Nat) (x i : Int) (h0 : 0 ≤ i) (h1 : i < n) : at0 (List.replicate n x) i = x := by
  unfold at0
  rw [List.getElem?_replicate, if_pos (by omega)]; rfl
theorem Ok.at0 {xs : List Int} {i : Int} (h0 : 0 ≤ i) (h1 : i < xs.length) : Ok (L2.atI xs i) fun x => x = at0 xs i := (Ok.atI h0 h1).mono fun x h => (at0_of h).symm
theorem rngC_get {a c x : Int} {n i : Nat} (h : (rngC a c n)[i]? = some x) : i < n ∧ x = a + i * c := by
  unfold rngC at h
  rw [List.getElem?_map] at h
  have hi : i < n := by
    rcases Nat.lt_or_ge i n with q | q
    · exact q
    · rw [List.getElem?_eq_none (by simp; exact q)] at h; cases h
  rw [List.getElem?_eq_getElem (by simp; exact hi)] at h
  simp at h
  exact ⟨hi, h.symm⟩
theorem rngC_length (a c : Int) (n : Nat) : (rngC a c n).length = n := by unfold rngC; simp
theorem Ok.rngDownO {a b : Int} (h1 : -16777216 ≤ a) (h2 : a ≤ 16777216) (h3 : -16777216 ≤ b) (h4 : b ≤ 16777216) (h5 : a - b ≤ 16777216) : Ok (rngDownO a b) fun r => r = rngC a (-1) (a - b).toNat := by
  unfold TL.rngDownO
  rw [if_pos ⟨h1, h2, h3, h4, h5⟩]
  exact ⟨_, rfl, rfl⟩
end TL

set_option synthInstance.maxHeartbeats 400000
set_option synthInstance.maxSize 2000
namespace W
open PySem L2 TL
open Enc
def top (i : Nat) : Stmt := PySem.Challenge.pw_bearfaults_k02_whole_nets_read.main.body.getD i (.Pass ⟨0, 0, 0, 0⟩)
/-! ### the reader's defs -/
def Rr_is_name : List PyData → PyData → Prop := fun ds d => ∃ z : Str, ds = [.str z] ∧ d = .bool (isNameB z) ∧ z.length ≤ 16777216 ∧ EqD.ok z = true
def Rr_named : List PyData → Rx PyData → Prop := fun ds r => ∃ z : Str, ds = [.str z] ∧ r = (namedX z).map .str ∧ z.length ≤ 16777216 ∧ EqD.ok z = true
def Rr_wire : List PyData → Rx PyData → Prop := fun ds r => ∃ z : Str, ds = [.str z] ∧ r = (wireX z).map .str ∧ z.length ≤ 16777216 ∧ EqD.ok z = true
section
variable {P : Program} {w : World} {K : Fg} {mg : Str → Option Value} {base : Heap} {cB cW cL cR : Addr}
theorem sc_is_name : FnScope ["word", "sign"] ["word"] (defScope (top 21)) := ⟨rfl, rfl, rfl, by decide +kernel, rfl, by decide +kernel, by decide +kernel⟩
theorem ok_is_name (R : RdC K w mg cB cW cL cR) (D : Dfn K mg "is_name" (top 21) ["word"]) : Cal P w K mg base 1 "is_name" ["word"] (SpP K Rr_is_name) := by
  refine D.cal sc_is_name (sp_len fun ds d h => by obtain ⟨_, rfl, _⟩ := h; rfl) fun f cdv A outer s H vs Q E hr h => ?_
  refine ⟨_, (pss_cons (ps_if (PW.pt (pw_or (pt_not (pt_chain op_le op_le pe_int (pe_callB call_len_str (by rfl) R.len PySem.boot_len (pa_cons (pv 0) pa_nil)) (pe_gint R.long))) (pw_or1 (pt_cmpR (k_in_seq K) (pv 0) (pe_glob (v := .ref cB) (by rfl) R.tB rfl) (by rfl))))) (pss_one (ps_ret pe_bl)) pss_nil)
    (pss_one (ps_ret (pe_cmpR (k_eqD K hr.units) (pe_lc (own := [(("sign" : Str), 1)]) (g := (gName 1)) rfl sc_is_name.nd (pi_str (pv 0)) (blkOk_by (by kernel_rfl)) (fun _ _ _ _ _ => (pg_name (i := 1) sc_is_name.nd rfl (Or.inl rfl))) (fun _ _ _ _ _ => (pts_one (pt_cmpR op_notInS (pv 1) (pe_gstr R.lett) (by rfl)))) (fun _ _ _ _ _ => (pv 1))) (pe_lst pa_nil) (nomark _))))), ?_⟩
  obtain ⟨F, ds, d, hw, hF, ⟨z, rfl, rfl, hz, hk⟩, k⟩ := h
  have E : EnvR K F _ [.val (.str z), .un] := EnvR.start (N := ["word", "sign"]) (AsR.of_all hw)
  have S := Hx.start (K := K) hF
  have hz2 : z.length ≤ sizeLine := by rw [sizeLine_eq]; exact hz
  have hl : lenO z = some (z.length : Int) := if_pos hz
  generalize hb : ((!(decide ((1 : Int) ≤ z.length) && decide ((z.length : Int) ≤ 8))) || decide (z ∈ BARR)) = b
  with_reducible refine sq ?_
  refine st_if (b := b) (by rw [← hb]; exact rt_or2 (rt_not (rt_val (rx_chLE rx_int (rx_lenO hl (rx_var (d := .str z) rfl)) rx_int))) (rt_val (rx_inST (neg := false) (rx_var (d := .str z) rfl) (rx_gtup R.sB)))) E S (fun hc F H f E S => ?_) (fun hc F H f E S => ?_)
  · refine st_ret (d := .bool false) rx_bl E S fun v F H f S r => ?_
    refine k v F H S.stp ?_
    unfold isNameB
    rw [hb, hc, if_pos rfl]
    exact r
  · refine nxt ?_
    try (with_reducible refine nxD ?_)
    refine st_ret (d := .bool (decide ((signs z).filter (fun x => !sgIn x LETT) = []))) (rx_eqD (x := (signs z).filter (fun x => !sgIn x LETT)) (y := ([] : List Str)) (RXs.h (RXo.s (by
        have q := rxo_filt (K := K) (eα := (enc : Str → PyData)) (eβ := (enc : Str → PyData)) (p := fun x => !sgIn x LETT) (f := fun x => x) (vs := [1]) (g := gName 1) (xs := signs z) (fun x => [.val (.str z), .val (.str x)]) [1] (ri_str hz2 (rx_var (ρ := [.val (.str z), .un]) (O := []) (i := 0) (d := .str z) rfl)) (by decide) (fun x _ => (rg_name (i := 1) (d := .str x))) (fun x hx D9 acc10 => (rt_val (rx_sgNotIn (signs_len hx) (rx_var (i := 1) (d := .str x) rfl) (rx_str (x := LETT))))) (fun x _ D9 acc10 => (rx_var (i := 1) (d := .str x) rfl))
        rw [List.map_id'] at q
        exact q))) (RXs.h (RXo.s (rxo_lst (ds := []) ra_nil))) (by decide) (filt_ok _ (signs_ok hk)) rfl) E S fun v F H f S r => ?_
    refine k v F H S.stp ?_
    unfold isNameB
    rw [hb, hc, if_neg (by decide)]
    exact r
theorem sc_named : FnScope ["word"] ["word"] (defScope (top 22)) := ⟨rfl, rfl, rfl, by decide +kernel, rfl, by decide +kernel, by decide +kernel⟩
theorem ok_named (R : RdC K w mg cB cW cL cR) (D : Dfn K mg "named" (top 22) ["word"]) (C_is_name : Cal P w K mg base 1 "is_name" ["word"] (SpP K Rr_is_name)) : CalX P w K mg base 2 "named" ["word"] (SpX K mg Rr_named) := by
  obtain ⟨cf, xf⟩ := R.xNoForm
  refine D.calX sc_named (spx_len fun ds d h => by obtain ⟨_, rfl, _⟩ := h; rfl) fun f cdv A outer s H vs Q E hr h => ?_
  refine ⟨_, (pss_cons (ps_if (pt_not (pt_val (pe_cal C_is_name hr (pa_cons (pv 0) pa_nil)))) (pss_one (ps_raiseE xf (takes_of rfl rfl rfl rfl))) pss_nil) (pss_one (ps_ret (pv 0)))), ?_⟩
  obtain ⟨F, ds, r, hw, hF, ⟨z, rfl, rfl, hz, hk⟩, k⟩ := h
  have E : EnvR K F _ [.val (.str z)] := EnvR.start (N := ["word"]) (AsR.of_all hw)
  have S := Hx.start (K := K) hF
  with_reducible refine sq ?_
  refine st_if (b := !isNameB z) (rt_not (rt_b (rx_call (ds := [.str z]) (d := .bool (isNameB z)) ⟨z, rfl, rfl, hz, hk⟩ (ra_cons (rx_var (d := .str z) rfl) ra_nil)))) E S (fun hc F H f E S => ?_) (fun hc F H f E S => ?_)
  · exact fun C hC => k.2 _ (by unfold namedX; rw [if_pos hc]; rfl) C hC _ _ S.stp
  · refine nxt ?_
    try (with_reducible refine nxD ?_)
    refine st_ret (d := .str z) (rx_var (d := .str z) rfl) E S fun v F H f S r => ?_
    exact k.1 _ (by unfold namedX; rw [if_neg (by rw [hc]; decide)]; rfl) v F H S.stp r
theorem sc_wire_told : FnScope ["word", "name", "colon", "place"] ["word"] (defScope (top 23)) := ⟨rfl, rfl, rfl, by decide +kernel, rfl, by decide +kernel, by decide +kernel⟩
theorem ok_wire_told (R : RdC K w mg cB cW cL cR) (D : Dfn K mg "wire_told" (top 23) ["word"]) (C_is_name : Cal P w K mg base 1 "is_name" ["word"] (SpP K Rr_is_name)) : CalX P w K mg base 2 "wire_told" ["word"] (SpX K mg Rr_wire) := by
  obtain ⟨cf, xf⟩ := R.xNoForm
  refine D.calX sc_wire_told (spx_len fun ds d h => by obtain ⟨_, rfl, _⟩ := h; rfl) fun f cdv A outer s H vs Q E hr h => ?_
  refine ⟨_, (pss_cons (ps_asg (pe_partition (pv 0) pe_str) (pg_tup rfl (pgs_cons (pg_name (i := 1) sc_wire_told.nd rfl (Or.inl rfl)) (pgs_cons (pg_name (i := 2) sc_wire_told.nd rfl (Or.inl rfl)) (pgs_cons (pg_name (i := 3) sc_wire_told.nd rfl (Or.inl rfl)) pgs_nil)))))
    (pss_cons (ps_if (PW.pt (pw_or (pt_not (pt_val (pe_cal C_is_name hr (pa_cons (pv 1) pa_nil)))) (pw_or1 (PW.pt (pw_and (pt_cmpR op_ne (pv 2) pe_str (nomark _)) (pw_and1 (PW.pt (pw_or (pt_cmpR op_ne (pe_callB call_len_str (by rfl) R.len PySem.boot_len (pa_cons (pv 3) pa_nil)) pe_int (nomark _)) (pw_or1 (pt_cmpR op_notInS (pv 3) (pe_gstr R.figs) (by rfl))))))))))) (pss_one (ps_raiseE xf (takes_of rfl rfl rfl rfl))) pss_nil)
    (pss_one (ps_ret (pv 0))))), ?_⟩
  obtain ⟨F, ds, r, hw, hF, ⟨z, rfl, rfl, hz, hk⟩, k⟩ := h
  have E : EnvR K F _ [.val (.str z), .un, .un, .un] := EnvR.start (N := ["word", "name", "colon", "place"]) (AsR.of_all hw)
  have S := Hx.start (K := K) hF
  obtain ⟨u1, u2⟩ := parted_sub z ":"
  have b1 : badWire z = (!isNameB (Txt.partition z ":").1 || ((!decide ((Txt.partition z ":").2.1 = "")) && ((!decide (((Txt.partition z ":").2.2.length : Int) = 1)) || !sgIn (Txt.partition z ":").2.2 FIGS))) := rfl
  with_reducible refine sq ?_
  refine st_unp (d := .tuple [.str (Txt.partition z ":").1, .str (Txt.partition z ":").2.1, .str (Txt.partition z ":").2.2]) (rx_parted (by decide +kernel) hz (rx_var (d := .str z) rfl) (rx_str (x := ":"))) (rg_tup (RGs.cons (rg_name (i := 1) (d := .str (Txt.partition z ":").1)) (RGs.cons (rg_name (i := 2) (d := .str (Txt.partition z ":").2.1)) (RGs.cons (rg_name (i := 3) (d := .str (Txt.partition z ":").2.2)) RGs.nil)))) E S fun σ F H f E S => ?_
  generalize (Txt.partition z ":").1 = p1 at E b1 u1
  generalize (Txt.partition z ":").2.1 = p2 at E b1
  generalize (Txt.partition z ":").2.2 = p3 at E b1 u2
  have E : EnvR K _ _ [.val (.str z), .val (.str p1), .val (.str p2), .val (.str p3)] := E
  have l3 : lenO p3 = some (p3.length : Int) := if_pos (Nat.le_trans u2.1 hz)
  try (with_reducible refine nxD ?_)
  with_reducible refine sq ?_
  refine st_if (b := badWire z) (by rw [b1]; exact rt_or2 (rt_not (rt_b (rx_call (ds := [.str p1]) (d := .bool (isNameB p1)) ⟨p1, rfl, rfl, Nat.le_trans u1.1 hz, u1.ok hk⟩ (ra_cons (rx_var (i := 1) (d := .str p1) rfl) ra_nil)))) (rt_and2 (rt_val (rx_nes (rx_var (i := 2) (d := .str p2) rfl) (rx_str (x := "")))) (rt_or (a := !decide ((p3.length : Int) = 1)) (rt_val (rx_nei (rx_lenO l3 (rx_var (i := 3) (d := .str p3) rfl)) rx_int)) (fun e => by
      have h1 : p3.length = 1 := by
        by_cases q : (p3.length : Int) = 1
        · omega
        · rw [decide_eq_false q] at e; cases e
      rw [e, Bool.false_or]
      exact rt_val (rx_sgNotIn h1 (rx_var (i := 3) (d := .str p3) rfl) (rx_str (x := FIGS)))) (fun e => ⟨by rw [e]; rfl, rfl⟩)))) E S (fun hc F H f E S => ?_) (fun hc F H f E S => ?_)
  · exact fun C hC => k.2 _ (by unfold wireX; rw [if_pos hc]; rfl) C hC _ _ S.stp
  · refine nxt ?_
    try (with_reducible refine nxD ?_)
    refine st_ret (d := .str z) (rx_var (d := .str z) rfl) E S fun v F H f S r => ?_
    exact k.1 _ (by unfold wireX; rw [if_neg (by rw [hc]; decide)]; rfl) v F H S.stp r
def Rr_row : List PyData → Rx PyData → Prop := fun ds r => ∃ z : Str, ds = [.str z] ∧ r = (rowX z).map Said.en ∧ z.length ≤ 16000000 ∧ EqD.ok z = true
theorem sc_row_told : FnScope ["row", "words", "word"] ["row"] (defScope (top 24)) := ⟨rfl, rfl, rfl, by decide +kernel, rfl, by decide +kernel, by decide +kernel⟩
theorem wid_int {z : Str} (h : z ∈ WIDS) : intO z = some (widI z) := by
  have : ∀ z ∈ WIDS, intO z = some (widI z) := by decide +kernel
  exact this z h
theorem ok_row_told (R : RdC K w mg cB cW cL cR) (D : Dfn K mg "row_told" (top 24) ["row"]) (CX_named : CalX P w K mg base 2 "named" ["word"] (SpX K mg Rr_named)) (CX_wire : CalX P w K mg base 2 "wire_told" ["word"] (SpX K mg Rr_wire)) : CalX P w K mg base 3 "row_told" ["row"] (SpX K mg Rr_row) := by
  obtain ⟨cf, xf⟩ := R.xNoForm
  refine D.calX sc_row_told (spx_len fun ds d h => by obtain ⟨_, rfl, _⟩ := h; rfl) fun f cdv A outer s H vs Q E0 hr h => ?_
  refine ⟨_, (pss_cons (ps_set (i := 1) sc_row_told.nd rfl (Or.inl rfl) (pe_split (pv 0) pe_str))
    (pss_cons (ps_if (PW.pt (pw_and (pt_cmpR op_eq (pe_ix (k_ix_list K) (pv 1) pe_int (fun _ _ => rfl)) pe_str (nomark _)) (pw_and (pt_cmpR op_eq (pe_callB (k_len_seq K) (by rfl) R.len PySem.boot_len (pa_cons (pv 1) pa_nil)) pe_int (nomark _)) (pw_and1 (pt_cmpR (k_in_seq K) (pe_ix (k_ix_list K) (pv 1) pe_int (fun _ _ => rfl)) (pe_glob (v := .ref cW) (by rfl) R.tW rfl) (by rfl))))))
      (pss_one (ps_ret (pe_tup (pa_cons pe_str (pa_cons (pe_calXE CX_named hr (pass_own (takes_of rfl rfl rfl rfl)) (pa_cons (pe_ix (k_ix_list K) (pv 1) pe_int (fun _ _ => rfl)) pa_nil)) (pa_cons (pe_callTy call_int_str (by rfl) R.int (by decide +kernel) (pa_cons (pe_ix (k_ix_list K) (pv 1) pe_int (fun _ _ => rfl)) pa_nil)) pa_nil)))))) pss_nil)
    (pss_cons (ps_if (PW.pt (pw_and (pt_cmpR (k_in_seq K) (pe_ix (k_ix_list K) (pv 1) pe_int (fun _ _ => rfl)) (pe_tup (pa_cons pe_str (pa_cons pe_str pa_nil))) (by rfl)) (pw_and (pt_cmpR op_gt (pe_callB (k_len_seq K) (by rfl) R.len PySem.boot_len (pa_cons (pv 1) pa_nil)) pe_int (nomark _)) (pw_and1 (pt_cmpR op_eq (pe_legs R.sL (pe_glob (v := .ref cL) (by rfl) R.tL rfl) (pe_ix (k_ix_list K) (pv 1) pe_int (fun _ _ => rfl)) pe_int ⟨by rfl, by rfl, by rfl, by rfl⟩) (pe_op op_sub (pe_callB (k_len_seq K) (by rfl) R.len PySem.boot_len (pa_cons (pv 1) pa_nil)) pe_int) (nomark _))))))
      (pss_one (ps_ret (pe_tup (pa_cons (pe_ix (k_ix_list K) (pv 1) pe_int (fun _ _ => rfl)) (pa_cons (pe_calXE CX_named hr (pass_own (takes_of rfl rfl rfl rfl)) (pa_cons (pe_ix (k_ix_list K) (pv 1) pe_int (fun _ _ => rfl)) pa_nil)) (pa_cons (pe_ix (k_ix_list K) (pv 1) pe_int (fun _ _ => rfl)) (pa_cons (pe_lcX (own := [(("word" : Str), 2)]) (g := (gName 2)) rfl rfl rfl sc_row_told.nd (k_pi_list K (pe_slice (k_sl_list K) (pv 1) (po_some pe_int) po_none)) (blkOk_by (by kernel_rfl)) (takes_of rfl rfl rfl rfl) (fun _ _ _ _ h => h) (fun _ _ _ _ _ _ => pg_name (i := 2) sc_row_told.nd rfl (Or.inl rfl)) (fun _ _ _ _ _ _ hx => pe_calXE CX_wire hr hx (pa_cons (pv 2) pa_nil))) pa_nil))))))) pss_nil)
    (pss_cons (ps_if (PW.pt (pw_and (pt_cmpR op_eq (pe_ix (k_ix_list K) (pv 1) pe_int (fun _ _ => rfl)) pe_str (nomark _)) (pw_and1 (pt_chain op_le op_le pe_int (pe_callB (k_len_seq K) (by rfl) R.len PySem.boot_len (pa_cons (pv 1) pa_nil)) (pe_op op_add pe_int (pe_gint R.wires))))))
      (pss_one (ps_ret (pe_tup (pa_cons pe_str (pa_cons (pe_calXE CX_named hr (pass_own (takes_of rfl rfl rfl rfl)) (pa_cons (pe_ix (k_ix_list K) (pv 1) pe_int (fun _ _ => rfl)) pa_nil)) (pa_cons (pe_lcX (own := [(("word" : Str), 2)]) (g := (gName 2)) rfl rfl rfl sc_row_told.nd (k_pi_list K (pe_slice (k_sl_list K) (pv 1) (po_some pe_int) po_none)) (blkOk_by (by kernel_rfl)) (takes_of rfl rfl rfl rfl) (fun _ _ _ _ h => h) (fun _ _ _ _ _ _ => pg_name (i := 2) sc_row_told.nd rfl (Or.inl rfl)) (fun _ _ _ _ _ _ hx => pe_calXE CX_wire hr hx (pa_cons (pv 2) pa_nil))) pa_nil)))))) pss_nil)
    (pss_one (ps_raiseE xf (takes_of rfl rfl rfl rfl))))))), ?_⟩
  obtain ⟨F, ds, r, hw, hF, ⟨z, rfl, rfl, hz, hk⟩, k⟩ := h
  have E : EnvR K F _ [.val (.str z), .un, .un] := EnvR.start (N := ["row", "words", "word"]) (AsR.of_all hw)
  have S := Hx.start (K := K) hF
  have hsp := split_sub (x := z) (y := (" " : Str)) (by decide +kernel) (by decide +kernel)
  have hln : (Txt.split z " ").length ≤ 16777216 := Nat.le_trans (PyProof.Rows.split_le z " ") (by omega)
  with_reducible refine sq ?_
  refine st_set (i := 1) (d := enc (Txt.split z " ")) (RXo.frz (rxo_split (by decide +kernel) (by omega) (rx_var (d := .str z) rfl) (rx_str (x := " ")))) E S fun σ F H f E S => ?_
  have hrow : rowX z = rowW (Txt.split z " ") := rfl
  rw [hrow] at k
  generalize Txt.split z " " = ws at E hsp k hln
  have E : EnvR K _ _ [.val (.str z), .val (enc ws), .un] := E
  have hpos : 0 < ws.length := List.length_pos_iff.mpr hsp.2
  have wok : ∀ x ∈ ws, x.length ≤ 16777216 ∧ EqD.ok x = true := fun x hx => ⟨by have := (hsp.1 x hx).1; omega, (hsp.1 x hx).ok hk⟩
  have at_ : ∀ (n : Nat) (O : Os), n < ws.length → RX K (tOp (rIxL K) (tVar 1) (tC (.int (n : Int)))) [.val (.str z), .val (enc ws), .un] O (.str (ws.getD n "")) O := fun n O hn => rx_ix (ds := ws.map enc) (d := enc (ws.getD n "")) (atI_map enc (getD_at hn)) (RX.s (rx_var (d := enc ws) rfl)) rx_int
  have len_ : ∀ O : Os, RX K (tCB _ (tCons (tVar 1) tNil)) [.val (.str z), .val (enc ws), .un] O (.int (ws.length : Int)) O := fun O => len_nat (K := K) (f := enc) (RX.s (rx_var (d := enc ws) rfl))
  have nm : ∀ (n : Nat), n < ws.length → (∀ q, namedX (ws.getD n "") = .ok q → RX K (tCall (SpX K mg Rr_named) [] E0 (tCons (tOp (rIxL K) (tVar 1) (tC (.int (n : Int)))) tNil)) [.val (.str z), .val (enc ws), .un] [] (.str q) []) ∧ (∀ x, namedX (ws.getD n "") = .er x → REx K mg E0 (tCall (SpX K mg Rr_named) [] E0 (tCons (tOp (rIxL K) (tVar 1) (tC (.int (n : Int)))) tNil)) [.val (.str z), .val (enc ws), .un] [] x) := fun n hn => by
    have hm := wok _ (getD_mem hn)
    exact ⟨fun q e => rx_callXE (ds := [.str (ws.getD n "")]) ⟨_, rfl, by rw [e]; rfl, hm.1, hm.2⟩ (ra_cons (at_ n _ hn) ra_nil), fun x e => re_callXE (ds := [.str (ws.getD n "")]) ⟨_, rfl, by rw [e]; rfl, hm.1, hm.2⟩ (ra_cons (at_ n _ hn) ra_nil)⟩
  have cmp : ∀ (n : Nat), (∀ ys, mapX wireX (ws.drop n) = .ok ys → RX K (tLc (iList K (tSl (rSlL K) (tVar 1) (tPart (tC (.int (n : Int)))) tNoPart)) (gName 2) tYes (tCall (SpX K mg Rr_wire) [] E0 (tCons (tVar 2) tNil)) [2]) [.val (.str z), .val (enc ws), .un] [] (enc ys) []) ∧ (∀ x, mapX wireX (ws.drop n) = .er x → REx K mg E0 (tLc (iList K (tSl (rSlL K) (tVar 1) (tPart (tC (.int (n : Int)))) tNoPart)) (gName 2) tYes (tCall (SpX K mg Rr_wire) [] E0 (tCons (tVar 2) tNil)) [2]) [.val (.str z), .val (enc ws), .un] [] x) := fun n => by
    have hsrc : RI K (iList K (tSl (rSlL K) (tVar 1) (tPart (tC (.int (n : Int)))) tNoPart)) [.val (.str z), .val (enc ws), .un] [] ((ws.drop n).map enc) [] := by
      have q := ri_list (K := K) (RXo.frz (rxo_slice (RX.s (rx_var (ρ := [.val (.str z), .val (enc ws), .un]) (O := []) (i := 1) (d := enc ws) rfl)) (ro_some (rx_int (i := (n : Int)))) ro_none))
      rw [← cutL_map, cut_from] at q
      exact q
    have hmw : ∀ x ∈ ws.drop n, x.length ≤ 16777216 ∧ EqD.ok x = true := fun x hx => wok x (List.mem_of_mem_drop hx)
    refine ⟨fun ys e => ?_, fun x e => ?_⟩
    · have := rxo_mapO (K := K) (eα := (enc : Str → PyData)) (eβ := (enc : Str → PyData)) (f := fun x => (wireX x).opt) (vs := [2]) (fun x => [.val (.str z), .val (enc ws), .val (.str x)]) [2] hsrc (mapX_ok e) (by decide) (fun x _ => rg_name (i := 2) (d := .str x)) (te := tCall (SpX K mg Rr_wire) [] E0 (tCons (tVar 2) tNil)) (fun x hx y hy D9 acc10 => by
        cases q : wireX x with
        | er z => rw [q] at hy; cases hy
        | ok y' =>
          rw [q] at hy
          cases hy
          exact rx_callXE (ds := [.str x]) ⟨x, rfl, by rw [q]; rfl, hmw x hx⟩ (ra_cons (rx_var (i := 2) (d := .str x) rfl) ra_nil))
      exact RXo.frz this
    · exact re_lc (eα := (enc : Str → PyData)) (eβ := (enc : Str → PyData)) (F1 := wireX) (fun x => [.val (.str z), .val (enc ws), .val (.str x)]) [2] hsrc e (by decide) (fun x _ => rg_name (i := 2) (d := .str x)) (fun x hx y hy O => rx_callXE (ds := [.str x]) ⟨x, rfl, by rw [hy]; rfl, hmw x hx⟩ (ra_cons (rx_var (i := 2) (d := .str x) rfl) ra_nil)) (fun x hx hy O => re_callXE (ds := [.str x]) ⟨x, rfl, by rw [hy]; rfl, hmw x hx⟩ (ra_cons (rx_var (i := 2) (d := .str x) rfl) ra_nil))
  try (with_reducible refine nxD ?_)
  with_reducible refine sq ?_
  refine st_if (b := cIn ws) (rt_and (a := decide (ws.getD 0 "" = "in")) (rt_val (rx_eqs (at_ 0 _ hpos) (rx_str (x := "in")))) (fun e => by unfold cIn; rw [e, Bool.true_and]; exact rt_and (a := decide ((ws.length : Int) = 3)) (rt_val (rx_eqi (len_ _) rx_int)) (fun e2 => by rw [e2, Bool.true_and]; have := of_decide_eq_true e2; exact rt_val (rx_inST (neg := false) (at_ 2 _ (by omega)) (rx_gtup R.sW))) (fun e2 => ⟨by rw [e2]; rfl, rfl⟩)) (fun e => ⟨by unfold cIn; rw [e]; rfl, rfl⟩)) E S (fun hc F H f E S => ?_) (fun hc F H f E S => ?_)
  · have h3 : ws.length = 3 ∧ ws.getD 2 "" ∈ WIDS := by
      unfold cIn at hc
      simp only [Bool.and_eq_true, decide_eq_true_eq] at hc
      exact ⟨by omega, hc.2.2⟩
    obtain ⟨nok, ner⟩ := nm 1 (by omega)
    cases hN : namedX (ws.getD 1 "") with
    | er x =>
      refine (re_tup (.next (rx_str (x := "in")) (.here (ner x hN)))).run _ _ _ _ _ _ _ E S fun C F' H' hC f S' => ?_
      exact k.2 x (by unfold rowW; rw [if_pos hc, hN]; rfl) C hC _ _ S'.stp
    | ok q =>
      refine st_ret (d := .tuple [.str "in", .str q, .int (widI (ws.getD 2 ""))]) (rx_tup (ds := [.str "in", .str q, .int (widI (ws.getD 2 ""))]) (ra_cons (rx_str (x := "in")) (ra_cons (nok q hN) (ra_cons (rx_intO (wid_int h3.2) (at_ 2 _ (by omega))) ra_nil)))) E S fun v F H f S r => ?_
      exact k.1 _ (by unfold rowW; rw [if_pos hc, hN]; rfl) v F H S.stp r
  refine nxt ?_
  try (with_reducible refine nxD ?_)
  with_reducible refine sq ?_
  have hcI := hc
  refine st_if (b := cGate ws) (rt_and (a := decide (ws.getD 0 "" ∈ (["gate", "sure"] : List Str))) (rt_val (rx_inST (neg := false) (xs := ["gate", "sure"]) (at_ 0 _ hpos) (rx_tup (ds := [.str "gate", .str "sure"]) (ra_cons (rx_str (x := "gate")) (ra_cons (rx_str (x := "sure")) ra_nil))))) (fun e => by unfold cGate; rw [e, Bool.true_and]; exact rt_and (a := decide ((3 : Int) < ws.length)) (rt_val (rx_gt (len_ _) rx_int)) (fun e2 => by rw [e2, Bool.true_and]; have := of_decide_eq_true e2; exact rt_val (rx_eqi (rx_legs (at_ 2 _ (by omega)) rx_int) (rx_sub (len_ _) rx_int))) (fun e2 => ⟨by rw [e2]; rfl, rfl⟩)) (fun e => ⟨by unfold cGate; rw [e]; rfl, rfl⟩)) E S (fun hc F H f E S => ?_) (fun hc F H f E S => ?_)
  · have h3 : 3 < ws.length := by
      unfold cGate at hc
      simp only [Bool.and_eq_true, decide_eq_true_eq] at hc
      omega
    obtain ⟨nok, ner⟩ := nm 1 (by omega)
    obtain ⟨cok, cer⟩ := cmp 3
    cases hN : namedX (ws.getD 1 "") with
    | er x =>
      refine (re_tup (.next (at_ 0 _ hpos) (.here (ner x hN)))).run _ _ _ _ _ _ _ E S fun C F' H' hC f S' => ?_
      exact k.2 x (by unfold rowW; rw [if_neg (by rw [hcI]; decide), if_pos hc, hN]; rfl) C hC _ _ S'.stp
    | ok q =>
      cases hM : mapX wireX (ws.drop 3) with
      | er x =>
        refine (re_tup (.next (at_ 0 _ hpos) (.next (nok q hN) (.next (at_ 2 _ (by omega)) (.here (cer x hM)))))).run _ _ _ _ _ _ _ E S fun C F' H' hC f S' => ?_
        exact k.2 x (by unfold rowW; rw [if_neg (by rw [hcI]; decide), if_pos hc, hN]; show Rx.map _ ((mapX wireX (ws.drop 3)).bind _) = _; rw [hM]; rfl) C hC _ _ S'.stp
      | ok ys =>
        refine st_ret (d := .tuple [.str (ws.getD 0 ""), .str q, .str (ws.getD 2 ""), enc ys]) (rx_tup (ds := [.str (ws.getD 0 ""), .str q, .str (ws.getD 2 ""), enc ys]) (ra_cons (at_ 0 _ hpos) (ra_cons (nok q hN) (ra_cons (at_ 2 _ (by omega)) (ra_cons (cok ys hM) ra_nil))))) E S fun v F H f S r => ?_
        exact k.1 _ (by unfold rowW; rw [if_neg (by rw [hcI]; decide), if_pos hc, hN]; show Rx.map _ ((mapX wireX (ws.drop 3)).bind _) = _; rw [hM]; rfl) v F H S.stp r
  refine nxt ?_
  try (with_reducible refine nxD ?_)
  with_reducible refine sq ?_
  have hcG := hc
  refine st_if (b := cOut ws) (rt_and (a := decide (ws.getD 0 "" = "out")) (rt_val (rx_eqs (at_ 0 _ hpos) (rx_str (x := "out")))) (fun e => by unfold cOut; rw [e, Bool.true_and]; exact rt_val (rx_chLE rx_int (len_ _) (rx_add rx_int rx_int))) (fun e => ⟨by unfold cOut; rw [e]; rfl, rfl⟩)) E S (fun hc F H f E S => ?_) (fun hc F H f E S => ?_)
  · have h3 : 3 ≤ ws.length := by
      unfold cOut at hc
      simp only [Bool.and_eq_true, decide_eq_true_eq] at hc
      omega
    obtain ⟨nok, ner⟩ := nm 1 (by omega)
    obtain ⟨cok, cer⟩ := cmp 2
    cases hN : namedX (ws.getD 1 "") with
    | er x =>
      refine (re_tup (.next (rx_str (x := "out")) (.here (ner x hN)))).run _ _ _ _ _ _ _ E S fun C F' H' hC f S' => ?_
      exact k.2 x (by unfold rowW; rw [if_neg (by rw [hcI]; decide), if_neg (by rw [hcG]; decide), if_pos hc, hN]; rfl) C hC _ _ S'.stp
    | ok q =>
      cases hM : mapX wireX (ws.drop 2) with
      | er x =>
        refine (re_tup (.next (rx_str (x := "out")) (.next (nok q hN) (.here (cer x hM))))).run _ _ _ _ _ _ _ E S fun C F' H' hC f S' => ?_
        exact k.2 x (by unfold rowW; rw [if_neg (by rw [hcI]; decide), if_neg (by rw [hcG]; decide), if_pos hc, hN]; show Rx.map _ ((mapX wireX (ws.drop 2)).bind _) = _; rw [hM]; rfl) C hC _ _ S'.stp
      | ok ys =>
        refine st_ret (d := .tuple [.str "out", .str q, enc ys]) (rx_tup (ds := [.str "out", .str q, enc ys]) (ra_cons (rx_str (x := "out")) (ra_cons (nok q hN) (ra_cons (cok ys hM) ra_nil)))) E S fun v F H f S r => ?_
        exact k.1 _ (by unfold rowW; rw [if_neg (by rw [hcI]; decide), if_neg (by rw [hcG]; decide), if_pos hc, hN]; show Rx.map _ ((mapX wireX (ws.drop 2)).bind _) = _; rw [hM]; rfl) v F H S.stp r
  refine nxt ?_
  try (with_reducible refine nxD ?_)
  exact fun C hC => k.2 _ (by unfold rowW; rw [if_neg (by rw [hcI]; decide), if_neg (by rw [hcG]; decide), if_neg (by rw [hc]; decide)]; rfl) C hC _ _ S.stp
end
/-! ### the class -/
section
variable {P : Program} {w : World} {K : Fg} {mg : Str → Option Value} {base : Heap} {cB cW cL cR : Addr}
abbrev sIni : Stmt := inClass (top 25) 0
abbrev sInr : Stmt := inClass (top 25) 1
abbrev sNum : Stmt := inClass (top 25) 2
abbrev sGat : Stmt := inClass (top 25) 3
abbrev sOut : Stmt := inClass (top 25) 4
abbrev sRow : Stmt := inClass (top 25) 5
theorem sc_ini : FnScope ["self"] ["self"] (defScope sIni) := ⟨rfl, rfl, rfl, by decide +kernel, rfl, by decide +kernel, by decide +kernel⟩
theorem ok_ini (R : RdC K w mg cB cW cL cR) {f : Addr} {fd : FuncData} (F : Fun K "__init__" "Reading.__init__" sIni f fd) : FnOk P w K mg base (L2.CX P w) 1 f fd ["self"] (SpI K cR) := by
  refine F.okX sc_ini (fun vs H Q E h => by obtain ⟨p, dx, rfl, _⟩ := h; rfl) fun cdv A outer s H vs Q E hr h => ?_
  refine ⟨_, pss_cons (ps_fld (pv 0) (pe_lst pa_nil) rfl) (pss_cons (ps_fld (pv 0) (pe_lst pa_nil) rfl) (pss_cons (ps_fld (pv 0) (pe_lst pa_nil) rfl) (pss_cons (ps_fld (pv 0) pe_dnewK rfl) (pss_one (ps_fld (pv 0) (pe_lst pa_nil) rfl))))), ?_⟩
  obtain ⟨p, dx, rfl, hp, k⟩ := h
  refine ⟨Nat.zero_le _, fun a1 h1 => ?_⟩
  have n1 : p ≠ a1 := ne_of_none hp h1
  refine ⟨_, rfl, p, cR, dx, _, rfl, (upd_ne n1).trans hp, R.cl, R.nI, by show 0 < 1000; decide, ?_⟩
  refine ⟨Nat.zero_le _, fun a2 h2 => ?_⟩
  have n2 : p ≠ a2 := by rintro rfl; rw [upd_same] at h2; cases h2
  rw [upd_ne n2.symm] at h2
  have m12 : a2 ≠ a1 := by rintro rfl; rw [upd_same] at h2; cases h2
  rw [upd_ne m12] at h2
  refine ⟨_, rfl, p, cR, dx, _, rfl, (upd_ne n2).trans upd_same, R.cl, R.nG, by show 1 < 1000; decide, ?_⟩
  refine ⟨Nat.zero_le _, fun a3 h3 => ?_⟩
  have n3 : p ≠ a3 := by rintro rfl; rw [upd_same] at h3; cases h3
  rw [upd_ne n3.symm] at h3
  have m23 : a3 ≠ a2 := by rintro rfl; rw [upd_same] at h3; cases h3
  rw [upd_ne m23, upd_ne n3.symm] at h3
  have m13 : a3 ≠ a1 := by rintro rfl; rw [upd_same] at h3; cases h3
  rw [upd_ne m13] at h3
  refine ⟨_, rfl, p, cR, dx, _, rfl, (upd_ne n3).trans upd_same, R.cl, R.nO, by show 2 < 1000; decide, ?_⟩
  intro a4 h4
  have n4 : p ≠ a4 := by rintro rfl; rw [upd_same] at h4; cases h4
  rw [upd_ne n4.symm] at h4
  have m34 : a4 ≠ a3 := by rintro rfl; rw [upd_same] at h4; cases h4
  rw [upd_ne m34, upd_ne n4.symm] at h4
  have m24 : a4 ≠ a2 := by rintro rfl; rw [upd_same] at h4; cases h4
  rw [upd_ne m24, upd_ne n4.symm] at h4
  have m14 : a4 ≠ a1 := by rintro rfl; rw [upd_same] at h4; cases h4
  rw [upd_ne m14] at h4
  refine ⟨_, rfl, p, cR, dx, _, rfl, (upd_ne n4).trans upd_same, R.cl, R.nW, by show 3 < 1000; decide, ?_⟩
  refine ⟨Nat.zero_le _, fun a5 h5 => ?_⟩
  have n5 : p ≠ a5 := by rintro rfl; rw [upd_same] at h5; cases h5
  rw [upd_ne n5.symm] at h5
  have m45 : a5 ≠ a4 := by rintro rfl; rw [upd_same] at h5; cases h5
  rw [upd_ne m45, upd_ne n5.symm] at h5
  have m35 : a5 ≠ a3 := by rintro rfl; rw [upd_same] at h5; cases h5
  rw [upd_ne m35, upd_ne n5.symm] at h5
  have m25 : a5 ≠ a2 := by rintro rfl; rw [upd_same] at h5; cases h5
  rw [upd_ne m25, upd_ne n5.symm] at h5
  have m15 : a5 ≠ a1 := by rintro rfl; rw [upd_same] at h5; cases h5
  rw [upd_ne m15] at h5
  refine ⟨_, rfl, p, cR, dx, _, rfl, (upd_ne n5).trans upd_same, R.cl, R.nN, by show 4 < 1000; decide, ?_⟩
  refine k ⟨a1, a2, a3, a4, a5⟩ _ ?_ ?_ ?_ ?_ ?_ ?_ ?_ ?_ ?_
  · simp only [List.nodup_cons, List.mem_cons, List.not_mem_nil, or_false, not_or, List.nodup_nil, and_true, not_false_eq_true]
    exact ⟨⟨m12.symm, m13.symm, m14.symm, m15.symm⟩, ⟨m23.symm, m24.symm, m25.symm⟩, ⟨m34.symm, m35.symm⟩, m45.symm⟩
  · intro a ha
    simp only [List.mem_cons, List.not_mem_nil, or_false] at ha
    rcases ha with rfl | rfl | rfl | rfl | rfl <;> assumption
  · simp only [upd_ne n1.symm, upd_ne m15.symm, upd_ne m14.symm, upd_ne m13.symm, upd_ne m12.symm, upd_same]
  · simp only [upd_ne n2.symm, upd_ne m25.symm, upd_ne m24.symm, upd_ne m23.symm, upd_same]
  · simp only [upd_ne n3.symm, upd_ne m35.symm, upd_ne m34.symm, upd_same]
  · simp only [upd_ne n4.symm, upd_ne m45.symm, upd_same]
  · simp only [upd_ne n5.symm, upd_same]
  · rw [upd_same]
    exact congrArg (fun l => some (HO.ins cR dx l)) (rdF_put ⟨a1, a2, a3, a4, a5⟩)
  · intro b o e hb
    simp only [upd_ne hb, upd_ne (ne_of_none e h1), upd_ne (ne_of_none e h2), upd_ne (ne_of_none e h3), upd_ne (ne_of_none e h4), upd_ne (ne_of_none e h5)]
    exact e
def Rr_in : Rd → List PyData → Rx (PyData × Rd) → Prop := fun st ds r => ∃ (a : Str) (x : Int), ds = [.str a, .int x] ∧ 1 ≤ x ∧ x ≤ 3 ∧ a.length ≤ 1000 ∧ st.Ok ∧ r = (inX st a x).map fun s => (.none, s)
theorem sc_inr : FnScope ["self", "name", "width", "place"] ["self", "name", "width"] (defScope sInr) := ⟨rfl, rfl, rfl, by decide +kernel, rfl, by decide +kernel, by decide +kernel⟩
theorem ok_inr (R : RdC K w mg cB cW cL cR) (D : Dfm K cR "in_read" "Reading.in_read" sInr ["self", "name", "width"]) : MetX P w K mg base cR 1 "in_read" ["self", "name", "width"] (SpM K mg cR Rr_in) := by
  obtain ⟨c1, x1⟩ := R.xNoPlace
  obtain ⟨c2, x2⟩ := R.xTwice
  obtain ⟨c3, x3⟩ := R.xFull
  refine D.met sc_inr (spm_len fun st ds r h => by obtain ⟨_, _, rfl, _⟩ := h; rfl) fun f cdv A outer s H vs Q E0 hr h => ?_
  refine ⟨_, (pss_cons (ps_if (PW.pt (pw_or (pt_cmpR (k_neD K hr.units) (pe_fld (pv 0) rfl) (pe_lst pa_nil) (nomark _)) (pw_or1 (pt_cmpR (k_neD K hr.units) (pe_fld (pv 0) rfl) (pe_lst pa_nil) (nomark _))))) (pss_one (ps_raiseE x1 (takes_of rfl rfl rfl rfl))) pss_nil)
    (pss_cons (ps_if (pt_cmpR (k_in_seq K) (pv 1) (pe_fld (pv 0) rfl) (by rfl)) (pss_one (ps_raiseE x2 (takes_of rfl rfl rfl rfl))) pss_nil)
    (pss_cons (ps_if (pt_cmpR op_eq (pe_callB (k_len_seq K) (by rfl) R.len PySem.boot_len (pa_cons (pe_fld (pv 0) rfl) pa_nil)) (pe_gint R.ins) (nomark _)) (pss_one (ps_raiseE x3 (takes_of rfl rfl rfl rfl))) pss_nil)
    (pss_cons (ps_expr (pe_bm PySem.F.plainAttrs_list PySem.F.slot_list_append PySem.F.type_list_append mt_append (pe_fld (pv 0) rfl) (pa_cons (pv 1) pa_nil)))
    (pss_cons (ps_expr (pe_bm PySem.F.plainAttrs_list PySem.F.slot_list_append PySem.F.type_list_append mt_append (pe_fld (pv 0) rfl) (pa_cons (pe_tup (pa_cons (pv 1) (pa_cons (pv 2) pa_nil))) pa_nil)))
    (pss_one (ps_if (pt_cmpR op_eq (pv 2) pe_int (nomark _)) (pss_one (ps_dput (hu_of hr) (pe_fld (pv 0) rfl) (pv 1) (pe_callB k_lenDk (by rfl) R.len PySem.boot_len (pa_cons (pe_fld (pv 0) rfl) pa_nil)) (by rfl)))
      (pss_one (ps_for (passes_of rfl) rfl (pi_str (pe_slice sl_str (pe_gstr R.figs) po_none (po_some (pv 2)))) (pg_name (i := 3) sc_inr.nd rfl (Or.inl rfl)) (pss_one (ps_dput (hu_of hr) (pe_fld (pv 0) rfl) (pe_op op_add_str (pe_op op_add_str (pv 1) pe_str) (pv 3)) (pe_callB k_lenDk (by rfl) R.len PySem.boot_len (pa_cons (pe_fld (pv 0) rfl) pa_nil)) (by rfl)))))))))))), ?_⟩
  obtain ⟨F9, H9, D9, p, dx, Ad, st, nw, ws, ds, r, rfl, hw, hF, S, ⟨a, x, rfl, hx1, hx3, hal, ok, rfl⟩, k⟩ := h
  have E : EnvR K F9 _ [.obj p (.ins cR dx (rdF Ad)), .val (.str a), .val (.int x), .un] := EnvR.start (N := ["self", "name", "width", "place"]) (AsR.obj hF (AsR.of_all hw))
  have fi : ∀ (s : Rd) (y : Sl), RAd K (tFld K (tVar 0) "ins") [.obj p (.ins cR dx (rdF Ad)), .val (.str a), .val (.int x), y] (rdO nw Ad s) Ad.i := fun s y => rad_fld rfl R.cl R.nI (rdF_i Ad)
  have fg : ∀ (s : Rd) (y : Sl), RAd K (tFld K (tVar 0) "gates") [.obj p (.ins cR dx (rdF Ad)), .val (.str a), .val (.int x), y] (rdO nw Ad s) Ad.g := fun s y => rad_fld rfl R.cl R.nG (rdF_g Ad)
  have fo : ∀ (s : Rd) (y : Sl), RAd K (tFld K (tVar 0) "outs") [.obj p (.ins cR dx (rdF Ad)), .val (.str a), .val (.int x), y] (rdO nw Ad s) Ad.o := fun s y => rad_fld rfl R.cl R.nO (rdF_o Ad)
  have fw : ∀ (s : Rd) (y : Sl), RAd K (tFld K (tVar 0) "wires") [.obj p (.ins cR dx (rdF Ad)), .val (.str a), .val (.int x), y] (rdO nw Ad s) Ad.w := fun s y => rad_fld rfl R.cl R.nW (rdF_w Ad)
  have fn : ∀ (s : Rd) (y : Sl), RAd K (tFld K (tVar 0) "names") [.obj p (.ins cR dx (rdF Ad)), .val (.str a), .val (.int x), y] (rdO nw Ad s) Ad.n := fun s y => rad_fld rfl R.cl R.nN (rdF_n Ad)
  obtain ⟨k1, k2⟩ := k
  with_reducible refine sq ?_
  refine st_if (b := (!decide (st.g = [])) || (!decide (st.o = []))) (rt_or2 (rt_val (rx_neD (x := st.g) (y := []) (RXs.h (rxs_ad (j := 1) (fg st .un) rfl)) (RXs.h (RXo.s (rxo_lst (ds := []) ra_nil))) (by decide) ok.g rfl)) (rt_val (rx_neD (x := st.o) (y := []) (RXs.h (rxs_ad (j := 2) (fo st .un) rfl)) (RXs.h (RXo.s (rxo_lst (ds := []) ra_nil))) (by decide) ok.o rfl))) E S (fun hc F H f E S => ?_) (fun hc F H f E S => ?_)
  · exact fun C hC => k2 _ (by unfold inX; rw [if_pos hc]; rfl) C hC _ _ f S.bare
  refine nxt ?_
  try (with_reducible refine nxD ?_)
  with_reducible refine sq ?_
  have h1 := hc
  have fc := f
  refine st_if (b := decide (a ∈ st.n)) (rt_val (rx_inS (neg := false) (rx_var (i := 1) (d := .str a) rfl) (rxs_ad (j := 4) (fn st .un) rfl))) E S (fun hc F H f E S => ?_) (fun hc F H f E S => ?_)
  · exact fun C hC => k2 _ (by unfold inX; rw [if_neg (by rw [h1]; decide), if_pos hc]; rfl) C hC _ _ (fc.trans f) S.bare
  refine nxt ?_
  try (with_reducible refine nxD ?_)
  with_reducible refine sq ?_
  have h2 := hc
  replace fc := fc.trans f
  refine st_if (b := decide ((st.i.length : Int) = 6)) (rt_val (rx_eqi (len_nat (f := enc) (rxs_ad (j := 0) (fi st .un) rfl)) rx_int)) E S (fun hc F H f E S => ?_) (fun hc F H f E S => ?_)
  · exact fun C hC => k2 _ (by unfold inX; rw [if_neg (by rw [h1]; decide), if_neg (by rw [h2]; decide), if_pos hc]; rfl) C hC _ _ (fc.trans f) S.bare
  refine nxt ?_
  have h3 := hc
  replace fc := fc.trans f
  have lw := ok.lw
  have ln := ok.ln
  have li := ok.li
  try (with_reducible refine nxD ?_)
  with_reducible refine sq ?_
  refine st_appA (j := 4) (by rw [List.length_map]; omega) (fn st .un) (rx_var (i := 1) (d := .str a) rfl) rfl E S fun F H f E S => ?_
  replace fc := fc.trans f
  have S := S.re (rdO_n nw Ad st a)
  try (with_reducible refine nxD ?_)
  with_reducible refine sq ?_
  refine st_appA (j := 0) (by rw [List.length_map]; show st.i.length < _; omega) (fi _ .un) (rx_tup (ds := [.str a, .int x]) (ra_cons (rx_var (i := 1) (d := .str a) rfl) (ra_cons (rx_var (i := 2) (d := .int x) rfl) ra_nil))) rfl E S fun F H f E S => ?_
  replace fc := fc.trans f
  have S := S.re (rdO_i nw Ad ⟨st.i, st.g, st.o, st.w, st.n ++ [a]⟩ (a, x))
  try (with_reducible refine nxD ?_)
  have fin : ∀ v, inX st a x = .ok ⟨st.i ++ [(a, x)], st.g, st.o, v, st.n ++ [a]⟩ → ∀ F' H', Same F F' → Hx K F9 H9 D9 F' (rdO nw Ad ⟨st.i ++ [(a, x)], st.g, st.o, v, st.n ++ [a]⟩) H' → Q .non H' := fun v e F' H' f S' => k1 .none ⟨st.i ++ [(a, x)], st.g, st.o, v, st.n ++ [a]⟩ (by rw [e]; rfl) .non F' H' (fc.trans f) S' .non
  have hX : inX st a x = .ok ⟨st.i ++ [(a, x)], st.g, st.o, if decide (x = 1) = true then putM st.w a (st.w.length : Int) else putsM a st.w (figsL x), st.n ++ [a]⟩ := by
    unfold inX
    rw [if_neg (by rw [h1]; decide), if_neg (by rw [h2]; decide), if_neg (by rw [h3]; decide)]
  refine st_if (b := decide (x = 1)) (rt_val (rx_eqi (rx_var (i := 2) (d := .int x) rfl) rx_int)) E S (fun hc F H f E S => ?_) (fun hc F H f E S => ?_)
  · rw [if_pos hc] at hX
    refine st_dputA (j := 3) (xs := st.w) (k := a) (v := (st.w.length : Int)) (by omega) (fw ⟨st.i ++ [(a, x)], st.g, st.o, st.w, st.n ++ [a]⟩ .un) (rx_lenDk (j := 3) (xs := st.w) (fw ⟨st.i ++ [(a, x)], st.g, st.o, st.w, st.n ++ [a]⟩ .un) rfl) (rx_var (i := 1) (d := .str a) rfl) rfl E S fun F' H' f' E S => ?_
    exact fin _ hX F' H' (f.trans f') S
  · rw [if_neg (by rw [hc]; decide)] at hX
    have hcut : cutSO FIGS none (some x) = some (cutS FIGS none (some x)) := if_pos (by decide +kernel)
    have hz : (cutS FIGS none (some x)).length ≤ sizeLine := by
      have l : FIGS.cps.toList.length = 10 := by decide +kernel
      rw [len_tl, sizeLine_eq]
      show ((FIGS.cps.toList.drop _).take _).length ≤ _
      rw [List.length_take, List.length_drop, l]
      omega
    have hlen : (figsL x).length ≤ 10 := by
      have l : FIGS.cps.toList.length = 10 := by decide +kernel
      unfold figsL
      rw [List.length_map]
      show ((FIGS.cps.toList.drop _).take _).length ≤ _
      rw [List.length_take, List.length_drop, l]
      omega
    have h1s : ∀ c ∈ figsL x, c.length = 1 := fun c hc => signs_len (z := cutS FIGS none (some x)) hc
    refine st_forS (K := K) (eα := (enc : Str → PyData)) (xs := figsL x) (f := fun (c : Str) (v : List (Str × Int)) => putMO v (a ++ ":" ++ c) (v.length : Int)) (s0 := st.w) (fun _ => [.obj p (.ins cR dx (rdF Ad)), .val (.str a), .val (.int x), .un]) (fun v => rdO nw Ad ⟨st.i ++ [(a, x)], st.g, st.o, v, st.n ++ [a]⟩) E S (ri_str hz (rx_cutS hcut rx_str ro_none (ro_some (rx_var (i := 2) (d := .int x) rfl)))) (puts_forS a hal (figsL x) st.w (by omega) h1s) ⟨.inl rfl, .inl rfl, .inl rfl, .inr rfl, trivial⟩ (fun σ F' H' f' E S => fin _ hX F' H' (f.trans f') S) (fun c hcm v v' hv σ F1 H1 u f1 E S r N B hN => ?_)
    have hcl := h1s c hcm
    have hk2 : catSO a ":" = some (a ++ ":") := if_pos (by show a.length + 1 ≤ _; omega)
    have hk3 : catSO (a ++ ":") c = some (a ++ ":" ++ c) := if_pos (by have : (a ++ ":").length = a.length + 1 := by rw [len_tl, tl_append, List.length_append, ← len_tl]; rfl
                                                                       omega)
    refine (rg_name (i := 3) (d := .str c)).run _ _ _ _ _ E r S.fh fun σ' E' _ => ?_
    have E' : EnvR K _ _ [.obj p (.ins cR dx (rdF Ad)), .val (.str a), .val (.int x), .val (.str c)] := E'
    unfold putMO at hv
    split at hv
    · rename_i hlt
      cases hv
      refine st_dputA (j := 3) (xs := v) (k := a ++ ":" ++ c) (v := (v.length : Int)) hlt (fw ⟨st.i ++ [(a, x)], st.g, st.o, v, st.n ++ [a]⟩ _) (rx_lenDk (j := 3) (xs := v) (fw ⟨st.i ++ [(a, x)], st.g, st.o, v, st.n ++ [a]⟩ _) rfl) (rx_catS hk3 (rx_catS hk2 (rx_var (i := 1) (d := .str a) rfl) (rx_str (x := ":"))) (rx_var (i := 3) (d := .str c) rfl)) rfl E' S fun F2 H2 f2 E2 S2 => ?_
      exact hN _ F2 H2 f2 (E2.weak ⟨.inl rfl, .inl rfl, .inl rfl, .inr rfl, trivial⟩) S2
    · cases hv
def Rr_num : Rd → List PyData → Rx (PyData × Rd) → Prop := fun st ds r => ∃ (l : List Str), ds = [enc l] ∧ l.length ≤ 16777216 ∧ r = (numsX st l).map fun t => (enc t, st)
theorem sc_num : FnScope ["self", "words", "word"] ["self", "words"] (defScope sNum) := ⟨rfl, rfl, rfl, by decide +kernel, rfl, by decide +kernel, by decide +kernel⟩
theorem has_get {st : TL.Rd} {z : Str} (h : hasM st.w z = true) : getM st.w z = some ((getM st.w z).getD 0) := by
  unfold hasM at h
  cases q : getM st.w z with
  | none => rw [q] at h; cases h
  | some v => rfl
theorem k_fld {X : Cx} (K : Fg) {e : Expr} {f : Str} {pos : Pos} {ta : TE} (he : PE X e ta) (hb : attributeBase e f X.env (eval e X.env) = eval e X.env) (hK : X.K = K := by rfl) : PE X (.Attribute e f pos) (tFld K ta f) := by
  subst hK
  exact pe_fld he hb
theorem ok_num (R : RdC K w mg cB cW cL cR) (D : Dfm K cR "numbers_of" "Reading.numbers_of" sNum ["self", "words"]) : MetX P w K mg base cR 1 "numbers_of" ["self", "words"] (SpM K mg cR Rr_num) := by
  obtain ⟨c1, x1⟩ := R.xNoWire
  refine D.met sc_num (spm_len fun st ds r h => by obtain ⟨_, rfl, _⟩ := h; rfl) fun f cdv A outer s H vs Q E0 hr h => ?_
  refine ⟨_, (pss_cons (ps_for (passes_of rfl) rfl (k_pi_list K (pv 1)) (pg_name (i := 2) sc_num.nd rfl (Or.inl rfl)) (pss_one (ps_if (pt_cmp (pc_dnotin (hu_of hr) (pv 2) (pe_fld (pv 0) rfl)) rfl) (pss_one (ps_raiseE x1 (takes_of rfl rfl rfl rfl))) pss_nil)))
    (pss_one (ps_ret (pe_callTy (k_tuple_of K) (by rfl) R.tuple (by decide +kernel) (pa_cons (pe_lc (own := [(("word" : Str), 2)]) (g := (gName 2)) (tt := tYes) rfl sc_num.nd (k_pi_list K (pv 1)) (blkOk_by (by kernel_rfl)) (fun _ _ _ _ _ => (pg_name (i := 2) sc_num.nd rfl (Or.inl rfl))) (fun _ _ _ _ _ => pts_nil) (fun _ _ _ _ _ => (pe_dget (hu_of hr) (k_fld K (pv 0) (by rfl)) (pv 2) (fun _ _ => rfl)))) pa_nil))))), ?_⟩
  obtain ⟨F9, H9, D9, p, dx, Ad, st, nw, ws, ds, r, rfl, hw, hF, S, ⟨l, rfl, hl, rfl⟩, k1, k2⟩ := h
  have E : EnvR K F9 _ [.obj p (.ins cR dx (rdF Ad)), .val (enc l), .un] := EnvR.start (N := ["self", "words", "word"]) (AsR.obj hF (AsR.of_all hw))
  have fw : ∀ (O : Os) (y : Sl), RAd K (tFld K (tVar 0) "wires") [.obj p (.ins cR dx (rdF Ad)), .val (enc l), y] O Ad.w := fun O y => rad_fld rfl R.cl R.nW (rdF_w Ad)
  have hfa := forF_all (fun z => hasM st.w z) l
  have hnx : numsX st l = if l.all (fun z => hasM st.w z) = true then .ok ⟨l.map fun z => (getM st.w z).getD 0⟩ else .er "NoWire" := rfl
  with_reducible refine sq ?_
  refine st_forF (K := K) (eα := (enc : Str → PyData)) (xs := l) (fun _ => [.obj p (.ins cR dx (rdF Ad)), .val (enc l), .un]) (fun _ => rdO nw Ad st) E S (ri_list (rx_var (d := enc l) rfl)) hfa ⟨.inl rfl, .inl rfl, .inr rfl, trivial⟩ (fun _ ea σ F H f E S => ?_) (fun z hz _ out ho hrt σ F H v f0 E S r N B hN hB => ?_)
  · have ea2 : l.all (fun z => hasM st.w z) = true := by
      by_cases q : l.all (fun z => hasM st.w z) = true
      · exact q
      · rw [if_neg q] at ea; cases ea
    rw [if_pos ea2] at hnx
    rw [hnx] at k1
    try (with_reducible refine nxD ?_)
    refine st_ret (d := enc (Tp.mk (l.map fun z => (getM st.w z).getD 0))) (rx_tuple (RXo.s (rxo_mapO (K := K) (eα := (enc : Str → PyData)) (eβ := (enc : Int → PyData)) (f := fun z => getM st.w z) (vs := [2]) (zs := l.map fun z => (getM st.w z).getD 0) (fun x => [.obj p (.ins cR dx (rdF Ad)), .val (enc l), .val (.str x)]) [2] (ri_list (rx_var (d := enc l) rfl)) (by
        have : ∀ l : List Str, l.all (fun z => hasM st.w z) = true → mapO (fun z => getM st.w z) l = some (l.map fun z => (getM st.w z).getD 0) := by
          intro l
          induction l with
          | nil => intro _; rfl
          | cons z l ih =>
            intro h
            rw [List.all_cons, Bool.and_eq_true] at h
            unfold mapO
            rw [ih h.2, has_get h.1]
            rfl
        exact this l ea2) (by decide) (fun x _ => rg_name (i := 2) (d := .str x)) (fun x hx y hy D9 acc10 => rx_dkgetA (j := 4) (xs := st.w) hy (fw _ _) (rx_var (i := 2) (d := .str x) rfl) rfl)))) E S fun v F H f2 S r => ?_
    exact k1 _ st rfl v F H (f.trans f2) S r
  · refine (rg_name (i := 2) (d := enc z)).run _ _ _ _ _ E r S.fh fun σ E _ => ?_
    have E : EnvR K _ _ [.obj p (.ins cR dx (rdF Ad)), .val (enc l), .val (.str z)] := E
    refine st_if (b := !hasM st.w z) (rt_b (rx_dknotinA (j := 3) (xs := st.w) (rx_var (i := 2) (d := .str z) rfl) (fw _ _) rfl)) E S (fun hc F H f E S => ?_) (fun hc F H f E S => ?_)
    · have q : ¬ l.all (fun z => hasM st.w z) = true := fun e => by
        rw [List.all_eq_true] at e
        have := e z hz
        simp [this] at hc
      rw [if_neg q] at hnx
      exact fun C hC => k2 "NoWire" (by rw [hnx]; rfl) C hC _ _ (f0.trans f) S.bare
    · refine nxt ?_
      have q : hasM st.w z = true := by cases e : hasM st.w z with | true => rfl | false => rw [e] at hc; cases hc
      rw [if_pos q] at ho
      obtain rfl := Option.some.inj ho
      exact hN _ rfl _ _ _ f (E.weak ⟨.inl rfl, .inl rfl, .inr rfl, trivial⟩) S
def Rr_gat : Rd → List PyData → Rx (PyData × Rd) → Prop := fun st ds r => ∃ (a b c : Str) (l : List Str), ds = [.str a, .str b, .str c, enc l] ∧ l.length ≤ 16777216 ∧ st.Ok ∧ r = (gateX st a b c l).map fun s => (.none, s)
theorem sc_gat : FnScope ["self", "word", "name", "kind", "wires"] ["self", "word", "name", "kind", "wires"] (defScope sGat) := ⟨rfl, rfl, rfl, by decide +kernel, rfl, by decide +kernel, by decide +kernel⟩
theorem ok_gat (R : RdC K w mg cB cW cL cR) (D : Dfm K cR "gate_read" "Reading.gate_read" sGat ["self", "word", "name", "kind", "wires"]) (MN : MetX P w K mg base cR 1 "numbers_of" ["self", "words"] (SpM K mg cR Rr_num)) : MetX P w K mg base cR 2 "gate_read" ["self", "word", "name", "kind", "wires"] (SpM K mg cR Rr_gat) := by
  obtain ⟨c1, x1⟩ := R.xNoPlace
  obtain ⟨c2, x2⟩ := R.xTwice
  obtain ⟨c3, x3⟩ := R.xFull
  refine D.met sc_gat (spm_len fun st ds r h => by obtain ⟨_, _, _, _, rfl, _⟩ := h; rfl) fun f cdv A outer s H vs Q E0 hr h => ?_
  refine ⟨_, (pss_cons (ps_if (pt_cmpR (k_neD K hr.units) (pe_fld (pv 0) rfl) (pe_lst pa_nil) (nomark _)) (pss_one (ps_raiseE x1 (takes_of rfl rfl rfl rfl))) pss_nil)
    (pss_cons (ps_if (pt_cmpR (k_in_seq K) (pv 2) (pe_fld (pv 0) rfl) (by rfl)) (pss_one (ps_raiseE x2 (takes_of rfl rfl rfl rfl))) pss_nil)
    (pss_cons (ps_if (pt_cmpR op_eq (pe_callB (k_len_seq K) (by rfl) R.len PySem.boot_len (pa_cons (pe_fld (pv 0) rfl) pa_nil)) (pe_gint R.gates) (nomark _)) (pss_one (ps_raiseE x3 (takes_of rfl rfl rfl rfl))) pss_nil)
    (pss_cons (ps_expr (pe_bm PySem.F.plainAttrs_list PySem.F.slot_list_append PySem.F.type_list_append mt_append (pe_fld (pv 0) rfl) (pa_cons (pe_tup (pa_cons (pv 3) (pa_cons (pe_metX MN R.cl hr (pass_own (takes_of rfl rfl rfl rfl)) (pv 0) (pa_cons (pv 4) pa_nil)) (pa_cons (pe_cmpR op_eq (pv 1) pe_str (nomark _)) pa_nil)))) pa_nil)))
    (pss_cons (ps_expr (pe_bm PySem.F.plainAttrs_list PySem.F.slot_list_append PySem.F.type_list_append mt_append (pe_fld (pv 0) rfl) (pa_cons (pv 2) pa_nil)))
    (pss_one (ps_dput (hu_of hr) (pe_fld (pv 0) rfl) (pv 2) (pe_callB k_lenDk (by rfl) R.len PySem.boot_len (pa_cons (pe_fld (pv 0) rfl) pa_nil)) (by rfl)))))))), ?_⟩
  obtain ⟨F9, H9, D9, p, dx, Ad, st, nw, ws, ds, r, rfl, hw, hF, S, ⟨a, b, c, l, rfl, hl, ok, rfl⟩, k1, k2⟩ := h
  have E : EnvR K F9 _ [.obj p (.ins cR dx (rdF Ad)), .val (.str a), .val (.str b), .val (.str c), .val (enc l)] := EnvR.start (N := ["self", "word", "name", "kind", "wires"]) (AsR.obj hF (AsR.of_all hw))
  have fg : ∀ (s : Rd), RAd K (tFld K (tVar 0) "gates") [.obj p (.ins cR dx (rdF Ad)), .val (.str a), .val (.str b), .val (.str c), .val (enc l)] (rdO nw Ad s) Ad.g := fun s => rad_fld rfl R.cl R.nG (rdF_g Ad)
  have fo : ∀ (s : Rd), RAd K (tFld K (tVar 0) "outs") [.obj p (.ins cR dx (rdF Ad)), .val (.str a), .val (.str b), .val (.str c), .val (enc l)] (rdO nw Ad s) Ad.o := fun s => rad_fld rfl R.cl R.nO (rdF_o Ad)
  have fw : ∀ (s : Rd), RAd K (tFld K (tVar 0) "wires") [.obj p (.ins cR dx (rdF Ad)), .val (.str a), .val (.str b), .val (.str c), .val (enc l)] (rdO nw Ad s) Ad.w := fun s => rad_fld rfl R.cl R.nW (rdF_w Ad)
  have fn : ∀ (s : Rd), RAd K (tFld K (tVar 0) "names") [.obj p (.ins cR dx (rdF Ad)), .val (.str a), .val (.str b), .val (.str c), .val (enc l)] (rdO nw Ad s) Ad.n := fun s => rad_fld rfl R.cl R.nN (rdF_n Ad)
  have nl : (rdF Ad).lookup ("numbers_of" : Str) = none := rdF_no Ad (by decide +kernel) (by decide +kernel) (by decide +kernel) (by decide +kernel) (by decide +kernel)
  with_reducible refine sq ?_
  refine st_if (b := !decide (st.o = [])) (rt_val (rx_neD (x := st.o) (y := []) (RXs.h (rxs_ad (j := 2) (fo st) rfl)) (RXs.h (RXo.s (rxo_lst (ds := []) ra_nil))) (by decide) ok.o rfl)) E S (fun hc F H f E S => ?_) (fun hc F H f E S => ?_)
  · exact fun C hC => k2 _ (by unfold gateX; rw [if_pos hc]; rfl) C hC _ _ f S.bare
  refine nxt ?_
  try (with_reducible refine nxD ?_)
  with_reducible refine sq ?_
  have h1 := hc
  have fc := f
  refine st_if (b := decide (b ∈ st.n)) (rt_val (rx_inS (neg := false) (rx_var (i := 2) (d := .str b) rfl) (rxs_ad (j := 4) (fn st) rfl))) E S (fun hc F H f E S => ?_) (fun hc F H f E S => ?_)
  · exact fun C hC => k2 _ (by unfold gateX; rw [if_neg (by rw [h1]; decide), if_pos hc]; rfl) C hC _ _ (fc.trans f) S.bare
  refine nxt ?_
  try (with_reducible refine nxD ?_)
  with_reducible refine sq ?_
  have h2 := hc
  replace fc := fc.trans f
  refine st_if (b := decide ((st.g.length : Int) = 60)) (rt_val (rx_eqi (len_nat (f := enc) (rxs_ad (j := 1) (fg st) rfl)) rx_int)) E S (fun hc F H f E S => ?_) (fun hc F H f E S => ?_)
  · exact fun C hC => k2 _ (by unfold gateX; rw [if_neg (by rw [h1]; decide), if_neg (by rw [h2]; decide), if_pos hc]; rfl) C hC _ _ (fc.trans f) S.bare
  refine nxt ?_
  have h3 := hc
  replace fc := fc.trans f
  have lw := ok.lw
  have ln := ok.ln
  have lg := ok.lg
  have hG : gateX st a b c l = (numsX st l).bind fun t => .ok ⟨st.i, st.g ++ [T3.mk c t (decide (a = "sure"))], st.o, putM st.w b (st.w.length : Int), st.n ++ [b]⟩ := by
    unfold gateX
    rw [if_neg (by rw [h1]; decide), if_neg (by rw [h2]; decide), if_neg (by rw [h3]; decide)]
  try (with_reducible refine nxD ?_)
  with_reducible refine sq ?_
  cases hN : numsX st l with
  | er x =>
    refine re_appA (j := 1) (fg st) rfl (re_tup (.next (rx_var (i := 3) (d := .str c) rfl) (.here (re_callM (R := Rr_num) (st := st) (ds := [enc l]) rfl nl ⟨l, rfl, hl, by rw [hN]; rfl⟩ (ra_cons (rx_var (i := 4) (d := enc l) rfl) ra_nil))))) E S fun C F' H' hC f S' => ?_
    exact k2 x (by rw [hG, hN]; rfl) C hC _ _ (fc.trans f) S'
  | ok t =>
    refine st_appA (j := 1) (by rw [List.length_map]; omega) (fg st) (rx_tup (ds := [.str c, enc t, .bool (decide (a = "sure"))]) (ra_cons (rx_var (i := 3) (d := .str c) rfl) (ra_cons (rx_callM (R := Rr_num) (st := st) (st' := st) (ds := [enc l]) (d := enc t) rfl nl ⟨l, rfl, hl, by rw [hN]; rfl⟩ (ra_cons (rx_var (i := 4) (d := enc l) rfl) ra_nil)) (ra_cons (rx_eqs (rx_var (i := 1) (d := .str a) rfl) (rx_str (x := "sure"))) ra_nil)))) rfl E S fun F H f E S => ?_
    replace fc := fc.trans f
    have S := S.re (rdO_g nw Ad st (T3.mk c t (decide (a = "sure"))))
    try (with_reducible refine nxD ?_)
    with_reducible refine sq ?_
    refine st_appA (j := 4) (by rw [List.length_map]; show st.n.length < _; omega) (fn _) (rx_var (i := 2) (d := .str b) rfl) rfl E S fun F H f E S => ?_
    replace fc := fc.trans f
    have S := S.re (rdO_n nw Ad ⟨st.i, st.g ++ [T3.mk c t (decide (a = "sure"))], st.o, st.w, st.n⟩ b)
    try (with_reducible refine nxD ?_)
    refine st_dputA (j := 3) (xs := st.w) (k := b) (v := (st.w.length : Int)) (by omega) (fw ⟨st.i, st.g ++ [T3.mk c t (decide (a = "sure"))], st.o, st.w, st.n ++ [b]⟩) (rx_lenDk (j := 3) (xs := st.w) (fw ⟨st.i, st.g ++ [T3.mk c t (decide (a = "sure"))], st.o, st.w, st.n ++ [b]⟩) rfl) (rx_var (i := 2) (d := .str b) rfl) rfl E S fun F' H' f' E S => ?_
    exact k1 .none ⟨st.i, st.g ++ [T3.mk c t (decide (a = "sure"))], st.o, putM st.w b (st.w.length : Int), st.n ++ [b]⟩ (by rw [hG, hN]; rfl) .non F' H' (fc.trans f') S .non
def Rr_out : Rd → List PyData → Rx (PyData × Rd) → Prop := fun st ds r => ∃ (a : Str) (l : List Str), ds = [.str a, enc l] ∧ l.length ≤ 16777216 ∧ st.Ok ∧ r = (outX st a l).map fun s => (.none, s)
theorem sc_out : FnScope ["self", "name", "words", "out"] ["self", "name", "words"] (defScope sOut) := ⟨rfl, rfl, rfl, by decide +kernel, rfl, by decide +kernel, by decide +kernel⟩
theorem ok_out (R : RdC K w mg cB cW cL cR) (D : Dfm K cR "out_read" "Reading.out_read" sOut ["self", "name", "words"]) (MN : MetX P w K mg base cR 1 "numbers_of" ["self", "words"] (SpM K mg cR Rr_num)) : MetX P w K mg base cR 2 "out_read" ["self", "name", "words"] (SpM K mg cR Rr_out) := by
  obtain ⟨c2, x2⟩ := R.xTwice
  obtain ⟨c3, x3⟩ := R.xFull
  refine D.met sc_out (spm_len fun st ds r h => by obtain ⟨_, _, rfl, _⟩ := h; rfl) fun f cdv A outer s H vs Q E0 hr h => ?_
  refine ⟨_, (pss_cons (ps_if (pt_cmpR (k_in_seq K) (pv 1) (pe_lc (own := [(("out" : Str), 3)]) (g := (gName 3)) (tt := tYes) rfl sc_out.nd (k_pi_list K (pe_fld (pv 0) rfl)) (blkOk_by (by kernel_rfl)) (fun _ _ _ _ _ => (pg_name (i := 3) sc_out.nd rfl (Or.inl rfl))) (fun _ _ _ _ _ => pts_nil) (fun _ _ _ _ _ => (pe_ix (k_ix_tup K) (pv 3) pe_int (fun _ _ => rfl)))) (by rfl)) (pss_one (ps_raiseE x2 (takes_of rfl rfl rfl rfl))) pss_nil)
    (pss_cons (ps_if (pt_cmpR op_eq (pe_callB (k_len_seq K) (by rfl) R.len PySem.boot_len (pa_cons (pe_fld (pv 0) rfl) pa_nil)) (pe_gint R.outs) (nomark _)) (pss_one (ps_raiseE x3 (takes_of rfl rfl rfl rfl))) pss_nil)
    (pss_one (ps_expr (pe_bm PySem.F.plainAttrs_list PySem.F.slot_list_append PySem.F.type_list_append mt_append (pe_fld (pv 0) rfl) (pa_cons (pe_tup (pa_cons (pv 1) (pa_cons (pe_metX MN R.cl hr (pass_own (takes_of rfl rfl rfl rfl)) (pv 0) (pa_cons (pv 2) pa_nil)) pa_nil))) pa_nil)))))), ?_⟩
  obtain ⟨F9, H9, D9, p, dx, Ad, st, nw, ws, ds, r, rfl, hw, hF, S, ⟨a, l, rfl, hl, ok, rfl⟩, k1, k2⟩ := h
  have E : EnvR K F9 _ [.obj p (.ins cR dx (rdF Ad)), .val (.str a), .val (enc l), .un] := EnvR.start (N := ["self", "name", "words", "out"]) (AsR.obj hF (AsR.of_all hw))
  have fo : ∀ (O : Os) (y : Sl), RAd K (tFld K (tVar 0) "outs") [.obj p (.ins cR dx (rdF Ad)), .val (.str a), .val (enc l), y] O Ad.o := fun O y => rad_fld rfl R.cl R.nO (rdF_o Ad)
  have nl : (rdF Ad).lookup ("numbers_of" : Str) = none := rdF_no Ad (by decide +kernel) (by decide +kernel) (by decide +kernel) (by decide +kernel) (by decide +kernel)
  have lo := ok.lo
  with_reducible refine sq ?_
  have hx : RXo K (tLc (iList K (tFld K (tVar 0) "outs")) (gName 3) tYes (tOp (rIxT K) (tVar 3) (tC (.int 0))) [3]) [.obj p (.ins cR dx (rdF Ad)), .val (.str a), .val (enc l), .un] (rdO nw Ad st) ((st.o.map Prod.fst).map (enc : Str → PyData)) (rdO nw Ad st) :=
    rxo_filtA (K := K) (j := 2) (eα := (enc : Str × Tp Int → PyData)) (eβ := (enc : Str → PyData)) (p := fun _ => some true) (f := fun x => some x.1) (zs := st.o.map Prod.fst) (vs := [3]) (fun x => [.obj p (.ins cR dx (rdF Ad)), .val (.str a), .val (enc l), .val (enc x)]) [3] (fun O => fo O .un) rfl (by
      have : ∀ l : List (Str × Tp Int), filtO (fun _ => some true) (fun x => some x.1) l = some (l.map Prod.fst) := by
        intro l
        induction l with
        | nil => rfl
        | cons x l ih => unfold filtO; rw [ih]; rfl
      exact this st.o) (by decide) (fun x _ => rg_name (i := 3) (d := enc x)) (fun x _ b hb D9 acc10 => by cases hb; exact ⟨fun _ _ _ _ _ _ Q E S k => k _ _ (Same.refl _) S⟩) (fun x _ y hy D9 acc10 => by cases hy; exact rx_ixT (ds := [.str x.1, enc x.2]) (i := 0) (d := .str x.1) rfl (rx_var (i := 3) (d := enc x) rfl) rx_int)
  refine st_if (b := decide (a ∈ st.o.map Prod.fst)) (rt_val (rx_inS (neg := false) (xs := st.o.map Prod.fst) (rx_var (i := 1) (d := .str a) rfl) (RXo.s hx))) E S (fun hc F H f E S => ?_) (fun hc F H f E S => ?_)
  · exact fun C hC => k2 _ (by unfold outX; rw [if_pos hc]; rfl) C hC _ _ f S.bare
  refine nxt ?_
  try (with_reducible refine nxD ?_)
  with_reducible refine sq ?_
  have h1 := hc
  have fc := f
  refine st_if (b := decide ((st.o.length : Int) = 6)) (rt_val (rx_eqi (len_nat (f := enc) (rxs_ad (j := 2) (fo (rdO nw Ad st) .un) rfl)) rx_int)) E S (fun hc F H f E S => ?_) (fun hc F H f E S => ?_)
  · exact fun C hC => k2 _ (by unfold outX; rw [if_neg (by rw [h1]; decide), if_pos hc]; rfl) C hC _ _ (fc.trans f) S.bare
  refine nxt ?_
  have h2 := hc
  replace fc := fc.trans f
  have hG : outX st a l = (numsX st l).bind fun t => .ok ⟨st.i, st.g, st.o ++ [(a, t)], st.w, st.n⟩ := by
    unfold outX
    rw [if_neg (by rw [h1]; decide), if_neg (by rw [h2]; decide)]
  try (with_reducible refine nxD ?_)
  cases hN : numsX st l with
  | er x =>
    refine re_appA (j := 2) (fo (rdO nw Ad st) .un) rfl (re_tup (.next (rx_var (i := 1) (d := .str a) rfl) (.here (re_callM (R := Rr_num) (st := st) (ds := [enc l]) rfl nl ⟨l, rfl, hl, by rw [hN]; rfl⟩ (ra_cons (rx_var (i := 2) (d := enc l) rfl) ra_nil))))) E S fun C F' H' hC f S' => ?_
    exact k2 x (by rw [hG, hN]; rfl) C hC _ _ (fc.trans f) S'
  | ok t =>
    refine st_appA (j := 2) (by rw [List.length_map]; omega) (fo (rdO nw Ad st) .un) (rx_tup (ds := [.str a, enc t]) (ra_cons (rx_var (i := 1) (d := .str a) rfl) (ra_cons (rx_callM (R := Rr_num) (st := st) (st' := st) (ds := [enc l]) (d := enc t) rfl nl ⟨l, rfl, hl, by rw [hN]; rfl⟩ (ra_cons (rx_var (i := 2) (d := enc l) rfl) ra_nil)) ra_nil))) rfl E S fun F' H' f' E S => ?_
    have S := S.re (rdO_o nw Ad st (a, t))
    exact k1 .none ⟨st.i, st.g, st.o ++ [(a, t)], st.w, st.n⟩ (by rw [hG, hN]; rfl) .non F' H' (fc.trans f') S .non
def Rr_said : Rd → List PyData → Rx (PyData × Rd) → Prop := fun st ds r => ∃ d : Said, ds = [d.en] ∧ SaidOk d ∧ st.Ok ∧ r = (saidX st d).map fun s => (.none, s)
theorem sc_row : FnScope ["self", "said"] ["self", "said"] (defScope sRow) := ⟨rfl, rfl, rfl, by decide +kernel, rfl, by decide +kernel, by decide +kernel⟩
theorem ok_row (R : RdC K w mg cB cW cL cR) (D : Dfm K cR "row_read" "Reading.row_read" sRow ["self", "said"]) (MI : MetX P w K mg base cR 1 "in_read" ["self", "name", "width"] (SpM K mg cR Rr_in)) (MG : MetX P w K mg base cR 2 "gate_read" ["self", "word", "name", "kind", "wires"] (SpM K mg cR Rr_gat)) (MO : MetX P w K mg base cR 2 "out_read" ["self", "name", "words"] (SpM K mg cR Rr_out)) : MetX P w K mg base cR 3 "row_read" ["self", "said"] (SpM K mg cR Rr_said) := by
  refine D.met sc_row (spm_len fun st ds r h => by obtain ⟨_, rfl, _⟩ := h; rfl) fun f cdv A outer s H vs Q E0 hr h => ?_
  refine ⟨_, (pss_one (ps_if (pt_cmpR op_eq (pe_ix (k_ix_tup K) (pv 1) pe_int (fun _ _ => rfl)) pe_str (nomark _)) (pss_one (ps_expr (pe_metX MI R.cl hr (pass_own (takes_of rfl rfl rfl rfl)) (pv 0) (pa_cons (pe_ix (k_ix_tup K) (pv 1) pe_int (fun _ _ => rfl)) (pa_cons (pe_ix (k_ix_tup K) (pv 1) pe_int (fun _ _ => rfl)) pa_nil)))))
    (pss_one (ps_if (pt_cmpR op_eq (pe_ix (k_ix_tup K) (pv 1) pe_int (fun _ _ => rfl)) pe_str (nomark _)) (pss_one (ps_expr (pe_metX MO R.cl hr (pass_own (takes_of rfl rfl rfl rfl)) (pv 0) (pa_cons (pe_ix (k_ix_tup K) (pv 1) pe_int (fun _ _ => rfl)) (pa_cons (pe_ix (k_ix_tup K) (pv 1) pe_int (fun _ _ => rfl)) pa_nil))))) (pss_one (ps_expr (pe_metX MG R.cl hr (pass_own (takes_of rfl rfl rfl rfl)) (pv 0) (pa_cons (pe_ix (k_ix_tup K) (pv 1) pe_int (fun _ _ => rfl)) (pa_cons (pe_ix (k_ix_tup K) (pv 1) pe_int (fun _ _ => rfl)) (pa_cons (pe_ix (k_ix_tup K) (pv 1) pe_int (fun _ _ => rfl)) (pa_cons (pe_ix (k_ix_tup K) (pv 1) pe_int (fun _ _ => rfl)) pa_nil))))))))))), ?_⟩
  obtain ⟨F9, H9, D9, p, dx, Ad, st, nw, ws, ds, r, rfl, hw, hF, S, ⟨d, rfl, hd, ok, rfl⟩, k1, k2⟩ := h
  have E : EnvR K F9 _ [.obj p (.ins cR dx (rdF Ad)), .val d.en] := EnvR.start (N := ["self", "said"]) (AsR.obj hF (AsR.of_all hw))
  have nl : ∀ {m : Str}, (m == "ins") = false → (m == "gates") = false → (m == "outs") = false → (m == "wires") = false → (m == "names") = false → (rdF Ad).lookup m = none := fun h1 h2 h3 h4 h5 => rdF_no Ad h1 h2 h3 h4 h5
  cases d with
  | i a x =>
    obtain ⟨x1, x3, la, ka⟩ := hd
    have at_ : ∀ (n : Int) (e : PyData), atI [.str "in", .str a, .int x] n = some e → RX K (tOp (rIxT K) (tVar 1) (tC (.int n))) [.obj p (.ins cR dx (rdF Ad)), .val (Said.i a x).en] (rdO nw Ad st) e (rdO nw Ad st) := fun n e h => rx_ixT (ds := [.str "in", .str a, .int x]) h (rx_var (i := 1) (d := (Said.i a x).en) rfl) rx_int
    refine st_if (b := decide (("in" : Str) = "in")) (rt_val (rx_eqs (at_ 0 _ rfl) (rx_str (x := "in")))) E S (fun hc F H f E S => ?_) (fun hc F H f E S => absurd hc (by decide +kernel))
    cases hN : inX st a x with
    | er y =>
      refine (re_callM (R := Rr_in) (st := st) (ds := [.str a, .int x]) rfl (nl (by decide +kernel) (by decide +kernel) (by decide +kernel) (by decide +kernel) (by decide +kernel)) ⟨a, x, rfl, x1, x3, by omega, ok, by rw [hN]; rfl⟩ (ra_cons (at_ 1 _ rfl) (ra_cons (at_ 2 _ rfl) ra_nil))).run _ _ _ _ _ _ _ E S fun C F' H' hC f' S' => ?_
      exact k2 y (by show Rx.map _ (inX st a x) = _; rw [hN]; rfl) C hC _ _ (f.trans f') S'.bare
    | ok s' =>
      refine (rx_callM (R := Rr_in) (st := st) (st' := s') (ds := [.str a, .int x]) (d := .none) rfl (nl (by decide +kernel) (by decide +kernel) (by decide +kernel) (by decide +kernel) (by decide +kernel)) ⟨a, x, rfl, x1, x3, by omega, ok, by rw [hN]; rfl⟩ (ra_cons (at_ 1 _ rfl) (ra_cons (at_ 2 _ rfl) ra_nil))).go E S fun v F' H' f' E' S' r => ?_
      exact k1 .none s' (by show Rx.map _ (inX st a x) = _; rw [hN]; rfl) .non F' H' (f.trans f') S' .non
  | g a b c l =>
    obtain ⟨ga, ll, kc, lb⟩ := hd
    have at_ : ∀ (n : Int) (e : PyData), atI [.str a, .str b, .str c, enc l] n = some e → RX K (tOp (rIxT K) (tVar 1) (tC (.int n))) [.obj p (.ins cR dx (rdF Ad)), .val (Said.g a b c l).en] (rdO nw Ad st) e (rdO nw Ad st) := fun n e h => rx_ixT (ds := [.str a, .str b, .str c, enc l]) h (rx_var (i := 1) (d := (Said.g a b c l).en) rfl) rx_int
    have ai : ¬ a = "in" := by rcases ga with rfl | rfl <;> decide +kernel
    have ao : ¬ a = "out" := by rcases ga with rfl | rfl <;> decide +kernel
    refine st_if (b := decide (a = "in")) (rt_val (rx_eqs (at_ 0 _ rfl) (rx_str (x := "in")))) E S (fun hc F H f E S => absurd (of_decide_eq_true hc) ai) (fun hc F H f E S => ?_)
    refine st_if (b := decide (a = "out")) (rt_val (rx_eqs (at_ 0 _ rfl) (rx_str (x := "out")))) E S (fun hc F H f E S => absurd (of_decide_eq_true hc) ao) (fun hc F H f2 E S => ?_)
    cases hN : gateX st a b c l with
    | er y =>
      refine (re_callM (R := Rr_gat) (st := st) (ds := [.str a, .str b, .str c, enc l]) rfl (nl (by decide +kernel) (by decide +kernel) (by decide +kernel) (by decide +kernel) (by decide +kernel)) ⟨a, b, c, l, rfl, ll, ok, by rw [hN]; rfl⟩ (ra_cons (at_ 0 _ rfl) (ra_cons (at_ 1 _ rfl) (ra_cons (at_ 2 _ rfl) (ra_cons (at_ 3 _ rfl) ra_nil))))).run _ _ _ _ _ _ _ E S fun C F' H' hC f' S' => ?_
      exact k2 y (by show Rx.map _ (gateX st a b c l) = _; rw [hN]; rfl) C hC _ _ ((f.trans f2).trans f') S'.bare
    | ok s' =>
      refine (rx_callM (R := Rr_gat) (st := st) (st' := s') (ds := [.str a, .str b, .str c, enc l]) (d := .none) rfl (nl (by decide +kernel) (by decide +kernel) (by decide +kernel) (by decide +kernel) (by decide +kernel)) ⟨a, b, c, l, rfl, ll, ok, by rw [hN]; rfl⟩ (ra_cons (at_ 0 _ rfl) (ra_cons (at_ 1 _ rfl) (ra_cons (at_ 2 _ rfl) (ra_cons (at_ 3 _ rfl) ra_nil))))).go E S fun v F' H' f' E' S' r => ?_
      exact k1 .none s' (by show Rx.map _ (gateX st a b c l) = _; rw [hN]; rfl) .non F' H' ((f.trans f2).trans f') S' .non
  | o a l =>
    obtain ⟨ll, ka⟩ := hd
    have at_ : ∀ (n : Int) (e : PyData), atI [.str "out", .str a, enc l] n = some e → RX K (tOp (rIxT K) (tVar 1) (tC (.int n))) [.obj p (.ins cR dx (rdF Ad)), .val (Said.o a l).en] (rdO nw Ad st) e (rdO nw Ad st) := fun n e h => rx_ixT (ds := [.str "out", .str a, enc l]) h (rx_var (i := 1) (d := (Said.o a l).en) rfl) rx_int
    refine st_if (b := decide (("out" : Str) = "in")) (rt_val (rx_eqs (at_ 0 _ rfl) (rx_str (x := "in")))) E S (fun hc F H f E S => absurd hc (by decide +kernel)) (fun hc F H f E S => ?_)
    refine st_if (b := decide (("out" : Str) = "out")) (rt_val (rx_eqs (at_ 0 _ rfl) (rx_str (x := "out")))) E S (fun hc F H f2 E S => ?_) (fun hc F H f E S => absurd hc (by decide +kernel))
    cases hN : outX st a l with
    | er y =>
      refine (re_callM (R := Rr_out) (st := st) (ds := [.str a, enc l]) rfl (nl (by decide +kernel) (by decide +kernel) (by decide +kernel) (by decide +kernel) (by decide +kernel)) ⟨a, l, rfl, ll, ok, by rw [hN]; rfl⟩ (ra_cons (at_ 1 _ rfl) (ra_cons (at_ 2 _ rfl) ra_nil))).run _ _ _ _ _ _ _ E S fun C F' H' hC f' S' => ?_
      exact k2 y (by show Rx.map _ (outX st a l) = _; rw [hN]; rfl) C hC _ _ ((f.trans f2).trans f') S'.bare
    | ok s' =>
      refine (rx_callM (R := Rr_out) (st := st) (st' := s') (ds := [.str a, enc l]) (d := .none) rfl (nl (by decide +kernel) (by decide +kernel) (by decide +kernel) (by decide +kernel) (by decide +kernel)) ⟨a, l, rfl, ll, ok, by rw [hN]; rfl⟩ (ra_cons (at_ 1 _ rfl) (ra_cons (at_ 2 _ rfl) ra_nil))).go E S fun v F' H' f' E' S' r => ?_
      exact k1 .none s' (by show Rx.map _ (outX st a l) = _; rw [hN]; rfl) .non F' H' ((f.trans f2).trans f') S' .non
/-! ### read -/
theorem re_callMA {E0 : XK} {C dx p : Addr} {Ad : RdA} {i : Nat} {m x : Str} {t : TA} {ρ : List Sl} {O : Os} {sp : Sp} (hs : ρ[i]? = some (.obj p (.ins C dx (rdF Ad)))) (nl : (rdF Ad).lookup m = none) (h : REs K mg E0 ρ x t O) : REx K mg E0 (tMeth C m sp [] E0 (tVar i) t) ρ O x := ⟨fun _ _ _ _ _ _ Q E S k => by
  obtain ⟨s, h1, h2, h3⟩ := E.at hs
  subst h2
  exact ⟨_, h1, p, dx, rdF Ad, rfl, S.fh _ _ h3, nl, h.run _ _ _ _ _ _ _ E S k⟩⟩
theorem ret3 {t1 t2 t3 : TE} {D : Ends} {σ : L2.St} {H : Hp} (h : t1 σ H fun x H1 => t2 σ H1 fun y H2 => t3 σ H2 fun z H3 => [x, y, z].length ≤ sizeLine ∧ ∀ p, H3 p = none → D.rt (.ref p) (upd H3 p (.tup [x, y, z]))) : tRet (tTup (tCons t1 (tCons t2 (tCons t3 tNil)))) D σ H := h
def Rr_read : List PyData → Rx (List (List PyData)) → Prop := fun ds r => ∃ z : Str, ds = [.str z] ∧ z.length ≤ 16000000 ∧ EqD.ok z = true ∧ r = (readX z).map fun t => [t.a.map enc, t.b.map enc, t.c.map enc]
theorem sc_read : FnScope ["text", "rows", "reading", "row"] ["text"] (defScope (top 26)) := ⟨rfl, rfl, rfl, by decide +kernel, rfl, by decide +kernel, by decide +kernel⟩
theorem ok_read (R : RdC K w mg cB cW cL cR) (D : Dfn K mg "read" (top 26) ["text"]) (CX_row : CalX P w K mg base 3 "row_told" ["row"] (SpX K mg Rr_row)) (MK : ∃ f fd, L2.Mk K cR f ∧ FnOk P w K mg base (L2.CX P w) 1 f fd ["self"] (SpI K cR) ∧ Binds K fd ["self"] []) (MR : MetX P w K mg base cR 3 "row_read" ["self", "said"] (SpM K mg cR Rr_said)) : CalX P w K mg base 4 "read" ["text"] (SpXT K mg Rr_read) := by
  obtain ⟨cl, xl⟩ := R.xTooLong
  obtain ⟨co, xo⟩ := R.xOpen
  obtain ⟨fm, fdm, Mm, Fm, bm⟩ := MK
  refine D.calX sc_read (spxt_len fun ds d h => by obtain ⟨_, rfl, _⟩ := h; rfl) fun f cdv A outer s H vs Q E0 hr h => ?_
  refine ⟨_, (pss_cons (ps_set (i := 1) sc_read.nd rfl (Or.inl rfl) (pe_split (pv 0) pe_str))
    (pss_cons (ps_if (pt_cmpR op_gt (pe_callB (k_len_seq K) (by rfl) R.len PySem.boot_len (pa_cons (pv 1) pa_nil)) (pe_gint R.rows) (nomark _)) (pss_one (ps_raiseE xl (takes_of rfl rfl rfl rfl))) pss_nil)
    (pss_cons (ps_asg (pe_make0 Mm Fm (hr.mono (by decide)) (by rfl) R.gC bm .nil (pass_own (takes_of rfl rfl rfl rfl))) (pg_name (i := 2) sc_read.nd rfl (Or.inl rfl)))
    (pss_cons (ps_for (passes_of rfl) rfl (k_pi_list K (pv 1)) (pg_name (i := 3) sc_read.nd rfl (Or.inl rfl)) (pss_one (ps_expr (pe_metX MR R.cl hr (pass_own (takes_of rfl rfl rfl rfl)) (pv 2) (pa_cons (pe_calXE CX_row hr (pass_own (takes_of rfl rfl rfl rfl)) (pa_cons (pv 3) pa_nil)) pa_nil)))))
    (pss_cons (ps_if (PW.pt (pw_or (pt_cmpR (k_eqD K hr.units) (pe_fld (pv 2) rfl) (pe_lst pa_nil) (nomark _)) (pw_or1 (pt_cmpR (k_eqD K hr.units) (pe_fld (pv 2) rfl) (pe_lst pa_nil) (nomark _))))) (pss_one (ps_raiseE xo (takes_of rfl rfl rfl rfl))) pss_nil)
    (pss_one (ps_ret (pe_tup (pa_cons (pe_fld (pv 2) rfl) (pa_cons (pe_fld (pv 2) rfl) (pa_cons (pe_fld (pv 2) rfl) pa_nil))))))))))), ?_⟩
  obtain ⟨F9, ds, r, hw, hF, ⟨z, rfl, hz, hk, rfl⟩, k1, k2⟩ := h
  have E : EnvR K F9 _ [.val (.str z), .un, .un, .un] := EnvR.start (N := ["text", "rows", "reading", "row"]) (AsR.of_all hw)
  have S := Hx.start (K := K) hF
  have hro := rows_ok hk hz
  have hln : (Txt.split z "\n").length ≤ 16777216 := Nat.le_trans (PyProof.Rows.split_le z "\n") (by omega)
  with_reducible refine sq ?_
  refine st_set (i := 1) (d := enc (Txt.split z "\n")) (RXo.frz (rxo_split (by decide +kernel) (by omega) (rx_var (d := .str z) rfl) (rx_str (x := "\n")))) E S fun σ F H f E S => ?_
  have fc := f
  have hX : readX z = if decide ((80 : Int) < (Txt.split z "\n").length) = true then .er "TooLong" else (foldX rowS (Txt.split z "\n") Rd0).bind fun s => if (decide (s.i = []) || decide (s.o = [])) = true then .er "Open" else .ok (T3.mk s.i s.g s.o) := rfl
  generalize Txt.split z "\n" = rows at E hX hro hln
  have E : EnvR K _ _ [.val (.str z), .val (enc rows), .un, .un] := E
  try (with_reducible refine nxD ?_)
  with_reducible refine sq ?_
  refine st_if (b := decide ((80 : Int) < rows.length)) (rt_val (rx_gt (len_nat (K := K) (f := enc) (RX.s (rx_var (i := 1) (d := enc rows) rfl))) rx_int)) E S (fun hc F H f E S => ?_) (fun hc F H f E S => ?_)
  · exact fun C hC => k2 _ (by rw [hX, if_pos hc]; rfl) C hC _ _ S.stp
  rw [if_neg (by rw [hc]; decide)] at hX
  refine nxt ?_
  replace fc := fc.trans f
  try (with_reducible refine nxD ?_)
  with_reducible refine sq ?_
  refine st_mkRd (i := 2) E S fun p dx Ad σ F H f E S => ?_
  replace fc := fc.trans f
  have E : EnvR K _ _ [.val (.str z), .val (enc rows), .obj p (.ins cR dx (rdF Ad)), .un] := E
  have nl : (rdF Ad).lookup ("row_read" : Str) = none := rdF_no Ad (by decide +kernel) (by decide +kernel) (by decide +kernel) (by decide +kernel) (by decide +kernel)
  try (with_reducible refine nxD ?_)
  with_reducible refine sq ?_
  refine st_forF (K := K) (eα := (enc : Str → PyData)) (xs := rows) (fun _ => [.val (.str z), .val (enc rows), .obj p (.ins cR dx (rdF Ad)), .un]) (fun s => rdO true Ad s) E S (ri_list (rx_var (i := 1) (d := enc rows) rfl)) (stepF_all rows Rd0 inv0 hro) ⟨.inl rfl, .inl rfl, .inl rfl, .inr rfl, trivial⟩ (fun st es σ F H f E S => ?_) (fun row hrow st out ho hrt σ F H v f0 E S r N B hN hB => ?_)
  · replace fc := fc.trans f
    have ef : foldX rowS rows Rd0 = .ok st := by
      cases e : foldX rowS rows Rd0 with
      | er x => rw [e] at es; cases es
      | ok s' => rw [e] at es; cases es; rfl
    have I := fold_inv inv0 hro ef
    have ok := I.ok
    rw [ef] at hX
    have fi : ∀ (O : Os), RAd K (tFld K (tVar 2) "ins") [.val (.str z), .val (enc rows), .obj p (.ins cR dx (rdF Ad)), .un] O Ad.i := fun O => rad_fld rfl R.cl R.nI (rdF_i Ad)
    have fg : ∀ (O : Os), RAd K (tFld K (tVar 2) "gates") [.val (.str z), .val (enc rows), .obj p (.ins cR dx (rdF Ad)), .un] O Ad.g := fun O => rad_fld rfl R.cl R.nG (rdF_g Ad)
    have fo : ∀ (O : Os), RAd K (tFld K (tVar 2) "outs") [.val (.str z), .val (enc rows), .obj p (.ins cR dx (rdF Ad)), .un] O Ad.o := fun O => rad_fld rfl R.cl R.nO (rdF_o Ad)
    try (with_reducible refine nxD ?_)
    with_reducible refine sq ?_
    refine st_if (b := decide (st.i = []) || decide (st.o = [])) (rt_or2 (rt_val (rx_eqD (x := st.i) (y := []) (RXs.h (rxs_ad (j := 0) (fi (rdO true Ad st)) rfl)) (RXs.h (RXo.s (rxo_lst (ds := []) ra_nil))) (by decide) ok.i rfl)) (rt_val (rx_eqD (x := st.o) (y := []) (RXs.h (rxs_ad (j := 2) (fo (rdO true Ad st)) rfl)) (RXs.h (RXo.s (rxo_lst (ds := []) ra_nil))) (by decide) ok.o rfl))) E S (fun hc F H f E S => ?_) (fun hc F H f E S => ?_)
    · exact fun C hC => k2 _ (by rw [hX]; show Rx.map _ (if _ then _ else _) = _; rw [if_pos hc]; rfl) C hC _ _ S.bare.stp
    refine nxt ?_
    have hX : readX z = .ok (T3.mk st.i st.g st.o) := by rw [hX]; show (if _ then _ else _) = _; rw [if_neg (by rw [hc]; decide)]
    try (with_reducible refine nxD ?_)
    refine ret3 ?_
    refine (fi (rdO true Ad st)).run _ _ _ _ _ _ _ E S ?_
    refine (fg (rdO true Ad st)).run _ _ _ _ _ _ _ E S ?_
    refine (fo (rdO true Ad st)).run _ _ _ _ _ _ _ E S ⟨Nat.le_of_ble_eq_true rfl, fun T hT => ?_⟩
    have S2 := S.put hT (o := .tup [.ref Ad.i, .ref Ad.g, .ref Ad.o])
    have own : ∀ (j : Nat) (a : Addr) (ds : List PyData), (rdO true Ad st)[j]? = some ⟨a, true, .l ds⟩ → _ := fun j a ds e => S2.own ⟨a, true, .l ds⟩ (List.mem_of_getElem? e)
    refine k1 _ (by rw [hX]; rfl) T [Ad.i, Ad.g, Ad.o] _ _ S2.bare.stp (SqT.of upd_same) rfl (List.Nodup.sublist (List.take_sublist 3 [Ad.i, Ad.g, Ad.o, Ad.w, Ad.n]) S.nd) ?_
    intro i q es h1 h2
    match i, h1, h2 with
    | 0, h1, h2 =>
      obtain rfl := Option.some.inj h1
      obtain rfl := Option.some.inj h2
      obtain ⟨o1, o2, _, xs, o3, o4, o5⟩ := own 0 _ _ rfl
      exact ⟨o2 rfl, o1, xs, o3, o4, o5⟩
    | 1, h1, h2 =>
      obtain rfl := Option.some.inj h1
      obtain rfl := Option.some.inj h2
      obtain ⟨o1, o2, _, xs, o3, o4, o5⟩ := own 1 _ _ rfl
      exact ⟨o2 rfl, o1, xs, o3, o4, o5⟩
    | 2, h1, h2 =>
      obtain rfl := Option.some.inj h1
      obtain rfl := Option.some.inj h2
      obtain ⟨o1, o2, _, xs, o3, o4, o5⟩ := own 2 _ _ rfl
      exact ⟨o2 rfl, o1, xs, o3, o4, o5⟩
  · have I : st.Inv := by
      unfold stepF at ho
      split at ho
      · assumption
      · cases ho
    have ho : some (stepR (rowS st row)) = some out := by
      rw [← ho]
      unfold stepF
      rw [if_pos I]
    obtain rfl := Option.some.inj ho
    refine (rg_name (i := 3) (d := .str row)).run _ _ _ _ _ E r S.fh fun σ E _ => ?_
    have E : EnvR K _ _ [.val (.str z), .val (enc rows), .obj p (.ins cR dx (rdF Ad)), .val (.str row)] := E
    have hrk := hro row hrow
    have raise : ∀ x, rowS st row = .er x → (readX z).map (fun t => [t.a.map enc, t.b.map enc, t.c.map enc]) = .er x := fun x e => by
      have := hrt x (by rw [e]; rfl)
      cases e2 : foldX rowS rows Rd0 with
      | ok s' => rw [e2] at this; cases this
      | er y =>
        rw [e2] at this
        cases this
        rw [hX, e2]
        rfl
    cases hrw : rowX row with
    | er x =>
      refine (re_callMA (i := 2) rfl nl (.here (re_callXE (R := Rr_row) (ds := [.str row]) ⟨row, rfl, by rw [hrw]; rfl, hrk.2, hrk.1⟩ (ra_cons (rx_var (i := 3) (d := .str row) rfl) ra_nil)))).run _ _ _ _ _ _ _ E S fun C F' H' hC f' S' => ?_
      exact k2 x (raise x (by unfold rowS; rw [hrw]; rfl)) C hC _ _ S'.stp
    | ok d =>
      have hd := row_said hrw hrk.1 hrk.2
      have ra : RA K (tCons (tCall (SpX K mg Rr_row) [] E0 (tCons (tVar 3) tNil)) tNil) [.val (.str z), .val (enc rows), .obj p (.ins cR dx (rdF Ad)), .val (.str row)] (rdO true Ad st) ([d.en].map .val) (rdO true Ad st) := ra_cons (rx_callXE (R := Rr_row) (ds := [.str row]) (d := d.en) ⟨row, rfl, by rw [hrw]; rfl, hrk.2, hrk.1⟩ (ra_cons (rx_var (i := 3) (d := .str row) rfl) ra_nil)) ra_nil
      have hs : rowS st row = saidX st d := by unfold rowS; rw [hrw]; rfl
      cases hQ : saidX st d with
      | er x =>
        refine (re_callM (i := 2) (R := Rr_said) (st := st) (ds := [d.en]) rfl nl ⟨d, rfl, hd, I.ok, by rw [hQ]; rfl⟩ ra).run _ _ _ _ _ _ _ E S fun C F' H' hC f' S' => ?_
        exact k2 x (raise x (by rw [hs, hQ])) C hC _ _ S'.stp
      | ok s' =>
        refine (rx_callM (i := 2) (R := Rr_said) (st := st) (st' := s') (ds := [d.en]) (d := .none) rfl nl ⟨d, rfl, hd, I.ok, by rw [hQ]; rfl⟩ ra).go E S fun v F' H' f' E' S' r => ?_
        exact hN _ (by rw [hs, hQ]; rfl) _ _ _ f' (E'.weak ⟨.inl rfl, .inl rfl, .inl rfl, .inr rfl, trivial⟩) S'
theorem is_name_to : ∀ ds d, R_is_name ds d → Rr_is_name ds d := fun ds d h => by
  obtain ⟨z, r, rfl, rfl, h⟩ := h
  unfold m_is_name at h
  split at h
  · rename_i c
    cases h
    exact ⟨z, rfl, rfl, c.1, c.2⟩
  · cases h
theorem read_to : ∀ ds r', R_read ds r' → ∃ r, Rr_read ds r ∧ r' = r.map (fun ess => .tuple (ess.map .list)) ∧ ∀ ess, r = .ok ess → ess.length ≤ 1000 := fun ds r' h => by
  obtain ⟨z, y, rfl, rfl, h⟩ := h
  unfold m_read at h
  split at h
  · rename_i c
    cases h
    refine ⟨_, ⟨z, rfl, c.1, c.2, rfl⟩, ?_, fun ess e => ?_⟩
    · cases readX z with
      | ok t => rfl
      | er x => rfl
    · cases q : readX z with
      | ok t => rw [q] at e; cases e; exact Nat.le_of_ble_eq_true rfl
      | er x => rw [q] at e; cases e
  · cases h
theorem spt_read (mg : Str → Option Value) : ∀ vs H Q E, SpT K RT_read vs H Q E → SpXT K mg Rr_read vs H Q E := fun vs H Q E ⟨F, ds, ess, q, fh, hR, k⟩ => by
  obtain ⟨z, y, rfl, rfl, h⟩ := hR
  have h := okO_some h
  unfold m_read at h
  split at h
  · rename_i c
    have h : readX z = .ok y := Option.some.inj h
    exact ⟨F, [enc z], .ok [y.a.map enc, y.b.map enc, y.c.map enc], q, fh, ⟨z, rfl, c.1, c.2, by rw [h]; rfl⟩, fun ess e => by cases e; exact k, fun x e => by cases e⟩
  · cases h
end


structure Bi (mg : Str → Option Value) : Prop where
  triv : True
  bool : mg "bool" = none
  enumerate : mg "enumerate" = none
  int : mg "int" = none
  isinstance : mg "isinstance" = none
  len : mg "len" = none
  list : mg "list" = none
  min : mg "min" = none
  range : mg "range" = none
  str : mg "str" = none
  sum : mg "sum" = none
  tuple : mg "tuple" = none
def m__law_cell_at (v_script : (List Int)) (v_k : Int) : Option (Int) :=
if (decide (v_k < (v_script.length : Int))) = true then (
(atI v_script v_k).bind fun t3 =>
some t3)
else (
some (0 : Int))
def R__law_cell_at : List PyData → PyData → Prop := fun ds d => ∃ (v_script : (List Int)) (v_k : Int) (r : Int), ds = [enc (v_script : (List Int)), enc (v_k : Int)] ∧ d = enc (r : Int) ∧ m__law_cell_at v_script v_k = some r
def m__law_stir (v_cell : Int) (v_k : Int) : Option (Int) :=
if (decide (((10 : Int) ^ (18 : Int).toNat) ≤ v_cell)) = true then (
(shrO (v_cell - ((10 : Int) ^ (18 : Int).toNat)) ((28 : Int) * v_k)).bind fun t3 =>
some (t3 % ((2 : Int) ^ (28 : Int).toNat)))
else (
(some ((((v_cell + ((1013 : Int) * v_k)) + (1 : Int)) * (16807 : Int)) % (2147483647 : Int))).bind fun v5 =>
(mulO v5 v5).bind fun t7 =>
(some (t7 % (2147483629 : Int))).bind fun v9 =>
some (((v9 * (39373 : Int)) % (2147483587 : Int)) / (8 : Int)))
def R__law_stir : List PyData → PyData → Prop := fun ds d => ∃ (v_cell : Int) (v_k : Int) (r : Int), ds = [enc (v_cell : Int), enc (v_k : Int)] ∧ d = enc (r : Int) ∧ m__law_stir v_cell v_k = some r
def m__law_names (v_head : Int) (v_k : Int) (v_many : Int) : Option ((List Str)) :=
(some ("abcdefghijklmnopqrstuvwxyz" : Str)).bind fun v1 =>
(some ([("in" : Str), ("gate" : Str), ("sure" : Str), ("out" : Str), ("not" : Str), ("and" : Str), ("or" : Str), ("xor" : Str), ("vote" : Str)] : (List Str))).bind fun v3 =>
(some ([] : (List Str))).bind fun v5 =>
(rngO v_many).bind fun l8 =>
(forS (S := List Str) (fun (x12 : Int) (s11 : List Str) => (
(m__law_stir v_head (v_k + x12)).bind fun r16 =>
(signAt v1 (r16 % (26 : Int))).bind fun t18 =>
(signAt v1 ((r16 / (26 : Int)) % (26 : Int))).bind fun t20 =>
(mulSO ("x" : Str) ((r16 / (700 : Int)) % (7 : Int))).bind fun t22 =>
(joinO ("" : Str) ([t18, t20, t22] : (List Str))).bind fun t24 =>
(cutSO t24 (some ((r16 / (5000 : Int)) % (2 : Int))) none).bind fun t26 =>
(if (decide (((r16 / (10000 : Int)) % (4 : Int)) = (0 : Int))) = true then ((eqO (s11 : (List Str)) ([] : (List Str))).bind fun b29 => some (!b29)) else some false).bind fun b31 =>
(if b31 = true then (
(modO (r16 / (40000 : Int)) (s11.length : Int)).bind fun t34 =>
(atI s11 t34).bind fun t36 =>
(catSO t36 t26).bind fun t38 =>
(cutSO t38 none (some (8 : Int))).bind fun t40 =>
some t40)
else (
some t26) : Option (Str)).bind fun j32 =>
(if ((decide (j32 = ("" : Str))) || ((decide (j32 ∈ s11)) || (decide (j32 ∈ v3)))) = true then (
(mapO (fun (x47 : Int) => (signAt v1 (x47 / (26 : Int))).bind fun t58 => (catSO ("zz" : Str) t58).bind fun t60 => (signAt v1 (x47 % (26 : Int))).bind fun t62 => (catSO t60 t62).bind fun t64 => some (t64 : Str)) (rngL 0 80)).bind fun l66 =>
(atI ((l66.filter (fun (x69 : Str) => (!decide (x69 ∈ s11)))).map (fun (x69 : Str) => (x69 : Str))) (0 : Int)).bind fun t72 =>
some t72)
else (
some j32) : Option (Str)).bind fun j44 =>
(appO s11 j44).bind fun u74 =>
some u74 : Option (List Str))) l8 v5).bind fun s76 =>
some s76
def R__law_names : List PyData → List PyData → Prop := fun ds es => ∃ (v_head : Int) (v_k : Int) (v_many : Int) (r : (List Str)), ds = [enc (v_head : Int), enc (v_k : Int), enc (v_many : Int)] ∧ es = r.map enc ∧ m__law_names v_head v_k v_many = some r
def m__law_wires (v_cell : Int) (v_k : Int) (v_many : Int) (v_count : Int) : Option ((Tp Int)) :=
(some ([] : (List Int))).bind fun v1 =>
(rngO v_many).bind fun l4 =>
(forS (S := List Int) (fun (x8 : Int) (s7 : List Int) => (
(m__law_stir v_cell (v_k + x8)).bind fun r12 =>
(modO (r12 / (4 : Int)) v_count).bind fun t14 =>
(modO (r12 / (4 : Int)) (min2 v_count (6 : Int))).bind fun t16 =>
(atI ([t14, ((v_count - (1 : Int)) - t16)] : (List Int)) (b2n (decide ((0 : Int) < (r12 % (4 : Int)))))).bind fun t18 =>
(appO s7 t18).bind fun u20 =>
some u20 : Option (List Int))) l4 v1).bind fun s22 =>
some (Tp.mk s22)
def R__law_wires : List PyData → PyData → Prop := fun ds d => ∃ (v_cell : Int) (v_k : Int) (v_many : Int) (v_count : Int) (r : (Tp Int)), ds = [enc (v_cell : Int), enc (v_k : Int), enc (v_many : Int), enc (v_count : Int)] ∧ d = enc (r : (Tp Int)) ∧ m__law_wires v_cell v_k v_many v_count = some r
def m__law_gate (v_cell : Int) (v_count : Int) : Option ((T3 Str (Tp Int) Bool)) :=
(m__law_stir v_cell (0 : Int)).bind fun r1 =>
(atI ([("and" : Str), ("or" : Str), ("xor" : Str), ("vote" : Str), ("not" : Str), ("and" : Str), ("xor" : Str), ("vote" : Str)] : (List Str)) (r1 % (8 : Int))).bind fun t3 =>
(some ((dlit [(("not" : Str), (1 : Int)), (("vote" : Str), (3 : Int))] t3).getD (2 : Int))).bind fun v5 =>
(m__law_wires v_cell (1 : Int) v5 v_count).bind fun r9 =>
some (T3.mk t3 r9 (decide (((r1 / (8 : Int)) % (4 : Int)) = (0 : Int))))
def R__law_gate : List PyData → PyData → Prop := fun ds d => ∃ (v_cell : Int) (v_count : Int) (r : (T3 Str (Tp Int) Bool)), ds = [enc (v_cell : Int), enc (v_count : Int)] ∧ d = enc (r : (T3 Str (Tp Int) Bool)) ∧ m__law_gate v_cell v_count = some r
def m__law_net (v_script : (List Int)) : Option ((T3 (List (Str × Int)) (List (T3 Str (Tp Int) Bool)) (List (Str × (Tp Int))))) :=
(m__law_cell_at v_script (0 : Int)).bind fun r1 =>
(m__law_names r1 (300 : Int) (6 : Int)).bind fun r3 =>
(some ([] : (List (Str × Int)))).bind fun v5 =>
(m__law_stir r1 (320 : Int)).bind fun r8 =>
(rngO ((1 : Int) + (r8 % (6 : Int)))).bind fun l10 =>
(forS (S := List (Str × Int)) (fun (x14 : Int) (s13 : List (Str × Int)) => (
(atI r3 x14).bind fun t18 =>
(m__law_stir r1 ((321 : Int) + x14)).bind fun r20 =>
(appO s13 (t18, ((1 : Int) + (r20 % (3 : Int))))).bind fun u22 =>
some u22 : Option (List (Str × Int)))) l10 v5).bind fun s24 =>
(some ((s24.map (fun (x26 : (Str × Int)) => (x26.2 : Int))).sum)).bind fun v29 =>
(some ([] : (List (T3 Str (Tp Int) Bool)))).bind fun v31 =>
(forS (S := List (T3 Str (Tp Int) Bool)) (fun (x36 : Int) (s35 : List (T3 Str (Tp Int) Bool)) => (
(m__law_gate x36 (v29 + (s35.length : Int))).bind fun r40 =>
(appO s35 r40).bind fun u42 =>
some u42 : Option (List (T3 Str (Tp Int) Bool)))) (cutL v_script (some (1 : Int)) (some (61 : Int))) v31).bind fun s44 =>
(some ([] : (List (Str × (Tp Int))))).bind fun v45 =>
(m__law_names r1 (330 : Int) (6 : Int)).bind fun r48 =>
(m__law_stir r1 (340 : Int)).bind fun r50 =>
(if (decide ((r50 % (2 : Int)) = (0 : Int))) = true then (
some r3)
else (
some r48) : Option ((List Str))).bind fun j52 =>
(m__law_stir r1 (341 : Int)).bind fun r54 =>
(rngO ((1 : Int) + (r54 % (6 : Int)))).bind fun l56 =>
(forS (S := List (Str × (Tp Int))) (fun (x60 : Int) (s59 : List (Str × (Tp Int))) => (
(m__law_stir r1 ((342 : Int) + x60)).bind fun r64 =>
(atI j52 ((5 : Int) - x60)).bind fun t66 =>
(m__law_wires r1 ((350 : Int) + ((3 : Int) * x60)) ((1 : Int) + (r64 % (3 : Int))) (v29 + (s44.length : Int))).bind fun r68 =>
(appO s59 (t66, r68)).bind fun u70 =>
some u70 : Option (List (Str × (Tp Int))))) l56 v45).bind fun s72 =>
some (T3.mk s24 s44 s72)
def R__law_net : List PyData → PyData → Prop := fun ds d => ∃ (v_script : (List Int)) (r : (T3 (List (Str × Int)) (List (T3 Str (Tp Int) Bool)) (List (Str × (Tp Int))))), ds = [enc (v_script : (List Int))] ∧ d = enc (r : (T3 (List (Str × Int)) (List (T3 Str (Tp Int) Bool)) (List (Str × (Tp Int))))) ∧ m__law_net v_script = some r
def m__law_gate_names (v_net : (T3 (List (Str × Int)) (List (T3 Str (Tp Int) Bool)) (List (Str × (Tp Int))))) (v_head : Int) : Option ((List Str)) :=
(some (v_net.a.map (fun (x2 : (Str × Int)) => (x2.1 : Str)))).bind fun v5 =>
(m__law_names v_head (400 : Int) (v_net.b.length : Int)).bind fun r8 =>
(some ([] : (List Str))).bind fun v10 =>
(forS (S := List Str × List Str) (fun (x15 : Str) (s14 : List Str × List Str) => (
(if (decide (x15 ∈ s14.2)) = true then (
(mapO (fun (x22 : Int) => (signAt ("abcdefghijkl" : Str) (x22 / (12 : Int))).bind fun t33 => (catSO ("y" : Str) t33).bind fun t35 => (signAt ("mnopqrstuvwx" : Str) (x22 % (12 : Int))).bind fun t37 => (catSO t35 t37).bind fun t39 => some (t39 : Str)) (rngL 0 144)).bind fun l41 =>
(atI ((l41.filter (fun (x44 : Str) => ((!decide (x44 ∈ s14.2)) && (!decide (x44 ∈ r8))))).map (fun (x44 : Str) => (x44 : Str))) (0 : Int)).bind fun t49 =>
some t49)
else (
some x15) : Option (Str)).bind fun j19 =>
(appO s14.1 j19).bind fun u51 =>
(appO s14.2 j19).bind fun u53 =>
some (u51, u53) : Option (List Str × List Str))) r8 (v10, v5)).bind fun s55 =>
some s55.1
def R__law_gate_names : List PyData → List PyData → Prop := fun ds es => ∃ (v_net : (T3 (List (Str × Int)) (List (T3 Str (Tp Int) Bool)) (List (Str × (Tp Int))))) (v_head : Int) (r : (List Str)), ds = [enc (v_net : (T3 (List (Str × Int)) (List (T3 Str (Tp Int) Bool)) (List (Str × (Tp Int))))), enc (v_head : Int)] ∧ es = r.map enc ∧ m__law_gate_names v_net v_head = some r
def m__law_words (v_ins : (List (Str × Int))) (v_gate_names : (List Str)) : Option ((List Str)) :=
(some ([] : (List Str))).bind fun v1 =>
(forS (S := (List Str)) (fun (x5 : (Str × Int)) (s4 : (List Str)) => (
(catSO x5.1 (":0" : Str)).bind fun t9 =>
(catSO x5.1 (":1" : Str)).bind fun t11 =>
(catSO x5.1 (":2" : Str)).bind fun t13 =>
(atI ([([x5.1] : (List Str)), (cutL ([t9, t11, t13] : (List Str)) none (some x5.2))] : (List (List Str))) (b2n (decide ((1 : Int) < x5.2)))).bind fun t15 =>
(extO s4 t15).bind fun t17 =>
some t17 : Option ((List Str)))) v_ins v1).bind fun s19 =>
(extO s19 v_gate_names).bind fun t22 =>
some t22
def R__law_words : List PyData → List PyData → Prop := fun ds es => ∃ (v_ins : (List (Str × Int))) (v_gate_names : (List Str)) (r : (List Str)), ds = [enc (v_ins : (List (Str × Int))), enc (v_gate_names : (List Str))] ∧ es = r.map enc ∧ m__law_words v_ins v_gate_names = some r
def m__law_rows (v_net : (T3 (List (Str × Int)) (List (T3 Str (Tp Int) Bool)) (List (Str × (Tp Int))))) (v_gate_names : (List Str)) : Option ((List Str)) :=
(m__law_words v_net.a v_gate_names).bind fun r1 =>
(mapO (fun (x4 : (Str × Int)) => (strO x4.2).bind fun t11 => (joinO (" " : Str) ([("in" : Str), x4.1, t11] : (List Str))).bind fun t13 => some (t13 : Str)) v_net.a).bind fun l15 =>
(forS (S := List Str) (fun (x20 : (Int × (T3 Str (Tp Int) Bool))) (s19 : List Str) => (
(atI ([("gate" : Str), ("sure" : Str)] : (List Str)) (b2n x20.2.c)).bind fun t24 =>
(atI v_gate_names x20.1).bind fun t26 =>
(some ([t24, t26, x20.2.a] : (List Str))).bind fun v28 =>
(mapO (fun (x31 : Int) => (atI r1 x31).bind fun t36 => some (t36 : Str)) x20.2.b.l).bind fun l38 =>
(extO v28 l38).bind fun t40 =>
(joinO (" " : Str) t40).bind fun t42 =>
(appO s19 t42).bind fun u44 =>
some u44 : Option (List Str))) (enumL v_net.b) l15).bind fun s46 =>
(forS (S := List Str) (fun (x49 : (Str × (Tp Int))) (s48 : List Str) => (
(mapO (fun (x54 : Int) => (atI r1 x54).bind fun t59 => some (t59 : Str)) x49.2.l).bind fun l61 =>
(extO ([("out" : Str), x49.1] : (List Str)) l61).bind fun t63 =>
(joinO (" " : Str) t63).bind fun t65 =>
(appO s48 t65).bind fun u67 =>
some u67 : Option (List Str))) v_net.c s46).bind fun s69 =>
some s69
def R__law_rows : List PyData → List PyData → Prop := fun ds es => ∃ (v_net : (T3 (List (Str × Int)) (List (T3 Str (Tp Int) Bool)) (List (Str × (Tp Int))))) (v_gate_names : (List Str)) (r : (List Str)), ds = [enc (v_net : (T3 (List (Str × Int)) (List (T3 Str (Tp Int) Bool)) (List (Str × (Tp Int))))), enc (v_gate_names : (List Str))] ∧ es = r.map enc ∧ m__law_rows v_net v_gate_names = some r

def m_law (v_script : (List Int)) : Option (Bool) :=
(m__law_net v_script).bind fun r1 =>
(m__law_cell_at v_script (0 : Int)).bind fun r3 =>
(m__law_gate_names r1 (r3 + (1 : Int))).bind fun r5 =>
(m__law_cell_at v_script (0 : Int)).bind fun r7 =>
(m__law_stir r7 (343 : Int)).bind fun r9 =>
(if ((decide ((r9 % (4 : Int)) = (1 : Int))) && (decide ((5 : Int) < (r5.length : Int)))) = true then (
(mapO (fun (x15 : Int) => (atI r5 x15).bind fun t22 => (atI r1.c x15).bind fun t24 => some ((t22, t24.2) : (Str × (Tp Int)))) (rngL 0 r1.c.length)).bind fun l26 =>
(some (T3.mk r1.a r1.b l26)).bind fun v28 =>
some v28)
else (
some r1) : Option ((T3 (List (Str × Int)) (List (T3 Str (Tp Int) Bool)) (List (Str × (Tp Int)))))).bind fun j12 =>
(m__law_rows j12 r5).bind fun r30 =>
(joinO ("\n" : Str) r30).bind fun t32 =>
(okO (m_read t32)).bind fun r34 =>
if (!(decide (((T3.mk r34.a r34.b r34.c) : (T3 (List (Str × Int)) (List (T3 Str (Tp Int) Bool)) (List (Str × (Tp Int))))) = j12))) = true then (
some false)
else (
(some ([(((T3.mk r34.a r34.b r34.c).a).length : Int), (((T3.mk r34.a r34.b r34.c).b).length : Int), (((T3.mk r34.a r34.b r34.c).c).length : Int)] : List Int)).bind fun v40 =>
(if r34.a.length < 16777216 then some () else none).bind fun _ =>
(if r34.b.length < 16777216 then some () else none).bind fun _ =>
(if r34.c.length < 16777216 then some () else none).bind fun _ =>
if (!decide ((([((r34.a).length : Int) + 1, ((r34.b).length : Int) + 1, ((r34.c).length : Int) + 1] : List Int) : (List Int)) = (v40.map (fun (x47 : Int) => ((x47 + (1 : Int)) : Int))))) = true then (
some false)
else (
(okO (m_read t32)).bind fun r54 =>
(eqO (r54 : (T3 (List (Str × Int)) (List (T3 Str (Tp Int) Bool)) (List (Str × (Tp Int))))) j12).bind fun b56 =>
some b56))
def R_law : List PyData → PyData → Prop := fun ds d => ∃ (v_script : (List Int)) (r : Bool), ds = [enc (v_script : (List Int))] ∧ d = enc (r : Bool) ∧ m_law v_script = some r
section
variable {P : Program} {w : World} {K : Fg} {mg : Str → Option Value} {base : Heap}
theorem sc__law_cell_at : FnScope ["script", "k"] ["script", "k"] (defScope (top 28)) := ⟨rfl, rfl, rfl, by decide +kernel, rfl, by decide +kernel, by decide +kernel⟩
theorem ok__law_cell_at (B : Bi mg) (D : Dfn K mg "_law_cell_at" (top 28) ["script", "k"]) : Cal P w K mg base 1 "_law_cell_at" ["script", "k"] (SpP K R__law_cell_at) := by
  refine D.cal sc__law_cell_at (sp_len fun ds d h => by obtain ⟨_, _, _, rfl, _⟩ := h; rfl) fun f cdv A outer s H vs Q E hr h => ?_
  refine ⟨_, (pss_cons (ps_if (pt_cmpR op_lt (pv 1) (pe_callB (k_len_seq K) (by rfl) B.len PySem.boot_len (pa_cons (pv 0) pa_nil)) (nomark _)) (pss_one (ps_ret (pe_ix (k_ix_list K) (pv 0) (pv 1) (fun _ _ => rfl)))) pss_nil) (pss_one (ps_ret pe_int))), ?_⟩
  obtain ⟨F, ds, d, hw, hF, ⟨v_script, v_k, rr, rfl, rfl, hm0⟩, k⟩ := h
  have E : EnvR K F _ [.val (enc (v_script : (List Int))), .val (enc (v_k : Int))] := EnvR.start (N := ["script", "k"]) (AsR.of_all hw)
  have S := Hx.start (K := K) hF
  have fc : Same F F := Same.refl F
  unfold m__law_cell_at at hm0
  try (with_reducible refine nxD ?_)
  with_reducible refine sq ?_
  refine st_if (b := (decide (v_k < (v_script.length : Int)))) (rt_val (rx_lt (rx_var (d := enc (v_k : Int)) rfl) (len_nat (f := enc) (RX.s (rx_var (d := enc (v_script : (List Int))) rfl))))) E S (fun hc F H f E S => ?_) (fun hc F H f E S => ?_)
  · rw [if_pos hc] at hm0
    replace fc := fc.trans f
    obtain ⟨t3, h4, hm0⟩ := bindE hm0
    obtain rfl := Option.some.inj hm0
    -- return
    try (with_reducible refine nxD ?_)
    refine st_ret (d := enc (t3 : Int)) (rx_ix (atI_map enc h4) (RX.s (rx_var (d := enc (v_script : (List Int))) rfl)) (rx_var (d := enc (v_k : Int)) rfl)) E S fun v F H f S r => ?_
    exact k v F H S.stp r
  · rw [if_neg (by rw [hc]; decide)] at hm0
    replace fc := fc.trans f
    refine nxt ?_
    obtain rfl := Option.some.inj hm0
    -- return
    try (with_reducible refine nxD ?_)
    refine st_ret (d := enc ((0 : Int) : Int)) rx_int E S fun v F H f S r => ?_
    exact k v F H S.stp r
theorem sc__law_stir : FnScope ["cell", "k", "number"] ["cell", "k"] (defScope (top 29)) := ⟨rfl, rfl, rfl, by decide +kernel, rfl, by decide +kernel, by decide +kernel⟩
theorem ok__law_stir (D : Dfn K mg "_law_stir" (top 29) ["cell", "k"]) : Cal P w K mg base 1 "_law_stir" ["cell", "k"] (SpP K R__law_stir) := by
  refine D.cal sc__law_stir (sp_len fun ds d h => by obtain ⟨_, _, _, rfl, _⟩ := h; rfl) fun f cdv A outer s H vs Q E hr h => ?_
  refine ⟨_, (pss_cons (ps_if (pt_cmpR op_ge (pv 0) (pe_op op_pow pe_int pe_int) (nomark _)) (pss_one (ps_ret (pe_op op_mod (pe_op op_shr (pe_op op_sub (pv 0) (pe_op op_pow pe_int pe_int)) (pe_op op_mul pe_int (pv 1))) (pe_op op_pow pe_int pe_int)))) pss_nil) (pss_cons (ps_set (i := 2) sc__law_stir.nd rfl (Or.inl rfl) (pe_op op_mod (pe_op op_mul (pe_op op_add (pe_op op_add (pv 0) (pe_op op_mul pe_int (pv 1))) pe_int) pe_int) pe_int)) (pss_cons (ps_set (i := 2) sc__law_stir.nd rfl (Or.inl rfl) (pe_op op_mod (pe_op op_mul (pv 2) (pv 2)) pe_int)) (pss_one (ps_ret (pe_op op_fdiv (pe_op op_mod (pe_op op_mul (pv 2) pe_int) pe_int) pe_int)))))), ?_⟩
  obtain ⟨F, ds, d, hw, hF, ⟨v_cell, v_k, rr, rfl, rfl, hm0⟩, k⟩ := h
  have E : EnvR K F _ [.val (enc (v_cell : Int)), .val (enc (v_k : Int)), .un] := EnvR.start (N := ["cell", "k", "number"]) (AsR.of_all hw)
  have S := Hx.start (K := K) hF
  have fc : Same F F := Same.refl F
  unfold m__law_stir at hm0
  try (with_reducible refine nxD ?_)
  with_reducible refine sq ?_
  refine st_if (b := (decide (((10 : Int) ^ (18 : Int).toNat) ≤ v_cell))) (rt_val (rx_ge (rx_var (d := enc (v_cell : Int)) rfl) (rx_pow rx_int rx_int ⟨by decide, by decide, by decide⟩))) E S (fun hc F H f E S => ?_) (fun hc F H f E S => ?_)
  · rw [if_pos hc] at hm0
    replace fc := fc.trans f
    obtain ⟨t3, h4, hm0⟩ := bindE hm0
    obtain rfl := Option.some.inj hm0
    -- return
    try (with_reducible refine nxD ?_)
    refine st_ret (d := enc ((t3 % ((2 : Int) ^ (28 : Int).toNat)) : Int)) (rx_mod (rx_shrO h4 (rx_sub (rx_var (d := enc (v_cell : Int)) rfl) (rx_pow rx_int rx_int ⟨by decide, by decide, by decide⟩)) (rx_mul rx_int (rx_var (d := enc (v_k : Int)) rfl) (.inl (by decide)))) (rx_pow rx_int rx_int ⟨by decide, by decide, by decide⟩) (by decide)) E S fun v F H f S r => ?_
    exact k v F H S.stp r
  · rw [if_neg (by rw [hc]; decide)] at hm0
    replace fc := fc.trans f
    refine nxt ?_
    obtain ⟨v5, h6, hm0⟩ := letE hm0
    try (with_reducible refine nxD ?_)
    with_reducible refine sq ?_
    refine st_set (i := 2) (d := enc (v5 : Int)) (rx_as (x := (((((v_cell + ((1013 : Int) * v_k)) + (1 : Int)) * (16807 : Int)) % (2147483647 : Int)) : Int)) h6 (rx_mod (rx_mul (rx_add (rx_add (rx_var (d := enc (v_cell : Int)) rfl) (rx_mul rx_int (rx_var (d := enc (v_k : Int)) rfl) (.inl (by decide)))) rx_int) rx_int (.inr (by decide))) rx_int (by decide))) E S fun σ F H f E S => ?_
    replace fc := fc.trans f
    have E : EnvR K _ _ [.val (enc (v_cell : Int)), .val (enc (v_k : Int)), .val (enc (v5 : Int))] := E
    have S : Hx K _ _ _ _ [] _ := S
    obtain ⟨t7, h8, hm0⟩ := bindE hm0
    obtain ⟨v9, h10, hm0⟩ := letE hm0
    try (with_reducible refine nxD ?_)
    with_reducible refine sq ?_
    refine st_set (i := 2) (d := enc (v9 : Int)) (rx_as (x := ((t7 % (2147483629 : Int)) : Int)) h10 (rx_mod (rx_mulO h8 (rx_var (d := enc (v5 : Int)) rfl) (rx_var (d := enc (v5 : Int)) rfl)) rx_int (by decide))) E S fun σ F H f E S => ?_
    replace fc := fc.trans f
    have E : EnvR K _ _ [.val (enc (v_cell : Int)), .val (enc (v_k : Int)), .val (enc (v9 : Int))] := E
    have S : Hx K _ _ _ _ [] _ := S
    obtain rfl := Option.some.inj hm0
    -- return
    try (with_reducible refine nxD ?_)
    refine st_ret (d := enc ((((v9 * (39373 : Int)) % (2147483587 : Int)) / (8 : Int)) : Int)) (rx_fdiv (rx_mod (rx_mul (rx_var (d := enc (v9 : Int)) rfl) rx_int (.inr (by decide))) rx_int (by decide)) rx_int ⟨by decide, by decide⟩) E S fun v F H f S r => ?_
    exact k v F H S.stp r
theorem sc__law_names : FnScope ["head", "k", "many", "letters", "barred", "found", "j", "number", "word", "spare", "n", "one"] ["head", "k", "many"] (defScope (top 30)) := ⟨rfl, rfl, rfl, by decide +kernel, rfl, by decide +kernel, by decide +kernel⟩
theorem ok__law_names (B : Bi mg) (D : Dfn K mg "_law_names" (top 30) ["head", "k", "many"]) (C__law_stir : Cal P w K mg base 1 "_law_stir" ["cell", "k"] (SpP K R__law_stir)) : Cal P w K mg base 2 "_law_names" ["head", "k", "many"] (SpN K R__law_names) := by
  refine D.cal sc__law_names (sn_len fun ds d h => by obtain ⟨_, _, _, _, rfl, _⟩ := h; rfl) fun f cdv A outer s H vs Q E hr h => ?_
  refine ⟨_, (pss_cons (ps_set (i := 3) sc__law_names.nd rfl (Or.inr rfl) pe_str) (pss_cons (ps_set (i := 4) sc__law_names.nd rfl (Or.inl rfl) (pe_lst (pa_cons pe_str (pa_cons pe_str (pa_cons pe_str (pa_cons pe_str (pa_cons pe_str (pa_cons pe_str (pa_cons pe_str (pa_cons pe_str (pa_cons pe_str pa_nil))))))))))) (pss_cons (ps_set (i := 5) sc__law_names.nd rfl (Or.inr rfl) (pe_lst pa_nil)) (pss_cons (ps_for PassesOwn.never rfl (pi_range1 rfl B.range (pa_cons (pv 2) pa_nil)) (pg_name (i := 6) sc__law_names.nd rfl (Or.inl rfl)) (pss_cons (ps_set (i := 7) sc__law_names.nd rfl (Or.inl rfl) (pe_cal C__law_stir hr (pa_cons (pv 0) (pa_cons (pe_op op_add (pv 1) (pv 6)) pa_nil)))) (pss_cons (ps_set (i := 8) sc__law_names.nd rfl (Or.inl rfl) (k_join K pe_str (pe_lst (pa_cons (pe_ix ix_str (pv 3) (pe_op op_mod (pv 7) pe_int) (fun _ _ => rfl)) (pa_cons (pe_ix ix_str (pv 3) (pe_op op_mod (pe_op op_fdiv (pv 7) pe_int) pe_int) (fun _ _ => rfl)) (pa_cons (pe_op op_mulS pe_str (pe_op op_mod (pe_op op_fdiv (pv 7) pe_int) pe_int)) pa_nil)))))) (pss_cons (ps_set (i := 8) sc__law_names.nd rfl (Or.inl rfl) (pe_slice sl_str (pv 8) (po_some (pe_op op_mod (pe_op op_fdiv (pv 7) pe_int) pe_int)) po_none)) (pss_cons (ps_if (PW.pt (pw_and (pt_cmpR op_eq (pe_op op_mod (pe_op op_fdiv (pv 7) pe_int) pe_int) pe_int (nomark _)) (pw_and1 (pt_cmpR (k_neD K hr.units) (pv 5) (pe_lst pa_nil) (nomark _))))) (pss_one (ps_set (i := 8) sc__law_names.nd rfl (Or.inl rfl) (pe_slice sl_str (pe_op op_add_str (pe_ix (k_ix_list K) (pv 5) (pe_op op_mod (pe_op op_fdiv (pv 7) pe_int) (pe_callB (k_len_seq K) (by rfl) B.len PySem.boot_len (pa_cons (pv 5) pa_nil))) (fun _ _ => rfl)) (pv 8)) po_none (po_some pe_int)))) pss_nil) (pss_cons (ps_if (PW.pt (pw_or (pt_cmpR op_eq (pv 8) pe_str (nomark _)) (pw_or (pt_cmpR (k_in_seq K) (pv 8) (pv 5) (by rfl)) (pw_or1 (pt_cmpR (k_in_seq K) (pv 8) (pv 4) (by rfl)))))) (pss_cons (ps_setLc (i := 9) (own := [(("n" : Str), 10)]) (g := (gName 10)) (tt := tYes) rfl sc__law_names.nd rfl rfl (sw_true rfl rfl rfl (by decide +kernel)) (pi_range1 rfl B.range (pa_cons pe_int pa_nil)) (blkOk_by (by kernel_rfl)) (fun _ _ _ _ _ => (pg_name (i := 10) sc__law_names.nd rfl (Or.inl rfl))) (fun _ _ _ _ _ => pts_nil) (fun _ _ _ _ _ => (pe_op op_add_str (pe_op op_add_str pe_str (pe_ix ix_str (pv 3) (pe_op op_fdiv (pv 10) pe_int) (fun _ _ => rfl))) (pe_ix ix_str (pv 3) (pe_op op_mod (pv 10) pe_int) (fun _ _ => rfl))))) (pss_one (ps_set (i := 8) sc__law_names.nd rfl (Or.inl rfl) (pe_ix (k_ix_list K) (pe_lc (own := [(("one" : Str), 11)]) (g := (gName 11)) rfl sc__law_names.nd (k_pi_list K (pv 9)) (blkOk_by (by kernel_rfl)) (fun _ _ _ _ _ => (pg_name (i := 11) sc__law_names.nd rfl (Or.inl rfl))) (fun _ _ _ _ _ => (pts_one (pt_cmpR (k_notIn_seq K) (pv 11) (pv 5) (by rfl)))) (fun _ _ _ _ _ => (pv 11))) pe_int (fun _ _ => rfl))))) pss_nil) (pss_one (ps_expr (pe_bm PySem.F.plainAttrs_list PySem.F.slot_list_append PySem.F.type_list_append mt_append (pv 5) (pa_cons (pv 8) pa_nil)))))))))) (pss_one (ps_ret (pv 5))))))), ?_⟩
  obtain ⟨F, ds, es, hw, hF, ⟨v_head, v_k, v_many, rr, rfl, rfl, hm0⟩, k⟩ := h
  have E : EnvR K F _ [.val (enc (v_head : Int)), .val (enc (v_k : Int)), .val (enc (v_many : Int)), .un, .un, .un, .un, .un, .un, .un, .un, .un] := EnvR.start (N := ["head", "k", "many", "letters", "barred", "found", "j", "number", "word", "spare", "n", "one"]) (AsR.of_all hw)
  have S := Hx.start (K := K) hF
  have fc : Same F F := Same.refl F
  unfold m__law_names at hm0
  obtain ⟨v1, h2, hm0⟩ := letE hm0
  try (with_reducible refine nxD ?_)
  with_reducible refine sq ?_
  refine st_set (i := 3) (d := enc (v1 : Str)) (rx_as (x := (("abcdefghijklmnopqrstuvwxyz" : Str) : Str)) h2 (rx_str (x := ("abcdefghijklmnopqrstuvwxyz" : Str)))) E S fun σ F H f E S => ?_
  replace fc := fc.trans f
  have E : EnvR K _ _ [.val (enc (v_head : Int)), .val (enc (v_k : Int)), .val (enc (v_many : Int)), .val (enc (v1 : Str)), .un, .un, .un, .un, .un, .un, .un, .un] := E
  have S : Hx K _ _ _ _ [] _ := S
  obtain ⟨v3, h4, hm0⟩ := letE hm0
  try (with_reducible refine nxD ?_)
  with_reducible refine sq ?_
  refine st_set (i := 4) (d := enc (v3 : (List Str))) (rx_as (x := (([("in" : Str), ("gate" : Str), ("sure" : Str), ("out" : Str), ("not" : Str), ("and" : Str), ("or" : Str), ("xor" : Str), ("vote" : Str)] : (List Str)) : (List Str))) h4 (RXo.frz (rxo_lst (ds := [enc (("in" : Str) : Str), enc (("gate" : Str) : Str), enc (("sure" : Str) : Str), enc (("out" : Str) : Str), enc (("not" : Str) : Str), enc (("and" : Str) : Str), enc (("or" : Str) : Str), enc (("xor" : Str) : Str), enc (("vote" : Str) : Str)]) (ra_cons (rx_str (x := ("in" : Str))) (ra_cons (rx_str (x := ("gate" : Str))) (ra_cons (rx_str (x := ("sure" : Str))) (ra_cons (rx_str (x := ("out" : Str))) (ra_cons (rx_str (x := ("not" : Str))) (ra_cons (rx_str (x := ("and" : Str))) (ra_cons (rx_str (x := ("or" : Str))) (ra_cons (rx_str (x := ("xor" : Str))) (ra_cons (rx_str (x := ("vote" : Str))) ra_nil)))))))))))) E S fun σ F H f E S => ?_
  replace fc := fc.trans f
  have E : EnvR K _ _ [.val (enc (v_head : Int)), .val (enc (v_k : Int)), .val (enc (v_many : Int)), .val (enc (v1 : Str)), .val (enc (v3 : (List Str))), .un, .un, .un, .un, .un, .un, .un] := E
  have S : Hx K _ _ _ _ [] _ := S
  obtain ⟨v5, h6, hm0⟩ := letE hm0
  try (with_reducible refine nxD ?_)
  with_reducible refine sq ?_
  refine st_setO (i := 5) (ds := v5.map enc) (rxo_as (f := enc) h6 (rxo_lst (ds := []) ra_nil)) E S fun p_found7 σ F H f E S => ?_
  replace fc := fc.trans f
  have E : EnvR K _ _ [.val (enc (v_head : Int)), .val (enc (v_k : Int)), .val (enc (v_many : Int)), .val (enc (v1 : Str)), .val (enc (v3 : (List Str))), .adr p_found7, .un, .un, .un, .un, .un, .un] := E
  have S : Hx K _ _ _ _ [⟨p_found7, true, v5.map enc⟩] _ := S
  obtain ⟨l8, h9, hm0⟩ := bindE hm0
  obtain ⟨s76, h14, hm0⟩ := bindE hm0
  try (with_reducible refine nxD ?_)
  with_reducible refine sq ?_
  refine st_forS (eα := enc) (fun s11 => [.val (enc (v_head : Int)), .val (enc (v_k : Int)), .val (enc (v_many : Int)), .val (enc (v1 : Str)), .val (enc (v3 : (List Str))), .adr p_found7, .un, .un, .un, .un, .un, .un]) (fun s11 => [⟨p_found7, true, s11.map enc⟩]) E S (ri_range h9 (rx_var (d := enc (v_many : Int)) rfl)) h14 ⟨.inl rfl, .inl rfl, .inl rfl, .inl rfl, .inl rfl, .inl rfl, .inr rfl, .inr rfl, .inr rfl, .inr rfl, .inr rfl, .inr rfl, trivial⟩ (fun σ F H f E S => ?_) (fun x12 _ s11 s' h10 σ F H v _ E S r N B hN => ?_)
  · replace fc := fc.trans f
    have E : EnvR K _ _ [.val (enc (v_head : Int)), .val (enc (v_k : Int)), .val (enc (v_many : Int)), .val (enc (v1 : Str)), .val (enc (v3 : (List Str))), .adr p_found7, .un, .un, .un, .un, .un, .un] := E
    have S : Hx K _ _ _ _ [⟨p_found7, true, s76.map enc⟩] _ := S
    obtain rfl := Option.some.inj hm0
    -- return
    try (with_reducible refine nxD ?_)
    refine st_retA rfl E ?_
    obtain ⟨n1, n2, n3, zs, n4, n5, n6⟩ := S.get (j := 0) rfl
    exact k _ _ _ zs S.stp (n2 rfl) n1 n4 n5 n6
  · refine ((rg_name (i := 6) (d := enc (x12 : Int)))).run _ _ _ _ _ E r S.fh fun σ E _ => ?_
    have E : EnvR K _ _ [.val (enc (v_head : Int)), .val (enc (v_k : Int)), .val (enc (v_many : Int)), .val (enc (v1 : Str)), .val (enc (v3 : (List Str))), .adr p_found7, .val (enc (x12 : Int)), .un, .un, .un, .un, .un] := E
    have S : Hx K _ _ _ _ [⟨p_found7, true, s11.map enc⟩] _ := S
    have fc : Same F F := Same.refl F
    obtain ⟨r16, h17, h10⟩ := bindE h10
    try (with_reducible refine nxD ?_)
    with_reducible refine sq ?_
    refine st_set (i := 7) (d := enc (r16 : Int)) (rx_call (ds := [enc (v_head : Int), enc ((v_k + x12) : Int)]) (d := enc (r16 : Int)) ⟨_, _, r16, rfl, rfl, h17⟩ (ra_cons (rx_var (d := enc (v_head : Int)) rfl) (ra_cons (rx_add (rx_var (d := enc (v_k : Int)) rfl) (rx_var (d := enc (x12 : Int)) rfl)) ra_nil))) E S fun σ F H f E S => ?_
    replace fc := fc.trans f
    have E : EnvR K _ _ [.val (enc (v_head : Int)), .val (enc (v_k : Int)), .val (enc (v_many : Int)), .val (enc (v1 : Str)), .val (enc (v3 : (List Str))), .adr p_found7, .val (enc (x12 : Int)), .val (enc (r16 : Int)), .un, .un, .un, .un] := E
    have S : Hx K _ _ _ _ [⟨p_found7, true, s11.map enc⟩] _ := S
    obtain ⟨t18, h19, h10⟩ := bindE h10
    obtain ⟨t20, h21, h10⟩ := bindE h10
    obtain ⟨t22, h23, h10⟩ := bindE h10
    obtain ⟨t24, h25, h10⟩ := bindE h10
    try (with_reducible refine nxD ?_)
    with_reducible refine sq ?_
    refine st_set (i := 8) (d := enc (t24 : Str)) (rx_join h25 (rx_str (x := ("" : Str))) (RXo.s (rxo_lst (ds := [enc (t18 : Str), enc (t20 : Str), enc (t22 : Str)]) (ra_cons (rx_ixS h19 (rx_var (d := enc (v1 : Str)) rfl) (rx_mod (rx_var (d := enc (r16 : Int)) rfl) rx_int (by decide))) (ra_cons (rx_ixS h21 (rx_var (d := enc (v1 : Str)) rfl) (rx_mod (rx_fdiv (rx_var (d := enc (r16 : Int)) rfl) rx_int ⟨by decide, by decide⟩) rx_int (by decide))) (ra_cons (rx_mulS h23 (rx_str (x := ("x" : Str))) (rx_mod (rx_fdiv (rx_var (d := enc (r16 : Int)) rfl) rx_int ⟨by decide, by decide⟩) rx_int (by decide))) ra_nil)))))) E S fun σ F H f E S => ?_
    replace fc := fc.trans f
    have E : EnvR K _ _ [.val (enc (v_head : Int)), .val (enc (v_k : Int)), .val (enc (v_many : Int)), .val (enc (v1 : Str)), .val (enc (v3 : (List Str))), .adr p_found7, .val (enc (x12 : Int)), .val (enc (r16 : Int)), .val (enc (t24 : Str)), .un, .un, .un] := E
    have S : Hx K _ _ _ _ [⟨p_found7, true, s11.map enc⟩] _ := S
    obtain ⟨t26, h27, h10⟩ := bindE h10
    try (with_reducible refine nxD ?_)
    with_reducible refine sq ?_
    refine st_set (i := 8) (d := enc (t26 : Str)) (rx_cutS h27 (rx_var (d := enc (t24 : Str)) rfl) (ro_some (rx_mod (rx_fdiv (rx_var (d := enc (r16 : Int)) rfl) rx_int ⟨by decide, by decide⟩) rx_int (by decide))) ro_none) E S fun σ F H f E S => ?_
    replace fc := fc.trans f
    have E : EnvR K _ _ [.val (enc (v_head : Int)), .val (enc (v_k : Int)), .val (enc (v_many : Int)), .val (enc (v1 : Str)), .val (enc (v3 : (List Str))), .adr p_found7, .val (enc (x12 : Int)), .val (enc (r16 : Int)), .val (enc (t26 : Str)), .un, .un, .un] := E
    have S : Hx K _ _ _ _ [⟨p_found7, true, s11.map enc⟩] _ := S
    obtain ⟨b31, h28, h10⟩ := bindE h10
    obtain ⟨j32, h33, h10⟩ := bindE h10
    try (with_reducible refine nxD ?_)
    with_reducible refine sq ?_
    refine st_ifJ (b := b31) [.val (enc (v_head : Int)), .val (enc (v_k : Int)), .val (enc (v_many : Int)), .val (enc (v1 : Str)), .val (enc (v3 : (List Str))), .adr p_found7, .val (enc (x12 : Int)), .val (enc (r16 : Int)), .val (enc (j32 : Str)), .un, .un, .un] [⟨p_found7, true, s11.map enc⟩] (rt_and (a := (decide (((r16 / (10000 : Int)) % (4 : Int)) = (0 : Int)))) (c := b31) (rt_val (rx_eqi (rx_mod (rx_fdiv (rx_var (d := enc (r16 : Int)) rfl) rx_int ⟨by decide, by decide⟩) rx_int (by decide)) rx_int)) (fun ha => by rw [if_pos ha] at h28; obtain ⟨b29, h30, h28⟩ := bindE h28; obtain rfl := Option.some.inj h28; exact (rt_val (rx_neO h30 (RXs.h (rxs_own (j := 0) (ds := s11.map enc) rfl rfl)) (RX.h (RXo.frz (rxo_lst (ds := []) ra_nil)))))) (fun ha => by rw [if_neg (by first | (rw [ha]; decide) | cases ha)] at h28; obtain rfl := Option.some.inj h28; exact ⟨rfl, rfl⟩)) E S (fun σ F H f E S => ?_) (fun hc F H rest f E S => ?_) (fun hc F H rest f E S => ?_)
    · replace fc := fc.trans f
      obtain ⟨j44, h45, h10⟩ := bindE h10
      try (with_reducible refine nxD ?_)
      with_reducible refine sq ?_
      refine st_ifJ (b := ((decide (j32 = ("" : Str))) || ((decide (j32 ∈ s11)) || (decide (j32 ∈ v3))))) [.val (enc (v_head : Int)), .val (enc (v_k : Int)), .val (enc (v_many : Int)), .val (enc (v1 : Str)), .val (enc (v3 : (List Str))), .adr p_found7, .val (enc (x12 : Int)), .val (enc (r16 : Int)), .val (enc (j44 : Str)), .un, .un, .un] [⟨p_found7, true, s11.map enc⟩] (rt_or2 (rt_val (rx_eqs (rx_var (d := enc (j32 : Str)) rfl) (rx_str (x := ("" : Str))))) (rt_or2 (rt_val (rx_inS (neg := false) (rx_var (d := enc (j32 : Str)) rfl) (rxs_own (j := 0) (ds := s11.map enc) rfl rfl))) (rt_val (rx_inS (neg := false) (rx_var (d := enc (j32 : Str)) rfl) (RX.s (rx_var (d := enc (v3 : (List Str))) rfl)))))) E S (fun σ F H f E S => ?_) (fun hc F H rest f E S => ?_) (fun hc F H rest f E S => ?_)
      · replace fc := fc.trans f
        obtain ⟨u74, h75, h10⟩ := bindE h10
        try (with_reducible refine nxD ?_)
        refine (st_app (j := 0) (ds := s11.map enc) (d := enc (j44 : Str)) (appO_map enc h75) rfl (rx_var (d := enc (j44 : Str)) rfl) ⟨_, rfl⟩ rfl E S fun F H f E S => ?_)
        replace fc := fc.trans f
        have E : EnvR K _ _ [.val (enc (v_head : Int)), .val (enc (v_k : Int)), .val (enc (v_many : Int)), .val (enc (v1 : Str)), .val (enc (v3 : (List Str))), .adr p_found7, .val (enc (x12 : Int)), .val (enc (r16 : Int)), .val (enc (j44 : Str)), .un, .un, .un] := E
        have S : Hx K _ _ _ _ [⟨p_found7, true, u74.map enc⟩] _ := S
        obtain rfl := Option.some.inj h10
        exact hN _ _ _ fc (E.weak ⟨.inl rfl, .inl rfl, .inl rfl, .inl rfl, .inl rfl, .inl rfl, .inr rfl, .inr rfl, .inr rfl, .inr rfl, .inr rfl, .inr rfl, trivial⟩) S
      · rw [if_pos hc] at h45
        have fc := f
        obtain ⟨l66, h67, h45⟩ := bindE h45
        try (with_reducible refine nxD ?_)
        with_reducible refine sq ?_
        refine st_set (i := 9) (d := enc (l66 : (List Str))) (RXo.frz (rxo_mapO (eα := enc) (eβ := enc) (fun x47 => [.val (enc (v_head : Int)), .val (enc (v_k : Int)), .val (enc (v_many : Int)), .val (enc (v1 : Str)), .val (enc (v3 : (List Str))), .adr p_found7, .val (enc (x12 : Int)), .val (enc (r16 : Int)), .val (enc (j32 : Str)), .un, .val (enc (x47 : Int)), .un]) [10] (ri_rangeN (n := 80) (by decide) rx_int) h67 (by decide) (fun x47 _ => (rg_name (i := 10) (d := enc (x47 : Int)))) (fun x47 _ y h46 D48 acc49 => by obtain ⟨t58, h59, h46⟩ := bindE h46; obtain ⟨t60, h61, h46⟩ := bindE h46; obtain ⟨t62, h63, h46⟩ := bindE h46; obtain ⟨t64, h65, h46⟩ := bindE h46; obtain rfl := Option.some.inj h46; exact (rx_catS h65 (rx_catS h61 (rx_str (x := ("zz" : Str))) (rx_ixS h59 (rx_var (d := enc (v1 : Str)) rfl) (rx_fdiv (rx_var (d := enc (x47 : Int)) rfl) rx_int ⟨by decide, by decide⟩))) (rx_ixS h63 (rx_var (d := enc (v1 : Str)) rfl) (rx_mod (rx_var (d := enc (x47 : Int)) rfl) rx_int (by decide))))))) E S fun σ F H f E S => ?_
        replace fc := fc.trans f
        have E : EnvR K _ _ [.val (enc (v_head : Int)), .val (enc (v_k : Int)), .val (enc (v_many : Int)), .val (enc (v1 : Str)), .val (enc (v3 : (List Str))), .adr p_found7, .val (enc (x12 : Int)), .val (enc (r16 : Int)), .val (enc (j32 : Str)), .val (enc (l66 : (List Str))), .un, .un] := E
        have S : Hx K _ _ _ _ [⟨p_found7, true, s11.map enc⟩] _ := S
        obtain ⟨t72, h73, h45⟩ := bindE h45
        try (with_reducible refine nxD ?_)
        refine (st_set (i := 8) (d := enc (t72 : Str)) (rx_ix (atI_map enc h73) (RXo.s (rxo_filt (eα := enc) (eβ := enc) (p := (fun (x69 : Str) => (!decide (x69 ∈ s11)))) (f := (fun (x69 : Str) => (x69 : Str))) (fun x69 => [.val (enc (v_head : Int)), .val (enc (v_k : Int)), .val (enc (v_many : Int)), .val (enc (v1 : Str)), .val (enc (v3 : (List Str))), .adr p_found7, .val (enc (x12 : Int)), .val (enc (r16 : Int)), .val (enc (j32 : Str)), .val (enc (l66 : (List Str))), .un, .val (enc (x69 : Str))]) [11] (ri_list (ys := l66.map enc) (rx_var (d := enc (l66 : (List Str))) rfl)) (by decide) (fun x69 _ => (rg_name (i := 11) (d := enc (x69 : Str)))) (fun x69 _ D70 acc71 => (rt_val (rx_inS (neg := true) (rx_var (d := enc (x69 : Str)) rfl) (rxs_own (j := 1) (ds := s11.map enc) rfl rfl)))) (fun x69 _ D70 acc71 => (rx_var (d := enc (x69 : Str)) rfl)))) rx_int) E S fun σ F H f E S => ?_)
        replace fc := fc.trans f
        have E : EnvR K _ _ [.val (enc (v_head : Int)), .val (enc (v_k : Int)), .val (enc (v_many : Int)), .val (enc (v1 : Str)), .val (enc (v3 : (List Str))), .adr p_found7, .val (enc (x12 : Int)), .val (enc (r16 : Int)), .val (enc (t72 : Str)), .val (enc (l66 : (List Str))), .un, .un] := E
        have S : Hx K _ _ _ _ [⟨p_found7, true, s11.map enc⟩] _ := S
        obtain rfl := Option.some.inj h45
        exact rest _ _ _ fc (E.weak ⟨.inl rfl, .inl rfl, .inl rfl, .inl rfl, .inl rfl, .inl rfl, .inl rfl, .inl rfl, .inl rfl, .inr rfl, .inr rfl, .inr rfl, trivial⟩) S
      · rw [if_neg (by rw [hc]; decide)] at h45
        have fc := f
        refine nxt ?_
        obtain rfl := Option.some.inj h45
        exact rest _ _ _ fc (E.weak ⟨.inl rfl, .inl rfl, .inl rfl, .inl rfl, .inl rfl, .inl rfl, .inl rfl, .inl rfl, .inl rfl, .inr rfl, .inr rfl, .inr rfl, trivial⟩) S
    · rw [if_pos hc] at h33
      have fc := f
      obtain ⟨t34, h35, h33⟩ := bindE h33
      obtain ⟨t36, h37, h33⟩ := bindE h33
      obtain ⟨t38, h39, h33⟩ := bindE h33
      obtain ⟨t40, h41, h33⟩ := bindE h33
      try (with_reducible refine nxD ?_)
      refine (st_set (i := 8) (d := enc (t40 : Str)) (rx_cutS h41 (rx_catS h39 (rx_ix (atI_map enc h37) (rxs_own (j := 0) (ds := s11.map enc) rfl rfl) (rx_modO h35 (rx_fdiv (rx_var (d := enc (r16 : Int)) rfl) rx_int ⟨by decide, by decide⟩) (len_nat (f := enc) (rxs_own (j := 0) (ds := s11.map enc) rfl rfl)))) (rx_var (d := enc (t26 : Str)) rfl)) ro_none (ro_some rx_int)) E S fun σ F H f E S => ?_)
      replace fc := fc.trans f
      have E : EnvR K _ _ [.val (enc (v_head : Int)), .val (enc (v_k : Int)), .val (enc (v_many : Int)), .val (enc (v1 : Str)), .val (enc (v3 : (List Str))), .adr p_found7, .val (enc (x12 : Int)), .val (enc (r16 : Int)), .val (enc (t40 : Str)), .un, .un, .un] := E
      have S : Hx K _ _ _ _ [⟨p_found7, true, s11.map enc⟩] _ := S
      obtain rfl := Option.some.inj h33
      exact rest _ _ _ fc (E.weak ⟨.inl rfl, .inl rfl, .inl rfl, .inl rfl, .inl rfl, .inl rfl, .inl rfl, .inl rfl, .inl rfl, .inr rfl, .inr rfl, .inr rfl, trivial⟩) S
    · rw [if_neg (by rw [hc]; decide)] at h33
      have fc := f
      refine nxt ?_
      obtain rfl := Option.some.inj h33
      exact rest _ _ _ fc (E.weak ⟨.inl rfl, .inl rfl, .inl rfl, .inl rfl, .inl rfl, .inl rfl, .inl rfl, .inl rfl, .inl rfl, .inr rfl, .inr rfl, .inr rfl, trivial⟩) S
theorem sc__law_wires : FnScope ["cell", "k", "many", "count", "found", "j", "number"] ["cell", "k", "many", "count"] (defScope (top 31)) := ⟨rfl, rfl, rfl, by decide +kernel, rfl, by decide +kernel, by decide +kernel⟩
theorem ok__law_wires (B : Bi mg) (D : Dfn K mg "_law_wires" (top 31) ["cell", "k", "many", "count"]) (C__law_stir : Cal P w K mg base 1 "_law_stir" ["cell", "k"] (SpP K R__law_stir)) : Cal P w K mg base 2 "_law_wires" ["cell", "k", "many", "count"] (SpP K R__law_wires) := by
  refine D.cal sc__law_wires (sp_len fun ds d h => by obtain ⟨_, _, _, _, _, rfl, _⟩ := h; rfl) fun f cdv A outer s H vs Q E hr h => ?_
  refine ⟨_, (pss_cons (ps_set (i := 4) sc__law_wires.nd rfl (Or.inl rfl) (pe_lst pa_nil)) (pss_cons (ps_for PassesOwn.never rfl (pi_range1 rfl B.range (pa_cons (pv 2) pa_nil)) (pg_name (i := 5) sc__law_wires.nd rfl (Or.inl rfl)) (pss_cons (ps_set (i := 6) sc__law_wires.nd rfl (Or.inl rfl) (pe_cal C__law_stir hr (pa_cons (pv 0) (pa_cons (pe_op op_add (pv 1) (pv 5)) pa_nil)))) (pss_one (ps_expr (pe_bm PySem.F.plainAttrs_list PySem.F.slot_list_append PySem.F.type_list_append mt_append (pv 4) (pa_cons (pe_ix (k_ix_list K) (pe_lst (pa_cons (pe_op op_mod (pe_op op_fdiv (pv 6) pe_int) (pv 3)) (pa_cons (pe_op op_sub (pe_op op_sub (pv 3) pe_int) (pe_op op_mod (pe_op op_fdiv (pv 6) pe_int) (pe_callB (call_min2 rfl) (by rfl) B.min (by decide +kernel) (pa_cons (pv 3) (pa_cons pe_int pa_nil))))) pa_nil))) (pe_callTy call_int1 (by rfl) B.int (by decide +kernel) (pa_cons (pe_cmpR op_gt (pe_op op_mod (pv 6) pe_int) pe_int (nomark _)) pa_nil)) (fun _ _ => rfl)) pa_nil)))))) (pss_one (ps_ret (pe_callTy (k_tuple_of K) (by rfl) B.tuple (by decide +kernel) (pa_cons (pv 4) pa_nil)))))), ?_⟩
  obtain ⟨F, ds, d, hw, hF, ⟨v_cell, v_k, v_many, v_count, rr, rfl, rfl, hm0⟩, k⟩ := h
  have E : EnvR K F _ [.val (enc (v_cell : Int)), .val (enc (v_k : Int)), .val (enc (v_many : Int)), .val (enc (v_count : Int)), .un, .un, .un] := EnvR.start (N := ["cell", "k", "many", "count", "found", "j", "number"]) (AsR.of_all hw)
  have S := Hx.start (K := K) hF
  have fc : Same F F := Same.refl F
  unfold m__law_wires at hm0
  obtain ⟨v1, h2, hm0⟩ := letE hm0
  try (with_reducible refine nxD ?_)
  with_reducible refine sq ?_
  refine st_setO (i := 4) (ds := v1.map enc) (rxo_as (f := enc) h2 (rxo_lst (ds := []) ra_nil)) E S fun p_found3 σ F H f E S => ?_
  replace fc := fc.trans f
  have E : EnvR K _ _ [.val (enc (v_cell : Int)), .val (enc (v_k : Int)), .val (enc (v_many : Int)), .val (enc (v_count : Int)), .adr p_found3, .un, .un] := E
  have S : Hx K _ _ _ _ [⟨p_found3, true, v1.map enc⟩] _ := S
  obtain ⟨l4, h5, hm0⟩ := bindE hm0
  obtain ⟨s22, h10, hm0⟩ := bindE hm0
  try (with_reducible refine nxD ?_)
  with_reducible refine sq ?_
  refine st_forS (eα := enc) (fun s7 => [.val (enc (v_cell : Int)), .val (enc (v_k : Int)), .val (enc (v_many : Int)), .val (enc (v_count : Int)), .adr p_found3, .un, .un]) (fun s7 => [⟨p_found3, true, s7.map enc⟩]) E S (ri_range h5 (rx_var (d := enc (v_many : Int)) rfl)) h10 ⟨.inl rfl, .inl rfl, .inl rfl, .inl rfl, .inl rfl, .inr rfl, .inr rfl, trivial⟩ (fun σ F H f E S => ?_) (fun x8 _ s7 s' h6 σ F H v _ E S r N B hN => ?_)
  · replace fc := fc.trans f
    have E : EnvR K _ _ [.val (enc (v_cell : Int)), .val (enc (v_k : Int)), .val (enc (v_many : Int)), .val (enc (v_count : Int)), .adr p_found3, .un, .un] := E
    have S : Hx K _ _ _ _ [⟨p_found3, true, s22.map enc⟩] _ := S
    obtain rfl := Option.some.inj hm0
    -- return
    try (with_reducible refine nxD ?_)
    refine st_ret (d := enc ((Tp.mk s22) : (Tp Int))) (rx_tuple (rxs_own (j := 0) (ds := s22.map enc) rfl rfl)) E S fun v F H f S r => ?_
    exact k v F H S.stp r
  · refine ((rg_name (i := 5) (d := enc (x8 : Int)))).run _ _ _ _ _ E r S.fh fun σ E _ => ?_
    have E : EnvR K _ _ [.val (enc (v_cell : Int)), .val (enc (v_k : Int)), .val (enc (v_many : Int)), .val (enc (v_count : Int)), .adr p_found3, .val (enc (x8 : Int)), .un] := E
    have S : Hx K _ _ _ _ [⟨p_found3, true, s7.map enc⟩] _ := S
    have fc : Same F F := Same.refl F
    obtain ⟨r12, h13, h6⟩ := bindE h6
    try (with_reducible refine nxD ?_)
    with_reducible refine sq ?_
    refine st_set (i := 6) (d := enc (r12 : Int)) (rx_call (ds := [enc (v_cell : Int), enc ((v_k + x8) : Int)]) (d := enc (r12 : Int)) ⟨_, _, r12, rfl, rfl, h13⟩ (ra_cons (rx_var (d := enc (v_cell : Int)) rfl) (ra_cons (rx_add (rx_var (d := enc (v_k : Int)) rfl) (rx_var (d := enc (x8 : Int)) rfl)) ra_nil))) E S fun σ F H f E S => ?_
    replace fc := fc.trans f
    have E : EnvR K _ _ [.val (enc (v_cell : Int)), .val (enc (v_k : Int)), .val (enc (v_many : Int)), .val (enc (v_count : Int)), .adr p_found3, .val (enc (x8 : Int)), .val (enc (r12 : Int))] := E
    have S : Hx K _ _ _ _ [⟨p_found3, true, s7.map enc⟩] _ := S
    obtain ⟨t14, h15, h6⟩ := bindE h6
    obtain ⟨t16, h17, h6⟩ := bindE h6
    obtain ⟨t18, h19, h6⟩ := bindE h6
    obtain ⟨u20, h21, h6⟩ := bindE h6
    try (with_reducible refine nxD ?_)
    refine (st_app (j := 0) (ds := s7.map enc) (d := enc (t18 : Int)) (appO_map enc h21) rfl (rx_ix (ds := List.map enc ([t14, ((v_count - (1 : Int)) - t16)] : (List Int))) (d := enc (t18 : Int)) (atI_map enc h19) (RXo.s (rxo_lst (ds := [enc (t14 : Int), enc (((v_count - (1 : Int)) - t16) : Int)]) (ra_cons (rx_modO h15 (rx_fdiv (rx_var (d := enc (r12 : Int)) rfl) rx_int ⟨by decide, by decide⟩) (rx_var (d := enc (v_count : Int)) rfl)) (ra_cons (rx_sub (rx_sub (rx_var (d := enc (v_count : Int)) rfl) rx_int) (rx_modO h17 (rx_fdiv (rx_var (d := enc (r12 : Int)) rfl) rx_int ⟨by decide, by decide⟩) (rx_min2 (rx_var (d := enc (v_count : Int)) rfl) rx_int))) ra_nil)))) (rx_intB (rx_gt (rx_mod (rx_var (d := enc (r12 : Int)) rfl) rx_int (by decide)) rx_int))) ⟨_, rfl⟩ rfl E S fun F H f E S => ?_)
    replace fc := fc.trans f
    have E : EnvR K _ _ [.val (enc (v_cell : Int)), .val (enc (v_k : Int)), .val (enc (v_many : Int)), .val (enc (v_count : Int)), .adr p_found3, .val (enc (x8 : Int)), .val (enc (r12 : Int))] := E
    have S : Hx K _ _ _ _ [⟨p_found3, true, u20.map enc⟩] _ := S
    obtain rfl := Option.some.inj h6
    exact hN _ _ _ fc (E.weak ⟨.inl rfl, .inl rfl, .inl rfl, .inl rfl, .inl rfl, .inr rfl, .inr rfl, trivial⟩) S
theorem sc__law_gate : FnScope ["cell", "count", "number", "kind", "many"] ["cell", "count"] (defScope (top 32)) := ⟨rfl, rfl, rfl, by decide +kernel, rfl, by decide +kernel, by decide +kernel⟩
theorem ok__law_gate (D : Dfn K mg "_law_gate" (top 32) ["cell", "count"]) (C__law_stir : Cal P w K mg base 1 "_law_stir" ["cell", "k"] (SpP K R__law_stir)) (C__law_wires : Cal P w K mg base 2 "_law_wires" ["cell", "k", "many", "count"] (SpP K R__law_wires)) : Cal P w K mg base 3 "_law_gate" ["cell", "count"] (SpP K R__law_gate) := by
  refine D.cal sc__law_gate (sp_len fun ds d h => by obtain ⟨_, _, _, rfl, _⟩ := h; rfl) fun f cdv A outer s H vs Q E hr h => ?_
  refine ⟨_, (pss_cons (ps_set (i := 2) sc__law_gate.nd rfl (Or.inl rfl) (pe_cal C__law_stir hr (pa_cons (pv 0) (pa_cons pe_int pa_nil)))) (pss_cons (ps_set (i := 3) sc__law_gate.nd rfl (Or.inl rfl) (pe_ix (k_ix_list K) (pe_lst (pa_cons pe_str (pa_cons pe_str (pa_cons pe_str (pa_cons pe_str (pa_cons pe_str (pa_cons pe_str (pa_cons pe_str (pa_cons pe_str pa_nil))))))))) (pe_op op_mod (pv 2) pe_int) (fun _ _ => rfl))) (pss_cons (ps_set (i := 4) sc__law_gate.nd rfl (Or.inl rfl) (pe_dget2 (hu_of hr) (pe_disp (pps_cons pe_str pe_int (pps_cons pe_str pe_int pps_nil)) (by rfl) (by rfl) (fun z => by cases z) (by decide)) (pv 3) pe_int ⟨by rfl, by rfl, by rfl, by rfl⟩)) (pss_one (ps_ret (pe_tup (pa_cons (pv 3) (pa_cons (pe_cal C__law_wires hr (pa_cons (pv 0) (pa_cons pe_int (pa_cons (pv 4) (pa_cons (pv 1) pa_nil))))) (pa_cons (pe_cmpR op_eq (pe_op op_mod (pe_op op_fdiv (pv 2) pe_int) pe_int) pe_int (nomark _)) pa_nil))))))))), ?_⟩
  obtain ⟨F, ds, d, hw, hF, ⟨v_cell, v_count, rr, rfl, rfl, hm0⟩, k⟩ := h
  have E : EnvR K F _ [.val (enc (v_cell : Int)), .val (enc (v_count : Int)), .un, .un, .un] := EnvR.start (N := ["cell", "count", "number", "kind", "many"]) (AsR.of_all hw)
  have S := Hx.start (K := K) hF
  have fc : Same F F := Same.refl F
  unfold m__law_gate at hm0
  obtain ⟨r1, h2, hm0⟩ := bindE hm0
  try (with_reducible refine nxD ?_)
  with_reducible refine sq ?_
  refine st_set (i := 2) (d := enc (r1 : Int)) (rx_call (ds := [enc (v_cell : Int), enc ((0 : Int) : Int)]) (d := enc (r1 : Int)) ⟨_, _, r1, rfl, rfl, h2⟩ (ra_cons (rx_var (d := enc (v_cell : Int)) rfl) (ra_cons rx_int ra_nil))) E S fun σ F H f E S => ?_
  replace fc := fc.trans f
  have E : EnvR K _ _ [.val (enc (v_cell : Int)), .val (enc (v_count : Int)), .val (enc (r1 : Int)), .un, .un] := E
  have S : Hx K _ _ _ _ [] _ := S
  obtain ⟨t3, h4, hm0⟩ := bindE hm0
  try (with_reducible refine nxD ?_)
  with_reducible refine sq ?_
  refine st_set (i := 3) (d := enc (t3 : Str)) (rx_ix (ds := List.map enc ([("and" : Str), ("or" : Str), ("xor" : Str), ("vote" : Str), ("not" : Str), ("and" : Str), ("xor" : Str), ("vote" : Str)] : (List Str))) (d := enc (t3 : Str)) (atI_map enc h4) (RXo.s (rxo_lst (ds := [enc (("and" : Str) : Str), enc (("or" : Str) : Str), enc (("xor" : Str) : Str), enc (("vote" : Str) : Str), enc (("not" : Str) : Str), enc (("and" : Str) : Str), enc (("xor" : Str) : Str), enc (("vote" : Str) : Str)]) (ra_cons (rx_str (x := ("and" : Str))) (ra_cons (rx_str (x := ("or" : Str))) (ra_cons (rx_str (x := ("xor" : Str))) (ra_cons (rx_str (x := ("vote" : Str))) (ra_cons (rx_str (x := ("not" : Str))) (ra_cons (rx_str (x := ("and" : Str))) (ra_cons (rx_str (x := ("xor" : Str))) (ra_cons (rx_str (x := ("vote" : Str))) ra_nil)))))))))) (rx_mod (rx_var (d := enc (r1 : Int)) rfl) rx_int (by decide))) E S fun σ F H f E S => ?_
  replace fc := fc.trans f
  have E : EnvR K _ _ [.val (enc (v_cell : Int)), .val (enc (v_count : Int)), .val (enc (r1 : Int)), .val (enc (t3 : Str)), .un] := E
  have S : Hx K _ _ _ _ [] _ := S
  obtain ⟨v5, h6, hm0⟩ := letE hm0
  try (with_reducible refine nxD ?_)
  with_reducible refine sq ?_
  refine st_set (i := 4) (d := enc (v5 : Int)) (rx_as (x := (((dlit [(("not" : Str), (1 : Int)), (("vote" : Str), (3 : Int))] t3).getD (2 : Int)) : Int)) h6 (rx_lget (kvs := [(("not" : Str), (1 : Int)), (("vote" : Str), (3 : Int))]) (by decide) (by decide +kernel) (rx_var (d := enc (t3 : Str)) rfl) rx_int)) E S fun σ F H f E S => ?_
  replace fc := fc.trans f
  have E : EnvR K _ _ [.val (enc (v_cell : Int)), .val (enc (v_count : Int)), .val (enc (r1 : Int)), .val (enc (t3 : Str)), .val (enc (v5 : Int))] := E
  have S : Hx K _ _ _ _ [] _ := S
  obtain ⟨r9, h10, hm0⟩ := bindE hm0
  obtain rfl := Option.some.inj hm0
  -- return
  try (with_reducible refine nxD ?_)
  refine st_ret (d := enc ((T3.mk t3 r9 (decide (((r1 / (8 : Int)) % (4 : Int)) = (0 : Int)))) : (T3 Str (Tp Int) Bool))) (rx_tup (ds := [enc (t3 : Str), enc (r9 : (Tp Int)), enc ((decide (((r1 / (8 : Int)) % (4 : Int)) = (0 : Int))) : Bool)]) (ra_cons (rx_var (d := enc (t3 : Str)) rfl) (ra_cons (rx_call (ds := [enc (v_cell : Int), enc ((1 : Int) : Int), enc (v5 : Int), enc (v_count : Int)]) (d := enc (r9 : (Tp Int))) ⟨_, _, _, _, r9, rfl, rfl, h10⟩ (ra_cons (rx_var (d := enc (v_cell : Int)) rfl) (ra_cons rx_int (ra_cons (rx_var (d := enc (v5 : Int)) rfl) (ra_cons (rx_var (d := enc (v_count : Int)) rfl) ra_nil))))) (ra_cons (rx_eqi (rx_mod (rx_fdiv (rx_var (d := enc (r1 : Int)) rfl) rx_int ⟨by decide, by decide⟩) rx_int (by decide)) rx_int) ra_nil)))) E S fun v F H f S r => ?_
  exact k v F H S.stp r
theorem sc__law_net : FnScope ["script", "head", "names", "ins", "place", "first", "gates", "cell", "outs", "others", "number", "name", "width"] ["script"] (defScope (top 33)) := ⟨rfl, rfl, rfl, by decide +kernel, rfl, by decide +kernel, by decide +kernel⟩
theorem ok__law_net (B : Bi mg) (D : Dfn K mg "_law_net" (top 33) ["script"]) (C__law_cell_at : Cal P w K mg base 1 "_law_cell_at" ["script", "k"] (SpP K R__law_cell_at)) (C__law_gate : Cal P w K mg base 3 "_law_gate" ["cell", "count"] (SpP K R__law_gate)) (C__law_names : Cal P w K mg base 2 "_law_names" ["head", "k", "many"] (SpN K R__law_names)) (C__law_stir : Cal P w K mg base 1 "_law_stir" ["cell", "k"] (SpP K R__law_stir)) (C__law_wires : Cal P w K mg base 2 "_law_wires" ["cell", "k", "many", "count"] (SpP K R__law_wires)) : Cal P w K mg base 4 "_law_net" ["script"] (SpP K R__law_net) := by
  refine D.cal sc__law_net (sp_len fun ds d h => by obtain ⟨_, _, rfl, _⟩ := h; rfl) fun f cdv A outer s H vs Q E hr h => ?_
  refine ⟨_, (pss_cons (ps_set (i := 1) sc__law_net.nd rfl (Or.inl rfl) (pe_cal C__law_cell_at hr (pa_cons (pv 0) (pa_cons pe_int pa_nil)))) (pss_cons (ps_set (i := 2) sc__law_net.nd rfl (Or.inl rfl) (pe_cal C__law_names hr (pa_cons (pv 1) (pa_cons pe_int (pa_cons pe_int pa_nil))))) (pss_cons (ps_set (i := 3) sc__law_net.nd rfl (Or.inl rfl) (pe_lst pa_nil)) (pss_cons (ps_for PassesOwn.never rfl (pi_range1 rfl B.range (pa_cons (pe_op op_add pe_int (pe_op op_mod (pe_cal C__law_stir hr (pa_cons (pv 1) (pa_cons pe_int pa_nil))) pe_int)) pa_nil)) (pg_name (i := 4) sc__law_net.nd rfl (Or.inl rfl)) (pss_one (ps_expr (pe_bm PySem.F.plainAttrs_list PySem.F.slot_list_append PySem.F.type_list_append mt_append (pv 3) (pa_cons (pe_tup (pa_cons (pe_ix (k_ix_list K) (pv 2) (pv 4) (fun _ _ => rfl)) (pa_cons (pe_op op_add pe_int (pe_op op_mod (pe_cal C__law_stir hr (pa_cons (pv 1) (pa_cons (pe_op op_add pe_int (pv 4)) pa_nil))) pe_int)) pa_nil))) pa_nil))))) (pss_cons (ps_set (i := 5) sc__law_net.nd rfl (Or.inl rfl) (pe_callB (k_sum K rfl) (by rfl) B.sum (by decide +kernel) (pa_cons (pe_lc (own := [(("name" : Str), 11), (("width" : Str), 12)]) (g := (gTup K 2 (gCons (gName 11) (gCons (gName 12) gNil)))) (tt := tYes) rfl sc__law_net.nd (k_pi_list K (pv 3)) (blkOk_by (by kernel_rfl)) (fun _ _ _ _ _ => (pg_tup rfl (pgs_cons (pg_name (i := 11) sc__law_net.nd rfl (Or.inl rfl)) (pgs_cons (pg_name (i := 12) sc__law_net.nd rfl (Or.inl rfl)) pgs_nil)))) (fun _ _ _ _ _ => pts_nil) (fun _ _ _ _ _ => (pv 12))) pa_nil))) (pss_cons (ps_set (i := 6) sc__law_net.nd rfl (Or.inl rfl) (pe_lst pa_nil)) (pss_cons (ps_for PassesOwn.never rfl (k_pi_list K (pe_slice (k_sl_list K) (pv 0) (po_some pe_int) (po_some pe_int))) (pg_name (i := 7) sc__law_net.nd rfl (Or.inl rfl)) (pss_one (ps_expr (pe_bm PySem.F.plainAttrs_list PySem.F.slot_list_append PySem.F.type_list_append mt_append (pv 6) (pa_cons (pe_cal C__law_gate hr (pa_cons (pv 7) (pa_cons (pe_op op_add (pv 5) (pe_callB (k_len_seq K) (by rfl) B.len PySem.boot_len (pa_cons (pv 6) pa_nil))) pa_nil))) pa_nil))))) (pss_cons (ps_set (i := 8) sc__law_net.nd rfl (Or.inl rfl) (pe_lst pa_nil)) (pss_cons (ps_set (i := 9) sc__law_net.nd rfl (Or.inl rfl) (pe_cal C__law_names hr (pa_cons (pv 1) (pa_cons pe_int (pa_cons pe_int pa_nil))))) (pss_cons (ps_if (pt_cmpR op_eq (pe_op op_mod (pe_cal C__law_stir hr (pa_cons (pv 1) (pa_cons pe_int pa_nil))) pe_int) pe_int (nomark _)) (pss_one (ps_set (i := 9) sc__law_net.nd rfl (Or.inl rfl) (pv 2))) pss_nil) (pss_cons (ps_for PassesOwn.never rfl (pi_range1 rfl B.range (pa_cons (pe_op op_add pe_int (pe_op op_mod (pe_cal C__law_stir hr (pa_cons (pv 1) (pa_cons pe_int pa_nil))) pe_int)) pa_nil)) (pg_name (i := 4) sc__law_net.nd rfl (Or.inl rfl)) (pss_cons (ps_set (i := 10) sc__law_net.nd rfl (Or.inl rfl) (pe_cal C__law_stir hr (pa_cons (pv 1) (pa_cons (pe_op op_add pe_int (pv 4)) pa_nil)))) (pss_one (ps_expr (pe_bm PySem.F.plainAttrs_list PySem.F.slot_list_append PySem.F.type_list_append mt_append (pv 8) (pa_cons (pe_tup (pa_cons (pe_ix (k_ix_list K) (pv 9) (pe_op op_sub pe_int (pv 4)) (fun _ _ => rfl)) (pa_cons (pe_cal C__law_wires hr (pa_cons (pv 1) (pa_cons (pe_op op_add pe_int (pe_op op_mul pe_int (pv 4))) (pa_cons (pe_op op_add pe_int (pe_op op_mod (pv 10) pe_int)) (pa_cons (pe_op op_add (pv 5) (pe_callB (k_len_seq K) (by rfl) B.len PySem.boot_len (pa_cons (pv 6) pa_nil))) pa_nil))))) pa_nil))) pa_nil)))))) (pss_one (ps_ret (pe_tup (pa_cons (pv 3) (pa_cons (pv 6) (pa_cons (pv 8) pa_nil))))))))))))))))), ?_⟩
  obtain ⟨F, ds, d, hw, hF, ⟨v_script, rr, rfl, rfl, hm0⟩, k⟩ := h
  have E : EnvR K F _ [.val (enc (v_script : (List Int))), .un, .un, .un, .un, .un, .un, .un, .un, .un, .un, .un, .un] := EnvR.start (N := ["script", "head", "names", "ins", "place", "first", "gates", "cell", "outs", "others", "number", "name", "width"]) (AsR.of_all hw)
  have S := Hx.start (K := K) hF
  have fc : Same F F := Same.refl F
  unfold m__law_net at hm0
  obtain ⟨r1, h2, hm0⟩ := bindE hm0
  try (with_reducible refine nxD ?_)
  with_reducible refine sq ?_
  refine st_set (i := 1) (d := enc (r1 : Int)) (rx_call (ds := [enc (v_script : (List Int)), enc ((0 : Int) : Int)]) (d := enc (r1 : Int)) ⟨_, _, r1, rfl, rfl, h2⟩ (ra_cons (rx_var (d := enc (v_script : (List Int))) rfl) (ra_cons rx_int ra_nil))) E S fun σ F H f E S => ?_
  replace fc := fc.trans f
  have E : EnvR K _ _ [.val (enc (v_script : (List Int))), .val (enc (r1 : Int)), .un, .un, .un, .un, .un, .un, .un, .un, .un, .un, .un] := E
  have S : Hx K _ _ _ _ [] _ := S
  obtain ⟨r3, h4, hm0⟩ := bindE hm0
  try (with_reducible refine nxD ?_)
  with_reducible refine sq ?_
  refine st_set (i := 2) (d := enc (r3 : (List Str))) (RXo.frz (rxo_call (ds := [enc (r1 : Int), enc ((300 : Int) : Int), enc ((6 : Int) : Int)]) (es := r3.map enc) ⟨_, _, _, r3, rfl, rfl, h4⟩ (ra_cons (rx_var (d := enc (r1 : Int)) rfl) (ra_cons rx_int (ra_cons rx_int ra_nil))))) E S fun σ F H f E S => ?_
  replace fc := fc.trans f
  have E : EnvR K _ _ [.val (enc (v_script : (List Int))), .val (enc (r1 : Int)), .val (enc (r3 : (List Str))), .un, .un, .un, .un, .un, .un, .un, .un, .un, .un] := E
  have S : Hx K _ _ _ _ [] _ := S
  obtain ⟨v5, h6, hm0⟩ := letE hm0
  try (with_reducible refine nxD ?_)
  with_reducible refine sq ?_
  refine st_setO (i := 3) (ds := v5.map enc) (rxo_as (f := enc) h6 (rxo_lst (ds := []) ra_nil)) E S fun p_ins7 σ F H f E S => ?_
  replace fc := fc.trans f
  have E : EnvR K _ _ [.val (enc (v_script : (List Int))), .val (enc (r1 : Int)), .val (enc (r3 : (List Str))), .adr p_ins7, .un, .un, .un, .un, .un, .un, .un, .un, .un] := E
  have S : Hx K _ _ _ _ [⟨p_ins7, true, v5.map enc⟩] _ := S
  obtain ⟨r8, h9, hm0⟩ := bindE hm0
  obtain ⟨l10, h11, hm0⟩ := bindE hm0
  obtain ⟨s24, h16, hm0⟩ := bindE hm0
  try (with_reducible refine nxD ?_)
  with_reducible refine sq ?_
  refine st_forS (eα := enc) (fun s13 => [.val (enc (v_script : (List Int))), .val (enc (r1 : Int)), .val (enc (r3 : (List Str))), .adr p_ins7, .un, .un, .un, .un, .un, .un, .un, .un, .un]) (fun s13 => [⟨p_ins7, true, s13.map enc⟩]) E S (ri_range h11 (rx_add rx_int (rx_mod (rx_call (ds := [enc (r1 : Int), enc ((320 : Int) : Int)]) (d := enc (r8 : Int)) ⟨_, _, r8, rfl, rfl, h9⟩ (ra_cons (rx_var (d := enc (r1 : Int)) rfl) (ra_cons rx_int ra_nil))) rx_int (by decide)))) h16 ⟨.inl rfl, .inl rfl, .inl rfl, .inl rfl, .inr rfl, .inr rfl, .inr rfl, .inr rfl, .inr rfl, .inr rfl, .inr rfl, .inr rfl, .inr rfl, trivial⟩ (fun σ F H f E S => ?_) (fun x14 _ s13 s' h12 σ F H v _ E S r N B hN => ?_)
  · replace fc := fc.trans f
    have E : EnvR K _ _ [.val (enc (v_script : (List Int))), .val (enc (r1 : Int)), .val (enc (r3 : (List Str))), .adr p_ins7, .un, .un, .un, .un, .un, .un, .un, .un, .un] := E
    have S : Hx K _ _ _ _ [⟨p_ins7, true, s24.map enc⟩] _ := S
    obtain ⟨F, f, E, S⟩ := frz_at (i := 3) (j := 0) rfl rfl E S
    have E : EnvR K F _ [.val (enc (v_script : (List Int))), .val (enc (r1 : Int)), .val (enc (r3 : (List Str))), .val (enc (s24 : (List (Str × Int)))), .un, .un, .un, .un, .un, .un, .un, .un, .un] := E
    have S : Hx K _ _ _ F [] _ := S
    replace fc := fc.trans f
    obtain ⟨v29, h30, hm0⟩ := letE hm0
    try (with_reducible refine nxD ?_)
    with_reducible refine sq ?_
    refine st_set (i := 5) (d := enc (v29 : Int)) (rx_as (x := ((s24.map (fun (x26 : (Str × Int)) => (x26.2 : Int))).sum : Int)) h30 (rx_sum (RXo.s (rxo_map (eα := enc) (eβ := enc) (f := (fun (x26 : (Str × Int)) => (x26.2 : Int))) (fun x26 => [.val (enc (v_script : (List Int))), .val (enc (r1 : Int)), .val (enc (r3 : (List Str))), .val (enc (s24 : (List (Str × Int)))), .un, .un, .un, .un, .un, .un, .un, .val (enc (x26.1 : Str)), .val (enc (x26.2 : Int))]) [11, 12] (ri_list (ys := s24.map enc) (rx_var (d := enc (s24 : (List (Str × Int)))) rfl)) (by decide) (fun x26 _ => (rg_tup (ds := [enc (x26.1 : Str), enc (x26.2 : Int)]) (RGs.cons (rg_name (i := 11) (d := enc (x26.1 : Str))) (RGs.cons (rg_name (i := 12) (d := enc (x26.2 : Int))) RGs.nil)))) (fun x26 _ D27 acc28 => (rx_var (d := enc (x26.2 : Int)) rfl)))))) E S fun σ F H f E S => ?_
    replace fc := fc.trans f
    have E : EnvR K _ _ [.val (enc (v_script : (List Int))), .val (enc (r1 : Int)), .val (enc (r3 : (List Str))), .val (enc (s24 : (List (Str × Int)))), .un, .val (enc (v29 : Int)), .un, .un, .un, .un, .un, .un, .un] := E
    have S : Hx K _ _ _ _ [] _ := S
    obtain ⟨v31, h32, hm0⟩ := letE hm0
    try (with_reducible refine nxD ?_)
    with_reducible refine sq ?_
    refine st_setO (i := 6) (ds := v31.map enc) (rxo_as (f := enc) h32 (rxo_lst (ds := []) ra_nil)) E S fun p_gates33 σ F H f E S => ?_
    replace fc := fc.trans f
    have E : EnvR K _ _ [.val (enc (v_script : (List Int))), .val (enc (r1 : Int)), .val (enc (r3 : (List Str))), .val (enc (s24 : (List (Str × Int)))), .un, .val (enc (v29 : Int)), .adr p_gates33, .un, .un, .un, .un, .un, .un] := E
    have S : Hx K _ _ _ _ [⟨p_gates33, true, v31.map enc⟩] _ := S
    obtain ⟨s44, h38, hm0⟩ := bindE hm0
    try (with_reducible refine nxD ?_)
    with_reducible refine sq ?_
    refine st_forS (eα := enc) (fun s35 => [.val (enc (v_script : (List Int))), .val (enc (r1 : Int)), .val (enc (r3 : (List Str))), .val (enc (s24 : (List (Str × Int)))), .un, .val (enc (v29 : Int)), .adr p_gates33, .un, .un, .un, .un, .un, .un]) (fun s35 => [⟨p_gates33, true, s35.map enc⟩]) E S (ri_list (ys := (cutL v_script (some (1 : Int)) (some (61 : Int))).map enc) (RXo.frz (rxo_sliceM (f := enc) (RX.s (rx_var (d := enc (v_script : (List Int))) rfl)) (ro_some rx_int) (ro_some rx_int)))) h38 ⟨.inl rfl, .inl rfl, .inl rfl, .inl rfl, .inr rfl, .inl rfl, .inl rfl, .inr rfl, .inr rfl, .inr rfl, .inr rfl, .inr rfl, .inr rfl, trivial⟩ (fun σ F H f E S => ?_) (fun x36 _ s35 s' h34 σ F H v _ E S r N B hN => ?_)
    · replace fc := fc.trans f
      have E : EnvR K _ _ [.val (enc (v_script : (List Int))), .val (enc (r1 : Int)), .val (enc (r3 : (List Str))), .val (enc (s24 : (List (Str × Int)))), .un, .val (enc (v29 : Int)), .adr p_gates33, .un, .un, .un, .un, .un, .un] := E
      have S : Hx K _ _ _ _ [⟨p_gates33, true, s44.map enc⟩] _ := S
      obtain ⟨v45, h46, hm0⟩ := letE hm0
      try (with_reducible refine nxD ?_)
      with_reducible refine sq ?_
      refine st_setO (i := 8) (ds := v45.map enc) (rxo_as (f := enc) h46 (rxo_lst (ds := []) ra_nil)) E S fun p_outs47 σ F H f E S => ?_
      replace fc := fc.trans f
      have E : EnvR K _ _ [.val (enc (v_script : (List Int))), .val (enc (r1 : Int)), .val (enc (r3 : (List Str))), .val (enc (s24 : (List (Str × Int)))), .un, .val (enc (v29 : Int)), .adr p_gates33, .un, .adr p_outs47, .un, .un, .un, .un] := E
      have S : Hx K _ _ _ _ [⟨p_outs47, true, v45.map enc⟩, ⟨p_gates33, true, s44.map enc⟩] _ := S
      obtain ⟨r48, h49, hm0⟩ := bindE hm0
      try (with_reducible refine nxD ?_)
      with_reducible refine sq ?_
      refine st_set (i := 9) (d := enc (r48 : (List Str))) (RXo.frz (rxo_call (ds := [enc (r1 : Int), enc ((330 : Int) : Int), enc ((6 : Int) : Int)]) (es := r48.map enc) ⟨_, _, _, r48, rfl, rfl, h49⟩ (ra_cons (rx_var (d := enc (r1 : Int)) rfl) (ra_cons rx_int (ra_cons rx_int ra_nil))))) E S fun σ F H f E S => ?_
      replace fc := fc.trans f
      have E : EnvR K _ _ [.val (enc (v_script : (List Int))), .val (enc (r1 : Int)), .val (enc (r3 : (List Str))), .val (enc (s24 : (List (Str × Int)))), .un, .val (enc (v29 : Int)), .adr p_gates33, .un, .adr p_outs47, .val (enc (r48 : (List Str))), .un, .un, .un] := E
      have S : Hx K _ _ _ _ [⟨p_outs47, true, v45.map enc⟩, ⟨p_gates33, true, s44.map enc⟩] _ := S
      obtain ⟨r50, h51, hm0⟩ := bindE hm0
      obtain ⟨j52, h53, hm0⟩ := bindE hm0
      try (with_reducible refine nxD ?_)
      with_reducible refine sq ?_
      refine st_ifJ (b := (decide ((r50 % (2 : Int)) = (0 : Int)))) [.val (enc (v_script : (List Int))), .val (enc (r1 : Int)), .val (enc (r3 : (List Str))), .val (enc (s24 : (List (Str × Int)))), .un, .val (enc (v29 : Int)), .adr p_gates33, .un, .adr p_outs47, .val (enc (j52 : (List Str))), .un, .un, .un] [⟨p_outs47, true, v45.map enc⟩, ⟨p_gates33, true, s44.map enc⟩] (rt_val (rx_eqi (rx_mod (rx_call (ds := [enc (r1 : Int), enc ((340 : Int) : Int)]) (d := enc (r50 : Int)) ⟨_, _, r50, rfl, rfl, h51⟩ (ra_cons (rx_var (d := enc (r1 : Int)) rfl) (ra_cons rx_int ra_nil))) rx_int (by decide)) rx_int)) E S (fun σ F H f E S => ?_) (fun hc F H rest f E S => ?_) (fun hc F H rest f E S => ?_)
      · replace fc := fc.trans f
        obtain ⟨r54, h55, hm0⟩ := bindE hm0
        obtain ⟨l56, h57, hm0⟩ := bindE hm0
        obtain ⟨s72, h62, hm0⟩ := bindE hm0
        try (with_reducible refine nxD ?_)
        with_reducible refine sq ?_
        refine st_forS (eα := enc) (fun s59 => [.val (enc (v_script : (List Int))), .val (enc (r1 : Int)), .val (enc (r3 : (List Str))), .val (enc (s24 : (List (Str × Int)))), .un, .val (enc (v29 : Int)), .adr p_gates33, .un, .adr p_outs47, .val (enc (j52 : (List Str))), .un, .un, .un]) (fun s59 => [⟨p_outs47, true, s59.map enc⟩, ⟨p_gates33, true, s44.map enc⟩]) E S (ri_range h57 (rx_add rx_int (rx_mod (rx_call (ds := [enc (r1 : Int), enc ((341 : Int) : Int)]) (d := enc (r54 : Int)) ⟨_, _, r54, rfl, rfl, h55⟩ (ra_cons (rx_var (d := enc (r1 : Int)) rfl) (ra_cons rx_int ra_nil))) rx_int (by decide)))) h62 ⟨.inl rfl, .inl rfl, .inl rfl, .inl rfl, .inr rfl, .inl rfl, .inl rfl, .inr rfl, .inl rfl, .inl rfl, .inr rfl, .inr rfl, .inr rfl, trivial⟩ (fun σ F H f E S => ?_) (fun x60 _ s59 s' h58 σ F H v _ E S r N B hN => ?_)
        · replace fc := fc.trans f
          have E : EnvR K _ _ [.val (enc (v_script : (List Int))), .val (enc (r1 : Int)), .val (enc (r3 : (List Str))), .val (enc (s24 : (List (Str × Int)))), .un, .val (enc (v29 : Int)), .adr p_gates33, .un, .adr p_outs47, .val (enc (j52 : (List Str))), .un, .un, .un] := E
          have S : Hx K _ _ _ _ [⟨p_outs47, true, s72.map enc⟩, ⟨p_gates33, true, s44.map enc⟩] _ := S
          obtain ⟨F, f, E, S⟩ := frz_at (i := 6) (j := 1) rfl rfl E S
          have E : EnvR K F _ [.val (enc (v_script : (List Int))), .val (enc (r1 : Int)), .val (enc (r3 : (List Str))), .val (enc (s24 : (List (Str × Int)))), .un, .val (enc (v29 : Int)), .val (enc (s44 : (List (T3 Str (Tp Int) Bool)))), .un, .adr p_outs47, .val (enc (j52 : (List Str))), .un, .un, .un] := E
          have S : Hx K _ _ _ F [⟨p_outs47, true, s72.map enc⟩] _ := S
          replace fc := fc.trans f
          obtain ⟨F, f, E, S⟩ := frz_at (i := 8) (j := 0) rfl rfl E S
          have E : EnvR K F _ [.val (enc (v_script : (List Int))), .val (enc (r1 : Int)), .val (enc (r3 : (List Str))), .val (enc (s24 : (List (Str × Int)))), .un, .val (enc (v29 : Int)), .val (enc (s44 : (List (T3 Str (Tp Int) Bool)))), .un, .val (enc (s72 : (List (Str × (Tp Int))))), .val (enc (j52 : (List Str))), .un, .un, .un] := E
          have S : Hx K _ _ _ F [] _ := S
          replace fc := fc.trans f
          obtain rfl := Option.some.inj hm0
          -- return
          try (with_reducible refine nxD ?_)
          refine st_ret (d := enc ((T3.mk s24 s44 s72) : (T3 (List (Str × Int)) (List (T3 Str (Tp Int) Bool)) (List (Str × (Tp Int)))))) (rx_tup (ds := [enc (s24 : (List (Str × Int))), enc (s44 : (List (T3 Str (Tp Int) Bool))), enc (s72 : (List (Str × (Tp Int))))]) (ra_cons (rx_var (d := enc (s24 : (List (Str × Int)))) rfl) (ra_cons (rx_var (d := enc (s44 : (List (T3 Str (Tp Int) Bool)))) rfl) (ra_cons (rx_var (d := enc (s72 : (List (Str × (Tp Int))))) rfl) ra_nil)))) E S fun v F H f S r => ?_
          exact k v F H S.stp r
        · refine ((rg_name (i := 4) (d := enc (x60 : Int)))).run _ _ _ _ _ E r S.fh fun σ E _ => ?_
          have E : EnvR K _ _ [.val (enc (v_script : (List Int))), .val (enc (r1 : Int)), .val (enc (r3 : (List Str))), .val (enc (s24 : (List (Str × Int)))), .val (enc (x60 : Int)), .val (enc (v29 : Int)), .adr p_gates33, .un, .adr p_outs47, .val (enc (j52 : (List Str))), .un, .un, .un] := E
          have S : Hx K _ _ _ _ [⟨p_outs47, true, s59.map enc⟩, ⟨p_gates33, true, s44.map enc⟩] _ := S
          have fc : Same F F := Same.refl F
          obtain ⟨r64, h65, h58⟩ := bindE h58
          try (with_reducible refine nxD ?_)
          with_reducible refine sq ?_
          refine st_set (i := 10) (d := enc (r64 : Int)) (rx_call (ds := [enc (r1 : Int), enc (((342 : Int) + x60) : Int)]) (d := enc (r64 : Int)) ⟨_, _, r64, rfl, rfl, h65⟩ (ra_cons (rx_var (d := enc (r1 : Int)) rfl) (ra_cons (rx_add rx_int (rx_var (d := enc (x60 : Int)) rfl)) ra_nil))) E S fun σ F H f E S => ?_
          replace fc := fc.trans f
          have E : EnvR K _ _ [.val (enc (v_script : (List Int))), .val (enc (r1 : Int)), .val (enc (r3 : (List Str))), .val (enc (s24 : (List (Str × Int)))), .val (enc (x60 : Int)), .val (enc (v29 : Int)), .adr p_gates33, .un, .adr p_outs47, .val (enc (j52 : (List Str))), .val (enc (r64 : Int)), .un, .un] := E
          have S : Hx K _ _ _ _ [⟨p_outs47, true, s59.map enc⟩, ⟨p_gates33, true, s44.map enc⟩] _ := S
          obtain ⟨t66, h67, h58⟩ := bindE h58
          obtain ⟨r68, h69, h58⟩ := bindE h58
          obtain ⟨u70, h71, h58⟩ := bindE h58
          try (with_reducible refine nxD ?_)
          refine (st_app (j := 0) (ds := s59.map enc) (d := enc ((t66, r68) : (Str × (Tp Int)))) (appO_map enc h71) rfl (rx_tup (ds := [enc (t66 : Str), enc (r68 : (Tp Int))]) (ra_cons (rx_ix (atI_map enc h67) (RX.s (rx_var (d := enc (j52 : (List Str))) rfl)) (rx_sub rx_int (rx_var (d := enc (x60 : Int)) rfl))) (ra_cons (rx_call (ds := [enc (r1 : Int), enc (((350 : Int) + ((3 : Int) * x60)) : Int), enc (((1 : Int) + (r64 % (3 : Int))) : Int), enc ((v29 + (s44.length : Int)) : Int)]) (d := enc (r68 : (Tp Int))) ⟨_, _, _, _, r68, rfl, rfl, h69⟩ (ra_cons (rx_var (d := enc (r1 : Int)) rfl) (ra_cons (rx_add rx_int (rx_mul rx_int (rx_var (d := enc (x60 : Int)) rfl) (.inl (by decide)))) (ra_cons (rx_add rx_int (rx_mod (rx_var (d := enc (r64 : Int)) rfl) rx_int (by decide))) (ra_cons (rx_add (rx_var (d := enc (v29 : Int)) rfl) (len_nat (f := enc) (rxs_own (j := 1) (ds := s44.map enc) rfl rfl))) ra_nil))))) ra_nil))) ⟨_, rfl⟩ rfl E S fun F H f E S => ?_)
          replace fc := fc.trans f
          have E : EnvR K _ _ [.val (enc (v_script : (List Int))), .val (enc (r1 : Int)), .val (enc (r3 : (List Str))), .val (enc (s24 : (List (Str × Int)))), .val (enc (x60 : Int)), .val (enc (v29 : Int)), .adr p_gates33, .un, .adr p_outs47, .val (enc (j52 : (List Str))), .val (enc (r64 : Int)), .un, .un] := E
          have S : Hx K _ _ _ _ [⟨p_outs47, true, u70.map enc⟩, ⟨p_gates33, true, s44.map enc⟩] _ := S
          obtain rfl := Option.some.inj h58
          exact hN _ _ _ fc (E.weak ⟨.inl rfl, .inl rfl, .inl rfl, .inl rfl, .inr rfl, .inl rfl, .inl rfl, .inr rfl, .inl rfl, .inl rfl, .inr rfl, .inr rfl, .inr rfl, trivial⟩) S
      · rw [if_pos hc] at h53
        have fc := f
        try (with_reducible refine nxD ?_)
        refine (st_set (i := 9) (d := enc (r3 : (List Str))) (rx_var (d := enc (r3 : (List Str))) rfl) E S fun σ F H f E S => ?_)
        replace fc := fc.trans f
        have E : EnvR K _ _ [.val (enc (v_script : (List Int))), .val (enc (r1 : Int)), .val (enc (r3 : (List Str))), .val (enc (s24 : (List (Str × Int)))), .un, .val (enc (v29 : Int)), .adr p_gates33, .un, .adr p_outs47, .val (enc (r3 : (List Str))), .un, .un, .un] := E
        have S : Hx K _ _ _ _ [⟨p_outs47, true, v45.map enc⟩, ⟨p_gates33, true, s44.map enc⟩] _ := S
        obtain rfl := Option.some.inj h53
        exact rest _ _ _ fc (E.weak ⟨.inl rfl, .inl rfl, .inl rfl, .inl rfl, .inr rfl, .inl rfl, .inl rfl, .inr rfl, .inl rfl, .inl rfl, .inr rfl, .inr rfl, .inr rfl, trivial⟩) S
      · rw [if_neg (by rw [hc]; decide)] at h53
        have fc := f
        refine nxt ?_
        obtain rfl := Option.some.inj h53
        exact rest _ _ _ fc (E.weak ⟨.inl rfl, .inl rfl, .inl rfl, .inl rfl, .inr rfl, .inl rfl, .inl rfl, .inr rfl, .inl rfl, .inl rfl, .inr rfl, .inr rfl, .inr rfl, trivial⟩) S
    · refine ((rg_name (i := 7) (d := enc (x36 : Int)))).run _ _ _ _ _ E r S.fh fun σ E _ => ?_
      have E : EnvR K _ _ [.val (enc (v_script : (List Int))), .val (enc (r1 : Int)), .val (enc (r3 : (List Str))), .val (enc (s24 : (List (Str × Int)))), .un, .val (enc (v29 : Int)), .adr p_gates33, .val (enc (x36 : Int)), .un, .un, .un, .un, .un] := E
      have S : Hx K _ _ _ _ [⟨p_gates33, true, s35.map enc⟩] _ := S
      have fc : Same F F := Same.refl F
      obtain ⟨r40, h41, h34⟩ := bindE h34
      obtain ⟨u42, h43, h34⟩ := bindE h34
      try (with_reducible refine nxD ?_)
      refine (st_app (j := 0) (ds := s35.map enc) (d := enc (r40 : (T3 Str (Tp Int) Bool))) (appO_map enc h43) rfl (rx_call (ds := [enc (x36 : Int), enc ((v29 + (s35.length : Int)) : Int)]) (d := enc (r40 : (T3 Str (Tp Int) Bool))) ⟨_, _, r40, rfl, rfl, h41⟩ (ra_cons (rx_var (d := enc (x36 : Int)) rfl) (ra_cons (rx_add (rx_var (d := enc (v29 : Int)) rfl) (len_nat (f := enc) (rxs_own (j := 0) (ds := s35.map enc) rfl rfl))) ra_nil))) ⟨_, rfl⟩ rfl E S fun F H f E S => ?_)
      replace fc := fc.trans f
      have E : EnvR K _ _ [.val (enc (v_script : (List Int))), .val (enc (r1 : Int)), .val (enc (r3 : (List Str))), .val (enc (s24 : (List (Str × Int)))), .un, .val (enc (v29 : Int)), .adr p_gates33, .val (enc (x36 : Int)), .un, .un, .un, .un, .un] := E
      have S : Hx K _ _ _ _ [⟨p_gates33, true, u42.map enc⟩] _ := S
      obtain rfl := Option.some.inj h34
      exact hN _ _ _ fc (E.weak ⟨.inl rfl, .inl rfl, .inl rfl, .inl rfl, .inr rfl, .inl rfl, .inl rfl, .inr rfl, .inr rfl, .inr rfl, .inr rfl, .inr rfl, .inr rfl, trivial⟩) S
  · refine ((rg_name (i := 4) (d := enc (x14 : Int)))).run _ _ _ _ _ E r S.fh fun σ E _ => ?_
    have E : EnvR K _ _ [.val (enc (v_script : (List Int))), .val (enc (r1 : Int)), .val (enc (r3 : (List Str))), .adr p_ins7, .val (enc (x14 : Int)), .un, .un, .un, .un, .un, .un, .un, .un] := E
    have S : Hx K _ _ _ _ [⟨p_ins7, true, s13.map enc⟩] _ := S
    have fc : Same F F := Same.refl F
    obtain ⟨t18, h19, h12⟩ := bindE h12
    obtain ⟨r20, h21, h12⟩ := bindE h12
    obtain ⟨u22, h23, h12⟩ := bindE h12
    try (with_reducible refine nxD ?_)
    refine (st_app (j := 0) (ds := s13.map enc) (d := enc ((t18, ((1 : Int) + (r20 % (3 : Int)))) : (Str × Int))) (appO_map enc h23) rfl (rx_tup (ds := [enc (t18 : Str), enc (((1 : Int) + (r20 % (3 : Int))) : Int)]) (ra_cons (rx_ix (atI_map enc h19) (RX.s (rx_var (d := enc (r3 : (List Str))) rfl)) (rx_var (d := enc (x14 : Int)) rfl)) (ra_cons (rx_add rx_int (rx_mod (rx_call (ds := [enc (r1 : Int), enc (((321 : Int) + x14) : Int)]) (d := enc (r20 : Int)) ⟨_, _, r20, rfl, rfl, h21⟩ (ra_cons (rx_var (d := enc (r1 : Int)) rfl) (ra_cons (rx_add rx_int (rx_var (d := enc (x14 : Int)) rfl)) ra_nil))) rx_int (by decide))) ra_nil))) ⟨_, rfl⟩ rfl E S fun F H f E S => ?_)
    replace fc := fc.trans f
    have E : EnvR K _ _ [.val (enc (v_script : (List Int))), .val (enc (r1 : Int)), .val (enc (r3 : (List Str))), .adr p_ins7, .val (enc (x14 : Int)), .un, .un, .un, .un, .un, .un, .un, .un] := E
    have S : Hx K _ _ _ _ [⟨p_ins7, true, u22.map enc⟩] _ := S
    obtain rfl := Option.some.inj h12
    exact hN _ _ _ fc (E.weak ⟨.inl rfl, .inl rfl, .inl rfl, .inl rfl, .inr rfl, .inr rfl, .inr rfl, .inr rfl, .inr rfl, .inr rfl, .inr rfl, .inr rfl, .inr rfl, trivial⟩) S
theorem sc__law_gate_names : FnScope ["net", "head", "taken", "words", "found", "word", "spare", "name", "width", "n", "one"] ["net", "head"] (defScope (top 36)) := ⟨rfl, rfl, rfl, by decide +kernel, rfl, by decide +kernel, by decide +kernel⟩
theorem ok__law_gate_names (B : Bi mg) (D : Dfn K mg "_law_gate_names" (top 36) ["net", "head"]) (C__law_names : Cal P w K mg base 2 "_law_names" ["head", "k", "many"] (SpN K R__law_names)) : Cal P w K mg base 3 "_law_gate_names" ["net", "head"] (SpN K R__law_gate_names) := by
  refine D.cal sc__law_gate_names (sn_len fun ds d h => by obtain ⟨_, _, _, rfl, _⟩ := h; rfl) fun f cdv A outer s H vs Q E hr h => ?_
  refine ⟨_, (pss_cons (ps_set (i := 2) sc__law_gate_names.nd rfl (Or.inr rfl) (pe_lc (own := [(("name" : Str), 7), (("width" : Str), 8)]) (g := (gTup K 2 (gCons (gName 7) (gCons (gName 8) gNil)))) (tt := tYes) rfl sc__law_gate_names.nd (k_pi_list K (pe_ix (k_ix_tup K) (pv 0) pe_int (fun _ _ => rfl))) (blkOk_by (by kernel_rfl)) (fun _ _ _ _ _ => (pg_tup rfl (pgs_cons (pg_name (i := 7) sc__law_gate_names.nd rfl (Or.inl rfl)) (pgs_cons (pg_name (i := 8) sc__law_gate_names.nd rfl (Or.inl rfl)) pgs_nil)))) (fun _ _ _ _ _ => pts_nil) (fun _ _ _ _ _ => (pv 7)))) (pss_cons (ps_set (i := 3) sc__law_gate_names.nd rfl (Or.inr rfl) (pe_cal C__law_names hr (pa_cons (pv 1) (pa_cons pe_int (pa_cons (pe_callB (k_len_seq K) (by rfl) B.len PySem.boot_len (pa_cons (pe_ix (k_ix_tup K) (pv 0) pe_int (fun _ _ => rfl)) pa_nil)) pa_nil))))) (pss_cons (ps_set (i := 4) sc__law_gate_names.nd rfl (Or.inl rfl) (pe_lst pa_nil)) (pss_cons (ps_for PassesOwn.never rfl (k_pi_list K (pv 3)) (pg_name (i := 5) sc__law_gate_names.nd rfl (Or.inl rfl)) (pss_cons (ps_if (pt_cmpR (k_in_seq K) (pv 5) (pv 2) (by rfl)) (pss_cons (ps_setLc (i := 6) (own := [(("n" : Str), 9)]) (g := (gName 9)) (tt := tYes) rfl sc__law_gate_names.nd rfl rfl (sw_true rfl rfl rfl (by decide +kernel)) (pi_range1 rfl B.range (pa_cons pe_int pa_nil)) (blkOk_by (by kernel_rfl)) (fun _ _ _ _ _ => (pg_name (i := 9) sc__law_gate_names.nd rfl (Or.inl rfl))) (fun _ _ _ _ _ => pts_nil) (fun _ _ _ _ _ => (pe_op op_add_str (pe_op op_add_str pe_str (pe_ix ix_str pe_str (pe_op op_fdiv (pv 9) pe_int) (fun _ _ => rfl))) (pe_ix ix_str pe_str (pe_op op_mod (pv 9) pe_int) (fun _ _ => rfl))))) (pss_one (ps_set (i := 5) sc__law_gate_names.nd rfl (Or.inl rfl) (pe_ix (k_ix_list K) (pe_lc (own := [(("one" : Str), 10)]) (g := (gName 10)) rfl sc__law_gate_names.nd (k_pi_list K (pv 6)) (blkOk_by (by kernel_rfl)) (fun _ _ _ _ _ => (pg_name (i := 10) sc__law_gate_names.nd rfl (Or.inl rfl))) (fun _ _ _ _ _ => (pts_one (PW.pt (pw_and (pt_cmpR (k_notIn_seq K) (pv 10) (pv 2) (by rfl)) (pw_and1 (pt_cmpR (k_notIn_seq K) (pv 10) (pv 3) (by rfl))))))) (fun _ _ _ _ _ => (pv 10))) pe_int (fun _ _ => rfl))))) pss_nil) (pss_cons (ps_expr (pe_bm PySem.F.plainAttrs_list PySem.F.slot_list_append PySem.F.type_list_append mt_append (pv 4) (pa_cons (pv 5) pa_nil))) (pss_one (ps_expr (pe_bm PySem.F.plainAttrs_list PySem.F.slot_list_append PySem.F.type_list_append mt_append (pv 2) (pa_cons (pv 5) pa_nil))))))) (pss_one (ps_ret (pv 4))))))), ?_⟩
  obtain ⟨F, ds, es, hw, hF, ⟨v_net, v_head, rr, rfl, rfl, hm0⟩, k⟩ := h
  have E : EnvR K F _ [.val (enc (v_net : (T3 (List (Str × Int)) (List (T3 Str (Tp Int) Bool)) (List (Str × (Tp Int)))))), .val (enc (v_head : Int)), .un, .un, .un, .un, .un, .un, .un, .un, .un] := EnvR.start (N := ["net", "head", "taken", "words", "found", "word", "spare", "name", "width", "n", "one"]) (AsR.of_all hw)
  have S := Hx.start (K := K) hF
  have fc : Same F F := Same.refl F
  unfold m__law_gate_names at hm0
  obtain ⟨v5, h6, hm0⟩ := letE hm0
  try (with_reducible refine nxD ?_)
  with_reducible refine sq ?_
  refine st_setO (i := 2) (ds := v5.map enc) (rxo_as (f := enc) h6 (rxo_map (eα := enc) (eβ := enc) (f := (fun (x2 : (Str × Int)) => (x2.1 : Str))) (fun x2 => [.val (enc (v_net : (T3 (List (Str × Int)) (List (T3 Str (Tp Int) Bool)) (List (Str × (Tp Int)))))), .val (enc (v_head : Int)), .un, .un, .un, .un, .un, .val (enc (x2.1 : Str)), .val (enc (x2.2 : Int)), .un, .un]) [7, 8] (ri_list (ys := v_net.a.map enc) (rx_ixT (ds := [enc (v_net.a : (List (Str × Int))), enc (v_net.b : (List (T3 Str (Tp Int) Bool))), enc (v_net.c : (List (Str × (Tp Int))))]) (d := enc (v_net.a : (List (Str × Int)))) rfl (rx_var (d := enc (v_net : (T3 (List (Str × Int)) (List (T3 Str (Tp Int) Bool)) (List (Str × (Tp Int)))))) rfl) rx_int)) (by decide) (fun x2 _ => (rg_tup (ds := [enc (x2.1 : Str), enc (x2.2 : Int)]) (RGs.cons (rg_name (i := 7) (d := enc (x2.1 : Str))) (RGs.cons (rg_name (i := 8) (d := enc (x2.2 : Int))) RGs.nil)))) (fun x2 _ D3 acc4 => (rx_var (d := enc (x2.1 : Str)) rfl)))) E S fun p_taken7 σ F H f E S => ?_
  replace fc := fc.trans f
  have E : EnvR K _ _ [.val (enc (v_net : (T3 (List (Str × Int)) (List (T3 Str (Tp Int) Bool)) (List (Str × (Tp Int)))))), .val (enc (v_head : Int)), .adr p_taken7, .un, .un, .un, .un, .un, .un, .un, .un] := E
  have S : Hx K _ _ _ _ [⟨p_taken7, true, v5.map enc⟩] _ := S
  obtain ⟨r8, h9, hm0⟩ := bindE hm0
  try (with_reducible refine nxD ?_)
  with_reducible refine sq ?_
  refine st_set (i := 3) (d := enc (r8 : (List Str))) (RXo.frz (rxo_call (ds := [enc (v_head : Int), enc ((400 : Int) : Int), enc ((v_net.b.length : Int) : Int)]) (es := r8.map enc) ⟨_, _, _, r8, rfl, rfl, h9⟩ (ra_cons (rx_var (d := enc (v_head : Int)) rfl) (ra_cons rx_int (ra_cons (len_nat (f := enc) (RX.s (rx_ixT (ds := [enc (v_net.a : (List (Str × Int))), enc (v_net.b : (List (T3 Str (Tp Int) Bool))), enc (v_net.c : (List (Str × (Tp Int))))]) (d := enc (v_net.b : (List (T3 Str (Tp Int) Bool)))) rfl (rx_var (d := enc (v_net : (T3 (List (Str × Int)) (List (T3 Str (Tp Int) Bool)) (List (Str × (Tp Int)))))) rfl) rx_int))) ra_nil))))) E S fun σ F H f E S => ?_
  replace fc := fc.trans f
  have E : EnvR K _ _ [.val (enc (v_net : (T3 (List (Str × Int)) (List (T3 Str (Tp Int) Bool)) (List (Str × (Tp Int)))))), .val (enc (v_head : Int)), .adr p_taken7, .val (enc (r8 : (List Str))), .un, .un, .un, .un, .un, .un, .un] := E
  have S : Hx K _ _ _ _ [⟨p_taken7, true, v5.map enc⟩] _ := S
  obtain ⟨v10, h11, hm0⟩ := letE hm0
  try (with_reducible refine nxD ?_)
  with_reducible refine sq ?_
  refine st_setO (i := 4) (ds := v10.map enc) (rxo_as (f := enc) h11 (rxo_lst (ds := []) ra_nil)) E S fun p_found12 σ F H f E S => ?_
  replace fc := fc.trans f
  have E : EnvR K _ _ [.val (enc (v_net : (T3 (List (Str × Int)) (List (T3 Str (Tp Int) Bool)) (List (Str × (Tp Int)))))), .val (enc (v_head : Int)), .adr p_taken7, .val (enc (r8 : (List Str))), .adr p_found12, .un, .un, .un, .un, .un, .un] := E
  have S : Hx K _ _ _ _ [⟨p_found12, true, v10.map enc⟩, ⟨p_taken7, true, v5.map enc⟩] _ := S
  obtain ⟨s55, h17, hm0⟩ := bindE hm0
  try (with_reducible refine nxD ?_)
  with_reducible refine sq ?_
  refine st_forS (eα := enc) (fun s14 => [.val (enc (v_net : (T3 (List (Str × Int)) (List (T3 Str (Tp Int) Bool)) (List (Str × (Tp Int)))))), .val (enc (v_head : Int)), .adr p_taken7, .val (enc (r8 : (List Str))), .adr p_found12, .un, .un, .un, .un, .un, .un]) (fun s14 => [⟨p_found12, true, s14.1.map enc⟩, ⟨p_taken7, true, s14.2.map enc⟩]) E S (ri_list (ys := r8.map enc) (rx_var (d := enc (r8 : (List Str))) rfl)) h17 ⟨.inl rfl, .inl rfl, .inl rfl, .inl rfl, .inl rfl, .inr rfl, .inr rfl, .inr rfl, .inr rfl, .inr rfl, .inr rfl, trivial⟩ (fun σ F H f E S => ?_) (fun x15 _ s14 s' h13 σ F H v _ E S r N B hN => ?_)
  · replace fc := fc.trans f
    have E : EnvR K _ _ [.val (enc (v_net : (T3 (List (Str × Int)) (List (T3 Str (Tp Int) Bool)) (List (Str × (Tp Int)))))), .val (enc (v_head : Int)), .adr p_taken7, .val (enc (r8 : (List Str))), .adr p_found12, .un, .un, .un, .un, .un, .un] := E
    have S : Hx K _ _ _ _ [⟨p_found12, true, s55.1.map enc⟩, ⟨p_taken7, true, s55.2.map enc⟩] _ := S
    obtain rfl := Option.some.inj hm0
    -- return
    try (with_reducible refine nxD ?_)
    refine st_retA rfl E ?_
    obtain ⟨n1, n2, n3, zs, n4, n5, n6⟩ := S.get (j := 0) rfl
    exact k _ _ _ zs S.stp (n2 rfl) n1 n4 n5 n6
  · refine ((rg_name (i := 5) (d := enc (x15 : Str)))).run _ _ _ _ _ E r S.fh fun σ E _ => ?_
    have E : EnvR K _ _ [.val (enc (v_net : (T3 (List (Str × Int)) (List (T3 Str (Tp Int) Bool)) (List (Str × (Tp Int)))))), .val (enc (v_head : Int)), .adr p_taken7, .val (enc (r8 : (List Str))), .adr p_found12, .val (enc (x15 : Str)), .un, .un, .un, .un, .un] := E
    have S : Hx K _ _ _ _ [⟨p_found12, true, s14.1.map enc⟩, ⟨p_taken7, true, s14.2.map enc⟩] _ := S
    have fc : Same F F := Same.refl F
    obtain ⟨j19, h20, h13⟩ := bindE h13
    try (with_reducible refine nxD ?_)
    with_reducible refine sq ?_
    refine st_ifJ (b := (decide (x15 ∈ s14.2))) [.val (enc (v_net : (T3 (List (Str × Int)) (List (T3 Str (Tp Int) Bool)) (List (Str × (Tp Int)))))), .val (enc (v_head : Int)), .adr p_taken7, .val (enc (r8 : (List Str))), .adr p_found12, .val (enc (j19 : Str)), .un, .un, .un, .un, .un] [⟨p_found12, true, s14.1.map enc⟩, ⟨p_taken7, true, s14.2.map enc⟩] (rt_val (rx_inS (neg := false) (rx_var (d := enc (x15 : Str)) rfl) (rxs_own (j := 1) (ds := s14.2.map enc) rfl rfl))) E S (fun σ F H f E S => ?_) (fun hc F H rest f E S => ?_) (fun hc F H rest f E S => ?_)
    · replace fc := fc.trans f
      obtain ⟨u51, h52, h13⟩ := bindE h13
      try (with_reducible refine nxD ?_)
      with_reducible refine sq ?_
      refine st_app (j := 0) (ds := s14.1.map enc) (d := enc (j19 : Str)) (appO_map enc h52) rfl (rx_var (d := enc (j19 : Str)) rfl) ⟨_, rfl⟩ rfl E S fun F H f E S => ?_
      replace fc := fc.trans f
      have E : EnvR K _ _ [.val (enc (v_net : (T3 (List (Str × Int)) (List (T3 Str (Tp Int) Bool)) (List (Str × (Tp Int)))))), .val (enc (v_head : Int)), .adr p_taken7, .val (enc (r8 : (List Str))), .adr p_found12, .val (enc (j19 : Str)), .un, .un, .un, .un, .un] := E
      have S : Hx K _ _ _ _ [⟨p_found12, true, u51.map enc⟩, ⟨p_taken7, true, s14.2.map enc⟩] _ := S
      obtain ⟨u53, h54, h13⟩ := bindE h13
      try (with_reducible refine nxD ?_)
      refine (st_app (j := 1) (ds := s14.2.map enc) (d := enc (j19 : Str)) (appO_map enc h54) rfl (rx_var (d := enc (j19 : Str)) rfl) ⟨_, rfl⟩ rfl E S fun F H f E S => ?_)
      replace fc := fc.trans f
      have E : EnvR K _ _ [.val (enc (v_net : (T3 (List (Str × Int)) (List (T3 Str (Tp Int) Bool)) (List (Str × (Tp Int)))))), .val (enc (v_head : Int)), .adr p_taken7, .val (enc (r8 : (List Str))), .adr p_found12, .val (enc (j19 : Str)), .un, .un, .un, .un, .un] := E
      have S : Hx K _ _ _ _ [⟨p_found12, true, u51.map enc⟩, ⟨p_taken7, true, u53.map enc⟩] _ := S
      obtain rfl := Option.some.inj h13
      exact hN _ _ _ fc (E.weak ⟨.inl rfl, .inl rfl, .inl rfl, .inl rfl, .inl rfl, .inr rfl, .inr rfl, .inr rfl, .inr rfl, .inr rfl, .inr rfl, trivial⟩) S
    · rw [if_pos hc] at h20
      have fc := f
      obtain ⟨l41, h42, h20⟩ := bindE h20
      try (with_reducible refine nxD ?_)
      with_reducible refine sq ?_
      refine st_set (i := 6) (d := enc (l41 : (List Str))) (RXo.frz (rxo_mapO (eα := enc) (eβ := enc) (fun x22 => [.val (enc (v_net : (T3 (List (Str × Int)) (List (T3 Str (Tp Int) Bool)) (List (Str × (Tp Int)))))), .val (enc (v_head : Int)), .adr p_taken7, .val (enc (r8 : (List Str))), .adr p_found12, .val (enc (x15 : Str)), .un, .un, .un, .val (enc (x22 : Int)), .un]) [9] (ri_rangeN (n := 144) (by decide) rx_int) h42 (by decide) (fun x22 _ => (rg_name (i := 9) (d := enc (x22 : Int)))) (fun x22 _ y h21 D23 acc24 => by obtain ⟨t33, h34, h21⟩ := bindE h21; obtain ⟨t35, h36, h21⟩ := bindE h21; obtain ⟨t37, h38, h21⟩ := bindE h21; obtain ⟨t39, h40, h21⟩ := bindE h21; obtain rfl := Option.some.inj h21; exact (rx_catS h40 (rx_catS h36 (rx_str (x := ("y" : Str))) (rx_ixS h34 (rx_str (x := ("abcdefghijkl" : Str))) (rx_fdiv (rx_var (d := enc (x22 : Int)) rfl) rx_int ⟨by decide, by decide⟩))) (rx_ixS h38 (rx_str (x := ("mnopqrstuvwx" : Str))) (rx_mod (rx_var (d := enc (x22 : Int)) rfl) rx_int (by decide))))))) E S fun σ F H f E S => ?_
      replace fc := fc.trans f
      have E : EnvR K _ _ [.val (enc (v_net : (T3 (List (Str × Int)) (List (T3 Str (Tp Int) Bool)) (List (Str × (Tp Int)))))), .val (enc (v_head : Int)), .adr p_taken7, .val (enc (r8 : (List Str))), .adr p_found12, .val (enc (x15 : Str)), .val (enc (l41 : (List Str))), .un, .un, .un, .un] := E
      have S : Hx K _ _ _ _ [⟨p_found12, true, s14.1.map enc⟩, ⟨p_taken7, true, s14.2.map enc⟩] _ := S
      obtain ⟨t49, h50, h20⟩ := bindE h20
      try (with_reducible refine nxD ?_)
      refine (st_set (i := 5) (d := enc (t49 : Str)) (rx_ix (atI_map enc h50) (RXo.s (rxo_filt (eα := enc) (eβ := enc) (p := (fun (x44 : Str) => ((!decide (x44 ∈ s14.2)) && (!decide (x44 ∈ r8))))) (f := (fun (x44 : Str) => (x44 : Str))) (fun x44 => [.val (enc (v_net : (T3 (List (Str × Int)) (List (T3 Str (Tp Int) Bool)) (List (Str × (Tp Int)))))), .val (enc (v_head : Int)), .adr p_taken7, .val (enc (r8 : (List Str))), .adr p_found12, .val (enc (x15 : Str)), .val (enc (l41 : (List Str))), .un, .un, .un, .val (enc (x44 : Str))]) [10] (ri_list (ys := l41.map enc) (rx_var (d := enc (l41 : (List Str))) rfl)) (by decide) (fun x44 _ => (rg_name (i := 10) (d := enc (x44 : Str)))) (fun x44 _ D45 acc46 => (rt_and2 (rt_val (rx_inS (neg := true) (rx_var (d := enc (x44 : Str)) rfl) (rxs_own (j := 2) (ds := s14.2.map enc) rfl rfl))) (rt_val (rx_inS (neg := true) (rx_var (d := enc (x44 : Str)) rfl) (RX.s (rx_var (d := enc (r8 : (List Str))) rfl)))))) (fun x44 _ D45 acc46 => (rx_var (d := enc (x44 : Str)) rfl)))) rx_int) E S fun σ F H f E S => ?_)
      replace fc := fc.trans f
      have E : EnvR K _ _ [.val (enc (v_net : (T3 (List (Str × Int)) (List (T3 Str (Tp Int) Bool)) (List (Str × (Tp Int)))))), .val (enc (v_head : Int)), .adr p_taken7, .val (enc (r8 : (List Str))), .adr p_found12, .val (enc (t49 : Str)), .val (enc (l41 : (List Str))), .un, .un, .un, .un] := E
      have S : Hx K _ _ _ _ [⟨p_found12, true, s14.1.map enc⟩, ⟨p_taken7, true, s14.2.map enc⟩] _ := S
      obtain rfl := Option.some.inj h20
      exact rest _ _ _ fc (E.weak ⟨.inl rfl, .inl rfl, .inl rfl, .inl rfl, .inl rfl, .inl rfl, .inr rfl, .inr rfl, .inr rfl, .inr rfl, .inr rfl, trivial⟩) S
    · rw [if_neg (by rw [hc]; decide)] at h20
      have fc := f
      refine nxt ?_
      obtain rfl := Option.some.inj h20
      exact rest _ _ _ fc (E.weak ⟨.inl rfl, .inl rfl, .inl rfl, .inl rfl, .inl rfl, .inl rfl, .inr rfl, .inr rfl, .inr rfl, .inr rfl, .inr rfl, trivial⟩) S
theorem sc__law_words : FnScope ["ins", "gate_names", "found", "name", "width"] ["ins", "gate_names"] (defScope (top 34)) := ⟨rfl, rfl, rfl, by decide +kernel, rfl, by decide +kernel, by decide +kernel⟩
theorem ok__law_words (B : Bi mg) (D : Dfn K mg "_law_words" (top 34) ["ins", "gate_names"]) : Cal P w K mg base 1 "_law_words" ["ins", "gate_names"] (SpN K R__law_words) := by
  refine D.cal sc__law_words (sn_len fun ds d h => by obtain ⟨_, _, _, rfl, _⟩ := h; rfl) fun f cdv A outer s H vs Q E hr h => ?_
  refine ⟨_, (pss_cons (ps_set (i := 2) sc__law_words.nd rfl (Or.inl rfl) (pe_lst pa_nil)) (pss_cons (ps_for PassesOwn.never rfl (k_pi_list K (pv 0)) (pg_tup rfl (pgs_cons (pg_name (i := 3) sc__law_words.nd rfl (Or.inl rfl)) (pgs_cons (pg_name (i := 4) sc__law_words.nd rfl (Or.inl rfl)) pgs_nil))) (pss_one (ps_set (i := 2) sc__law_words.nd rfl (Or.inl rfl) (pe_op (k_catR K) (pv 2) (pe_ix (k_ix_list K) (pe_lst (pa_cons (pe_lst (pa_cons (pv 3) pa_nil)) (pa_cons (pe_slice (k_sl_list K) (pe_lst (pa_cons (pe_op op_add_str (pv 3) pe_str) (pa_cons (pe_op op_add_str (pv 3) pe_str) (pa_cons (pe_op op_add_str (pv 3) pe_str) pa_nil)))) po_none (po_some (pv 4))) pa_nil))) (pe_callTy call_int1 (by rfl) B.int (by decide +kernel) (pa_cons (pe_cmpR op_gt (pv 4) pe_int (nomark _)) pa_nil)) (fun _ _ => rfl)))))) (pss_one (ps_ret (pe_op (k_catR K) (pv 2) (pv 1)))))), ?_⟩
  obtain ⟨F, ds, es, hw, hF, ⟨v_ins, v_gate_names, rr, rfl, rfl, hm0⟩, k⟩ := h
  have E : EnvR K F _ [.val (enc (v_ins : (List (Str × Int)))), .val (enc (v_gate_names : (List Str))), .un, .un, .un] := EnvR.start (N := ["ins", "gate_names", "found", "name", "width"]) (AsR.of_all hw)
  have S := Hx.start (K := K) hF
  have fc : Same F F := Same.refl F
  unfold m__law_words at hm0
  obtain ⟨v1, h2, hm0⟩ := letE hm0
  try (with_reducible refine nxD ?_)
  with_reducible refine sq ?_
  refine st_set (i := 2) (d := enc (v1 : (List Str))) (rx_as (x := (([] : (List Str)) : (List Str))) h2 (RXo.frz (rxo_lst (ds := []) ra_nil))) E S fun σ F H f E S => ?_
  replace fc := fc.trans f
  have E : EnvR K _ _ [.val (enc (v_ins : (List (Str × Int)))), .val (enc (v_gate_names : (List Str))), .val (enc (v1 : (List Str))), .un, .un] := E
  have S : Hx K _ _ _ _ [] _ := S
  obtain ⟨s19, h7, hm0⟩ := bindE hm0
  try (with_reducible refine nxD ?_)
  with_reducible refine sq ?_
  refine st_forS (eα := enc) (fun s4 => [.val (enc (v_ins : (List (Str × Int)))), .val (enc (v_gate_names : (List Str))), .val (enc (s4 : (List Str))), .un, .un]) (fun s4 => []) E S (ri_list (ys := v_ins.map enc) (rx_var (d := enc (v_ins : (List (Str × Int)))) rfl)) h7 ⟨.inl rfl, .inl rfl, .inl rfl, .inr rfl, .inr rfl, trivial⟩ (fun σ F H f E S => ?_) (fun x5 _ s4 s' h3 σ F H v _ E S r N B hN => ?_)
  · replace fc := fc.trans f
    have E : EnvR K _ _ [.val (enc (v_ins : (List (Str × Int)))), .val (enc (v_gate_names : (List Str))), .val (enc (s19 : (List Str))), .un, .un] := E
    have S : Hx K _ _ _ _ [] _ := S
    obtain ⟨t22, h23, hm0⟩ := bindE hm0
    obtain rfl := Option.some.inj hm0
    -- return
    try (with_reducible refine nxD ?_)
    refine st_retO (ds := t22.map enc) (rxo_catO (f := enc) h23 (RX.s (rx_var (d := enc (s19 : (List Str))) rfl)) (RX.s (rx_var (d := enc (v_gate_names : (List Str))) rfl))) E S fun p F H f S => ?_
    obtain ⟨n1, n2, n3, zs, n4, n5, n6⟩ := S.get (j := 0) rfl
    exact k _ _ _ zs S.stp (n2 rfl) n1 n4 n5 n6
  · refine ((rg_tup (ds := [enc (x5.1 : Str), enc (x5.2 : Int)]) (RGs.cons (rg_name (i := 3) (d := enc (x5.1 : Str))) (RGs.cons (rg_name (i := 4) (d := enc (x5.2 : Int))) RGs.nil)))).run _ _ _ _ _ E r S.fh fun σ E _ => ?_
    have E : EnvR K _ _ [.val (enc (v_ins : (List (Str × Int)))), .val (enc (v_gate_names : (List Str))), .val (enc (s4 : (List Str))), .val (enc (x5.1 : Str)), .val (enc (x5.2 : Int))] := E
    have S : Hx K _ _ _ _ [] _ := S
    have fc : Same F F := Same.refl F
    obtain ⟨t9, h10, h3⟩ := bindE h3
    obtain ⟨t11, h12, h3⟩ := bindE h3
    obtain ⟨t13, h14, h3⟩ := bindE h3
    obtain ⟨t15, h16, h3⟩ := bindE h3
    obtain ⟨t17, h18, h3⟩ := bindE h3
    try (with_reducible refine nxD ?_)
    refine (st_set (i := 2) (d := enc (t17 : (List Str))) (RXo.frz (rxo_catO (f := enc) h18 (RX.s (rx_var (d := enc (s4 : (List Str))) rfl)) (RX.s (rx_ix (ds := List.map enc ([([x5.1] : (List Str)), (cutL ([t9, t11, t13] : (List Str)) none (some x5.2))] : (List (List Str)))) (d := enc (t15 : (List Str))) (atI_map enc h16) (RXo.s (rxo_lst (ds := [enc (([x5.1] : (List Str)) : (List Str)), enc ((cutL ([t9, t11, t13] : (List Str)) none (some x5.2)) : (List Str))]) (ra_cons (RXo.frz (rxo_lst (ds := [enc (x5.1 : Str)]) (ra_cons (rx_var (d := enc (x5.1 : Str)) rfl) ra_nil))) (ra_cons (RXo.frz (rxo_sliceM (f := enc) (RXo.s (rxo_lst (ds := [enc (t9 : Str), enc (t11 : Str), enc (t13 : Str)]) (ra_cons (rx_catS h10 (rx_var (d := enc (x5.1 : Str)) rfl) (rx_str (x := (":0" : Str)))) (ra_cons (rx_catS h12 (rx_var (d := enc (x5.1 : Str)) rfl) (rx_str (x := (":1" : Str)))) (ra_cons (rx_catS h14 (rx_var (d := enc (x5.1 : Str)) rfl) (rx_str (x := (":2" : Str)))) ra_nil))))) ro_none (ro_some (rx_var (d := enc (x5.2 : Int)) rfl)))) ra_nil)))) (rx_intB (rx_gt (rx_var (d := enc (x5.2 : Int)) rfl) rx_int)))))) E S fun σ F H f E S => ?_)
    replace fc := fc.trans f
    have E : EnvR K _ _ [.val (enc (v_ins : (List (Str × Int)))), .val (enc (v_gate_names : (List Str))), .val (enc (t17 : (List Str))), .val (enc (x5.1 : Str)), .val (enc (x5.2 : Int))] := E
    have S : Hx K _ _ _ _ [] _ := S
    obtain rfl := Option.some.inj h3
    exact hN _ _ _ fc (E.weak ⟨.inl rfl, .inl rfl, .inl rfl, .inr rfl, .inr rfl, trivial⟩) S
theorem sc__law_rows : FnScope ["net", "gate_names", "ins", "gates", "outs", "words", "rows", "place", "kind", "wires", "sure", "row", "name", "width", "wire"] ["net", "gate_names"] (defScope (top 35)) := ⟨rfl, rfl, rfl, by decide +kernel, rfl, by decide +kernel, by decide +kernel⟩
theorem ok__law_rows (B : Bi mg) (D : Dfn K mg "_law_rows" (top 35) ["net", "gate_names"]) (C__law_words : Cal P w K mg base 1 "_law_words" ["ins", "gate_names"] (SpN K R__law_words)) : Cal P w K mg base 2 "_law_rows" ["net", "gate_names"] (SpN K R__law_rows) := by
  refine D.cal sc__law_rows (sn_len fun ds d h => by obtain ⟨_, _, _, rfl, _⟩ := h; rfl) fun f cdv A outer s H vs Q E hr h => ?_
  refine ⟨_, (pss_cons (ps_asg (pv 0) (pg_tup rfl (pgs_cons (pg_name (i := 2) sc__law_rows.nd rfl (Or.inl rfl)) (pgs_cons (pg_name (i := 3) sc__law_rows.nd rfl (Or.inl rfl)) (pgs_cons (pg_name (i := 4) sc__law_rows.nd rfl (Or.inl rfl)) pgs_nil))))) (pss_cons (ps_set (i := 5) sc__law_rows.nd rfl (Or.inr rfl) (pe_cal C__law_words hr (pa_cons (pv 2) (pa_cons (pv 1) pa_nil)))) (pss_cons (ps_setLc (i := 6) (own := [(("name" : Str), 12), (("width" : Str), 13)]) (g := (gTup K 2 (gCons (gName 12) (gCons (gName 13) gNil)))) (tt := tYes) rfl sc__law_rows.nd rfl rfl (sw_true rfl rfl rfl (by decide +kernel)) (k_pi_list K (pv 2)) (blkOk_by (by kernel_rfl)) (fun _ _ _ _ _ => (pg_tup rfl (pgs_cons (pg_name (i := 12) sc__law_rows.nd rfl (Or.inl rfl)) (pgs_cons (pg_name (i := 13) sc__law_rows.nd rfl (Or.inl rfl)) pgs_nil)))) (fun _ _ _ _ _ => pts_nil) (fun _ _ _ _ _ => (k_join K pe_str (pe_lst (pa_cons pe_str (pa_cons (pv 12) (pa_cons (pe_callTy call_str_int (by rfl) B.str (by decide +kernel) (pa_cons (pv 13) pa_nil)) pa_nil))))))) (pss_cons (ps_for PassesOwn.never rfl (k_pi_enum K (by rfl) B.enumerate (pa_cons (pv 3) pa_nil)) (pg_tup rfl (pgs_cons (pg_name (i := 7) sc__law_rows.nd rfl (Or.inl rfl)) (pgs_cons (pg_tup rfl (pgs_cons (pg_name (i := 8) sc__law_rows.nd rfl (Or.inl rfl)) (pgs_cons (pg_name (i := 9) sc__law_rows.nd rfl (Or.inl rfl)) (pgs_cons (pg_name (i := 10) sc__law_rows.nd rfl (Or.inl rfl)) pgs_nil)))) pgs_nil))) (pss_cons (ps_set (i := 11) sc__law_rows.nd rfl (Or.inl rfl) (pe_lst (pa_cons (pe_ix (k_ix_list K) (pe_lst (pa_cons pe_str (pa_cons pe_str pa_nil))) (pe_callTy call_int1 (by rfl) B.int (by decide +kernel) (pa_cons (pv 10) pa_nil)) (fun _ _ => rfl)) (pa_cons (pe_ix (k_ix_list K) (pv 1) (pv 7) (fun _ _ => rfl)) (pa_cons (pv 8) pa_nil))))) (pss_one (ps_expr (pe_bm PySem.F.plainAttrs_list PySem.F.slot_list_append PySem.F.type_list_append mt_append (pv 6) (pa_cons (k_join K pe_str (pe_op (k_catR K) (pv 11) (pe_lc (own := [(("wire" : Str), 14)]) (g := (gName 14)) (tt := tYes) rfl sc__law_rows.nd (k_pi_tup K (pv 9)) (blkOk_by (by kernel_rfl)) (fun _ _ _ _ _ => (pg_name (i := 14) sc__law_rows.nd rfl (Or.inl rfl))) (fun _ _ _ _ _ => pts_nil) (fun _ _ _ _ _ => (pe_ix (k_ix_list K) (pv 5) (pv 14) (fun _ _ => rfl)))))) pa_nil)))))) (pss_cons (ps_for PassesOwn.never rfl (k_pi_list K (pv 4)) (pg_tup rfl (pgs_cons (pg_name (i := 12) sc__law_rows.nd rfl (Or.inl rfl)) (pgs_cons (pg_name (i := 9) sc__law_rows.nd rfl (Or.inl rfl)) pgs_nil))) (pss_one (ps_expr (pe_bm PySem.F.plainAttrs_list PySem.F.slot_list_append PySem.F.type_list_append mt_append (pv 6) (pa_cons (k_join K pe_str (pe_op (k_catR K) (pe_lst (pa_cons pe_str (pa_cons (pv 12) pa_nil))) (pe_lc (own := [(("wire" : Str), 14)]) (g := (gName 14)) (tt := tYes) rfl sc__law_rows.nd (k_pi_tup K (pv 9)) (blkOk_by (by kernel_rfl)) (fun _ _ _ _ _ => (pg_name (i := 14) sc__law_rows.nd rfl (Or.inl rfl))) (fun _ _ _ _ _ => pts_nil) (fun _ _ _ _ _ => (pe_ix (k_ix_list K) (pv 5) (pv 14) (fun _ _ => rfl)))))) pa_nil))))) (pss_one (ps_ret (pv 6)))))))), ?_⟩
  obtain ⟨F, ds, es, hw, hF, ⟨v_net, v_gate_names, rr, rfl, rfl, hm0⟩, k⟩ := h
  have E : EnvR K F _ [.val (enc (v_net : (T3 (List (Str × Int)) (List (T3 Str (Tp Int) Bool)) (List (Str × (Tp Int)))))), .val (enc (v_gate_names : (List Str))), .un, .un, .un, .un, .un, .un, .un, .un, .un, .un, .un, .un, .un] := EnvR.start (N := ["net", "gate_names", "ins", "gates", "outs", "words", "rows", "place", "kind", "wires", "sure", "row", "name", "width", "wire"]) (AsR.of_all hw)
  have S := Hx.start (K := K) hF
  have fc : Same F F := Same.refl F
  unfold m__law_rows at hm0
  try (with_reducible refine nxD ?_)
  with_reducible refine sq ?_
  refine st_unp (d := enc (v_net : (T3 (List (Str × Int)) (List (T3 Str (Tp Int) Bool)) (List (Str × (Tp Int)))))) (rx_var (d := enc (v_net : (T3 (List (Str × Int)) (List (T3 Str (Tp Int) Bool)) (List (Str × (Tp Int)))))) rfl) (rg_tup (ds := [enc (v_net.a : (List (Str × Int))), enc (v_net.b : (List (T3 Str (Tp Int) Bool))), enc (v_net.c : (List (Str × (Tp Int))))]) (RGs.cons (rg_name (i := 2) (d := enc (v_net.a : (List (Str × Int))))) (RGs.cons (rg_name (i := 3) (d := enc (v_net.b : (List (T3 Str (Tp Int) Bool))))) (RGs.cons (rg_name (i := 4) (d := enc (v_net.c : (List (Str × (Tp Int)))))) RGs.nil)))) E S fun σ F H f E S => ?_
  replace fc := fc.trans f
  have E : EnvR K _ _ [.val (enc (v_net : (T3 (List (Str × Int)) (List (T3 Str (Tp Int) Bool)) (List (Str × (Tp Int)))))), .val (enc (v_gate_names : (List Str))), .val (enc (v_net.a : (List (Str × Int)))), .val (enc (v_net.b : (List (T3 Str (Tp Int) Bool)))), .val (enc (v_net.c : (List (Str × (Tp Int))))), .un, .un, .un, .un, .un, .un, .un, .un, .un, .un] := E
  have S : Hx K _ _ _ _ [] _ := S
  obtain ⟨r1, h2, hm0⟩ := bindE hm0
  try (with_reducible refine nxD ?_)
  with_reducible refine sq ?_
  refine st_set (i := 5) (d := enc (r1 : (List Str))) (RXo.frz (rxo_call (ds := [enc (v_net.a : (List (Str × Int))), enc (v_gate_names : (List Str))]) (es := r1.map enc) ⟨_, _, r1, rfl, rfl, h2⟩ (ra_cons (rx_var (d := enc (v_net.a : (List (Str × Int)))) rfl) (ra_cons (rx_var (d := enc (v_gate_names : (List Str))) rfl) ra_nil)))) E S fun σ F H f E S => ?_
  replace fc := fc.trans f
  have E : EnvR K _ _ [.val (enc (v_net : (T3 (List (Str × Int)) (List (T3 Str (Tp Int) Bool)) (List (Str × (Tp Int)))))), .val (enc (v_gate_names : (List Str))), .val (enc (v_net.a : (List (Str × Int)))), .val (enc (v_net.b : (List (T3 Str (Tp Int) Bool)))), .val (enc (v_net.c : (List (Str × (Tp Int))))), .val (enc (r1 : (List Str))), .un, .un, .un, .un, .un, .un, .un, .un, .un] := E
  have S : Hx K _ _ _ _ [] _ := S
  obtain ⟨l15, h16, hm0⟩ := bindE hm0
  try (with_reducible refine nxD ?_)
  with_reducible refine sq ?_
  refine st_setO (i := 6) (ds := l15.map enc) (rxo_mapO (eα := enc) (eβ := enc) (fun x4 => [.val (enc (v_net : (T3 (List (Str × Int)) (List (T3 Str (Tp Int) Bool)) (List (Str × (Tp Int)))))), .val (enc (v_gate_names : (List Str))), .val (enc (v_net.a : (List (Str × Int)))), .val (enc (v_net.b : (List (T3 Str (Tp Int) Bool)))), .val (enc (v_net.c : (List (Str × (Tp Int))))), .val (enc (r1 : (List Str))), .un, .un, .un, .un, .un, .un, .val (enc (x4.1 : Str)), .val (enc (x4.2 : Int)), .un]) [12, 13] (ri_list (ys := v_net.a.map enc) (rx_var (d := enc (v_net.a : (List (Str × Int)))) rfl)) h16 (by decide) (fun x4 _ => (rg_tup (ds := [enc (x4.1 : Str), enc (x4.2 : Int)]) (RGs.cons (rg_name (i := 12) (d := enc (x4.1 : Str))) (RGs.cons (rg_name (i := 13) (d := enc (x4.2 : Int))) RGs.nil)))) (fun x4 _ y h3 D5 acc6 => by obtain ⟨t11, h12, h3⟩ := bindE h3; obtain ⟨t13, h14, h3⟩ := bindE h3; obtain rfl := Option.some.inj h3; exact (rx_join h14 (rx_str (x := (" " : Str))) (RXo.s (rxo_lst (ds := [enc (("in" : Str) : Str), enc (x4.1 : Str), enc (t11 : Str)]) (ra_cons (rx_str (x := ("in" : Str))) (ra_cons (rx_var (d := enc (x4.1 : Str)) rfl) (ra_cons (rx_strO h12 (rx_var (d := enc (x4.2 : Int)) rfl)) ra_nil)))))))) E S fun p_rows17 σ F H f E S => ?_
  replace fc := fc.trans f
  have E : EnvR K _ _ [.val (enc (v_net : (T3 (List (Str × Int)) (List (T3 Str (Tp Int) Bool)) (List (Str × (Tp Int)))))), .val (enc (v_gate_names : (List Str))), .val (enc (v_net.a : (List (Str × Int)))), .val (enc (v_net.b : (List (T3 Str (Tp Int) Bool)))), .val (enc (v_net.c : (List (Str × (Tp Int))))), .val (enc (r1 : (List Str))), .adr p_rows17, .un, .un, .un, .un, .un, .un, .un, .un] := E
  have S : Hx K _ _ _ _ [⟨p_rows17, true, l15.map enc⟩] _ := S
  obtain ⟨s46, h22, hm0⟩ := bindE hm0
  try (with_reducible refine nxD ?_)
  with_reducible refine sq ?_
  refine st_forS (eα := enc) (fun s19 => [.val (enc (v_net : (T3 (List (Str × Int)) (List (T3 Str (Tp Int) Bool)) (List (Str × (Tp Int)))))), .val (enc (v_gate_names : (List Str))), .val (enc (v_net.a : (List (Str × Int)))), .val (enc (v_net.b : (List (T3 Str (Tp Int) Bool)))), .val (enc (v_net.c : (List (Str × (Tp Int))))), .val (enc (r1 : (List Str))), .adr p_rows17, .un, .un, .un, .un, .un, .un, .un, .un]) (fun s19 => [⟨p_rows17, true, s19.map enc⟩]) E S (ri_enumT (rx_var (d := enc (v_net.b : (List (T3 Str (Tp Int) Bool)))) rfl)) h22 ⟨.inl rfl, .inl rfl, .inl rfl, .inl rfl, .inl rfl, .inl rfl, .inl rfl, .inr rfl, .inr rfl, .inr rfl, .inr rfl, .inr rfl, .inr rfl, .inr rfl, .inr rfl, trivial⟩ (fun σ F H f E S => ?_) (fun x20 _ s19 s' h18 σ F H v _ E S r N B hN => ?_)
  · replace fc := fc.trans f
    have E : EnvR K _ _ [.val (enc (v_net : (T3 (List (Str × Int)) (List (T3 Str (Tp Int) Bool)) (List (Str × (Tp Int)))))), .val (enc (v_gate_names : (List Str))), .val (enc (v_net.a : (List (Str × Int)))), .val (enc (v_net.b : (List (T3 Str (Tp Int) Bool)))), .val (enc (v_net.c : (List (Str × (Tp Int))))), .val (enc (r1 : (List Str))), .adr p_rows17, .un, .un, .un, .un, .un, .un, .un, .un] := E
    have S : Hx K _ _ _ _ [⟨p_rows17, true, s46.map enc⟩] _ := S
    obtain ⟨s69, h51, hm0⟩ := bindE hm0
    try (with_reducible refine nxD ?_)
    with_reducible refine sq ?_
    refine st_forS (eα := enc) (fun s48 => [.val (enc (v_net : (T3 (List (Str × Int)) (List (T3 Str (Tp Int) Bool)) (List (Str × (Tp Int)))))), .val (enc (v_gate_names : (List Str))), .val (enc (v_net.a : (List (Str × Int)))), .val (enc (v_net.b : (List (T3 Str (Tp Int) Bool)))), .val (enc (v_net.c : (List (Str × (Tp Int))))), .val (enc (r1 : (List Str))), .adr p_rows17, .un, .un, .un, .un, .un, .un, .un, .un]) (fun s48 => [⟨p_rows17, true, s48.map enc⟩]) E S (ri_list (ys := v_net.c.map enc) (rx_var (d := enc (v_net.c : (List (Str × (Tp Int))))) rfl)) h51 ⟨.inl rfl, .inl rfl, .inl rfl, .inl rfl, .inl rfl, .inl rfl, .inl rfl, .inr rfl, .inr rfl, .inr rfl, .inr rfl, .inr rfl, .inr rfl, .inr rfl, .inr rfl, trivial⟩ (fun σ F H f E S => ?_) (fun x49 _ s48 s' h47 σ F H v _ E S r N B hN => ?_)
    · replace fc := fc.trans f
      have E : EnvR K _ _ [.val (enc (v_net : (T3 (List (Str × Int)) (List (T3 Str (Tp Int) Bool)) (List (Str × (Tp Int)))))), .val (enc (v_gate_names : (List Str))), .val (enc (v_net.a : (List (Str × Int)))), .val (enc (v_net.b : (List (T3 Str (Tp Int) Bool)))), .val (enc (v_net.c : (List (Str × (Tp Int))))), .val (enc (r1 : (List Str))), .adr p_rows17, .un, .un, .un, .un, .un, .un, .un, .un] := E
      have S : Hx K _ _ _ _ [⟨p_rows17, true, s69.map enc⟩] _ := S
      obtain rfl := Option.some.inj hm0
      -- return
      try (with_reducible refine nxD ?_)
      refine st_retA rfl E ?_
      obtain ⟨n1, n2, n3, zs, n4, n5, n6⟩ := S.get (j := 0) rfl
      exact k _ _ _ zs S.stp (n2 rfl) n1 n4 n5 n6
    · refine ((rg_tup (ds := [enc (x49.1 : Str), enc (x49.2 : (Tp Int))]) (RGs.cons (rg_name (i := 12) (d := enc (x49.1 : Str))) (RGs.cons (rg_name (i := 9) (d := enc (x49.2 : (Tp Int)))) RGs.nil)))).run _ _ _ _ _ E r S.fh fun σ E _ => ?_
      have E : EnvR K _ _ [.val (enc (v_net : (T3 (List (Str × Int)) (List (T3 Str (Tp Int) Bool)) (List (Str × (Tp Int)))))), .val (enc (v_gate_names : (List Str))), .val (enc (v_net.a : (List (Str × Int)))), .val (enc (v_net.b : (List (T3 Str (Tp Int) Bool)))), .val (enc (v_net.c : (List (Str × (Tp Int))))), .val (enc (r1 : (List Str))), .adr p_rows17, .un, .un, .val (enc (x49.2 : (Tp Int))), .un, .un, .val (enc (x49.1 : Str)), .un, .un] := E
      have S : Hx K _ _ _ _ [⟨p_rows17, true, s48.map enc⟩] _ := S
      have fc : Same F F := Same.refl F
      obtain ⟨l61, h62, h47⟩ := bindE h47
      obtain ⟨t63, h64, h47⟩ := bindE h47
      obtain ⟨t65, h66, h47⟩ := bindE h47
      obtain ⟨u67, h68, h47⟩ := bindE h47
      try (with_reducible refine nxD ?_)
      refine (st_app (j := 0) (ds := s48.map enc) (d := enc (t65 : Str)) (appO_map enc h68) rfl (rx_join h66 (rx_str (x := (" " : Str))) (RXo.s (rxo_catO (f := enc) h64 (RXo.s (rxo_lst (ds := [enc (("out" : Str) : Str), enc (x49.1 : Str)]) (ra_cons (rx_str (x := ("out" : Str))) (ra_cons (rx_var (d := enc (x49.1 : Str)) rfl) ra_nil)))) (RXo.s (rxo_mapO (eα := enc) (eβ := enc) (fun x54 => [.val (enc (v_net : (T3 (List (Str × Int)) (List (T3 Str (Tp Int) Bool)) (List (Str × (Tp Int)))))), .val (enc (v_gate_names : (List Str))), .val (enc (v_net.a : (List (Str × Int)))), .val (enc (v_net.b : (List (T3 Str (Tp Int) Bool)))), .val (enc (v_net.c : (List (Str × (Tp Int))))), .val (enc (r1 : (List Str))), .adr p_rows17, .un, .un, .val (enc (x49.2 : (Tp Int))), .un, .un, .val (enc (x49.1 : Str)), .un, .val (enc (x54 : Int))]) [14] (ri_tup (ys := x49.2.l.map enc) (rx_var (d := enc (x49.2 : (Tp Int))) rfl)) h62 (by decide) (fun x54 _ => (rg_name (i := 14) (d := enc (x54 : Int)))) (fun x54 _ y h53 D55 acc56 => by obtain ⟨t59, h60, h53⟩ := bindE h53; obtain rfl := Option.some.inj h53; exact (rx_ix (atI_map enc h60) (RX.s (rx_var (d := enc (r1 : (List Str))) rfl)) (rx_var (d := enc (x54 : Int)) rfl)))))))) ⟨_, rfl⟩ rfl E S fun F H f E S => ?_)
      replace fc := fc.trans f
      have E : EnvR K _ _ [.val (enc (v_net : (T3 (List (Str × Int)) (List (T3 Str (Tp Int) Bool)) (List (Str × (Tp Int)))))), .val (enc (v_gate_names : (List Str))), .val (enc (v_net.a : (List (Str × Int)))), .val (enc (v_net.b : (List (T3 Str (Tp Int) Bool)))), .val (enc (v_net.c : (List (Str × (Tp Int))))), .val (enc (r1 : (List Str))), .adr p_rows17, .un, .un, .val (enc (x49.2 : (Tp Int))), .un, .un, .val (enc (x49.1 : Str)), .un, .un] := E
      have S : Hx K _ _ _ _ [⟨p_rows17, true, u67.map enc⟩] _ := S
      obtain rfl := Option.some.inj h47
      exact hN _ _ _ fc (E.weak ⟨.inl rfl, .inl rfl, .inl rfl, .inl rfl, .inl rfl, .inl rfl, .inl rfl, .inr rfl, .inr rfl, .inr rfl, .inr rfl, .inr rfl, .inr rfl, .inr rfl, .inr rfl, trivial⟩) S
  · refine ((rg_tup (ds := [enc (x20.1 : Int), enc (x20.2 : (T3 Str (Tp Int) Bool))]) (RGs.cons (rg_name (i := 7) (d := enc (x20.1 : Int))) (RGs.cons (rg_tup (ds := [enc (x20.2.a : Str), enc (x20.2.b : (Tp Int)), enc (x20.2.c : Bool)]) (RGs.cons (rg_name (i := 8) (d := enc (x20.2.a : Str))) (RGs.cons (rg_name (i := 9) (d := enc (x20.2.b : (Tp Int)))) (RGs.cons (rg_name (i := 10) (d := enc (x20.2.c : Bool))) RGs.nil)))) RGs.nil)))).run _ _ _ _ _ E r S.fh fun σ E _ => ?_
    have E : EnvR K _ _ [.val (enc (v_net : (T3 (List (Str × Int)) (List (T3 Str (Tp Int) Bool)) (List (Str × (Tp Int)))))), .val (enc (v_gate_names : (List Str))), .val (enc (v_net.a : (List (Str × Int)))), .val (enc (v_net.b : (List (T3 Str (Tp Int) Bool)))), .val (enc (v_net.c : (List (Str × (Tp Int))))), .val (enc (r1 : (List Str))), .adr p_rows17, .val (enc (x20.1 : Int)), .val (enc (x20.2.a : Str)), .val (enc (x20.2.b : (Tp Int))), .val (enc (x20.2.c : Bool)), .un, .un, .un, .un] := E
    have S : Hx K _ _ _ _ [⟨p_rows17, true, s19.map enc⟩] _ := S
    have fc : Same F F := Same.refl F
    obtain ⟨t24, h25, h18⟩ := bindE h18
    obtain ⟨t26, h27, h18⟩ := bindE h18
    obtain ⟨v28, h29, h18⟩ := letE h18
    try (with_reducible refine nxD ?_)
    with_reducible refine sq ?_
    refine st_set (i := 11) (d := enc (v28 : (List Str))) (rx_as (x := (([t24, t26, x20.2.a] : (List Str)) : (List Str))) h29 (RXo.frz (rxo_lst (ds := [enc (t24 : Str), enc (t26 : Str), enc (x20.2.a : Str)]) (ra_cons (rx_ix (ds := List.map enc ([("gate" : Str), ("sure" : Str)] : (List Str))) (d := enc (t24 : Str)) (atI_map enc h25) (RXo.s (rxo_lst (ds := [enc (("gate" : Str) : Str), enc (("sure" : Str) : Str)]) (ra_cons (rx_str (x := ("gate" : Str))) (ra_cons (rx_str (x := ("sure" : Str))) ra_nil)))) (rx_intB (rx_var (d := enc (x20.2.c : Bool)) rfl))) (ra_cons (rx_ix (atI_map enc h27) (RX.s (rx_var (d := enc (v_gate_names : (List Str))) rfl)) (rx_var (d := enc (x20.1 : Int)) rfl)) (ra_cons (rx_var (d := enc (x20.2.a : Str)) rfl) ra_nil)))))) E S fun σ F H f E S => ?_
    replace fc := fc.trans f
    have E : EnvR K _ _ [.val (enc (v_net : (T3 (List (Str × Int)) (List (T3 Str (Tp Int) Bool)) (List (Str × (Tp Int)))))), .val (enc (v_gate_names : (List Str))), .val (enc (v_net.a : (List (Str × Int)))), .val (enc (v_net.b : (List (T3 Str (Tp Int) Bool)))), .val (enc (v_net.c : (List (Str × (Tp Int))))), .val (enc (r1 : (List Str))), .adr p_rows17, .val (enc (x20.1 : Int)), .val (enc (x20.2.a : Str)), .val (enc (x20.2.b : (Tp Int))), .val (enc (x20.2.c : Bool)), .val (enc (v28 : (List Str))), .un, .un, .un] := E
    have S : Hx K _ _ _ _ [⟨p_rows17, true, s19.map enc⟩] _ := S
    obtain ⟨l38, h39, h18⟩ := bindE h18
    obtain ⟨t40, h41, h18⟩ := bindE h18
    obtain ⟨t42, h43, h18⟩ := bindE h18
    obtain ⟨u44, h45, h18⟩ := bindE h18
    try (with_reducible refine nxD ?_)
    refine (st_app (j := 0) (ds := s19.map enc) (d := enc (t42 : Str)) (appO_map enc h45) rfl (rx_join h43 (rx_str (x := (" " : Str))) (RXo.s (rxo_catO (f := enc) h41 (RX.s (rx_var (d := enc (v28 : (List Str))) rfl)) (RXo.s (rxo_mapO (eα := enc) (eβ := enc) (fun x31 => [.val (enc (v_net : (T3 (List (Str × Int)) (List (T3 Str (Tp Int) Bool)) (List (Str × (Tp Int)))))), .val (enc (v_gate_names : (List Str))), .val (enc (v_net.a : (List (Str × Int)))), .val (enc (v_net.b : (List (T3 Str (Tp Int) Bool)))), .val (enc (v_net.c : (List (Str × (Tp Int))))), .val (enc (r1 : (List Str))), .adr p_rows17, .val (enc (x20.1 : Int)), .val (enc (x20.2.a : Str)), .val (enc (x20.2.b : (Tp Int))), .val (enc (x20.2.c : Bool)), .val (enc (v28 : (List Str))), .un, .un, .val (enc (x31 : Int))]) [14] (ri_tup (ys := x20.2.b.l.map enc) (rx_var (d := enc (x20.2.b : (Tp Int))) rfl)) h39 (by decide) (fun x31 _ => (rg_name (i := 14) (d := enc (x31 : Int)))) (fun x31 _ y h30 D32 acc33 => by obtain ⟨t36, h37, h30⟩ := bindE h30; obtain rfl := Option.some.inj h30; exact (rx_ix (atI_map enc h37) (RX.s (rx_var (d := enc (r1 : (List Str))) rfl)) (rx_var (d := enc (x31 : Int)) rfl)))))))) ⟨_, rfl⟩ rfl E S fun F H f E S => ?_)
    replace fc := fc.trans f
    have E : EnvR K _ _ [.val (enc (v_net : (T3 (List (Str × Int)) (List (T3 Str (Tp Int) Bool)) (List (Str × (Tp Int)))))), .val (enc (v_gate_names : (List Str))), .val (enc (v_net.a : (List (Str × Int)))), .val (enc (v_net.b : (List (T3 Str (Tp Int) Bool)))), .val (enc (v_net.c : (List (Str × (Tp Int))))), .val (enc (r1 : (List Str))), .adr p_rows17, .val (enc (x20.1 : Int)), .val (enc (x20.2.a : Str)), .val (enc (x20.2.b : (Tp Int))), .val (enc (x20.2.c : Bool)), .val (enc (v28 : (List Str))), .un, .un, .un] := E
    have S : Hx K _ _ _ _ [⟨p_rows17, true, u44.map enc⟩] _ := S
    obtain rfl := Option.some.inj h18
    exact hN _ _ _ fc (E.weak ⟨.inl rfl, .inl rfl, .inl rfl, .inl rfl, .inl rfl, .inl rfl, .inl rfl, .inr rfl, .inr rfl, .inr rfl, .inr rfl, .inr rfl, .inr rfl, .inr rfl, .inr rfl, trivial⟩) S
theorem sc__law_alike : FnScope ["found", "due", "k"] ["found", "due"] (defScope (top 37)) := ⟨rfl, rfl, rfl, by decide +kernel, rfl, by decide +kernel, by decide +kernel⟩
theorem ok__law_alike_step (B : Bi mg) (D : Dfn K mg "_law_alike" (top 37) ["found", "due"]) (n : Nat) (sp : Sp) (C__law_alike : Cal P w K mg base (n + 1) "_law_alike" ["found", "due"] sp) (hC : ∀ m, n = m + 1 → sp = SpP K (SiMR m)) : Cal P w K mg base (n + 2) "_law_alike" ["found", "due"] (SpP K (SiMR n)) := by
  refine D.cal sc__law_alike (sp_len fun ds d h => by obtain ⟨_, _, _, rfl, _⟩ := h; rfl) fun f cdv A outer s H vs Q E hr h => ?_
  refine ⟨_, (pss_cons (ps_if (pt_val (pe_callB (k_isiT K) (by rfl) B.isinstance (by decide +kernel) (pa_cons (pv 1) (pa_cons (pe_tup (pa_cons (pe_tyn (c := "tuple") (by rfl) B.tuple (by decide +kernel)) (pa_cons (pe_tyn (c := "list") (by rfl) B.list (by decide +kernel)) pa_nil))) pa_nil))))
      (pss_cons (ps_if (PW.pt (pw_or (pt_cmpR op_ne (pe_callB (k_isi K) (by rfl) B.isinstance (by decide +kernel) (pa_cons (pv 0) (pa_cons (pe_tyn (c := "list") (by rfl) B.list (by decide +kernel)) pa_nil))) (pe_callB (k_isi K) (by rfl) B.isinstance (by decide +kernel) (pa_cons (pv 1) (pa_cons (pe_tyn (c := "list") (by rfl) B.list (by decide +kernel)) pa_nil))) (nomark _)) (pw_or1 (pt_not (pt_val (pe_callB (k_isiT K) (by rfl) B.isinstance (by decide +kernel) (pa_cons (pv 0) (pa_cons (pe_tup (pa_cons (pe_tyn (c := "tuple") (by rfl) B.tuple (by decide +kernel)) (pa_cons (pe_tyn (c := "list") (by rfl) B.list (by decide +kernel)) pa_nil))) pa_nil)))))))) (pss_one (ps_ret pe_bl)) pss_nil)
      (pss_cons (ps_if (pt_cmpR op_ne (pe_callB (k_len_seq K) (by rfl) B.len PySem.boot_len (pa_cons (pv 0) pa_nil)) (pe_callB (k_len_seq K) (by rfl) B.len PySem.boot_len (pa_cons (pv 1) pa_nil)) (nomark _)) (pss_one (ps_ret pe_bl)) pss_nil)
        (pss_one (ps_ret (pe_cmpR (k_eqD K hr.units) (pe_lc (own := [(("k" : Str), 2)]) (g := (gName 2)) rfl sc__law_alike.nd (pi_range1 rfl B.range (pa_cons (pe_callB (k_len_seq K) (by rfl) B.len PySem.boot_len (pa_cons (pv 1) pa_nil)) pa_nil)) (blkOk_by (by kernel_rfl)) (fun _ _ _ _ _ => (pg_name (i := 2) sc__law_alike.nd rfl (Or.inl rfl)))
          (fun _ _ _ _ _ => (pts_one (pt_not (pt_val (pe_cal C__law_alike hr (pa_cons (pe_ix (k_ix_seq K) (pv 0) (pv 2) (fun _ _ => rfl)) (pa_cons (pe_ix (k_ix_seq K) (pv 1) (pv 2) (fun _ _ => rfl)) pa_nil)) (Nat.le_refl _)))))) (fun _ _ _ _ _ => (pv 2))) (pe_lst pa_nil) (nomark _)))))) pss_nil)
    (pss_one (ps_ret (pe_and (pe_cmpR op_eq (pe_callB (k_isi K) (by rfl) B.isinstance (by decide +kernel) (pa_cons (pv 0) (pa_cons (pe_tyn (c := "bool") (by rfl) B.bool (by decide +kernel)) pa_nil))) (pe_callB (k_isi K) (by rfl) B.isinstance (by decide +kernel) (pa_cons (pv 1) (pa_cons (pe_tyn (c := "bool") (by rfl) B.bool (by decide +kernel)) pa_nil))) (nomark _)) (pe_and (pe_callB (k_isiT K) (by rfl) B.isinstance (by decide +kernel) (pa_cons (pv 0) (pa_cons (pe_tup (pa_cons (pe_tyn (c := "str") (by rfl) B.str (by decide +kernel)) (pa_cons (pe_tyn (c := "int") (by rfl) B.int (by decide +kernel)) pa_nil))) pa_nil))) (pe_one (pe_cmpR op_eq (pv 0) (pv 1) (nomark _)))))))), ?_⟩
  obtain ⟨F, ds, d, hw, hF, ⟨x, y, b, rfl, hS, rfl⟩, k⟩ := h
  have E : EnvR K F _ [.val x, .val y, .un] := EnvR.start (N := ["found", "due", "k"]) (AsR.of_all hw)
  have S := Hx.start (K := K) hF
  cases hS with
  | int i j =>
    with_reducible refine sq ?_
    refine st_if (b := (false || false)) (rt_b (rx_isiT2 (r := false) (r' := false) (rx_var (i := 1) (d := .int j) rfl) (kit_at (t := "int") rfl (by decide +kernel)) (kit_at (t := "int") rfl (by decide +kernel)))) E S (fun hc => by cases hc) (fun _ F H f E S => ?_)
    refine nxt ?_
    try (with_reducible refine nxD ?_)
    refine st_ret (d := .bool (decide (false = false) && ((false || true) && decide (i = j)))) (rx_and2 (rx_eqb (rx_isi (r := false) (rx_var (i := 0) (d := .int i) rfl) (kit_at (t := "int") rfl (by decide +kernel))) (rx_isi (r := false) (rx_var (i := 1) (d := .int j) rfl) (kit_at (t := "int") rfl (by decide +kernel)))) (rx_and2 (rx_isiT2 (r := false) (r' := true) (rx_var (i := 0) (d := .int i) rfl) (kit_at (t := "int") rfl (by decide +kernel)) (kit_at (t := "int") rfl (by decide +kernel))) (rx_eqi (rx_var (i := 0) (d := .int i) rfl) (rx_var (i := 1) (d := .int j) rfl)))) E S fun v F H f S r => ?_
    exact k v F H S.stp (by simpa using r)
  | bool i j =>
    with_reducible refine sq ?_
    refine st_if (b := (false || false)) (rt_b (rx_isiT2 (r := false) (r' := false) (rx_var (i := 1) (d := .bool j) rfl) (kit_at (t := "bool") rfl (by decide +kernel)) (kit_at (t := "bool") rfl (by decide +kernel)))) E S (fun hc => by cases hc) (fun _ F H f E S => ?_)
    refine nxt ?_
    try (with_reducible refine nxD ?_)
    refine st_ret (d := .bool (decide (true = true) && ((false || true) && decide (i = j)))) (rx_and2 (rx_eqb (rx_isi (r := true) (rx_var (i := 0) (d := .bool i) rfl) (kit_at (t := "bool") rfl (by decide +kernel))) (rx_isi (r := true) (rx_var (i := 1) (d := .bool j) rfl) (kit_at (t := "bool") rfl (by decide +kernel)))) (rx_and2 (rx_isiT2 (r := false) (r' := true) (rx_var (i := 0) (d := .bool i) rfl) (kit_at (t := "bool") rfl (by decide +kernel)) (kit_at (t := "bool") rfl (by decide +kernel))) (rx_eqb (rx_var (i := 0) (d := .bool i) rfl) (rx_var (i := 1) (d := .bool j) rfl)))) E S fun v F H f S r => ?_
    exact k v F H S.stp (by simpa using r)
  | str i j =>
    with_reducible refine sq ?_
    refine st_if (b := (false || false)) (rt_b (rx_isiT2 (r := false) (r' := false) (rx_var (i := 1) (d := .str j) rfl) (kit_at (t := "str") rfl (by decide +kernel)) (kit_at (t := "str") rfl (by decide +kernel)))) E S (fun hc => by cases hc) (fun _ F H f E S => ?_)
    refine nxt ?_
    try (with_reducible refine nxD ?_)
    refine st_ret (d := .bool (decide (false = false) && ((true || false) && decide (i = j)))) (rx_and2 (rx_eqb (rx_isi (r := false) (rx_var (i := 0) (d := .str i) rfl) (kit_at (t := "str") rfl (by decide +kernel))) (rx_isi (r := false) (rx_var (i := 1) (d := .str j) rfl) (kit_at (t := "str") rfl (by decide +kernel)))) (rx_and2 (rx_isiT2 (r := true) (r' := false) (rx_var (i := 0) (d := .str i) rfl) (kit_at (t := "str") rfl (by decide +kernel)) (kit_at (t := "str") rfl (by decide +kernel))) (rx_eqs (rx_var (i := 0) (d := .str i) rfl) (rx_var (i := 1) (d := .str j) rfl)))) E S fun v F H f S r => ?_
    exact k v F H S.stp (by simpa using r)
  | @list n xs ys b hA =>
    obtain ⟨zs, z1, z2, z3⟩ := hA.all
    subst z3
    obtain rfl := hC n rfl
    with_reducible refine sq ?_
    refine st_if (b := (false || true)) (rt_b (rx_isiT2 (r := false) (r' := true) (rx_var (i := 1) (d := .list ys) rfl) (kit_at (t := "list") rfl (by decide +kernel)) (kit_at (t := "list") rfl (by decide +kernel)))) E S (fun _ F H f E S => ?_) (fun hc => by cases hc)
    with_reducible refine sq ?_
    refine st_if (b := ((!decide (true = true)) || !(false || true))) (rt_or2 (rt_val (rx_neb (rx_isi (r := true) (rx_var (i := 0) (d := .list xs) rfl) (kit_at (t := "list") rfl (by decide +kernel))) (rx_isi (r := true) (rx_var (i := 1) (d := .list ys) rfl) (kit_at (t := "list") rfl (by decide +kernel))))) (rt_not (rt_b (rx_isiT2 (r := false) (r' := true) (rx_var (i := 0) (d := .list xs) rfl) (kit_at (t := "list") rfl (by decide +kernel)) (kit_at (t := "list") rfl (by decide +kernel)))))) E S (fun hc => by cases hc) (fun _ F H f E S => ?_)
    refine nxt ?_
    try (with_reducible refine nxD ?_)
    with_reducible refine sq ?_
    refine st_if (b := !decide ((xs.length : Int) = (ys.length : Int))) (rt_val (rx_nei (rx_len (RX.s (rx_var (i := 0) (d := .list xs) rfl))) (rx_len (RX.s (rx_var (i := 1) (d := .list ys) rfl))))) E S (fun hc F H f E S => ?_) (fun hc F H f E S => ?_)
    · have e : decide (xs.length = ys.length) = false := decide_eq_false fun q => by rw [q] at hc; simp at hc
      refine st_ret (d := .bool false) rx_bl E S fun v F H f S r => ?_
      exact k v F H S.stp (by rw [e]; exact r)
    · refine nxt ?_
      try (with_reducible refine nxD ?_)
      have hl : xs.length = ys.length := by
        cases q : decide ((xs.length : Int) = (ys.length : Int)) with
        | true => exact Int.ofNat.inj (of_decide_eq_true q)
        | false => rw [q] at hc; cases hc
      have z1 := z1.symm
      have hz := zip_len z1 hl
      have e : decide (xs.length = ys.length) = true := decide_eq_true hl
      have hfl : decide (((rngL 0 ys.length).filter fun k => !simG zs k) = []) = (zs.map (·.2.2)).all id := by rw [filt_none, ← hz, simG_all zs]
      have hfo := filtO_pure (fun k => !simG zs k) (rngL 0 ys.length)
      generalize hq : (rngL 0 ys.length).filter (fun k => !simG zs k) = qs at hfl hfo
      refine st_ret (d := .bool (decide (qs = ([] : List Int)))) (rx_eqT (x := qs) (y := ([] : List Int)) (RXs.h (RXo.s (rxo_filtO (eα := enc) (eβ := enc) (fun x8 => [.val (.list xs), .val (.list ys), .val (enc (x8 : Int))]) [2] (ri_rangeLen (RX.s (rx_var (i := 1) (d := .list ys) rfl))) hfo (by decide) (fun x8 _ => (rg_name (i := 2) (d := enc (x8 : Int)))) (fun x8 hx y h7 D9 acc10 => by
          obtain ⟨t, ht, hg, hx, hy⟩ := zip_at z1 hl hx
          obtain rfl := Option.some.inj h7
          rw [hg]
          exact (rt_not (rt_b (rx_call (ds := [t.1, t.2.1]) (d := .bool t.2.2) ⟨_, _, _, rfl, z2 t ht, rfl⟩ (ra_cons (rx_ixA hx (rx_var (i := 0) (d := .list xs) rfl) (rx_var (i := 2) (d := .int x8) rfl)) (ra_cons (rx_ixA hy (rx_var (i := 1) (d := .list ys) rfl) (rx_var (i := 2) (d := .int x8) rfl)) ra_nil)))))) (fun x8 _ y h7 D9 acc10 => by obtain rfl := Option.some.inj h7; exact (rx_var (d := enc (x8 : Int)) rfl))))) (RXs.h (RXo.s (rxo_lst (ds := []) ra_nil)))) E S fun v F H f S r => ?_
      exact k v F H S.stp (by rw [e, ← hfl]; exact r)
  | @tuple n xs ys b hA =>
    obtain ⟨zs, z1, z2, z3⟩ := hA.all
    subst z3
    obtain rfl := hC n rfl
    with_reducible refine sq ?_
    refine st_if (b := (true || false)) (rt_b (rx_isiT2 (r := true) (r' := false) (rx_var (i := 1) (d := .tuple ys) rfl) (kit_at (t := "tuple") rfl (by decide +kernel)) (kit_at (t := "tuple") rfl (by decide +kernel)))) E S (fun _ F H f E S => ?_) (fun hc => by cases hc)
    with_reducible refine sq ?_
    refine st_if (b := ((!decide (false = false)) || !(true || false))) (rt_or2 (rt_val (rx_neb (rx_isi (r := false) (rx_var (i := 0) (d := .tuple xs) rfl) (kit_at (t := "tuple") rfl (by decide +kernel))) (rx_isi (r := false) (rx_var (i := 1) (d := .tuple ys) rfl) (kit_at (t := "tuple") rfl (by decide +kernel))))) (rt_not (rt_b (rx_isiT2 (r := true) (r' := false) (rx_var (i := 0) (d := .tuple xs) rfl) (kit_at (t := "tuple") rfl (by decide +kernel)) (kit_at (t := "tuple") rfl (by decide +kernel)))))) E S (fun hc => by cases hc) (fun _ F H f E S => ?_)
    refine nxt ?_
    try (with_reducible refine nxD ?_)
    with_reducible refine sq ?_
    refine st_if (b := !decide ((xs.length : Int) = (ys.length : Int))) (rt_val (rx_nei (rx_lenT (rx_var (i := 0) (d := .tuple xs) rfl)) (rx_lenT (rx_var (i := 1) (d := .tuple ys) rfl)))) E S (fun hc F H f E S => ?_) (fun hc F H f E S => ?_)
    · have e : decide (xs.length = ys.length) = false := decide_eq_false fun q => by rw [q] at hc; simp at hc
      refine st_ret (d := .bool false) rx_bl E S fun v F H f S r => ?_
      exact k v F H S.stp (by rw [e]; exact r)
    · refine nxt ?_
      try (with_reducible refine nxD ?_)
      have hl : xs.length = ys.length := by
        cases q : decide ((xs.length : Int) = (ys.length : Int)) with
        | true => exact Int.ofNat.inj (of_decide_eq_true q)
        | false => rw [q] at hc; cases hc
      have z1 := z1.symm
      have hz := zip_len z1 hl
      have e : decide (xs.length = ys.length) = true := decide_eq_true hl
      have hfl : decide (((rngL 0 ys.length).filter fun k => !simG zs k) = []) = (zs.map (·.2.2)).all id := by rw [filt_none, ← hz, simG_all zs]
      have hfo := filtO_pure (fun k => !simG zs k) (rngL 0 ys.length)
      generalize hq : (rngL 0 ys.length).filter (fun k => !simG zs k) = qs at hfl hfo
      refine st_ret (d := .bool (decide (qs = ([] : List Int)))) (rx_eqT (x := qs) (y := ([] : List Int)) (RXs.h (RXo.s (rxo_filtO (eα := enc) (eβ := enc) (fun x8 => [.val (.tuple xs), .val (.tuple ys), .val (enc (x8 : Int))]) [2] (ri_rangeLenT (rx_var (i := 1) (d := .tuple ys) rfl)) hfo (by decide) (fun x8 _ => (rg_name (i := 2) (d := enc (x8 : Int)))) (fun x8 hx y h7 D9 acc10 => by
          obtain ⟨t, ht, hg, hx, hy⟩ := zip_at z1 hl hx
          obtain rfl := Option.some.inj h7
          rw [hg]
          exact (rt_not (rt_b (rx_call (ds := [t.1, t.2.1]) (d := .bool t.2.2) ⟨_, _, _, rfl, z2 t ht, rfl⟩ (ra_cons (rx_ixAT hx (rx_var (i := 0) (d := .tuple xs) rfl) (rx_var (i := 2) (d := .int x8) rfl)) (ra_cons (rx_ixAT hy (rx_var (i := 1) (d := .tuple ys) rfl) (rx_var (i := 2) (d := .int x8) rfl)) ra_nil)))))) (fun x8 _ y h7 D9 acc10 => by obtain rfl := Option.some.inj h7; exact (rx_var (d := enc (x8 : Int)) rfl))))) (RXs.h (RXo.s (rxo_lst (ds := []) ra_nil)))) E S fun v F H f S r => ?_
      exact k v F H S.stp (by rw [e, ← hfl]; exact r)
theorem ok__law_alike (B : Bi mg) (D : Dfn K mg "_law_alike" (top 37) ["found", "due"]) : ∀ n, Cal P w K mg base (n + 2) "_law_alike" ["found", "due"] (SpP K (SiMR n))
  | 0 => ok__law_alike_step B D 0 _ (Cal.never D sc__law_alike) (fun m e => by cases e)
  | n + 1 => ok__law_alike_step B D (n + 1) _ (ok__law_alike B D n) (fun m e => by cases e; rfl)
theorem sc_law : FnScope ["script", "net", "names", "text", "found", "sizes", "some", "one", "place"] ["script"] (defScope (top 38)) := ⟨rfl, rfl, rfl, by decide +kernel, rfl, by decide +kernel, by decide +kernel⟩
theorem ok_law (B : Bi mg) {f_ : Addr} {fd_ : FuncData} (D : Fun K "law" "law" (top 38) f_ fd_) (CX_read : CalX P w K mg base 4 "read" ["text"] (SpX K mg R_read)) (CXT_read : CalX P w K mg base 4 "read" ["text"] (SpT K RT_read)) (C__law_alike : Cal P w K mg base 14 "_law_alike" ["found", "due"] (SpP K (SiMR 12))) (C__law_cell_at : Cal P w K mg base 1 "_law_cell_at" ["script", "k"] (SpP K R__law_cell_at)) (C__law_gate_names : Cal P w K mg base 3 "_law_gate_names" ["net", "head"] (SpN K R__law_gate_names)) (C__law_net : Cal P w K mg base 4 "_law_net" ["script"] (SpP K R__law_net)) (C__law_rows : Cal P w K mg base 2 "_law_rows" ["net", "gate_names"] (SpN K R__law_rows)) (C__law_stir : Cal P w K mg base 1 "_law_stir" ["cell", "k"] (SpP K R__law_stir)) : FnOk P w K mg base CX0 15 f_ fd_ ["script"] (SpP K R_law) := by
  refine D.ok sc_law (sp_len fun ds d h => by obtain ⟨_, _, rfl, _⟩ := h; rfl) fun cdv A outer s H vs Q E hr h => ?_
  refine ⟨_, (pss_cons (ps_set (i := 1) sc_law.nd rfl (Or.inr rfl) (pe_cal C__law_net hr (pa_cons (pv 0) pa_nil))) (pss_cons (ps_set (i := 2) sc_law.nd rfl (Or.inr rfl) (pe_cal C__law_gate_names hr (pa_cons (pv 1) (pa_cons (pe_op op_add (pe_cal C__law_cell_at hr (pa_cons (pv 0) (pa_cons pe_int pa_nil))) pe_int) pa_nil)))) (pss_cons (ps_if (PW.pt (pw_and (pt_cmpR op_eq (pe_op op_mod (pe_cal C__law_stir hr (pa_cons (pe_cal C__law_cell_at hr (pa_cons (pv 0) (pa_cons pe_int pa_nil))) (pa_cons pe_int pa_nil))) pe_int) pe_int (nomark _)) (pw_and1 (pt_cmpR op_gt (pe_callB (k_len_seq K) (by rfl) B.len PySem.boot_len (pa_cons (pv 2) pa_nil)) pe_int (nomark _))))) (pss_one (ps_set (i := 1) sc_law.nd rfl (Or.inr rfl) (pe_tup (pa_cons (pe_ix (k_ix_tup K) (pv 1) pe_int (fun _ _ => rfl)) (pa_cons (pe_ix (k_ix_tup K) (pv 1) pe_int (fun _ _ => rfl)) (pa_cons (pe_lc (own := [(("place" : Str), 8)]) (g := (gName 8)) (tt := tYes) rfl sc_law.nd (pi_range1 rfl B.range (pa_cons (pe_callB (k_len_seq K) (by rfl) B.len PySem.boot_len (pa_cons (pe_ix (k_ix_tup K) (pv 1) pe_int (fun _ _ => rfl)) pa_nil)) pa_nil)) (blkOk_by (by kernel_rfl)) (fun _ _ _ _ _ => (pg_name (i := 8) sc_law.nd rfl (Or.inl rfl))) (fun _ _ _ _ _ => pts_nil) (fun _ _ _ _ _ => (pe_tup (pa_cons (pe_ix (k_ix_list K) (pv 2) (pv 8) (fun _ _ => rfl)) (pa_cons (pe_ix (k_ix_tup K) (pe_ix (k_ix_list K) (pe_ix (k_ix_tup K) (pv 1) pe_int (fun _ _ => rfl)) (pv 8) (fun _ _ => rfl)) pe_int (fun _ _ => rfl)) pa_nil))))) pa_nil)))))) pss_nil) (pss_cons (ps_set (i := 3) sc_law.nd rfl (Or.inl rfl) (k_join K pe_str (pe_cal C__law_rows hr (pa_cons (pv 1) (pa_cons (pv 2) pa_nil))))) (pss_cons (ps_set (i := 4) sc_law.nd rfl (Or.inl rfl) (pe_calX CXT_read hr takesF (pa_cons (pv 3) pa_nil))) (pss_cons (ps_if (pt_not (pt_val (pe_cal C__law_alike hr (pa_cons (pv 4) (pa_cons (pv 1) pa_nil))))) (pss_one (ps_ret pe_bl)) pss_nil) (pss_cons (ps_setLc (i := 5) (own := [(("some" : Str), 6)]) (g := (gName 6)) (tt := tYes) rfl sc_law.nd rfl rfl (sw_true rfl rfl rfl (by decide +kernel)) (k_pi_tup K (pv 4)) (blkOk_by (by kernel_rfl)) (fun _ _ _ _ _ => (pg_name (i := 6) sc_law.nd rfl (Or.inl rfl))) (fun _ _ _ _ _ => pts_nil) (fun _ _ _ _ _ => (pe_callB (k_len_seq K) (by rfl) B.len PySem.boot_len (pa_cons (pv 6) pa_nil)))) (pss_cons (ps_for PassesOwn.never rfl (k_pi_tup K (pv 4)) (pg_name (i := 6) sc_law.nd rfl (Or.inl rfl)) (pss_one (ps_expr (pe_bm PySem.F.plainAttrs_list PySem.F.slot_list_append PySem.F.type_list_append mt_append (pv 6) (pa_cons (pe_tup (pa_cons pe_str (pa_cons (pe_tup pa_nil) pa_nil))) pa_nil))))) (pss_cons (ps_if (pt_cmpR (k_neD K hr.units) (pe_lc (own := [(("some" : Str), 6)]) (g := (gName 6)) (tt := tYes) rfl sc_law.nd (k_pi_tup K (pv 4)) (blkOk_by (by kernel_rfl)) (fun _ _ _ _ _ => (pg_name (i := 6) sc_law.nd rfl (Or.inl rfl))) (fun _ _ _ _ _ => pts_nil) (fun _ _ _ _ _ => (pe_callB (k_len_seq K) (by rfl) B.len PySem.boot_len (pa_cons (pv 6) pa_nil)))) (pe_lc (own := [(("one" : Str), 7)]) (g := (gName 7)) (tt := tYes) rfl sc_law.nd (k_pi_list K (pv 5)) (blkOk_by (by kernel_rfl)) (fun _ _ _ _ _ => (pg_name (i := 7) sc_law.nd rfl (Or.inl rfl))) (fun _ _ _ _ _ => pts_nil) (fun _ _ _ _ _ => (pe_op op_add (pv 7) pe_int))) (nomark _)) (pss_one (ps_ret pe_bl)) pss_nil) (pss_one (ps_ret (pe_cmpR (k_eqD K hr.units) (pe_calX CX_read hr takesF (pa_cons (pv 3) pa_nil)) (pv 1) (nomark _))))))))))))), ?_⟩
  obtain ⟨F, ds, d, hw, hF, ⟨v_script, rr, rfl, rfl, hm0⟩, k⟩ := h
  have E : EnvR K F _ [.val (enc (v_script : (List Int))), .un, .un, .un, .un, .un, .un, .un, .un] := EnvR.start (N := ["script", "net", "names", "text", "found", "sizes", "some", "one", "place"]) (AsR.of_all hw)
  have S := Hx.start (K := K) hF
  have fc : Same F F := Same.refl F
  unfold m_law at hm0
  obtain ⟨r1, h2, hm0⟩ := bindE hm0
  try (with_reducible refine nxD ?_)
  with_reducible refine sq ?_
  refine st_set (i := 1) (d := enc (r1 : (T3 (List (Str × Int)) (List (T3 Str (Tp Int) Bool)) (List (Str × (Tp Int)))))) (rx_call (ds := [enc (v_script : (List Int))]) (d := enc (r1 : (T3 (List (Str × Int)) (List (T3 Str (Tp Int) Bool)) (List (Str × (Tp Int)))))) ⟨_, r1, rfl, rfl, h2⟩ (ra_cons (rx_var (d := enc (v_script : (List Int))) rfl) ra_nil)) E S fun σ F H f E S => ?_
  replace fc := fc.trans f
  have E : EnvR K _ _ [.val (enc (v_script : (List Int))), .val (enc (r1 : (T3 (List (Str × Int)) (List (T3 Str (Tp Int) Bool)) (List (Str × (Tp Int)))))), .un, .un, .un, .un, .un, .un, .un] := E
  have S : Hx K _ _ _ _ [] _ := S
  obtain ⟨r3, h4, hm0⟩ := bindE hm0
  obtain ⟨r5, h6, hm0⟩ := bindE hm0
  try (with_reducible refine nxD ?_)
  with_reducible refine sq ?_
  refine st_set (i := 2) (d := enc (r5 : (List Str))) (RXo.frz (rxo_call (ds := [enc (r1 : (T3 (List (Str × Int)) (List (T3 Str (Tp Int) Bool)) (List (Str × (Tp Int))))), enc ((r3 + (1 : Int)) : Int)]) (es := r5.map enc) ⟨_, _, r5, rfl, rfl, h6⟩ (ra_cons (rx_var (d := enc (r1 : (T3 (List (Str × Int)) (List (T3 Str (Tp Int) Bool)) (List (Str × (Tp Int)))))) rfl) (ra_cons (rx_add (rx_call (ds := [enc (v_script : (List Int)), enc ((0 : Int) : Int)]) (d := enc (r3 : Int)) ⟨_, _, r3, rfl, rfl, h4⟩ (ra_cons (rx_var (d := enc (v_script : (List Int))) rfl) (ra_cons rx_int ra_nil))) rx_int) ra_nil)))) E S fun σ F H f E S => ?_
  replace fc := fc.trans f
  have E : EnvR K _ _ [.val (enc (v_script : (List Int))), .val (enc (r1 : (T3 (List (Str × Int)) (List (T3 Str (Tp Int) Bool)) (List (Str × (Tp Int)))))), .val (enc (r5 : (List Str))), .un, .un, .un, .un, .un, .un] := E
  have S : Hx K _ _ _ _ [] _ := S
  obtain ⟨r7, h8, hm0⟩ := bindE hm0
  obtain ⟨r9, h10, hm0⟩ := bindE hm0
  obtain ⟨j12, h13, hm0⟩ := bindE hm0
  try (with_reducible refine nxD ?_)
  with_reducible refine sq ?_
  refine st_ifJ (b := ((decide ((r9 % (4 : Int)) = (1 : Int))) && (decide ((5 : Int) < (r5.length : Int))))) [.val (enc (v_script : (List Int))), .val (enc (j12 : (T3 (List (Str × Int)) (List (T3 Str (Tp Int) Bool)) (List (Str × (Tp Int)))))), .val (enc (r5 : (List Str))), .un, .un, .un, .un, .un, .un] [] (rt_and2 (rt_val (rx_eqi (rx_mod (rx_call (ds := [enc (r7 : Int), enc ((343 : Int) : Int)]) (d := enc (r9 : Int)) ⟨_, _, r9, rfl, rfl, h10⟩ (ra_cons (rx_call (ds := [enc (v_script : (List Int)), enc ((0 : Int) : Int)]) (d := enc (r7 : Int)) ⟨_, _, r7, rfl, rfl, h8⟩ (ra_cons (rx_var (d := enc (v_script : (List Int))) rfl) (ra_cons rx_int ra_nil))) (ra_cons rx_int ra_nil))) rx_int (by decide)) rx_int)) (rt_val (rx_gt (len_nat (f := enc) (RX.s (rx_var (d := enc (r5 : (List Str))) rfl))) rx_int))) E S (fun σ F H f E S => ?_) (fun hc F H rest f E S => ?_) (fun hc F H rest f E S => ?_)
  · replace fc := fc.trans f
    obtain ⟨r30, h31, hm0⟩ := bindE hm0
    obtain ⟨t32, h33, hm0⟩ := bindE hm0
    try (with_reducible refine nxD ?_)
    with_reducible refine sq ?_
    refine st_set (i := 3) (d := enc (t32 : Str)) (rx_join h33 (rx_str (x := ("\n" : Str))) (RXo.s (rxo_call (ds := [enc (j12 : (T3 (List (Str × Int)) (List (T3 Str (Tp Int) Bool)) (List (Str × (Tp Int))))), enc (r5 : (List Str))]) (es := r30.map enc) ⟨_, _, r30, rfl, rfl, h31⟩ (ra_cons (rx_var (d := enc (j12 : (T3 (List (Str × Int)) (List (T3 Str (Tp Int) Bool)) (List (Str × (Tp Int)))))) rfl) (ra_cons (rx_var (d := enc (r5 : (List Str))) rfl) ra_nil))))) E S fun σ F H f E S => ?_
    replace fc := fc.trans f
    have E : EnvR K _ _ [.val (enc (v_script : (List Int))), .val (enc (j12 : (T3 (List (Str × Int)) (List (T3 Str (Tp Int) Bool)) (List (Str × (Tp Int)))))), .val (enc (r5 : (List Str))), .val (enc (t32 : Str)), .un, .un, .un, .un, .un] := E
    have S : Hx K _ _ _ _ [] _ := S
    obtain ⟨r34, h35, hm0⟩ := bindE hm0
    try (with_reducible refine nxD ?_)
    with_reducible refine sq ?_
    refine st_setT (i := 4) (R := RT_read) (ds := [enc (t32 : Str)]) (ess := [r34.a.map enc, r34.b.map enc, r34.c.map enc]) ⟨_, r34, rfl, rfl, h35⟩ (ra_cons (rx_var (d := enc (t32 : Str)) rfl) ra_nil) E S fun ps σ F H hl36 f E S => ?_
    obtain ⟨p_found37, p_found38, p_found39, rfl⟩ := len3 hl36
    replace fc := fc.trans f
    have E : EnvR K _ _ [.val (enc (v_script : (List Int))), .val (enc (j12 : (T3 (List (Str × Int)) (List (T3 Str (Tp Int) Bool)) (List (Str × (Tp Int)))))), .val (enc (r5 : (List Str))), .val (enc (t32 : Str)), .tow [p_found37, p_found38, p_found39], .un, .un, .un, .un] := E
    have S : Hx K _ _ _ _ [⟨p_found37, true, r34.a.map enc⟩, ⟨p_found38, true, r34.b.map enc⟩, ⟨p_found39, true, r34.c.map enc⟩] _ := S
    try (with_reducible refine nxD ?_)
    with_reducible refine sq ?_
    refine st_if (b := (!(decide (((T3.mk r34.a r34.b r34.c) : (T3 (List (Str × Int)) (List (T3 Str (Tp Int) Bool)) (List (Str × (Tp Int))))) = j12)))) (rt_not (rt_b (rx_callH (d := enc ((T3.mk r34.a r34.b r34.c) : (T3 (List (Str × Int)) (List (T3 Str (Tp Int) Bool)) (List (Str × (Tp Int)))))) (e := enc (j12 : (T3 (List (Str × Int)) (List (T3 Str (Tp Int) Bool)) (List (Str × (Tp Int)))))) (b := (decide (((T3.mk r34.a r34.b r34.c) : (T3 (List (Str × Int)) (List (T3 Str (Tp Int) Bool)) (List (Str × (Tp Int))))) = j12))) ⟨_, _, _, rfl, (SiMT.ok (α := (T3 (List (Str × Int)) (List (T3 Str (Tp Int) Bool)) (List (Str × (Tp Int))))) _ _).mono (by decide), rfl⟩ (rxh_tow (ps := [p_found37, p_found38, p_found39]) (ess := [r34.a.map enc, r34.b.map enc, r34.c.map enc]) rfl (.cons 0 rfl (.cons 1 rfl (.cons 2 rfl .nil)))) (RX.h (rx_var (d := enc (j12 : (T3 (List (Str × Int)) (List (T3 Str (Tp Int) Bool)) (List (Str × (Tp Int)))))) rfl))))) E S (fun hc F H f E S => ?_) (fun hc F H f E S => ?_)
    · rw [if_pos hc] at hm0
      replace fc := fc.trans f
      obtain rfl := Option.some.inj hm0
      -- return
      try (with_reducible refine nxD ?_)
      refine st_ret (d := enc (false : Bool)) rx_bl E S fun v F H f S r => ?_
      exact k v F H S.stp r
    · rw [if_neg (by rw [hc]; decide)] at hm0
      replace fc := fc.trans f
      refine nxt ?_
      obtain ⟨v40, h41, hm0⟩ := letE hm0
      try (with_reducible refine nxD ?_)
      with_reducible refine sq ?_
      refine st_set (i := 5) (d := enc (v40 : (List Int))) (rx_as (x := (([(((T3.mk r34.a r34.b r34.c).a).length : Int), (((T3.mk r34.a r34.b r34.c).b).length : Int), (((T3.mk r34.a r34.b r34.c).c).length : Int)] : List Int) : (List Int))) h41 (RXo.frz (rxo_wholeI (ρ' := [.val (enc (v_script : (List Int))), .val (enc (j12 : (T3 (List (Str × Int)) (List (T3 Str (Tp Int) Bool)) (List (Str × (Tp Int)))))), .val (enc (r5 : (List Str))), .val (enc (t32 : Str)), .val (enc ((T3.mk r34.a r34.b r34.c) : (T3 (List (Str × Int)) (List (T3 Str (Tp Int) Bool)) (List (Str × (Tp Int)))))), .un, .un, .un, .un]) (Vw.same (.inl ⟨_, rfl⟩) (Vw.same (.inl ⟨_, rfl⟩) (Vw.same (.inl ⟨_, rfl⟩) (Vw.same (.inl ⟨_, rfl⟩) (Vw.tow (ess := [r34.a.map enc, r34.b.map enc, r34.c.map enc]) (Tow.cons 0 rfl (Tow.cons 1 rfl (Tow.cons 2 rfl Tow.nil))) (Nat.le_of_ble_eq_true rfl) (Vw.same (.inr rfl) (Vw.same (.inr rfl) (Vw.same (.inr rfl) (Vw.same (.inr rfl) Vw.nil))))))))) (rxo_as (x := ([((T3.mk r34.a r34.b r34.c).a).map enc, ((T3.mk r34.a r34.b r34.c).b).map enc, ((T3.mk r34.a r34.b r34.c).c).map enc] : List (List PyData)).map (fun (es_ : List PyData) => ((es_.length : Int) : Int))) (y := ([(((T3.mk r34.a r34.b r34.c).a).length : Int), (((T3.mk r34.a r34.b r34.c).b).length : Int), (((T3.mk r34.a r34.b r34.c).c).length : Int)] : List Int)) (f := enc) (by simp) (rxo_map (eα := PyData.list) (eβ := enc) (f := (fun (es_ : List PyData) => ((es_.length : Int) : Int))) (fun es_ => [.val (enc (v_script : (List Int))), .val (enc (j12 : (T3 (List (Str × Int)) (List (T3 Str (Tp Int) Bool)) (List (Str × (Tp Int)))))), .val (enc (r5 : (List Str))), .val (enc (t32 : Str)), .val (enc ((T3.mk r34.a r34.b r34.c) : (T3 (List (Str × Int)) (List (T3 Str (Tp Int) Bool)) (List (Str × (Tp Int)))))), .un, .val (.list es_), .un, .un]) [6] (ri_tup (ys := ([((T3.mk r34.a r34.b r34.c).a).map enc, ((T3.mk r34.a r34.b r34.c).b).map enc, ((T3.mk r34.a r34.b r34.c).c).map enc] : List (List PyData)).map PyData.list) (rx_var (d := .tuple (([((T3.mk r34.a r34.b r34.c).a).map enc, ((T3.mk r34.a r34.b r34.c).b).map enc, ((T3.mk r34.a r34.b r34.c).c).map enc] : List (List PyData)).map PyData.list)) rfl)) (by decide) (fun es_ _ => rg_name (i := 6) (d := .list es_)) (fun es_ _ _ _ => (rx_len (RX.s (rx_var (d := .list es_) rfl))))))))) E S fun σ F H f E S => ?_
      replace fc := fc.trans f
      have E : EnvR K _ _ [.val (enc (v_script : (List Int))), .val (enc (j12 : (T3 (List (Str × Int)) (List (T3 Str (Tp Int) Bool)) (List (Str × (Tp Int)))))), .val (enc (r5 : (List Str))), .val (enc (t32 : Str)), .tow [p_found37, p_found38, p_found39], .val (enc (v40 : (List Int))), .un, .un, .un] := E
      have S : Hx K _ _ _ _ [⟨p_found37, true, r34.a.map enc⟩, ⟨p_found38, true, r34.b.map enc⟩, ⟨p_found39, true, r34.c.map enc⟩] _ := S
      obtain ⟨_, hz42, hm0⟩ := bindE hm0
      have hz42l : r34.a.length < 16777216 := by by_cases q : r34.a.length < 16777216; exact q; rw [if_neg q] at hz42; cases hz42
      obtain ⟨_, hz43, hm0⟩ := bindE hm0
      have hz43l : r34.b.length < 16777216 := by by_cases q : r34.b.length < 16777216; exact q; rw [if_neg q] at hz43; cases hz43
      obtain ⟨_, hz44, hm0⟩ := bindE hm0
      have hz44l : r34.c.length < 16777216 := by by_cases q : r34.c.length < 16777216; exact q; rw [if_neg q] at hz44; cases hz44
      have hz45 : ∀ es ∈ [r34.a.map enc, r34.b.map enc, r34.c.map enc], es.length < 16777216 := by simp only [List.mem_cons, List.not_mem_nil, or_false, List.length_map, forall_eq_or_imp, forall_eq, List.length_map]; exact ⟨hz42l, hz43l, hz44l⟩
      try (with_reducible refine nxD ?_)
      with_reducible refine sq ?_
      refine st_forT (i := 4) (j := 6) (ps := [p_found37, p_found38, p_found39]) (ess := [r34.a.map enc, r34.b.map enc, r34.c.map enc]) (g := (fun es => es ++ [enc ((("zebra" : Str), ((Tp.mk []) : (Tp Int))) : (Str × (Tp Int)))])) [.val (enc (v_script : (List Int))), .val (enc (j12 : (T3 (List (Str × Int)) (List (T3 Str (Tp Int) Bool)) (List (Str × (Tp Int)))))), .val (enc (r5 : (List Str))), .val (enc (t32 : Str)), .tow [p_found37, p_found38, p_found39], .val (enc (v40 : (List Int))), .un, .un, .un] rfl rfl E S ⟨.inl rfl, .inl rfl, .inl rfl, .inl rfl, .inl rfl, .inl rfl, .inr rfl, .inr rfl, .inr rfl, trivial⟩ (fun σ F H f E S => ?_) (fun es hes σ F H p_part Or_ f E S N B hN => ?_)
      · replace fc := fc.trans f
        have E : EnvR K _ _ [.val (enc (v_script : (List Int))), .val (enc (j12 : (T3 (List (Str × Int)) (List (T3 Str (Tp Int) Bool)) (List (Str × (Tp Int)))))), .val (enc (r5 : (List Str))), .val (enc (t32 : Str)), .tow [p_found37, p_found38, p_found39], .val (enc (v40 : (List Int))), .un, .un, .un] := E
        have S : Hx K _ _ _ _ [⟨p_found37, true, r34.a.map enc ++ [enc ((("zebra" : Str), ((Tp.mk []) : (Tp Int))) : (Str × (Tp Int)))]⟩, ⟨p_found38, true, r34.b.map enc ++ [enc ((("zebra" : Str), ((Tp.mk []) : (Tp Int))) : (Str × (Tp Int)))]⟩, ⟨p_found39, true, r34.c.map enc ++ [enc ((("zebra" : Str), ((Tp.mk []) : (Tp Int))) : (Str × (Tp Int)))]⟩] _ := S
        try (with_reducible refine nxD ?_)
        with_reducible refine sq ?_
        refine st_if (b := (!decide ((([((r34.a).length : Int) + 1, ((r34.b).length : Int) + 1, ((r34.c).length : Int) + 1] : List Int) : (List Int)) = (v40.map (fun (x47 : Int) => ((x47 + (1 : Int)) : Int)))))) (rt_val (rx_whole (ρ' := [.val (enc (v_script : (List Int))), .val (enc (j12 : (T3 (List (Str × Int)) (List (T3 Str (Tp Int) Bool)) (List (Str × (Tp Int)))))), .val (enc (r5 : (List Str))), .val (enc (t32 : Str)), .val (.tuple [.list ((r34.a).map enc ++ [enc ((("zebra" : Str), ((Tp.mk []) : (Tp Int))) : (Str × (Tp Int)))]), .list ((r34.b).map enc ++ [enc ((("zebra" : Str), ((Tp.mk []) : (Tp Int))) : (Str × (Tp Int)))]), .list ((r34.c).map enc ++ [enc ((("zebra" : Str), ((Tp.mk []) : (Tp Int))) : (Str × (Tp Int)))])]), .val (enc (v40 : (List Int))), .un, .un, .un]) (Vw.same (.inl ⟨_, rfl⟩) (Vw.same (.inl ⟨_, rfl⟩) (Vw.same (.inl ⟨_, rfl⟩) (Vw.same (.inl ⟨_, rfl⟩) (Vw.tow (ess := [(r34.a).map enc ++ [enc ((("zebra" : Str), ((Tp.mk []) : (Tp Int))) : (Str × (Tp Int)))], (r34.b).map enc ++ [enc ((("zebra" : Str), ((Tp.mk []) : (Tp Int))) : (Str × (Tp Int)))], (r34.c).map enc ++ [enc ((("zebra" : Str), ((Tp.mk []) : (Tp Int))) : (Str × (Tp Int)))]]) (Tow.cons 0 rfl (Tow.cons 1 rfl (Tow.cons 2 rfl Tow.nil))) (Nat.le_of_ble_eq_true rfl) (Vw.same (.inl ⟨_, rfl⟩) (Vw.same (.inr rfl) (Vw.same (.inr rfl) (Vw.same (.inr rfl) Vw.nil))))))))) (rx_neT (x := (([((r34.a).length : Int) + 1, ((r34.b).length : Int) + 1, ((r34.c).length : Int) + 1] : List Int) : (List Int))) (y := ((v40.map (fun (x47 : Int) => ((x47 + (1 : Int)) : Int))) : (List Int))) (RX.h (RXo.frz (rxo_as (x := ([(r34.a).map enc ++ [enc ((("zebra" : Str), ((Tp.mk []) : (Tp Int))) : (Str × (Tp Int)))], (r34.b).map enc ++ [enc ((("zebra" : Str), ((Tp.mk []) : (Tp Int))) : (Str × (Tp Int)))], (r34.c).map enc ++ [enc ((("zebra" : Str), ((Tp.mk []) : (Tp Int))) : (Str × (Tp Int)))]] : List (List PyData)).map (fun (es_ : List PyData) => ((es_.length : Int) : Int))) (y := ([((r34.a).length : Int) + 1, ((r34.b).length : Int) + 1, ((r34.c).length : Int) + 1] : List Int)) (f := enc) (by simp) (rxo_map (eα := PyData.list) (eβ := enc) (f := (fun (es_ : List PyData) => ((es_.length : Int) : Int))) (fun es_ => [.val (enc (v_script : (List Int))), .val (enc (j12 : (T3 (List (Str × Int)) (List (T3 Str (Tp Int) Bool)) (List (Str × (Tp Int)))))), .val (enc (r5 : (List Str))), .val (enc (t32 : Str)), .val (.tuple [.list ((r34.a).map enc ++ [enc ((("zebra" : Str), ((Tp.mk []) : (Tp Int))) : (Str × (Tp Int)))]), .list ((r34.b).map enc ++ [enc ((("zebra" : Str), ((Tp.mk []) : (Tp Int))) : (Str × (Tp Int)))]), .list ((r34.c).map enc ++ [enc ((("zebra" : Str), ((Tp.mk []) : (Tp Int))) : (Str × (Tp Int)))])]), .val (enc (v40 : (List Int))), .val (.list es_), .un, .un]) [6] (ri_tup (ys := ([(r34.a).map enc ++ [enc ((("zebra" : Str), ((Tp.mk []) : (Tp Int))) : (Str × (Tp Int)))], (r34.b).map enc ++ [enc ((("zebra" : Str), ((Tp.mk []) : (Tp Int))) : (Str × (Tp Int)))], (r34.c).map enc ++ [enc ((("zebra" : Str), ((Tp.mk []) : (Tp Int))) : (Str × (Tp Int)))]] : List (List PyData)).map PyData.list) (rx_var (d := .tuple (([(r34.a).map enc ++ [enc ((("zebra" : Str), ((Tp.mk []) : (Tp Int))) : (Str × (Tp Int)))], (r34.b).map enc ++ [enc ((("zebra" : Str), ((Tp.mk []) : (Tp Int))) : (Str × (Tp Int)))], (r34.c).map enc ++ [enc ((("zebra" : Str), ((Tp.mk []) : (Tp Int))) : (Str × (Tp Int)))]] : List (List PyData)).map PyData.list)) rfl)) (by decide) (fun es_ _ => rg_name (i := 6) (d := .list es_)) (fun es_ _ _ _ => (rx_len (RX.s (rx_var (d := .list es_) rfl)))))))) (RX.h (RXo.frz (rxo_map (eα := enc) (eβ := enc) (f := (fun (x47 : Int) => ((x47 + (1 : Int)) : Int))) (fun x47 => [.val (enc (v_script : (List Int))), .val (enc (j12 : (T3 (List (Str × Int)) (List (T3 Str (Tp Int) Bool)) (List (Str × (Tp Int)))))), .val (enc (r5 : (List Str))), .val (enc (t32 : Str)), .val (.tuple [.list ((r34.a).map enc ++ [enc ((("zebra" : Str), ((Tp.mk []) : (Tp Int))) : (Str × (Tp Int)))]), .list ((r34.b).map enc ++ [enc ((("zebra" : Str), ((Tp.mk []) : (Tp Int))) : (Str × (Tp Int)))]), .list ((r34.c).map enc ++ [enc ((("zebra" : Str), ((Tp.mk []) : (Tp Int))) : (Str × (Tp Int)))])]), .val (enc (v40 : (List Int))), .un, .val (enc (x47 : Int)), .un]) [7] (ri_list (ys := v40.map enc) (rx_var (d := enc (v40 : (List Int))) rfl)) (by decide) (fun x47 _ => (rg_name (i := 7) (d := enc (x47 : Int)))) (fun x47 _ D48 acc49 => (rx_add (rx_var (d := enc (x47 : Int)) rfl) rx_int)))))))) E S (fun hc F H f E S => ?_) (fun hc F H f E S => ?_)
        · rw [if_pos hc] at hm0
          replace fc := fc.trans f
          obtain rfl := Option.some.inj hm0
          -- return
          try (with_reducible refine nxD ?_)
          refine st_ret (d := enc (false : Bool)) rx_bl E S fun v F H f S r => ?_
          exact k v F H S.stp r
        · rw [if_neg (by rw [hc]; decide)] at hm0
          replace fc := fc.trans f
          refine nxt ?_
          obtain ⟨r54, h55, hm0⟩ := bindE hm0
          obtain ⟨b56, h57, hm0⟩ := bindE hm0
          obtain rfl := Option.some.inj hm0
          -- return
          try (with_reducible refine nxD ?_)
          refine st_ret (d := enc (b56 : Bool)) (rx_eqO h57 (RX.h (rx_callX (mg := mg) (R := R_read) (ds := [enc (t32 : Str)]) (d := enc (r54 : (T3 (List (Str × Int)) (List (T3 Str (Tp Int) Bool)) (List (Str × (Tp Int)))))) ⟨_, _, rfl, rfl, (okO_some h55)⟩ (ra_cons (rx_var (d := enc (t32 : Str)) rfl) ra_nil))) (RX.h (rx_var (d := enc (j12 : (T3 (List (Str × Int)) (List (T3 Str (Tp Int) Bool)) (List (Str × (Tp Int)))))) rfl))) E S fun v F H f S r => ?_
          exact k v F H S.stp r
      · have E : EnvR K _ _ [.val (enc (v_script : (List Int))), .val (enc (j12 : (T3 (List (Str × Int)) (List (T3 Str (Tp Int) Bool)) (List (Str × (Tp Int)))))), .val (enc (r5 : (List Str))), .val (enc (t32 : Str)), .tow [p_found37, p_found38, p_found39], .val (enc (v40 : (List Int))), .adr p_part, .un, .un] := E
        have S : Hx K _ _ _ _ (⟨p_part, true, es⟩ :: Or_) _ := S
        have hn : appO es (enc ((("zebra" : Str), ((Tp.mk []) : (Tp Int))) : (Str × (Tp Int)))) = some (es ++ [enc ((("zebra" : Str), ((Tp.mk []) : (Tp Int))) : (Str × (Tp Int)))]) := by unfold appO; rw [if_pos (hz45 es hes)]
        try (with_reducible refine nxD ?_)
        refine st_app (j := 0) (ds := es) (d := enc ((("zebra" : Str), ((Tp.mk []) : (Tp Int))) : (Str × (Tp Int)))) hn rfl (rx_tup (ds := [enc (("zebra" : Str) : Str), enc (((Tp.mk []) : (Tp Int)) : (Tp Int))]) (ra_cons (rx_str (x := ("zebra" : Str))) (ra_cons (rx_tup (ds := []) ra_nil) ra_nil))) ⟨_, rfl⟩ rfl E S fun F H f3 E S => ?_
        exact hN _ _ _ (f3) (E.weak ⟨.inl rfl, .inl rfl, .inl rfl, .inl rfl, .inl rfl, .inl rfl, .inr rfl, .inr rfl, .inr rfl, trivial⟩) S
  · rw [if_pos hc] at h13
    have fc := f
    obtain ⟨l26, h27, h13⟩ := bindE h13
    obtain ⟨v28, h29, h13⟩ := letE h13
    try (with_reducible refine nxD ?_)
    refine (st_set (i := 1) (d := enc (v28 : (T3 (List (Str × Int)) (List (T3 Str (Tp Int) Bool)) (List (Str × (Tp Int)))))) (rx_as (x := ((T3.mk r1.a r1.b l26) : (T3 (List (Str × Int)) (List (T3 Str (Tp Int) Bool)) (List (Str × (Tp Int)))))) h29 (rx_tup (ds := [enc (r1.a : (List (Str × Int))), enc (r1.b : (List (T3 Str (Tp Int) Bool))), enc (l26 : (List (Str × (Tp Int))))]) (ra_cons (rx_ixT (ds := [enc (r1.a : (List (Str × Int))), enc (r1.b : (List (T3 Str (Tp Int) Bool))), enc (r1.c : (List (Str × (Tp Int))))]) (d := enc (r1.a : (List (Str × Int)))) rfl (rx_var (d := enc (r1 : (T3 (List (Str × Int)) (List (T3 Str (Tp Int) Bool)) (List (Str × (Tp Int)))))) rfl) rx_int) (ra_cons (rx_ixT (ds := [enc (r1.a : (List (Str × Int))), enc (r1.b : (List (T3 Str (Tp Int) Bool))), enc (r1.c : (List (Str × (Tp Int))))]) (d := enc (r1.b : (List (T3 Str (Tp Int) Bool)))) rfl (rx_var (d := enc (r1 : (T3 (List (Str × Int)) (List (T3 Str (Tp Int) Bool)) (List (Str × (Tp Int)))))) rfl) rx_int) (ra_cons (RXo.frz (rxo_mapO (eα := enc) (eβ := enc) (fun x15 => [.val (enc (v_script : (List Int))), .val (enc (r1 : (T3 (List (Str × Int)) (List (T3 Str (Tp Int) Bool)) (List (Str × (Tp Int)))))), .val (enc (r5 : (List Str))), .un, .un, .un, .un, .un, .val (enc (x15 : Int))]) [8] (ri_rangeLenM (f := enc) (RX.s (rx_ixT (ds := [enc (r1.a : (List (Str × Int))), enc (r1.b : (List (T3 Str (Tp Int) Bool))), enc (r1.c : (List (Str × (Tp Int))))]) (d := enc (r1.c : (List (Str × (Tp Int))))) rfl (rx_var (d := enc (r1 : (T3 (List (Str × Int)) (List (T3 Str (Tp Int) Bool)) (List (Str × (Tp Int)))))) rfl) rx_int))) h27 (by decide) (fun x15 _ => (rg_name (i := 8) (d := enc (x15 : Int)))) (fun x15 _ y h14 D16 acc17 => by obtain ⟨t22, h23, h14⟩ := bindE h14; obtain ⟨t24, h25, h14⟩ := bindE h14; obtain rfl := Option.some.inj h14; exact (rx_tup (ds := [enc (t22 : Str), enc (t24.2 : (Tp Int))]) (ra_cons (rx_ix (atI_map enc h23) (RX.s (rx_var (d := enc (r5 : (List Str))) rfl)) (rx_var (d := enc (x15 : Int)) rfl)) (ra_cons (rx_ixT (ds := [enc (t24.1 : Str), enc (t24.2 : (Tp Int))]) (d := enc (t24.2 : (Tp Int))) rfl (rx_ix (atI_map enc h25) (RX.s (rx_ixT (ds := [enc (r1.a : (List (Str × Int))), enc (r1.b : (List (T3 Str (Tp Int) Bool))), enc (r1.c : (List (Str × (Tp Int))))]) (d := enc (r1.c : (List (Str × (Tp Int))))) rfl (rx_var (d := enc (r1 : (T3 (List (Str × Int)) (List (T3 Str (Tp Int) Bool)) (List (Str × (Tp Int)))))) rfl) rx_int)) (rx_var (d := enc (x15 : Int)) rfl)) rx_int) ra_nil)))))) ra_nil))))) E S fun σ F H f E S => ?_)
    replace fc := fc.trans f
    have E : EnvR K _ _ [.val (enc (v_script : (List Int))), .val (enc (v28 : (T3 (List (Str × Int)) (List (T3 Str (Tp Int) Bool)) (List (Str × (Tp Int)))))), .val (enc (r5 : (List Str))), .un, .un, .un, .un, .un, .un] := E
    have S : Hx K _ _ _ _ [] _ := S
    obtain rfl := Option.some.inj h13
    exact rest _ _ _ fc (E.weak ⟨.inl rfl, .inl rfl, .inl rfl, .inr rfl, .inr rfl, .inr rfl, .inr rfl, .inr rfl, .inr rfl, trivial⟩) S
  · rw [if_neg (by rw [hc]; decide)] at h13
    have fc := f
    refine nxt ?_
    obtain rfl := Option.some.inj h13
    exact rest _ _ _ fc (E.weak ⟨.inl rfl, .inl rfl, .inl rfl, .inr rfl, .inr rfl, .inr rfl, .inr rfl, .inr rfl, .inr rfl, trivial⟩) S
end
end W

namespace TL
open PySem L2
/-! ### texts as lists of signs -/
def L (s : Str) : List Nat := s.cps.toList
theorem L_ext {s t : Str} (h : L s = L t) : s = t := by
  cases s; cases t
  unfold L at h
  congr 1
  exact Array.toList_inj.mp h
theorem L_cat (s t : Str) : L (s ++ t) = L s ++ L t := by
  show (s.cps ++ t.cps).toList = _
  rw [Array.toList_append]; rfl
theorem len_L (s : Str) : s.length = (L s).length := by unfold L; rw [Array.length_toList]; rfl
theorem L_mk (l : List Nat) : L ⟨l.toArray⟩ = l := by unfold L; simp
theorem len_cat (s t : Str) : (s ++ t).length = s.length + t.length := by rw [len_L, len_L, len_L, L_cat, List.length_append]
theorem L_nil : L ("" : Str) = [] := by decide +kernel
theorem cat_nil (s : Str) : s ++ ("" : Str) = s := L_ext (by rw [L_cat, L_nil, List.append_nil])
theorem nil_cat (s : Str) : ("" : Str) ++ s = s := L_ext (by rw [L_cat, L_nil, List.nil_append])
theorem jn_eq (a : Str) (ys : List Str) : Txt.join a ys = Str.join a ys := by first | exact PySem.StrLaws.glued_eq_join a ys | exact PySem.Str.glued_eq_join a ys
theorem cat_assoc (a b c : Str) : a ++ b ++ c = a ++ (b ++ c) := L_ext (by rw [L_cat, L_cat, L_cat, L_cat, List.append_assoc])
theorem join_cons2 (a x y : Str) (r : List Str) : Txt.join a (x :: y :: r) = x ++ a ++ Txt.join a (y :: r) := by rw [jn_eq, jn_eq]; rfl
theorem join_one (a x : Str) : Txt.join a [x] = x := by rw [jn_eq]; rfl
theorem join_zero (a : Str) : Txt.join a [] = ("" : Str) := by rw [jn_eq]; exact L_ext (by rw [L_nil]; rfl)
theorem join_len (a : Str) (m : Nat) : ∀ ys : List Str, (∀ y ∈ ys, y.length ≤ m) → (Txt.join a ys).length ≤ ys.length * (m + a.length)
  | [], _ => by rw [join_zero, len_L, L_nil]; simp
  | [x], h => by
    rw [join_one]
    have := h x (by simp)
    simp; omega
  | x :: y :: r, h => by
    rw [join_cons2, len_cat, len_cat]
    have h1 := h x (by simp)
    have h2 := join_len a m (y :: r) fun z hz => h z (List.mem_cons_of_mem _ hz)
    have e : (x :: y :: r).length * (m + a.length) = (y :: r).length * (m + a.length) + (m + a.length) := by rw [List.length_cons, Nat.add_mul, Nat.one_mul]
    omega
theorem sum_le (m : Nat) : ∀ ys : List Str, (∀ y ∈ ys, y.length ≤ m) → (ys.map (·.length)).sum ≤ ys.length * m
  | [], _ => by simp
  | x :: r, h => by
    have h1 := h x (by simp)
    have h2 := sum_le m r fun z hz => h z (List.mem_cons_of_mem _ hz)
    have e : (x :: r).length * m = r.length * m + m := by rw [List.length_cons, Nat.add_mul, Nat.one_mul]
    simp only [List.map_cons, List.sum_cons]
    omega
theorem joinO_eq {a : Str} {ys : List Str} (m : Nat) (h : ∀ y ∈ ys, y.length ≤ m) (hm : ys.length * m + ys.length * a.length ≤ 16777216) : joinO a ys = some (Txt.join a ys) := by
  unfold joinO
  have := sum_le m ys h
  exact if_pos (by omega)
theorem catSO_eq {x y : Str} (h : x.length + y.length ≤ 16777216) : catSO x y = some (x ++ y) := if_pos h
theorem cutSO_eq {z : Str} {lo hi : Option Int} (h : z.length ≤ 16777216) : cutSO z lo hi = some (cutS z lo hi) := if_pos h
theorem mulSO_eq {z : Str} {n : Int} (h : z.length ≤ 1000) (h0 : 0 ≤ n) (h1 : n ≤ 1000) : mulSO z n = some (Txt.mul z n) := if_pos ⟨h, h0, h1⟩
theorem L_cutS (z : Str) (lo hi : Option Int) : L (cutS z lo hi) = ((L z).drop (HT.sIx z.length 0 lo)).take (HT.sIx z.length z.length hi - HT.sIx z.length 0 lo) := by
  unfold cutS
  rw [L_mk]; rfl
theorem L_from (z : Str) (n : Int) (h : 0 ≤ n) : L (cutS z (some n) none) = (L z).drop n.toNat := by
  rw [L_cutS]
  unfold HT.sIx
  simp only
  rw [if_neg (by omega)]
  rw [List.take_of_length_le (by rw [List.length_drop, ← len_L]; omega)]
  rcases Nat.le_total n.toNat z.length with q | q
  · rw [Nat.min_eq_left q]
  · rw [Nat.min_eq_right q, List.drop_of_length_le (by rw [← len_L]; omega), List.drop_of_length_le (by rw [← len_L]; omega)]
theorem L_to (z : Str) (n : Int) (h : 0 ≤ n) : L (cutS z none (some n)) = (L z).take n.toNat := by
  rw [L_cutS]
  unfold HT.sIx
  simp only
  rw [if_neg (by omega), List.drop_zero, Nat.sub_zero]
  rcases Nat.le_total n.toNat z.length with q | q
  · rw [Nat.min_eq_left q]
  · rw [Nat.min_eq_right q, List.take_of_length_le (by rw [← len_L]; exact Nat.le_refl _), List.take_of_length_le (by rw [← len_L]; omega)]
theorem L_mulx : ∀ k : Fin 12, L (Txt.mul ("x" : Str) (k.val : Int)) = List.replicate k.val 120 := by decide +kernel
theorem mulx {n : Int} (h0 : 0 ≤ n) (h : n < 12) : Ok (mulSO ("x" : Str) n) fun r => L r = List.replicate n.toNat 120 := by
  refine ⟨_, mulSO_eq (by decide +kernel) h0 (by omega), ?_⟩
  have := L_mulx ⟨n.toNat, by omega⟩
  simp only [Int.toNat_of_nonneg h0] at this
  exact this
abbrev LET : Str := "abcdefghijklmnopqrstuvwxyz"
theorem sign_LET0 : ∀ k : Fin 26, signAt LET (k.val : Int) = some ⟨#[97 + k.val]⟩ := by decide +kernel
theorem sign_LET {i : Int} (h0 : 0 ≤ i) (h : i < 26) : signAt LET i = some ⟨#[97 + i.toNat]⟩ := by
  have := sign_LET0 ⟨i.toNat, by omega⟩
  simp only [Int.toNat_of_nonneg h0] at this
  exact this
theorem L_one (c : Nat) : L ⟨#[c]⟩ = [c] := rfl
/-! ### names -/
def Let (s : Str) : Prop := ∀ c ∈ L s, 97 ≤ c ∧ c ≤ 122
abbrev BAR : List Str := [("in" : Str), ("gate" : Str), ("sure" : Str), ("out" : Str), ("not" : Str), ("and" : Str), ("or" : Str), ("xor" : Str), ("vote" : Str)]
structure Nm (s : Str) : Prop where
  l1 : 1 ≤ s.length
  l8 : s.length ≤ 8
  lt : Let s
  bar : s ∉ BAR
instance (s : Str) : Decidable (Let s) := by unfold Let; infer_instance
theorem Nm.of {s : Str} (h : 1 ≤ s.length ∧ s.length ≤ 8 ∧ Let s ∧ s ∉ BAR) : Nm s := ⟨h.1, h.2.1, h.2.2.1, h.2.2.2⟩
/-- zzaa .. -/
def SPARE : List Str := (List.range 80).map fun n => ⟨#[122, 122, 97 + n / 26, 97 + n % 26]⟩
theorem spare_nm : ∀ s ∈ SPARE, 1 ≤ s.length ∧ s.length ≤ 8 ∧ Let s ∧ s ∉ BAR := by decide +kernel
theorem spare_nd : SPARE.Nodup := by decide +kernel
theorem spare_len : SPARE.length = 80 := rfl
theorem sub_len {α : Type} [DecidableEq α] : ∀ (xs ys : List α), xs.Nodup → (∀ x ∈ xs, x ∈ ys) → xs.length ≤ ys.length
  | [], _, _, _ => Nat.zero_le _
  | x :: xs, ys, hn, h => by
    rw [List.nodup_cons] at hn
    have h1 := sub_len xs (ys.erase x) hn.2 fun y hy => (List.mem_erase_of_ne (fun e => hn.1 (by subst e; exact hy))).mpr (h y (List.mem_cons_of_mem _ hy))
    have h2 := List.length_erase_of_mem (h x (List.mem_cons_self ..))
    have h3 : 0 < ys.length := List.length_pos_of_mem (h x (List.mem_cons_self ..))
    rw [List.length_cons]
    omega
theorem fresh {α : Type} [DecidableEq α] : ∀ (xs ys : List α), xs.Nodup → ys.length < xs.length → ∃ x r, xs.filter (fun x => !decide (x ∈ ys)) = x :: r ∧ x ∈ xs ∧ x ∉ ys := by
  intro xs ys hn hl
  cases e : xs.filter (fun x => !decide (x ∈ ys)) with
  | cons x r =>
    have hx : x ∈ xs.filter (fun x => !decide (x ∈ ys)) := by rw [e]; exact List.mem_cons_self ..
    rw [List.mem_filter] at hx
    exact ⟨x, r, rfl, hx.1, by simpa using hx.2⟩
  | nil =>
    exfalso
    have hs : xs ⊆ ys := fun x hx => by
      rw [List.filter_eq_nil_iff] at e
      simpa using e x hx
    have := sub_len xs ys hn hs
    omega
theorem Ok.is {α : Type} {m : Option α} {x : α} (h : m = some x) : Ok m fun r => r = x := ⟨x, h, rfl⟩
theorem Let.ok {s : Str} (h : Let s) : EqD.ok s = true := by
  show (s.cps.all fun c => _) = true
  rw [← Array.all_toList, List.all_eq_true]
  intro c hc
  have := h c hc
  exact decide_eq_true (by omega)
theorem strs_ok {xs : List Str} (h : ∀ s ∈ xs, Let s) : EqD.ok xs = true := by
  show (xs.all EqD.ok) = true
  rw [List.all_eq_true]
  exact fun s hs => (h s hs).ok
end TL

namespace TL
open PySem PySem.Spec PyProof.Rows L2
open Enc
/-! ### names -/
theorem lett_mem (c : Nat) : c ∈ LETT.cps.toList ↔ 97 ≤ c ∧ c ≤ 122 := by
  rw [show LETT.cps.toList = (List.range 26).map (fun i => 97 + i) from by decide +kernel]
  simp only [List.mem_map, List.mem_range]
  constructor
  · rintro ⟨i, h, rfl⟩
    omega
  · intro h
    exact ⟨c - 97, by omega, by omega⟩
theorem filt_let (z : Str) : (signs z).filter (fun x => !sgIn x LETT) = [] ↔ Let z := by
  rw [List.filter_eq_nil_iff]
  unfold signs Let
  constructor
  · intro h c hc
    have := h ⟨#[c]⟩ (List.mem_map.mpr ⟨c, hc, rfl⟩)
    rw [← lett_mem]
    simpa [sgIn] using this
  · intro h x hx
    obtain ⟨c, hc, rfl⟩ := List.mem_map.mp hx
    have := (lett_mem c).mpr (h c hc)
    simpa [sgIn] using this
theorem isName_iff (z : Str) : isNameB z = true ↔ Nm z := by
  unfold isNameB
  constructor
  · intro h
    split at h
    · cases h
    · rename_i c
      have hl := (filt_let z).mp (of_decide_eq_true h)
      simp only [Bool.or_eq_true, Bool.not_eq_true', Bool.and_eq_false_imp, not_or, decide_eq_true_eq] at c
      obtain ⟨c1, c2⟩ := c
      refine ⟨?_, ?_, hl, c2⟩
      · by_cases q : (1 : Int) ≤ z.length
        · omega
        · exact absurd (fun e => absurd e q) c1
      · by_cases q : (z.length : Int) ≤ 8
        · omega
        · exact absurd (fun _ => decide_eq_false q) c1
  · intro n
    have h1 := n.l1
    have h8 := n.l8
    rw [if_neg]
    · exact decide_eq_true ((filt_let z).mpr n.lt)
    · rw [decide_eq_true (show (1 : Int) ≤ z.length by omega), decide_eq_true (show (z.length : Int) ≤ 8 by omega), decide_eq_false (show z ∉ BARR from n.bar)]
      decide
theorem named_ok {n : Str} (h : Nm n) : namedX n = .ok n := by
  unfold namedX
  rw [(isName_iff n).mpr h]
  rfl
theorem named_er {n : Str} (h : ¬ Nm n) : namedX n = .er "NoForm" := by
  unfold namedX
  have : isNameB n = false := by
    cases e : isNameB n with
    | false => rfl
    | true => exact absurd ((isName_iff n).mp e) h
  rw [this]
  rfl
theorem Let.no {s : Str} (h : Let s) {c : Nat} (hc : ¬ (97 ≤ c ∧ c ≤ 122)) : c ∉ L s := fun hm => hc (h c hm)
/-! ### rows and words -/
theorem rowX_join {ws : List Str} (h : ws ≠ []) (hp : ∀ w ∈ ws, 32 ∉ L w) : rowX (Txt.join " " ws) = rowW ws := by
  unfold rowX
  rw [split_join (s := 32) (S := []) (by decide +kernel) (by decide +kernel) h hp]
theorem rows_join {rs : List Str} (h : rs ≠ []) (hp : ∀ r ∈ rs, 10 ∉ L r) : Txt.split (Txt.join "\n" rs) "\n" = rs :=
  split_join (s := 10) (S := []) (by decide +kernel) (by decide +kernel) h hp
theorem readX_join {rs : List Str} (h : rs ≠ []) (hp : ∀ r ∈ rs, 10 ∉ L r) : readX (Txt.join "\n" rs) = if decide ((80 : Int) < rs.length) = true then .er "TooLong" else (foldX rowS rs Rd0).bind fun s => if (decide (s.i = []) || decide (s.o = [])) = true then .er "Open" else .ok (T3.mk s.i s.g s.o) := by
  unfold readX
  rw [rows_join h hp]
  rfl
theorem foldX_app {α S : Type} (f : S → α → Rx S) : ∀ (xs ys : List α) (s : S), foldX f (xs ++ ys) s = (foldX f xs s).bind fun s' => foldX f ys s'
  | [], ys, s => rfl
  | x :: xs, ys, s => by
    show (f s x).bind (fun s' => foldX f (xs ++ ys) s') = ((f s x).bind fun s' => foldX f xs s').bind fun s' => foldX f ys s'
    cases f s x with
    | ok s1 => exact foldX_app f xs ys s1
    | er z => rfl
/-! ### wires' words -/
/-- a name, or a name and a place -/
inductive Wd : Str → Prop where
  | n {a : Str} (h : Nm a) : Wd a
  | p {a : Str} (h : Nm a) (c : Nat) (hc : 48 ≤ c ∧ c ≤ 57) : Wd (a ++ ":" ++ ⟨#[c]⟩)
theorem figs_mem (c : Nat) : c ∈ FIGS.cps.toList ↔ 48 ≤ c ∧ c ≤ 57 := by
  rw [show FIGS.cps.toList = (List.range 10).map (fun i => 48 + i) from by decide +kernel]
  simp only [List.mem_map, List.mem_range]
  constructor
  · rintro ⟨i, h, rfl⟩
    omega
  · intro h
    exact ⟨c - 48, by omega, by omega⟩
theorem tl_colon : tl (":" : Str) = [58] := by decide +kernel
theorem Wd.good {x : Str} (h : Wd x) : badWire x = false := by
  cases h with
  | n h =>
    unfold badWire
    rw [partition_none tl_colon (h.lt.no (by decide)), (isName_iff _).mpr h]
    show (!true || ((!decide (Str.empty = ("" : Str))) && _)) = false
    rw [decide_eq_true (show Str.empty = ("" : Str) by decide +kernel)]
    rfl
  | p h c hc =>
    unfold badWire
    rw [partition_app tl_colon (h.lt.no (by decide)), (isName_iff _).mpr h]
    have e : sgIn (⟨#[c]⟩ : Str) FIGS = true := decide_eq_true ((figs_mem c).mpr hc)
    show (!true || ((!decide ((":" : Str) = "")) && ((!decide ((((⟨#[c]⟩ : Str).length : Nat) : Int) = 1)) || !sgIn (⟨#[c]⟩ : Str) FIGS))) = false
    rw [e, decide_eq_true (show (((⟨#[c]⟩ : Str).length : Nat) : Int) = 1 from rfl)]
    simp
theorem wire_ok {x : Str} (h : badWire x = false) : wireX x = .ok x := by
  unfold wireX
  rw [h]
  rfl
theorem wire_er {x : Str} (h : badWire x = true) : wireX x = .er "NoForm" := by
  unfold wireX
  rw [h]
  rfl
theorem wires_okX : ∀ {ws : List Str}, (∀ w ∈ ws, badWire w = false) → mapX wireX ws = .ok ws
  | [], _ => rfl
  | w :: ws, h => by
    unfold mapX
    rw [wire_ok (h w List.mem_cons_self), wires_okX fun x hx => h x (List.mem_cons_of_mem _ hx)]
    rfl
theorem strI3 : strI 1 = "1" ∧ strI 2 = "2" ∧ strI 3 = "3" := by decide +kernel
theorem rowW_in {n : Str} {w : Int} (h : Nm n) (h1 : 1 ≤ w) (h3 : w ≤ 3) : rowW [("in" : Str), n, strI w] = .ok (.i n w) := by
  have key : ∀ z : Str, z ∈ WIDS → rowW [("in" : Str), n, z] = .ok (.i n (widI z)) := fun z hz => by
    have c : cIn [("in" : Str), n, z] = true := by
      show (decide (("in" : Str) = "in") && (decide ((3 : Int) = 3) && decide (z ∈ WIDS))) = true
      rw [decide_eq_true hz]
      decide +kernel
    unfold rowW
    rw [if_pos c]
    show (namedX n).bind _ = _
    rw [named_ok h]
    rfl
  obtain ⟨e1, e2, e3⟩ := strI3
  rcases (by omega : w = 1 ∨ w = 2 ∨ w = 3) with rfl | rfl | rfl
  · rw [e1, key _ (by decide +kernel)]
    exact congrArg (fun q => Rx.ok (Said.i n q)) (by decide +kernel)
  · rw [e2, key _ (by decide +kernel)]
    exact congrArg (fun q => Rx.ok (Said.i n q)) (by decide +kernel)
  · rw [e3, key _ (by decide +kernel)]
    exact congrArg (fun q => Rx.ok (Said.i n q)) (by decide +kernel)
theorem rowW_out {n : Str} {ws : List Str} (h : Nm n) (h1 : 1 ≤ ws.length) (h3 : ws.length ≤ 3) : rowW (("out" : Str) :: n :: ws) = (mapX wireX ws).bind fun l => .ok (.o n l) := by
  have c1 : cIn (("out" : Str) :: n :: ws) = false := by
    show (decide (("out" : Str) = "in") && _) = false
    rw [show decide (("out" : Str) = "in") = false from by decide +kernel]
    rfl
  have c2 : cGate (("out" : Str) :: n :: ws) = false := by
    show (decide (("out" : Str) ∈ (["gate", "sure"] : List Str)) && _) = false
    rw [show decide (("out" : Str) ∈ (["gate", "sure"] : List Str)) = false from by decide +kernel]
    rfl
  have c3 : cOut (("out" : Str) :: n :: ws) = true := by
    show (decide (("out" : Str) = "out") && (decide ((3 : Int) ≤ ((("out" : Str) :: n :: ws).length : Nat)) && decide (((("out" : Str) :: n :: ws).length : Nat) ≤ (2 : Int) + 3))) = true
    rw [decide_eq_true (show (3 : Int) ≤ ((("out" : Str) :: n :: ws).length : Nat) by simp only [List.length_cons]; omega), decide_eq_true (show (((("out" : Str) :: n :: ws).length : Nat) : Int) ≤ 2 + 3 by simp only [List.length_cons]; omega)]
    decide +kernel
  unfold rowW
  rw [if_neg (by rw [c1]; decide), if_neg (by rw [c2]; decide), if_pos c3]
  show (namedX n).bind _ = _
  rw [named_ok h]
  rfl
theorem rowW_gate {a n k : Str} {ws : List Str} (ha : a = "gate" ∨ a = "sure") (h : Nm n) (hk : (dlit LEGL k).getD 0 = ws.length) (h1 : 1 ≤ ws.length) : rowW (a :: n :: k :: ws) = (mapX wireX ws).bind fun l => .ok (.g a n k l) := by
  have c1 : cIn (a :: n :: k :: ws) = false := by
    show (decide (a = "in") && _) = false
    rw [decide_eq_false (by rcases ha with rfl | rfl <;> decide +kernel)]
    rfl
  have c2 : cGate (a :: n :: k :: ws) = true := by
    show (decide (a ∈ (["gate", "sure"] : List Str)) && (decide ((3 : Int) < ((a :: n :: k :: ws).length : Nat)) && decide ((dlit LEGL k).getD 0 = ((a :: n :: k :: ws).length : Nat) - 3))) = true
    rw [decide_eq_true (by rcases ha with rfl | rfl <;> decide +kernel), decide_eq_true (show (3 : Int) < ((a :: n :: k :: ws).length : Nat) by simp only [List.length_cons]; omega), decide_eq_true (show (dlit LEGL k).getD 0 = (((a :: n :: k :: ws).length : Nat) : Int) - 3 by rw [hk]; simp only [List.length_cons]; omega)]
    rfl
  unfold rowW
  rw [if_neg (by rw [c1]; decide), if_pos c2]
  show (namedX n).bind _ = _
  rw [named_ok h]
  rfl
/-! ### the wires' table -/
def numW (ws : List Str) : List (Str × Int) := (enumL ws).map fun p => (p.2, p.1)
theorem num_app (ws : List Str) (x : Str) : numW (ws ++ [x]) = numW ws ++ [(x, (ws.length : Int))] := by
  unfold numW enumL
  simp [List.zipIdx_append]
theorem num_keys (ws : List Str) : (numW ws).map (·.1) = ws := by
  unfold numW enumL
  rw [List.map_map, List.map_map]
  have : ∀ (ws : List Str) (k : Nat), (ws.zipIdx k).map (((fun x => x.1) ∘ fun p => (p.2, p.1)) ∘ fun p : Str × Nat => (((p.2 : Nat) : Int), p.1)) = ws := by
    intro ws
    induction ws with
    | nil => intro k; rfl
    | cons x xs ih => intro k; rw [List.zipIdx_cons, List.map_cons, ih]; rfl
  exact this ws 0
theorem num_len (ws : List Str) : (numW ws).length = ws.length := by
  have := congrArg List.length (num_keys ws)
  rwa [List.length_map] at this
theorem put_num {ws : List Str} {x : Str} (h : x ∉ ws) : putM (numW ws) x ((numW ws).length : Int) = numW (ws ++ [x]) := by
  rw [num_app, num_len]
  unfold putM
  rw [if_neg]
  intro c
  rw [List.any_eq_true] at c
  obtain ⟨p, hp, e⟩ := c
  have e := of_decide_eq_true e
  subst e
  exact h (by rw [← num_keys ws]; exact List.mem_map.mpr ⟨p, hp, rfl⟩)
theorem get_num : ∀ {ws : List Str} (k : Nat), ws.Nodup → ∀ {i : Nat} {x : Str}, ws[i]? = some x → (((ws.zipIdx k).map fun p : Str × Nat => (p.1, ((p.2 : Nat) : Int))).find? fun p => decide (p.1 = x)) = some (x, ((k + i : Nat) : Int))
  | [], k, _, i, x, h => by simp at h
  | w :: ws, k, hn, i, x, h => by
    rw [List.nodup_cons] at hn
    rw [List.zipIdx_cons, List.map_cons, List.find?_cons]
    cases i with
    | zero =>
      simp at h
      subst h
      simp
    | succ i =>
      have h : ws[i]? = some x := by simpa using h
      have ne : ¬ w = x := fun e => hn.1 (by rw [e]; exact List.mem_iff_getElem?.mpr ⟨i, h⟩)
      rw [show decide ((w, ((k : Nat) : Int)).1 = x) = false from decide_eq_false ne]
      simp only
      rw [get_num (k + 1) hn.2 h]
      congr 2
      omega
theorem num_get {ws : List Str} (hn : ws.Nodup) {i : Nat} {x : Str} (h : ws[i]? = some x) : getM (numW ws) x = some (i : Int) := by
  have e : numW ws = (ws.zipIdx 0).map fun p : Str × Nat => (p.1, ((p.2 : Nat) : Int)) := by
    unfold numW enumL
    rw [List.map_map]
    rfl
  unfold getM
  rw [e, get_num 0 hn h, Nat.zero_add]
  rfl
theorem num_has {ws : List Str} {x : Str} : hasM (numW ws) x = decide (x ∈ ws) := by
  unfold hasM getM
  by_cases h : x ∈ ws
  · rw [decide_eq_true h, Option.isSome_map, List.find?_isSome]
    rw [← num_keys ws] at h
    obtain ⟨p, hp, e⟩ := List.mem_map.mp h
    exact ⟨p, hp, decide_eq_true e⟩
  · rw [decide_eq_false h, Option.isSome_map]
    cases e : (numW ws).find? (fun p => decide (p.1 = x)) with
    | none => rfl
    | some p =>
      have h1 := List.find?_some e
      have h2 := List.mem_of_find?_eq_some e
      have h1 : p.1 = x := of_decide_eq_true h1
      exact absurd (by rw [← num_keys ws, ← h1]; exact List.mem_map.mpr ⟨p, h2, rfl⟩) h
end TL

namespace TL
open PySem PySem.Spec PyProof.Rows L2
open Enc
/-! ### the ins are read -/
def inWr (x : Str × Int) : List Str := if x.2 = 1 then [x.1] else (figsL x.2).map fun c => x.1 ++ ":" ++ c
def inRow (x : Str × Int) : Str := Txt.join " " [("in" : Str), x.1, strI x.2]
theorem figs_is : figsL 1 = [⟨#[48]⟩] ∧ figsL 2 = [⟨#[48]⟩, ⟨#[49]⟩] ∧ figsL 3 = [⟨#[48]⟩, ⟨#[49]⟩, ⟨#[50]⟩] := by decide +kernel
theorem figs_mem3 {w : Int} (h1 : 1 ≤ w) (h3 : w ≤ 3) {c : Str} (h : c ∈ figsL w) : ∃ k, c = ⟨#[k]⟩ ∧ 48 ≤ k ∧ k ≤ 57 := by
  obtain ⟨e1, e2, e3⟩ := figs_is
  rcases (by omega : w = 1 ∨ w = 2 ∨ w = 3) with rfl | rfl | rfl
  · rw [e1] at h
    simp only [List.mem_cons, List.not_mem_nil, or_false] at h
    exact ⟨48, h, by decide, by decide⟩
  · rw [e2] at h
    simp only [List.mem_cons, List.not_mem_nil, or_false] at h
    rcases h with h | h
    · exact ⟨48, h, by decide, by decide⟩
    · exact ⟨49, h, by decide, by decide⟩
  · rw [e3] at h
    simp only [List.mem_cons, List.not_mem_nil, or_false] at h
    rcases h with h | h | h
    · exact ⟨48, h, by decide, by decide⟩
    · exact ⟨49, h, by decide, by decide⟩
    · exact ⟨50, h, by decide, by decide⟩
theorem figs_nd {w : Int} (h1 : 1 ≤ w) (h3 : w ≤ 3) : (figsL w).Nodup := by
  rcases (by omega : w = 1 ∨ w = 2 ∨ w = 3) with rfl | rfl | rfl <;> decide +kernel
/-- a fit in -/
structure InOk (x : Str × Int) : Prop where
  n : Nm x.1
  w1 : 1 ≤ x.2
  w3 : x.2 ≤ 3
theorem inWr_wd {x : Str × Int} (h : InOk x) : ∀ s ∈ inWr x, Wd s ∧ (Txt.partition s ":").1 = x.1 := fun s hs => by
  unfold inWr at hs
  split at hs
  · rw [List.mem_singleton] at hs
    subst hs
    exact ⟨.n h.n, by rw [partition_none tl_colon (h.n.lt.no (by decide))]⟩
  · obtain ⟨c, hc, rfl⟩ := List.mem_map.mp hs
    obtain ⟨k, rfl, k1, k2⟩ := figs_mem3 h.w1 h.w3 hc
    exact ⟨.p h.n k ⟨k1, k2⟩, by rw [partition_app tl_colon (h.n.lt.no (by decide))]⟩
theorem inWr_nd {x : Str × Int} (h : InOk x) : (inWr x).Nodup := by
  unfold inWr
  split
  · simp
  · refine List.Pairwise.map _ (fun a b ne e => ne ?_) (figs_nd h.w1 h.w3)
    have e := congrArg L e
    rw [L_cat, L_cat, L_cat, L_cat] at e
    exact L_ext (List.append_cancel_left e)
theorem words_nd : ∀ {xs : List (Str × Int)}, (∀ x ∈ xs, InOk x) → (xs.map (·.1)).Nodup → (xs.flatMap inWr).Nodup
  | [], _, _ => by simp
  | x :: xs, h, hn => by
    rw [List.map_cons, List.nodup_cons] at hn
    rw [List.flatMap_cons, List.nodup_append]
    refine ⟨inWr_nd (h x List.mem_cons_self), words_nd (fun y hy => h y (List.mem_cons_of_mem _ hy)) hn.2, fun a ha b hb e => ?_⟩
    subst e
    obtain ⟨y, hy, hb⟩ := List.mem_flatMap.mp hb
    have h1 := (inWr_wd (h x List.mem_cons_self) a ha).2
    have h2 := (inWr_wd (h y (List.mem_cons_of_mem _ hy)) a hb).2
    exact hn.1 (by rw [← h1, h2]; exact List.mem_map.mpr ⟨y, hy, rfl⟩)
theorem puts_num (a : Str) : ∀ (ps : List Str) (ws : List Str), (ws ++ ps.map fun c => a ++ ":" ++ c).Nodup → putsM a (numW ws) ps = numW (ws ++ ps.map fun c => a ++ ":" ++ c)
  | [], ws, _ => by simp [putsM]
  | p :: ps, ws, h => by
    have e : ws ++ (p :: ps).map (fun c => a ++ ":" ++ c) = (ws ++ [a ++ ":" ++ p]) ++ ps.map fun c => a ++ ":" ++ c := by simp
    rw [e] at h ⊢
    have hx : a ++ ":" ++ p ∉ ws := fun hm => by
      have := (List.nodup_append.mp ((List.nodup_append.mp h).1)).2.2 _ hm _ (List.mem_singleton.mpr rfl)
      exact this rfl
    rw [← puts_num a ps _ h]
    show putsM a (putM (numW ws) (a ++ ":" ++ p) ((numW ws).length : Int)) ps = _
    rw [put_num hx]
def stI (is : List (Str × Int)) : Rd := ⟨is, [], [], numW (is.flatMap inWr), is.map (·.1)⟩
theorem in_step {is : List (Str × Int)} {x : Str × Int} (h : ∀ y ∈ is ++ [x], InOk y) (hn : ((is ++ [x]).map (·.1)).Nodup) (h6 : is.length < 6) : inX (stI is) x.1 x.2 = .ok (stI (is ++ [x])) := by
  have hw := words_nd h hn
  rw [List.flatMap_append] at hw
  have hx : x.1 ∉ is.map (·.1) := fun hm => by
    rw [List.map_append] at hn
    exact (List.nodup_append.mp hn).2.2 _ hm _ (List.mem_singleton.mpr rfl) rfl
  unfold inX
  rw [if_neg (by show ¬ ((!decide (([] : List (T3 Str (Tp Int) Bool)) = [])) || (!decide (([] : List (Str × Tp Int)) = []))) = true; simp), if_neg (by rw [decide_eq_false (show x.1 ∉ (stI is).n from hx)]; decide), if_neg (by rw [decide_eq_false (show ¬ (((stI is).i.length : Nat) : Int) = 6 by show ¬ ((is.length : Nat) : Int) = 6; omega)]; decide)]
  have e : (if decide (x.2 = 1) = true then putM (stI is).w x.1 ((stI is).w.length : Int) else putsM x.1 (stI is).w (figsL x.2)) = numW ((is ++ [x]).flatMap inWr) := by
    rw [List.flatMap_append]
    show _ = numW (is.flatMap inWr ++ [x].flatMap inWr)
    rw [show [x].flatMap inWr = inWr x by simp] at hw ⊢
    unfold inWr at hw ⊢
    by_cases c : x.2 = 1
    · rw [if_pos (decide_eq_true c)]
      rw [if_pos c] at hw ⊢
      refine put_num fun hm => ?_
      exact (List.nodup_append.mp hw).2.2 _ hm _ (List.mem_singleton.mpr rfl) rfl
    · rw [if_neg (by rw [decide_eq_false c]; decide)]
      rw [if_neg c] at hw ⊢
      exact puts_num _ _ _ hw
  rw [e]
  unfold stI
  rw [List.map_append]
  rfl
theorem in_row {is : List (Str × Int)} {x : Str × Int} (h : ∀ y ∈ is ++ [x], InOk y) (hn : ((is ++ [x]).map (·.1)).Nodup) (h6 : is.length < 6) : rowS (stI is) (inRow x) = .ok (stI (is ++ [x])) := by
  have hx := h x (by simp)
  unfold rowS inRow
  have h0 : ∀ w ∈ [("in" : Str), x.1, strI x.2], 32 ∉ L w := fun w hw => by
    simp only [List.mem_cons, List.not_mem_nil, or_false] at hw
    rcases hw with rfl | rfl | rfl
    · decide +kernel
    · exact hx.n.lt.no (by decide)
    · obtain ⟨e1, e2, e3⟩ := strI3
      have w1 := hx.w1
      have w3 := hx.w3
      rcases (by omega : x.2 = 1 ∨ x.2 = 2 ∨ x.2 = 3) with e | e | e
      · rw [e, e1]; decide +kernel
      · rw [e, e2]; decide +kernel
      · rw [e, e3]; decide +kernel
  rw [rowX_join (by simp) h0, rowW_in hx.n hx.w1 hx.w3]
  exact in_step h hn h6
theorem ins_fold : ∀ (todo is : List (Str × Int)), (∀ y ∈ is ++ todo, InOk y) → ((is ++ todo).map (·.1)).Nodup → (is ++ todo).length ≤ 6 → foldX rowS (todo.map inRow) (stI is) = .ok (stI (is ++ todo))
  | [], is, _, _, _ => by rw [List.append_nil]; rfl
  | x :: todo, is, h, hn, h6 => by
    have e : is ++ x :: todo = (is ++ [x]) ++ todo := by simp
    rw [e] at h hn h6 ⊢
    rw [List.map_cons]
    unfold foldX
    rw [in_row (fun y hy => h y (List.mem_append_left _ hy)) (by rw [List.map_append] at hn; exact (List.nodup_append.mp hn).1) (by simp at h6; omega)]
    exact ins_fold todo (is ++ [x]) h hn h6
theorem stI_nil : stI [] = Rd0 := rfl
end TL

namespace TL
open PySem PySem.Spec PyProof.Rows L2
open Enc
/-! ### a whole net is read -/
abbrev GtT : Type := T3 Str (Tp Int) Bool
def wdAt (ws : List Str) (w : Int) : Str := ws.getD w.toNat ""
def gRow (ws : List Str) (g : GtT) (nm : Str) : Str := Txt.join " " ((if g.c = true then ("sure" : Str) else ("gate" : Str)) :: nm :: g.a :: g.b.l.map (wdAt ws))
def oRow (ws : List Str) (o : Str × Tp Int) : Str := Txt.join " " (("out" : Str) :: o.1 :: o.2.l.map (wdAt ws))
def words (is : List (Str × Int)) (gn : List Str) : List Str := is.flatMap inWr ++ gn
def namesOf (is : List (Str × Int)) (gn : List Str) : List Str := is.map (·.1) ++ gn
def stG (is : List (Str × Int)) (gs : List GtT) (gn : List Str) : Rd := ⟨is, gs, [], numW (words is gn), namesOf is gn⟩
def stO (is : List (Str × Int)) (gs : List GtT) (os : List (Str × Tp Int)) (gn : List Str) : Rd := ⟨is, gs, os, numW (words is gn), namesOf is gn⟩
theorem Wd.no32 {s : Str} (h : Wd s) : 32 ∉ L s ∧ 10 ∉ L s := by
  cases h with
  | n h => exact ⟨h.lt.no (by decide), h.lt.no (by decide)⟩
  | p h c hc =>
    constructor
    · rw [L_cat, L_cat, show L (":" : Str) = [58] by decide +kernel, L_one]
      intro hm
      simp only [List.mem_append, List.mem_singleton] at hm
      rcases hm with (hm | hm) | hm
      · exact h.lt.no (by decide) hm
      · omega
      · omega
    · rw [L_cat, L_cat, show L (":" : Str) = [58] by decide +kernel, L_one]
      intro hm
      simp only [List.mem_append, List.mem_singleton] at hm
      rcases hm with (hm | hm) | hm
      · exact h.lt.no (by decide) hm
      · omega
      · omega
theorem words_wd {is : List (Str × Int)} {gn : List Str} (hi : ∀ x ∈ is, InOk x) (hg : ∀ s ∈ gn, Nm s) : ∀ s ∈ words is gn, Wd s := fun s hs => by
  rcases List.mem_append.mp hs with hs | hs
  · obtain ⟨x, hx, hs⟩ := List.mem_flatMap.mp hs
    exact (inWr_wd (hi x hx) s hs).1
  · exact .n (hg s hs)
theorem new_word {is : List (Str × Int)} {nm : Str} (hi : ∀ x ∈ is, InOk x) (h : Nm nm) (hn : nm ∉ is.map (·.1)) : nm ∉ is.flatMap inWr := fun hm => by
  obtain ⟨x, hx, hs⟩ := List.mem_flatMap.mp hm
  have h1 := (inWr_wd (hi x hx) nm hs).2
  rw [partition_none tl_colon (h.lt.no (by decide))] at h1
  have h1 : nm = x.1 := h1
  exact hn (by rw [h1]; exact List.mem_map.mpr ⟨x, hx, rfl⟩)
theorem all_nd {is : List (Str × Int)} {gn : List Str} (hi : ∀ x ∈ is, InOk x) (hg : ∀ s ∈ gn, Nm s) (hn : (namesOf is gn).Nodup) : (words is gn).Nodup := by
  obtain ⟨h1, h2, h3⟩ := List.nodup_append.mp hn
  refine List.nodup_append.mpr ⟨words_nd hi h1, h2, fun a ha b hb e => ?_⟩
  subst e
  exact new_word hi (hg a hb) (fun hm => h3 a hm a hb rfl) ha
theorem wd_at {ws rest : List Str} {w : Int} (h0 : 0 ≤ w) (h1 : w < ws.length) : ∃ x, ws[w.toNat]? = some x ∧ wdAt (ws ++ rest) w = x ∧ x ∈ ws := by
  have hl : w.toNat < ws.length := by omega
  refine ⟨ws[w.toNat], List.getElem?_eq_getElem hl, ?_, List.getElem_mem hl⟩
  unfold wdAt
  rw [List.getD_eq_getElem?_getD, List.getElem?_append_left hl, List.getElem?_eq_getElem hl]
  rfl
theorem nums_eq {s : Rd} {cur rest : List Str} {l : List Int} (hw : s.w = numW cur) (hn : cur.Nodup) (hl : ∀ w ∈ l, 0 ≤ w ∧ w < cur.length) : numsX s (l.map (wdAt (cur ++ rest))) = .ok ⟨l⟩ := by
  unfold numsX
  rw [hw]
  have h1 : (l.map (wdAt (cur ++ rest))).all (fun z => hasM (numW cur) z) = true := by
    rw [List.all_eq_true]
    intro z hz
    obtain ⟨w, hw, rfl⟩ := List.mem_map.mp hz
    obtain ⟨x, _, e, hm⟩ := wd_at (rest := rest) (hl w hw).1 (hl w hw).2
    rw [e, num_has]
    exact decide_eq_true hm
  rw [if_pos h1, List.map_map]
  have h2 : l.map ((fun z => (getM (numW cur) z).getD 0) ∘ wdAt (cur ++ rest)) = l := by
    have : ∀ w ∈ l, ((fun z => (getM (numW cur) z).getD 0) ∘ wdAt (cur ++ rest)) w = w := fun w hw => by
      obtain ⟨x, hx, e, _⟩ := wd_at (rest := rest) (hl w hw).1 (hl w hw).2
      show (getM (numW cur) (wdAt (cur ++ rest) w)).getD 0 = w
      rw [e, num_get hn hx]
      show ((w.toNat : Nat) : Int) = w
      have := (hl w hw).1
      omega
    rw [List.map_congr_left this, List.map_id']
  rw [h2]
/-- a fit gate, its wires below m -/
structure GtOk (g : GtT) (m : Int) : Prop where
  k : (dlit LEGL g.a).getD 0 = g.b.l.length
  l1 : 1 ≤ g.b.l.length
  no : 32 ∉ L g.a ∧ 10 ∉ L g.a
  w : ∀ w ∈ g.b.l, 0 ≤ w ∧ w < m
theorem gs_word (b : Bool) : (if b = true then ("sure" : Str) else ("gate" : Str)) = "gate" ∨ (if b = true then ("sure" : Str) else ("gate" : Str)) = "sure" := by cases b; exact .inl rfl; exact .inr rfl
theorem gs_sure (b : Bool) : decide ((if b = true then ("sure" : Str) else ("gate" : Str)) = "sure") = b := by cases b <;> decide +kernel
theorem gs_no (b : Bool) : 32 ∉ L (if b = true then ("sure" : Str) else ("gate" : Str)) ∧ 10 ∉ L (if b = true then ("sure" : Str) else ("gate" : Str)) := by cases b <;> decide +kernel
theorem g_row {is : List (Str × Int)} {gs : List GtT} {gn rest : List Str} {g : GtT} {nm : Str} (hi : ∀ x ∈ is, InOk x) (hg : ∀ s ∈ gn, Nm s) (hnm : Nm nm) (hn : (namesOf is (gn ++ [nm])).Nodup) (hl : gs.length < 60) (ok : GtOk g (words is gn).length) :
    rowS (stG is gs gn) (gRow (words is gn ++ rest) g nm) = .ok (stG is (gs ++ [g]) (gn ++ [nm])) := by
  have en : namesOf is (gn ++ [nm]) = namesOf is gn ++ [nm] := by unfold namesOf; simp
  rw [en] at hn
  obtain ⟨hn1, _, hn3⟩ := List.nodup_append.mp hn
  have nin : nm ∉ namesOf is gn := fun hm => hn3 nm hm nm (List.mem_singleton.mpr rfl) rfl
  have cnd := all_nd hi hg hn1
  have cwd := words_wd hi hg
  have mem : ∀ w ∈ g.b.l.map (wdAt (words is gn ++ rest)), Wd w := fun w hw => by
    obtain ⟨k, hk, rfl⟩ := List.mem_map.mp hw
    obtain ⟨x, _, e, hm⟩ := wd_at (rest := rest) (ok.w k hk).1 (ok.w k hk).2
    rw [e]
    exact cwd x hm
  have hrow : rowX (gRow (words is gn ++ rest) g nm) = .ok (.g (if g.c = true then ("sure" : Str) else ("gate" : Str)) nm g.a (g.b.l.map (wdAt (words is gn ++ rest)))) := by
    unfold gRow
    rw [rowX_join (by simp) fun w hw => by
      rcases List.mem_cons.mp hw with rfl | hw
      · exact (gs_no g.c).1
      · rcases List.mem_cons.mp hw with rfl | hw
        · exact hnm.lt.no (by decide)
        · rcases List.mem_cons.mp hw with rfl | hw
          · exact ok.no.1
          · exact (mem w hw).no32.1]
    rw [rowW_gate (gs_word g.c) hnm (by rw [List.length_map]; exact ok.k) (by rw [List.length_map]; exact ok.l1), wires_okX fun w hw => (mem w hw).good]
    rfl
  unfold rowS
  rw [hrow]
  show gateX (stG is gs gn) _ nm g.a _ = _
  have c1 : ¬ (!decide ((stG is gs gn).o = [])) = true := by
    show ¬ (!decide (([] : List (Str × Tp Int)) = [])) = true
    simp
  have c2 : ¬ decide (nm ∈ (stG is gs gn).n) = true := by
    rw [decide_eq_false (show nm ∉ (stG is gs gn).n from nin)]
    decide
  have c3 : ¬ decide ((((stG is gs gn).g.length : Nat) : Int) = 60) = true := by
    rw [decide_eq_false (show ¬ (((stG is gs gn).g.length : Nat) : Int) = 60 by show ¬ ((gs.length : Nat) : Int) = 60; omega)]
    decide
  unfold gateX
  rw [if_neg c1, if_neg c2, if_neg c3, nums_eq (s := stG is gs gn) rfl cnd ok.w, gs_sure]
  have hput : putM (stG is gs gn).w nm ((stG is gs gn).w.length : Int) = numW (words is (gn ++ [nm])) := by
    have e : words is (gn ++ [nm]) = words is gn ++ [nm] := by unfold words; simp
    rw [e]
    refine put_num fun hm => ?_
    rcases List.mem_append.mp hm with hm | hm
    · exact new_word hi hnm (fun q => nin (List.mem_append_left _ q)) hm
    · exact nin (List.mem_append_right _ hm)
  show Rx.ok (Rd.mk is (gs ++ [T3.mk g.a ⟨g.b.l⟩ g.c]) [] (putM (stG is gs gn).w nm ((stG is gs gn).w.length : Int)) (namesOf is gn ++ [nm])) = _
  rw [hput, ← en]
  rfl
theorem gs_fold {is : List (Str × Int)} (hi : ∀ x ∈ is, InOk x) : ∀ (todo : List (GtT × Str)) (gs : List GtT) (gn : List Str), (∀ s ∈ gn ++ todo.map (·.2), Nm s) → (namesOf is (gn ++ todo.map (·.2))).Nodup → gs.length + todo.length ≤ 60 →
    (∀ (p : Nat) q, todo[p]? = some q → GtOk q.1 ((words is gn).length + p)) →
    foldX rowS (todo.map fun p => gRow (words is (gn ++ todo.map (·.2))) p.1 p.2) (stG is gs gn) = .ok (stG is (gs ++ todo.map (·.1)) (gn ++ todo.map (·.2)))
  | [], gs, gn, _, _, _, _ => by simp [foldX]
  | (g, nm) :: todo, gs, gn, h1, h2, h3, h4 => by
    have e : gn ++ ((g, nm) :: todo).map (·.2) = (gn ++ [nm]) ++ todo.map (·.2) := by simp
    have e2 : words is ((gn ++ [nm]) ++ todo.map (·.2)) = words is gn ++ (nm :: todo.map (·.2)) := by unfold words; simp
    rw [e] at h1 h2 ⊢
    have hn1 : (namesOf is (gn ++ [nm])).Nodup := by
      have : namesOf is ((gn ++ [nm]) ++ todo.map (·.2)) = namesOf is (gn ++ [nm]) ++ todo.map (·.2) := by unfold namesOf; simp
      rw [this] at h2
      exact (List.nodup_append.mp h2).1
    rw [List.map_cons]
    unfold foldX
    have step := g_row (is := is) (gs := gs) (gn := gn) (rest := nm :: todo.map (·.2)) (g := g) (nm := nm) hi (fun s hs => h1 s (List.mem_append_left _ (List.mem_append_left _ hs))) (h1 nm (by simp)) hn1 (by rw [List.length_cons] at h3; omega) (by have := h4 0 (g, nm) rfl; simpa using this)
    rw [e2, step]
    show foldX rowS _ (stG is (gs ++ [g]) (gn ++ [nm])) = _
    rw [← e2]
    have ih := gs_fold hi todo (gs ++ [g]) (gn ++ [nm]) h1 h2 (by rw [List.length_append, List.length_singleton]; rw [List.length_cons] at h3; omega) fun p q hq => by
      have := h4 (p + 1) q (by simpa using hq)
      have hlen : (words is (gn ++ [nm])).length = (words is gn).length + 1 := by unfold words; simp only [List.length_append, List.length_singleton]; omega
      rw [hlen]
      have z : (((words is gn).length : Nat) : Int) + ((p + 1 : Nat) : Int) = (((words is gn).length + 1 : Nat) : Int) + (p : Int) := by omega
      rw [← z]
      exact this
    rw [ih]
    simp
theorem o_row {is : List (Str × Int)} {gs : List GtT} {os : List (Str × Tp Int)} {gn : List Str} {o : Str × Tp Int} (hi : ∀ x ∈ is, InOk x) (hg : ∀ s ∈ gn, Nm s) (hn : (namesOf is gn).Nodup) (ho : Nm o.1) (hnew : o.1 ∉ os.map (·.1)) (h6 : os.length < 6) (l1 : 1 ≤ o.2.l.length) (l3 : o.2.l.length ≤ 3) (hw : ∀ w ∈ o.2.l, 0 ≤ w ∧ w < (words is gn).length) :
    rowS (stO is gs os gn) (oRow (words is gn) o) = .ok (stO is gs (os ++ [o]) gn) := by
  have cnd := all_nd hi hg hn
  have cwd := words_wd hi hg
  have mem : ∀ w ∈ o.2.l.map (wdAt (words is gn)), Wd w := fun w hx => by
    obtain ⟨k, hk, rfl⟩ := List.mem_map.mp hx
    obtain ⟨x, _, e, hm⟩ := wd_at (rest := []) (hw k hk).1 (hw k hk).2
    rw [List.append_nil] at e
    rw [e]
    exact cwd x hm
  have hrow : rowX (oRow (words is gn) o) = .ok (.o o.1 (o.2.l.map (wdAt (words is gn)))) := by
    unfold oRow
    rw [rowX_join (by simp) fun w hx => by
      rcases List.mem_cons.mp hx with rfl | hx
      · decide +kernel
      · rcases List.mem_cons.mp hx with rfl | hx
        · exact ho.lt.no (by decide)
        · exact (mem w hx).no32.1]
    rw [rowW_out ho (by rw [List.length_map]; exact l1) (by rw [List.length_map]; exact l3), wires_okX fun w hx => (mem w hx).good]
    rfl
  unfold rowS
  rw [hrow]
  show outX (stO is gs os gn) o.1 _ = _
  have c2 : ¬ decide (o.1 ∈ (stO is gs os gn).o.map (·.1)) = true := by
    rw [decide_eq_false (show o.1 ∉ (stO is gs os gn).o.map (·.1) from hnew)]
    decide
  have c3 : ¬ decide ((((stO is gs os gn).o.length : Nat) : Int) = 6) = true := by
    rw [decide_eq_false (show ¬ (((stO is gs os gn).o.length : Nat) : Int) = 6 by show ¬ ((os.length : Nat) : Int) = 6; omega)]
    decide
  have hnum := nums_eq (s := stO is gs os gn) (rest := []) rfl cnd hw
  rw [List.append_nil] at hnum
  unfold outX
  rw [if_neg c2, if_neg c3, hnum]
  rfl
theorem os_fold {is : List (Str × Int)} {gs : List GtT} {gn : List Str} (hi : ∀ x ∈ is, InOk x) (hg : ∀ s ∈ gn, Nm s) (hn : (namesOf is gn).Nodup) : ∀ (todo os : List (Str × Tp Int)), (∀ o ∈ todo, Nm o.1 ∧ 1 ≤ o.2.l.length ∧ o.2.l.length ≤ 3 ∧ ∀ w ∈ o.2.l, 0 ≤ w ∧ w < (words is gn).length) → ((os ++ todo).map (·.1)).Nodup → os.length + todo.length ≤ 6 →
    foldX rowS (todo.map (oRow (words is gn))) (stO is gs os gn) = .ok (stO is gs (os ++ todo) gn)
  | [], os, _, _, _ => by simp [foldX]
  | o :: todo, os, h1, h2, h3 => by
    obtain ⟨a1, a2, a3, a4⟩ := h1 o List.mem_cons_self
    have e : os ++ o :: todo = (os ++ [o]) ++ todo := by simp
    rw [e] at h2 ⊢
    have hnew : o.1 ∉ os.map (·.1) := fun hm => by
      rw [List.map_append, List.map_append] at h2
      exact (List.nodup_append.mp (List.nodup_append.mp h2).1).2.2 _ hm _ (List.mem_singleton.mpr rfl) rfl
    rw [List.map_cons]
    unfold foldX
    rw [o_row hi hg hn a1 hnew (by rw [List.length_cons] at h3; omega) a2 a3 a4]
    exact os_fold hi hg hn todo (os ++ [o]) (fun x hx => h1 x (List.mem_cons_of_mem _ hx)) h2 (by rw [List.length_append, List.length_singleton]; rw [List.length_cons] at h3; omega)
/-- a net that can be written -/
structure WNet (n : NetT) (gn : List Str) : Prop where
  i : ∀ x ∈ n.a, InOk x
  i1 : 1 ≤ n.a.length
  i6 : n.a.length ≤ 6
  g : ∀ s ∈ gn, Nm s
  nd : (namesOf n.a gn).Nodup
  gl : gn.length = n.b.length
  g60 : n.b.length ≤ 60
  gt : ∀ (p : Nat) q, n.b[p]? = some q → GtOk q ((n.a.flatMap inWr).length + p)
  o1 : 1 ≤ n.c.length
  o6 : n.c.length ≤ 6
  o : ∀ o ∈ n.c, Nm o.1 ∧ 1 ≤ o.2.l.length ∧ o.2.l.length ≤ 3 ∧ ∀ w ∈ o.2.l, 0 ≤ w ∧ w < (words n.a gn).length
  on : (n.c.map (·.1)).Nodup
def rowsOf (n : NetT) (gn : List Str) : List Str := n.a.map inRow ++ ((n.b.zip gn).map fun p => gRow (words n.a gn) p.1 p.2) ++ n.c.map (oRow (words n.a gn))
theorem rows_fold {n : NetT} {gn : List Str} (h : WNet n gn) : foldX rowS (rowsOf n gn) Rd0 = .ok (stO n.a n.b n.c gn) := by
  have e1 : (n.b.zip gn).map (·.2) = gn := by rw [List.map_snd_zip]; rw [h.gl]; exact Nat.le_refl _
  have e2 : (n.b.zip gn).map (·.1) = n.b := by rw [List.map_fst_zip]; rw [h.gl]; exact Nat.le_refl _
  unfold rowsOf
  rw [foldX_app, foldX_app]
  have h1 := ins_fold n.a [] h.i (List.nodup_append.mp h.nd).1 h.i6
  rw [stI_nil, List.nil_append] at h1
  rw [h1]
  have e3 : stI n.a = stG n.a [] [] := by
    unfold stI stG words namesOf
    rw [List.append_nil, List.append_nil]
  show Rx.bind (Rx.bind (Rx.ok (stI n.a)) _) _ = _
  have h2 := gs_fold h.i (n.b.zip gn) [] [] (by rw [List.nil_append, e1]; exact h.g) (by rw [List.nil_append, e1]; exact h.nd) (by rw [List.length_zip, h.gl]; have := h.g60; simp; omega) fun p q hq => by
    have hb : n.b[p]? = some q.1 := by
      have := congrArg (fun o => o.map (·.1)) hq
      rw [← List.getElem?_map, e2] at this
      simpa using this
    have := h.gt p q.1 hb
    have z : (words n.a []).length = (n.a.flatMap inWr).length := by unfold words; simp
    rw [z]
    exact this
  rw [List.nil_append, List.nil_append, e1, e2, ← e3] at h2
  show Rx.bind (foldX rowS _ (stI n.a)) _ = _
  rw [h2]
  show foldX rowS _ (stG n.a n.b gn) = _
  exact os_fold h.i h.g h.nd n.c [] h.o (by rw [List.nil_append]; exact h.on) (by simp only [List.length_nil]; have := h.o6; omega)
end TL

namespace TL
open PySem PySem.Spec PyProof.Rows L2
open Enc
theorem mem_joinR {a : Str} {c : Nat} : ∀ {ys : List Str}, c ∈ L (Txt.join a ys) → c ∈ L a ∨ ∃ y ∈ ys, c ∈ L y
  | [], h => by rw [join_zero, L_nil] at h; cases h
  | [y], h => by rw [TL.join_one] at h; exact .inr ⟨y, by simp, h⟩
  | y :: z :: r, h => by
    rw [join_cons2, L_cat, L_cat] at h
    simp only [List.mem_append] at h
    rcases h with (h | h) | h
    · exact .inr ⟨y, by simp, h⟩
    · exact .inl h
    · rcases mem_joinR h with h | ⟨x, hx, h⟩
      · exact .inl h
      · exact .inr ⟨x, List.mem_cons_of_mem _ hx, h⟩
/-- every sign of it is an ASCII sign, none a line's end -/
def Ln (s : Str) : Prop := ∀ c ∈ L s, c < 128 ∧ c ≠ 10
instance (s : Str) : Decidable (Ln s) := by unfold Ln; infer_instance
theorem Let.ln {s : Str} (h : Let s) : Ln s := fun c hc => by have := h c hc; omega
theorem Wd.ln {s : Str} (h : Wd s) : Ln s := by
  cases h with
  | n h => exact h.lt.ln
  | p h c hc =>
    intro d hd
    rw [L_cat, L_cat, show L (":" : Str) = [58] by decide +kernel, L_one] at hd
    simp only [List.mem_append, List.mem_singleton] at hd
    rcases hd with (hd | hd) | hd
    · exact h.lt.ln d hd
    · omega
    · omega
theorem Ln.join {ys : List Str} (h : ∀ y ∈ ys, Ln y) : Ln (Txt.join " " ys) := fun c hc => by
  rcases mem_joinR hc with hc | ⟨y, hy, hc⟩
  · have : Ln (" " : Str) := by decide +kernel
    exact this c hc
  · exact h y hy c hc
theorem strI_ln {w : Int} (h1 : 1 ≤ w) (h3 : w ≤ 3) : Ln (strI w) := by
  obtain ⟨e1, e2, e3⟩ := strI3
  rcases (by omega : w = 1 ∨ w = 2 ∨ w = 3) with rfl | rfl | rfl
  · rw [e1]; decide +kernel
  · rw [e2]; decide +kernel
  · rw [e3]; decide +kernel
/-- more of a fit net: its kinds are ASCII -/
def KLn (n : NetT) : Prop := ∀ g ∈ n.b, Ln g.a
theorem wd_of {n : NetT} {gn : List Str} (h : WNet n gn) {w : Int} (h0 : 0 ≤ w) (h1 : w < (words n.a gn).length) : Wd (wdAt (words n.a gn) w) := by
  obtain ⟨x, _, e, hm⟩ := wd_at (rest := []) h0 h1
  rw [List.append_nil] at e
  rw [e]
  exact words_wd h.i h.g x hm
theorem g_wire {n : NetT} {gn : List Str} (h : WNet n gn) {g : GtT} (hg : g ∈ n.b) : ∀ w ∈ g.b.l, 0 ≤ w ∧ w < (words n.a gn).length := fun w hw => by
  obtain ⟨p, hp⟩ := List.mem_iff_getElem?.mp hg
  have := (h.gt p g hp).w w hw
  have hlt : p < n.b.length := by
    rcases Nat.lt_or_ge p n.b.length with q | q
    · exact q
    · rw [List.getElem?_eq_none q] at hp; cases hp
  have hl := h.gl
  unfold words
  rw [List.length_append]
  omega
theorem rows_ln {n : NetT} {gn : List Str} (h : WNet n gn) (hk : KLn n) : ∀ r ∈ rowsOf n gn, Ln r := fun r hr => by
  rcases List.mem_append.mp hr with hr | hr
  · rcases List.mem_append.mp hr with hr | hr
    · obtain ⟨x, hx, rfl⟩ := List.mem_map.mp hr
      have o := h.i x hx
      refine Ln.join fun y hy => ?_
      simp only [List.mem_cons, List.not_mem_nil, or_false] at hy
      rcases hy with rfl | rfl | rfl
      · decide +kernel
      · exact o.n.lt.ln
      · exact strI_ln o.w1 o.w3
    · obtain ⟨p, hp, rfl⟩ := List.mem_map.mp hr
      have hp := List.of_mem_zip hp
      refine Ln.join fun y hy => ?_
      rcases List.mem_cons.mp hy with rfl | hy
      · cases p.1.c <;> decide +kernel
      · rcases List.mem_cons.mp hy with rfl | hy
        · exact (h.g _ hp.2).lt.ln
        · rcases List.mem_cons.mp hy with rfl | hy
          · exact hk _ hp.1
          · obtain ⟨w, hw, rfl⟩ := List.mem_map.mp hy
            have := g_wire h hp.1 w hw
            exact (wd_of h this.1 this.2).ln
  · obtain ⟨o, ho, rfl⟩ := List.mem_map.mp hr
    obtain ⟨a1, _, _, a4⟩ := h.o o ho
    refine Ln.join fun y hy => ?_
    rcases List.mem_cons.mp hy with rfl | hy
    · decide +kernel
    · rcases List.mem_cons.mp hy with rfl | hy
      · exact a1.lt.ln
      · obtain ⟨w, hw, rfl⟩ := List.mem_map.mp hy
        have := a4 w hw
        exact (wd_of h this.1 this.2).ln
theorem rows_len {n : NetT} {gn : List Str} (h : WNet n gn) : (rowsOf n gn).length = n.a.length + n.b.length + n.c.length := by
  unfold rowsOf
  simp only [List.length_append, List.length_map, List.length_zip, h.gl, Nat.min_self]
theorem read_net {n : NetT} {gn : List Str} (h : WNet n gn) (hk : KLn n) : readX (Txt.join "\n" (rowsOf n gn)) = .ok n := by
  have hl := rows_len h
  have a1 := h.i1
  have a6 := h.i6
  have b6 := h.g60
  have c1 := h.o1
  have c6 := h.o6
  rw [readX_join (fun e => by rw [e] at hl; simp at hl; omega) fun r hr hm => (rows_ln h hk r hr 10 hm).2 rfl, rows_fold h]
  rw [if_neg (by rw [decide_eq_false (by omega)]; decide)]
  show (if (decide (n.a = []) || decide (n.c = [])) = true then _ else Rx.ok (T3.mk n.a n.b n.c)) = _
  rw [if_neg]
  rw [decide_eq_false (fun e => by rw [e] at a1; simp at a1), decide_eq_false (fun e => by rw [e] at c1; simp at c1)]
  decide
/-- the whole text is a fit text -/
theorem text_ok {rows : List Str} (h : ∀ r ∈ rows, Ln r) : EqD.ok (Txt.join "\n" rows) = true := by
  show ((Txt.join "\n" rows).cps.all fun c => _) = true
  rw [← Array.all_toList, List.all_eq_true]
  intro c hc
  rcases mem_joinR hc with hc | ⟨y, hy, hc⟩
  · have : ∀ c ∈ L ("\n" : Str), c < 128 := by decide +kernel
    have := this c hc
    exact decide_eq_true (by omega)
  · have := (h y hy c hc).1
    exact decide_eq_true (by omega)
theorem m_read_net {n : NetT} {gn : List Str} (h : WNet n gn) (hk : KLn n) (m : Nat) (hm : ∀ r ∈ rowsOf n gn, r.length ≤ m) (hm2 : m ≤ 100000) : m_read (Txt.join "\n" (rowsOf n gn)) = some (.ok n) := by
  unfold m_read
  have hl := join_len ("\n" : Str) m _ hm
  rw [rows_len h, show ("\n" : Str).length = 1 by decide +kernel] at hl
  have a6 := h.i6
  have b6 := h.g60
  have c6 := h.o6
  have h2 : (n.a.length + n.b.length + n.c.length) * (m + 1) ≤ 72 * 100001 := Nat.mul_le_mul (by omega) (by omega)
  rw [if_pos ⟨by omega, text_ok (rows_ln h hk)⟩, read_net h hk]
end TL

namespace W
open PySem L2 TL
open Enc
theorem stir_ok (c k : Int) (h0 : 0 ≤ k) (h1 : k ≤ 1000) : Ok (m__law_stir c k) fun r => 0 ≤ r := by
  unfold m__law_stir
  refine Ok.ite (fun h => ?_) fun _ => ?_
  · refine Ok.bind (P := fun _ => True) ?_ fun t _ => Ok.pure (Int.emod_nonneg _ (by decide))
    unfold shrO
    rw [if_pos (by omega)]
    exact ⟨_, rfl, trivial⟩
  · refine Ok.lt ?_
    have a := Int.emod_nonneg (((c + 1013 * k) + 1) * 16807) (show (2147483647 : Int) ≠ 0 by decide)
    have b := Int.emod_lt_of_pos (((c + 1013 * k) + 1) * 16807) (show (0 : Int) < 2147483647 by decide)
    refine Ok.bind (Ok.mulO (by omega) (by omega)) fun t _ => Ok.lt (Ok.pure ?_)
    have := Int.emod_nonneg ((t % 2147483629) * 39373) (show (2147483587 : Int) ≠ 0 by decide)
    omega
theorem let_app {s t : Str} (h : Let s) (h' : Let t) : Let (s ++ t) := fun c hc => by
  rw [L_cat, List.mem_append] at hc
  exact hc.elim (h c) (h' c)
theorem spare_eq : mapO (fun (x47 : Int) => (signAt LET (x47 / (26 : Int))).bind fun t58 => (catSO ("zz" : Str) t58).bind fun t60 => (signAt LET (x47 % (26 : Int))).bind fun t62 => (catSO t60 t62).bind fun t64 => some (t64 : Str)) (rngL 0 80) = some SPARE := by decide +kernel
/-- names: unlike ones, good ones -/
theorem names_ok (head k many : Int) (hk : 0 ≤ k) (hk1 : k ≤ 900) (h0 : 0 ≤ many) (h1 : many ≤ 60) : Ok (m__law_names head k many) fun r => (r.length : Int) = many ∧ r.Nodup ∧ ∀ s ∈ r, Nm s := by
  unfold m__law_names
  refine Ok.lt (Ok.lt (Ok.lt ?_))
  refine Ok.bind (Ok.rngO (by omega) (by omega)) fun l8 h8 => ?_
  refine Ok.bind (Ok.forSi (fun i s => s.length = i ∧ s.Nodup ∧ ∀ x ∈ s, Nm x) l8 0 [] ⟨rfl, List.nodup_nil, fun x hx => by cases hx⟩ fun i x s hx hs => ?_) fun s76 h76 => ?_
  · rw [h8] at hx
    have hx := rngL_get hx
    obtain ⟨hsl, hsn, hsa⟩ := hs
    refine Ok.bind (stir_ok _ _ (by omega) (by omega)) fun r16 h16 => ?_
    have b1 := Int.emod_nonneg r16 (show (26 : Int) ≠ 0 by decide)
    have b2 := Int.emod_lt_of_pos r16 (show (0 : Int) < 26 by decide)
    have b3 := Int.emod_nonneg (r16 / 26) (show (26 : Int) ≠ 0 by decide)
    have b4 := Int.emod_lt_of_pos (r16 / 26) (show (0 : Int) < 26 by decide)
    have b5 := Int.emod_nonneg (r16 / 700) (show (7 : Int) ≠ 0 by decide)
    have b6 := Int.emod_lt_of_pos (r16 / 700) (show (0 : Int) < 7 by decide)
    have b7 := Int.emod_nonneg (r16 / 5000) (show (2 : Int) ≠ 0 by decide)
    have b8 := Int.emod_lt_of_pos (r16 / 5000) (show (0 : Int) < 2 by decide)
    refine Ok.bind (Ok.is (sign_LET b1 b2)) fun t18 h18 => ?_
    refine Ok.bind (Ok.is (sign_LET b3 b4)) fun t20 h20 => ?_
    refine Ok.bind (mulx b5 (by omega)) fun t22 h22 => ?_
    have l18 : t18.length = 1 := by rw [h18]; rfl
    have l20 : t20.length = 1 := by rw [h20]; rfl
    have l22 : t22.length ≤ 6 := by rw [len_L, h22, List.length_replicate]; omega
    refine Ok.bind (Ok.is (joinO_eq 6 (by intro y hy; simp at hy; rcases hy with rfl | rfl | rfl <;> omega) (by show 3 * 6 + 3 * ("" : Str).length ≤ 16777216; decide +kernel))) fun t24 h24 => ?_
    have e24 : t24 = t18 ++ (t20 ++ t22) := by rw [h24, join_cons2, join_cons2, join_one, cat_nil, cat_nil]
    have a24 : Let t24 := by
      rw [e24]
      refine let_app ?_ (let_app ?_ ?_)
      · rw [h18]; intro c hc; rw [L_one] at hc; simp at hc; omega
      · rw [h20]; intro c hc; rw [L_one] at hc; simp at hc; omega
      · intro c hc; rw [h22, List.mem_replicate] at hc; omega
    have l24 : 2 ≤ t24.length ∧ t24.length ≤ 8 := by rw [e24, len_cat, len_cat]; omega
    refine Ok.bind (Ok.is (cutSO_eq (by omega))) fun t26 h26 => ?_
    have f26 : L t26 = (L t24).drop (r16 / 5000 % 2).toNat := by rw [h26]; exact L_from _ _ b7
    have l26 : 1 ≤ t26.length ∧ t26.length ≤ 8 := by rw [len_L, f26, List.length_drop, ← len_L]; omega
    have a26 : Let t26 := fun c hc => a24 c (List.mem_of_mem_drop (f26 ▸ hc))
    refine Ok.bind (P := fun b => b = true → s ≠ []) ?_ fun b31 h31 => ?_
    · refine Ok.ite (fun _ => ?_) fun _ => Ok.pure fun e => by cases e
      refine Ok.bind (Ok.eqO ?_ rfl) fun b29 h29 => Ok.pure fun e => ?_
      · exact strs_ok fun x hx => (hsa x hx).lt
      · rw [h29] at e; simpa using e
    refine Ok.bind (P := fun j => j.length ≤ 8 ∧ Let j) ?_ fun j32 h32 => ?_
    · refine Ok.ite (fun hb => ?_) fun _ => Ok.pure ⟨l26.2, a26⟩
      have hne := h31 hb
      have hp : 0 < s.length := List.length_pos_iff.mpr hne
      refine Ok.bind (Ok.modO (by omega)) fun t34 h34 => ?_
      refine Ok.bind (Ok.atI h34.2.1 h34.2.2) fun t36 h36 => ?_
      have n36 := hsa t36 (get_mem h36)
      refine Ok.bind (Ok.is (catSO_eq (by have := n36.l8; omega))) fun t38 h38 => ?_
      refine Ok.bind (Ok.is (cutSO_eq (by rw [h38, len_cat]; have := n36.l8; omega))) fun t40 h40 => Ok.pure ?_
      have f40 : L t40 = (L t38).take 8 := by rw [h40]; exact L_to _ _ (by decide)
      refine ⟨by rw [len_L, f40, List.length_take]; omega, fun c hc => ?_⟩
      have := List.mem_of_mem_take (f40 ▸ hc)
      rw [h38] at this
      exact let_app n36.lt a26 c this
    refine Ok.bind (P := fun j => Nm j ∧ j ∉ s) ?_ fun j44 h44 => ?_
    · refine Ok.ite (fun _ => ?_) fun hc => Ok.pure ?_
      · refine Ok.bind (Ok.is spare_eq) fun l66 h66 => ?_
        subst h66
        obtain ⟨y, r, e1, e2, e3⟩ := fresh SPARE s spare_nd (by rw [spare_len]; omega)
        rw [List.map_id', e1]
        exact Ok.bind ((Ok.atI (xs := y :: r) (i := 0) (by decide) (by simp)).mono fun t ht => (show t = y by simpa using ht.symm)) fun t72 h72 => Ok.pure (by subst h72; exact ⟨Nm.of (spare_nm t72 e2), e3⟩)
      · simp only [Bool.or_eq_true, decide_eq_true_eq, not_or] at hc
        refine ⟨⟨?_, h32.1, h32.2, hc.2.2⟩, hc.2.1⟩
        rcases Nat.eq_zero_or_pos j32.length with q | q
        · exfalso
          refine hc.1 (L_ext ?_)
          rw [L_nil]
          exact List.length_eq_zero_iff.mp (by rw [← len_L]; exact q)
        · exact q
    refine Ok.bind (Ok.appO (by omega)) fun u h74 => Ok.pure ?_
    subst h74
    refine ⟨by simp; omega, ?_, fun x hx => ?_⟩
    · rw [List.nodup_append]
      exact ⟨hsn, by simp, fun a ha b hb => by simp at hb; subst hb; intro e; subst e; exact h44.2 ha⟩
    · rw [List.mem_append] at hx
      rcases hx with hx | hx
      · exact hsa x hx
      · simp at hx; subst hx; exact h44.1
  · refine Ok.pure ⟨?_, h76.2⟩
    rw [h76.1, h8, rngL_length]
    omega
end W

namespace W
open PySem L2 TL
open Enc
abbrev NetT := T3 (List (Str × Int)) (List (T3 Str (Tp Int) Bool)) (List (Str × Tp Int))
abbrev KINDS : List Str := [("and" : Str), ("or" : Str), ("xor" : Str), ("vote" : Str), ("not" : Str)]
def legs (k : Str) : Int := (dlit [(("not" : Str), (1 : Int)), (("vote" : Str), (3 : Int))] k).getD 2
def insW (ins : List (Str × Int)) : Int := (ins.map fun x => x.2).sum
/-- a net of a good form -/
structure Gd (n : NetT) : Prop where
  i1 : 1 ≤ n.a.length
  i6 : n.a.length ≤ 6
  iw : ∀ x ∈ n.a, 1 ≤ x.2 ∧ x.2 ≤ 3
  gl : n.b.length ≤ 60
  gk : ∀ g ∈ n.b, g.a ∈ KINDS ∧ (g.b.l.length : Int) = legs g.a
  gw : ∀ (p : Nat) g, n.b[p]? = some g → ∀ w ∈ g.b.l, 0 ≤ w ∧ w < insW n.a + p
  o1 : 1 ≤ n.c.length
  o6 : n.c.length ≤ 6
  ow : ∀ o ∈ n.c, 1 ≤ o.2.l.length ∧ o.2.l.length ≤ 3 ∧ ∀ w ∈ o.2.l, 0 ≤ w ∧ w < insW n.a + n.b.length
structure NmsI (n : NetT) : Prop where
  nm : ∀ x ∈ n.a, Nm x.1
  nd : (n.a.map (·.1)).Nodup
structure NmsO (n : NetT) : Prop where
  nm : ∀ x ∈ n.c, Nm x.1
  nd : (n.c.map (·.1)).Nodup
theorem sum_nn : ∀ (xs : List (Str × Int)), (∀ x ∈ xs, 1 ≤ x.2 ∧ x.2 ≤ 3) → (xs.length : Int) ≤ insW xs ∧ insW xs ≤ 3 * xs.length
  | [], _ => by unfold insW; simp
  | x :: xs, h => by
    have h1 := h x (List.mem_cons_self ..)
    have h2 := sum_nn xs fun y hy => h y (List.mem_cons_of_mem _ hy)
    unfold insW at h2 ⊢
    simp only [List.map_cons, List.sum_cons, List.length_cons]
    omega
theorem cell_ok (s : List Int) (k : Int) (h : 0 ≤ k) : Ok (m__law_cell_at s k) fun _ => True := by
  unfold m__law_cell_at
  refine Ok.ite (fun h1 => ?_) fun _ => Ok.pure trivial
  exact Ok.bind (Ok.atI h (of_decide_eq_true h1)) fun _ _ => Ok.pure trivial
theorem wires_ok (cell k many count : Int) (hk : 0 ≤ k) (hk1 : k ≤ 900) (h0 : 0 ≤ many) (h1 : many ≤ 3) (hc : 0 < count) : Ok (m__law_wires cell k many count) fun r => (r.l.length : Int) = many ∧ ∀ w ∈ r.l, 0 ≤ w ∧ w < count := by
  unfold m__law_wires
  refine Ok.lt ?_
  refine Ok.bind (Ok.rngO (by omega) (by omega)) fun l4 h4 => ?_
  refine Ok.bind (Ok.forSi (fun i s => s.length = i ∧ ∀ w ∈ s, 0 ≤ w ∧ w < count) l4 0 [] ⟨rfl, fun x hx => by cases hx⟩ fun i x s hx hs => ?_) fun s h22 => ?_
  · rw [h4] at hx
    have hx := rngL_get hx
    refine Ok.bind (stir_ok _ _ (by omega) (by omega)) fun r12 h12 => ?_
    refine Ok.bind (Ok.modO hc) fun t14 h14 => ?_
    refine Ok.bind (Ok.modO (j := min2 count 6) (by unfold min2; split <;> omega)) fun t16 h16 => ?_
    have h16b : t16 < count := by
      have := h16.2.2
      unfold min2 at this
      split at this <;> omega
    have hb : (b2n (decide ((0 : Int) < r12 % 4))) = 0 ∨ (b2n (decide ((0 : Int) < r12 % 4))) = 1 := by unfold b2n; split <;> simp
    refine Ok.bind (Ok.atI (by omega) (by rcases hb with e | e <;> rw [e] <;> simp)) fun t18 h18 => ?_
    have h18b : 0 ≤ t18 ∧ t18 < count := by
      rcases hb with e | e <;> rw [e] at h18
      · have : t14 = t18 := by simpa using h18
        omega
      · have : count - 1 - t16 = t18 := by simpa using h18
        omega
    refine Ok.bind (Ok.appO (by omega)) fun u hu => Ok.pure ?_
    subst hu
    refine ⟨by simp; omega, fun w hw => ?_⟩
    rw [List.mem_append] at hw
    rcases hw with hw | hw
    · exact hs.2 w hw
    · simp at hw; subst hw; exact h18b
  · refine Ok.pure ⟨?_, h22.2⟩
    show (s.length : Int) = many
    rw [h22.1, h4, rngL_length]; omega
theorem kind_at {i : Int} (h0 : 0 ≤ i) (h1 : i < 8) : Ok (L2.atI ([("and" : Str), ("or" : Str), ("xor" : Str), ("vote" : Str), ("not" : Str), ("and" : Str), ("xor" : Str), ("vote" : Str)] : List Str) i) fun k => k ∈ KINDS := by
  refine (Ok.atI h0 (by simpa using h1)).mono fun k hk => ?_
  have h : ∀ k ∈ ([("and" : Str), ("or" : Str), ("xor" : Str), ("vote" : Str), ("not" : Str), ("and" : Str), ("xor" : Str), ("vote" : Str)] : List Str), k ∈ KINDS := by decide +kernel
  exact h k (get_mem hk)
theorem legs_le : ∀ k ∈ KINDS, 1 ≤ legs k ∧ legs k ≤ 3 := by decide +kernel
theorem gate_ok (cell count : Int) (hc : 0 < count) : Ok (m__law_gate cell count) fun g => g.a ∈ KINDS ∧ (g.b.l.length : Int) = legs g.a ∧ ∀ w ∈ g.b.l, 0 ≤ w ∧ w < count := by
  unfold m__law_gate
  refine Ok.bind (stir_ok _ _ (by omega) (by omega)) fun r1 _ => ?_
  refine Ok.bind (kind_at (Int.emod_nonneg _ (by decide)) (Int.emod_lt_of_pos _ (by decide))) fun t3 h3 => ?_
  have hl := legs_le t3 h3
  refine Ok.lt ?_
  exact Ok.bind (wires_ok cell 1 (legs t3) count (by omega) (by omega) (by omega) (by omega) hc) fun r9 h9 => Ok.pure ⟨h3, h9.1, h9.2⟩
theorem cutL_le {α : Type} (xs : List α) (lo hi : Int) (h : 0 ≤ lo) (h1 : 0 ≤ hi) : ((cutL xs (some lo) (some hi)).length : Int) ≤ max 0 (hi - lo) := by
  unfold cutL
  rw [List.length_take, List.length_drop]
  unfold HT.sIx
  simp only
  rw [if_neg (by omega), if_neg (by omega)]
  omega
theorem take_nd {α : Type} {xs ys : List α} (h : xs.Nodup) (hy : ∀ i : Nat, i < ys.length → ys[i]? = xs[i]?) : ys.Nodup := by
  have : ys = xs.take ys.length := by
    apply List.ext_getElem?
    intro i
    rw [List.getElem?_take]
    split
    · exact hy i ‹_›
    · exact List.getElem?_eq_none (by omega)
  rw [this]
  exact h.sublist (List.take_sublist _ _)
/-- one by one from the place n backwards -/
theorem back_nd {α : Type} {xs ys : List α} {n : Nat} (h : xs.Nodup) (hn : n < xs.length) (hl : ys.length ≤ n + 1) (hy : ∀ i : Nat, i < ys.length → ys[i]? = xs[n - i]?) : ys.Nodup := by
  unfold List.Nodup
  rw [List.pairwise_iff_getElem]
  intro i j hi hj hij e
  have e1 := hy i hi
  have e2 := hy j hj
  rw [List.getElem?_eq_getElem hi] at e1
  rw [List.getElem?_eq_getElem hj, ← e] at e2
  have := (List.getElem?_inj (by omega) h).mp (e1.symm.trans e2)
  omega
theorem net_ok (s : List Int) : Ok (m__law_net s) fun n => Gd n ∧ NmsI n ∧ NmsO n := by
  unfold m__law_net
  refine Ok.bind (cell_ok s 0 (by decide)) fun r1 _ => ?_
  refine Ok.bind (names_ok r1 300 6 (by decide) (by decide) (by decide) (by decide)) fun r3 h3 => ?_
  refine Ok.lt ?_
  refine Ok.bind (stir_ok r1 320 (by decide) (by decide)) fun r8 h8 => ?_
  have a1 := Int.emod_nonneg r8 (show (6 : Int) ≠ 0 by decide)
  have a2 := Int.emod_lt_of_pos r8 (show (0 : Int) < 6 by decide)
  refine Ok.bind (Ok.rngO (by omega) (by omega)) fun l10 h10 => ?_
  refine Ok.bind (Ok.forSi (fun i s => s.length = i ∧ (∀ x ∈ s, 1 ≤ x.2 ∧ x.2 ≤ 3) ∧ ∀ j : Nat, j < s.length → (s.map (·.1))[j]? = r3[j]?) l10 0 [] ⟨rfl, (fun x hx => by cases hx), fun j hj => by cases hj⟩ fun i x s hx hs => ?_) fun s24 h24 => ?_
  · rw [h10] at hx
    have hx := rngL_get hx
    refine Ok.bind (Ok.atI (by omega) (by omega)) fun t18 h18 => ?_
    refine Ok.bind (stir_ok r1 (321 + x) (by omega) (by omega)) fun r20 h20 => ?_
    have c1 := Int.emod_nonneg r20 (show (3 : Int) ≠ 0 by decide)
    have c2 := Int.emod_lt_of_pos r20 (show (0 : Int) < 3 by decide)
    refine Ok.bind (Ok.appO (by omega)) fun u hu => Ok.pure ?_
    subst hu
    refine ⟨by simp; omega, fun y hy => ?_, fun j hj => ?_⟩
    · rw [List.mem_append] at hy
      rcases hy with hy | hy
      · exact hs.2.1 y hy
      · simp at hy; subst hy; simp only; omega
    · rw [List.map_append, List.getElem?_append]
      rw [List.length_append, List.length_singleton] at hj
      split
      · rename_i hj'
        rw [List.length_map] at hj'
        exact hs.2.2 j hj'
      · rename_i hj'
        rw [List.length_map] at hj'
        have : j = i := by omega
        subst this
        rw [show x.toNat = j by omega] at h18
        rw [List.length_map, show j - s.length = 0 by omega, h18]
        rfl
  have hl10 : l10.length = (1 + r8 % 6).toNat := by rw [h10, rngL_length]
  obtain ⟨g1, g2, g3⟩ := h24
  have hsum := sum_nn s24 g2
  refine Ok.lt (Ok.lt ?_)
  have hcut := cutL_le s 1 61 (by decide) (by decide)
  refine Ok.bind (Ok.forSi (fun i gs => gs.length = i ∧ (∀ g ∈ gs, g.a ∈ KINDS ∧ (g.b.l.length : Int) = legs g.a) ∧ ∀ (p : Nat) g, gs[p]? = some g → ∀ w ∈ g.b.l, 0 ≤ w ∧ w < insW s24 + p) (cutL s (some 1) (some 61)) 0 [] ⟨rfl, (fun x hx => by cases hx), fun p g hg => by simp at hg⟩ fun i x gs hx hs => ?_) fun s44 h44 => ?_
  · have hi := get_lt hx
    refine Ok.bind (gate_ok x (insW s24 + gs.length) (by omega)) fun r40 h40 => ?_
    refine Ok.bind (Ok.appO (by omega)) fun u hu => Ok.pure ?_
    subst hu
    refine ⟨by simp; omega, fun g hg => ?_, fun p g hg w hw => ?_⟩
    · rw [List.mem_append] at hg
      rcases hg with hg | hg
      · exact hs.2.1 g hg
      · simp at hg; subst hg; exact ⟨h40.1, h40.2.1⟩
    · rw [List.getElem?_append] at hg
      split at hg
      · exact hs.2.2 p g hg w hw
      · have hp := get_lt hg
        rw [List.length_singleton] at hp
        rw [show p - gs.length = 0 by omega] at hg
        simp at hg
        subst hg
        have := h40.2.2 w hw
        omega
  refine Ok.lt ?_
  refine Ok.bind (names_ok r1 330 6 (by decide) (by decide) (by decide) (by decide)) fun r48 h48 => ?_
  refine Ok.bind (stir_ok r1 340 (by decide) (by decide)) fun r50 h50 => ?_
  refine Ok.bind (P := fun r => (r.length : Int) = 6 ∧ r.Nodup ∧ ∀ s ∈ r, Nm s) (Ok.ite (fun _ => Ok.pure h3) fun _ => Ok.pure h48) fun j52 h52 => ?_
  refine Ok.bind (stir_ok r1 341 (by decide) (by decide)) fun r54 h54 => ?_
  have b1 := Int.emod_nonneg r54 (show (6 : Int) ≠ 0 by decide)
  have b2 := Int.emod_lt_of_pos r54 (show (0 : Int) < 6 by decide)
  refine Ok.bind (Ok.rngO (by omega) (by omega)) fun l56 h56 => ?_
  have hl56 : l56.length = (1 + r54 % 6).toNat := by rw [h56, rngL_length]
  refine Ok.bind (Ok.forSi (fun i s => s.length = i ∧ (∀ o ∈ s, 1 ≤ o.2.l.length ∧ o.2.l.length ≤ 3 ∧ ∀ w ∈ o.2.l, 0 ≤ w ∧ w < insW s24 + s44.length) ∧ ∀ j : Nat, j < s.length → (s.map (·.1))[j]? = j52[5 - j]?) l56 0 [] ⟨rfl, (fun x hx => by cases hx), fun j hj => by cases hj⟩ fun i x s hx hs => ?_) fun s72 h72 => ?_
  · rw [h56] at hx
    have hx := rngL_get hx
    refine Ok.bind (stir_ok r1 (342 + x) (by omega) (by omega)) fun r64 h64 => ?_
    have c1 := Int.emod_nonneg r64 (show (3 : Int) ≠ 0 by decide)
    have c2 := Int.emod_lt_of_pos r64 (show (0 : Int) < 3 by decide)
    refine Ok.bind (Ok.atI (by omega) (by omega)) fun t66 h66 => ?_
    refine Ok.bind (wires_ok r1 (350 + 3 * x) (1 + r64 % 3) (insW s24 + s44.length) (by omega) (by omega) (by omega) (by omega) (by omega)) fun r68 h68 => ?_
    refine Ok.bind (Ok.appO (by omega)) fun u hu => Ok.pure ?_
    subst hu
    refine ⟨by simp; omega, fun y hy => ?_, fun j hj => ?_⟩
    · rw [List.mem_append] at hy
      rcases hy with hy | hy
      · exact hs.2.1 y hy
      · simp at hy; subst hy; exact ⟨by simp only; omega, by simp only; omega, h68.2⟩
    · rw [List.map_append, List.getElem?_append]
      rw [List.length_append, List.length_singleton] at hj
      split
      · rename_i hj'
        rw [List.length_map] at hj'
        exact hs.2.2 j hj'
      · rename_i hj'
        rw [List.length_map] at hj'
        have : j = i := by omega
        subst this
        rw [show (5 - x).toNat = 5 - j by omega] at h66
        rw [List.length_map, show j - s.length = 0 by omega, h66]
        rfl
  obtain ⟨o1, o2, o3⟩ := h72
  refine Ok.pure ⟨⟨?_, ?_, g2, ?_, h44.2.1, h44.2.2, ?_, ?_, o2⟩, ⟨fun x hx => ?_, ?_⟩, ⟨fun x hx => ?_, ?_⟩⟩
  · show 1 ≤ s24.length; omega
  · show s24.length ≤ 6; omega
  · show s44.length ≤ 60; rw [h44.1]; omega
  · show 1 ≤ s72.length; omega
  · show s72.length ≤ 6; omega
  · obtain ⟨j, hj⟩ := mem_get hx
    have hjl := get_lt hj
    have e := g3 j hjl
    rw [List.getElem?_map, hj] at e
    exact h3.2.2 _ (get_mem e.symm)
  · exact take_nd h3.2.1 fun i hi => g3 i (by simpa using hi)
  · obtain ⟨j, hj⟩ := mem_get hx
    have hjl := get_lt hj
    have e := o3 j hjl
    rw [List.getElem?_map, hj] at e
    exact h52.2.2 _ (get_mem e.symm)
  · exact back_nd (n := 5) h52.2.1 (by omega) (by simp; omega) fun i hi => o3 i (by simpa using hi)
end W

namespace W
open PySem L2 TL
open Enc
theorem mapO_eq {α β : Type} {f : α → Option β} (g : α → β) : ∀ (xs : List α), (∀ x ∈ xs, f x = some (g x)) → mapO f xs = some (xs.map g)
  | [], _ => rfl
  | x :: xs, h => by
    unfold mapO
    rw [h x (List.mem_cons_self ..), mapO_eq g xs fun y hy => h y (List.mem_cons_of_mem _ hy)]
    rfl
theorem forS_ext {α β : Type} {f : α → List β → Option (List β)} (g : α → List β) (m : Nat) : ∀ (xs : List α) (s : List β), s.length + xs.length * m ≤ 16777216 → (∀ x ∈ xs, (g x).length ≤ m) → (∀ x ∈ xs, ∀ s, s.length + (g x).length ≤ 16777216 → f x s = some (s ++ g x)) → forS f xs s = some (s ++ xs.flatMap g)
  | [], s, _, _, _ => by simp [forS]
  | x :: xs, s, h, hm, hf => by
    have hx := hm x (List.mem_cons_self ..)
    have e : xs.length * m + m = (xs.length + 1) * m := by rw [Nat.add_mul, Nat.one_mul]
    rw [List.length_cons, ← e] at h
    unfold forS
    rw [hf x (List.mem_cons_self ..) s (by omega)]
    show forS f xs (s ++ g x) = _
    rw [forS_ext g m xs (s ++ g x) (by rw [List.length_append]; omega) (fun y hy => hm y (List.mem_cons_of_mem _ hy)) fun y hy => hf y (List.mem_cons_of_mem _ hy)]
    simp
theorem forS_one {α β : Type} {f : α → List β → Option (List β)} (g : α → β) (xs : List α) (s : List β) (h : s.length + xs.length ≤ 16777216) (hf : ∀ x ∈ xs, ∀ s, s.length < 16777216 → f x s = some (s ++ [g x])) : forS f xs s = some (s ++ xs.map g) := by
  rw [forS_ext (fun x => [g x]) 1 xs s (by omega) (fun _ _ => Nat.le_refl _) fun x hx s hs => hf x hx s (by simp at hs; omega)]
  congr 2
  induction xs with
  | nil => rfl
  | cons x xs ih => rw [List.flatMap_cons, ih (by rw [List.length_cons] at h; omega) fun y hy => hf y (List.mem_cons_of_mem _ hy)]; rfl
theorem appO_eq {α : Type} {s : List α} {x : α} (h : s.length < 16777216) : appO s x = some (s ++ [x]) := if_pos h
theorem extO_eq {α : Type} {s t : List α} (h : s.length + t.length ≤ 16777216) : extO s t = some (s ++ t) := if_pos h
theorem rngO_eq {n : Int} (h : -4611686018427387904 ≤ n) (h1 : n ≤ 16777216) : rngO n = some (rngL 0 n.toNat) := if_pos ⟨h, h1⟩
theorem atI_eq {α : Type} {xs : List α} {i : Int} {x : α} (h0 : 0 ≤ i) (h : xs[i.toNat]? = some x) : L2.atI xs i = some x := by
  have h1 := get_lt h
  unfold L2.atI ixN
  rw [if_pos h0, if_pos (by omega)]
  exact h
theorem rngL_at {lo : Int} {n : Nat} {i : Int} (h0 : 0 ≤ i) (h1 : i < n) : (rngL lo n)[i.toNat]? = some (lo + i) := by
  unfold rngL
  rw [List.getElem?_map, List.getElem?_range (by omega)]
  show some (lo + ((i.toNat : Nat) : Int)) = _
  rw [Int.toNat_of_nonneg h0]
theorem strI13 : ∀ k : Fin 3, (strI ((k.val : Int) + 1)).length = 1 ∧ strO ((k.val : Int) + 1) = some (strI ((k.val : Int) + 1)) := by decide +kernel
theorem strO_eq {w : Int} (h : 1 ≤ w) (h1 : w ≤ 3) : strO w = some (strI w) ∧ (strI w).length = 1 := by
  have := strI13 ⟨(w - 1).toNat, by omega⟩
  simp only [Int.toNat_of_nonneg (show 0 ≤ w - 1 by omega)] at this
  rw [show w - 1 + 1 = w by omega] at this
  exact ⟨this.2, this.1⟩
def inW (x : Str × Int) : List Str := if x.2 = 1 then [x.1] else if x.2 = 2 then [x.1 ++ (":0" : Str), x.1 ++ (":1" : Str)] else [x.1 ++ (":0" : Str), x.1 ++ (":1" : Str), x.1 ++ (":2" : Str)]
theorem inW1 {x : Str × Int} (e : x.2 = 1) : inW x = [x.1] := by unfold inW; rw [if_pos e]
theorem inW2 {x : Str × Int} (e : x.2 = 2) : inW x = [x.1 ++ (":0" : Str), x.1 ++ (":1" : Str)] := by unfold inW; rw [if_neg (by omega), if_pos e]
theorem inW3 {x : Str × Int} (e : x.2 = 3) : inW x = [x.1 ++ (":0" : Str), x.1 ++ (":1" : Str), x.1 ++ (":2" : Str)] := by unfold inW; rw [if_neg (by omega), if_neg (by omega)]
theorem colon : ((":" : Str) ++ strI 0 = (":0" : Str)) ∧ ((":" : Str) ++ strI 1 = (":1" : Str)) ∧ ((":" : Str) ++ strI 2 = (":2" : Str)) ∧ strO 0 = some (strI 0) ∧ strO 1 = some (strI 1) ∧ strO 2 = some (strI 2) ∧ (strI 0).length = 1 ∧ (strI 1).length = 1 ∧ (strI 2).length = 1 := by decide +kernel
theorem onel : (":" : Str).length = 1 ∧ (":0" : Str).length = 2 ∧ (":1" : Str).length = 2 ∧ (":2" : Str).length = 2 ∧ (" " : Str).length = 1 ∧ ("in " : Str).length = 3 ∧ ("in" : Str).length = 2 ∧ ("out" : Str).length = 3 ∧ ("gate" : Str).length = 4 ∧ ("sure" : Str).length = 4 ∧ ("\n" : Str).length = 1 := by decide +kernel
theorem inW_facts {x : Str × Int} (h : 1 ≤ x.2 ∧ x.2 ≤ 3) (h8 : x.1.length ≤ 8) : ((inW x).length : Int) = x.2 ∧ ∀ s ∈ inW x, s.length ≤ 10 := by
  obtain ⟨o1, o2, o3, o4, _⟩ := onel
  have hw : x.2 = 1 ∨ x.2 = 2 ∨ x.2 = 3 := by omega
  unfold inW
  rcases hw with e | e | e <;> rw [e]
  · exact ⟨rfl, fun s hs => by simp at hs; subst hs; omega⟩
  · refine ⟨rfl, fun s hs => ?_⟩
    rw [if_neg (by decide), if_pos rfl] at hs
    simp at hs; rcases hs with rfl | rfl <;> rw [len_cat] <;> omega
  · refine ⟨rfl, fun s hs => ?_⟩
    rw [if_neg (by decide), if_neg (by decide)] at hs
    simp at hs; rcases hs with rfl | rfl | rfl <;> rw [len_cat] <;> omega
theorem law_words_eq (ins : List (Str × Int)) (gn : List Str) (h6 : ins.length ≤ 6) (hw : ∀ x ∈ ins, 1 ≤ x.2 ∧ x.2 ≤ 3) (h8 : ∀ x ∈ ins, x.1.length ≤ 8) (hg : gn.length ≤ 60) : m__law_words ins gn = some (ins.flatMap inW ++ gn) := by
  obtain ⟨o1, o2, o3, o4, _⟩ := onel
  unfold m__law_words
  show Option.bind (forS _ ins []) _ = _
  rw [forS_ext inW 3 ins [] (by simp; omega) (fun x hx => by have := (inW_facts (hw x hx) (h8 x hx)).1; have := hw x hx; omega) (fun x hx s hs => ?_)]
  · show Option.bind (extO ([] ++ ins.flatMap inW) gn) _ = _
    have hl : ∀ (l : List (Str × Int)), (∀ x ∈ l, x ∈ ins) → (l.flatMap inW).length ≤ l.length * 3 := by
      intro l hl
      induction l with
      | nil => simp
      | cons y l ih =>
        have hy := hl y (List.mem_cons_self ..)
        have h1 := (inW_facts (hw y hy) (h8 y hy)).1
        have h2 := hw y hy
        have h3 := ih fun z hz => hl z (List.mem_cons_of_mem _ hz)
        rw [List.flatMap_cons, List.length_append, List.length_cons]
        omega
    have := hl ins fun _ h => h
    rw [List.nil_append, extO_eq (by omega)]
    rfl
  · have n8 := h8 x hx
    rw [catSO_eq (by omega), catSO_eq (by omega), catSO_eq (by omega)]
    show Option.bind (L2.atI _ _) _ = _
    have hw' : x.2 = 1 ∨ x.2 = 2 ∨ x.2 = 3 := by have := hw x hx; omega
    rcases hw' with e | e | e
    · rw [inW1 e] at hs ⊢
      rw [e]
      show Option.bind (extO s [x.1]) _ = _
      rw [extO_eq hs]; rfl
    · rw [inW2 e] at hs ⊢
      rw [e]
      show Option.bind (extO s [x.1 ++ (":0" : Str), x.1 ++ (":1" : Str)]) _ = _
      rw [extO_eq hs]; rfl
    · rw [inW3 e] at hs ⊢
      rw [e]
      show Option.bind (extO s [x.1 ++ (":0" : Str), x.1 ++ (":1" : Str), x.1 ++ (":2" : Str)]) _ = _
      rw [extO_eq hs]; rfl
theorem inW_len (ins : List (Str × Int)) (hw : ∀ x ∈ ins, 1 ≤ x.2 ∧ x.2 ≤ 3) (h8 : ∀ x ∈ ins, x.1.length ≤ 8) : ((ins.flatMap inW).length : Int) = insW ins ∧ ∀ s ∈ ins.flatMap inW, s.length ≤ 10 := by
  induction ins with
  | nil => exact ⟨rfl, fun s hs => by simp at hs⟩
  | cons x ins ih =>
    have i := ih (fun y hy => hw y (List.mem_cons_of_mem _ hy)) fun y hy => h8 y (List.mem_cons_of_mem _ hy)
    have f := inW_facts (hw x (List.mem_cons_self ..)) (h8 x (List.mem_cons_self ..))
    rw [List.flatMap_cons, List.length_append]
    refine ⟨?_, fun s hs => ?_⟩
    · have e : insW (x :: ins) = x.2 + insW ins := by unfold insW; simp
      rw [e]; omega
    · rw [List.mem_append] at hs
      exact hs.elim (f.2 s) (i.2 s)
theorem enumL_at {α : Type} {xs : List α} {i : Int} {x : α} (h : (i, x) ∈ enumL xs) : 0 ≤ i ∧ xs[i.toNat]? = some x := by
  unfold enumL at h
  rw [List.mem_map] at h
  obtain ⟨p, hp, e⟩ := h
  rw [List.mem_zipIdx_iff_getElem?] at hp
  cases e
  exact ⟨Int.natCast_nonneg _, by simpa using hp⟩
theorem ks : ∀ b : Bool, L2.atI ([("gate" : Str), ("sure" : Str)] : List Str) (b2n b) = some (if b = true then ("sure" : Str) else ("gate" : Str)) := by decide +kernel
end W

namespace W
open PySem PySem.Spec PyProof.Rows L2 TL
open Enc
theorem kinds_let : ∀ k ∈ KINDS, Let k := by decide +kernel
theorem net_strs {n : NetT} (h1 : ∀ x ∈ n.a, Let x.1) (h2 : ∀ g ∈ n.b, g.a ∈ KINDS) (h3 : ∀ x ∈ n.c, Let x.1) : EqD.ok n = true := by
  show (EqD.ok n.a && (EqD.ok n.b && EqD.ok n.c)) = true
  have q1 : EqD.ok n.a = true := by
    show (n.a.all EqD.ok) = true
    rw [List.all_eq_true]
    intro x hx
    show (EqD.ok x.1 && true) = true
    rw [(h1 x hx).ok]; rfl
  have q2 : EqD.ok n.b = true := by
    show (n.b.all EqD.ok) = true
    rw [List.all_eq_true]
    intro g hg
    show (EqD.ok g.a && ((g.b.l.all fun _ => true) && true)) = true
    rw [(kinds_let _ (h2 g hg)).ok, List.all_eq_true.mpr fun _ _ => rfl]; rfl
  have q3 : EqD.ok n.c = true := by
    show (n.c.all EqD.ok) = true
    rw [List.all_eq_true]
    intro x hx
    show (EqD.ok x.1 && (x.2.l.all fun _ => true)) = true
    rw [(h3 x hx).ok, List.all_eq_true.mpr fun _ _ => rfl]; rfl
  rw [q1, q2, q3]; rfl
theorem colon_cat' (a : Str) : a ++ (":" : Str) ++ (⟨#[48]⟩ : Str) = a ++ (":0" : Str) ∧ a ++ (":" : Str) ++ (⟨#[49]⟩ : Str) = a ++ (":1" : Str) ∧ a ++ (":" : Str) ++ (⟨#[50]⟩ : Str) = a ++ (":2" : Str) := by
  rw [TL.cat_assoc, TL.cat_assoc, TL.cat_assoc, show (":" : Str) ++ (⟨#[48]⟩ : Str) = (":0" : Str) by decide +kernel, show (":" : Str) ++ (⟨#[49]⟩ : Str) = (":1" : Str) by decide +kernel, show (":" : Str) ++ (⟨#[50]⟩ : Str) = (":2" : Str) by decide +kernel]
  exact ⟨rfl, rfl, rfl⟩
theorem inW_eq {x : Str × Int} (h : 1 ≤ x.2 ∧ x.2 ≤ 3) : inW x = inWr x := by
  obtain ⟨f1, f2, f3⟩ := figs_is
  obtain ⟨c1, c2, c3⟩ := colon_cat' x.1
  rcases (by omega : x.2 = 1 ∨ x.2 = 2 ∨ x.2 = 3) with e | e | e
  · rw [inW1 e]
    unfold inWr
    rw [if_pos e]
  · rw [inW2 e]
    unfold inWr
    rw [if_neg (by omega), e, f2]
    show _ = [x.1 ++ ":" ++ (⟨#[48]⟩ : Str), x.1 ++ ":" ++ (⟨#[49]⟩ : Str)]
    rw [c1, c2]
  · rw [inW3 e]
    unfold inWr
    rw [if_neg (by omega), e, f3]
    show _ = [x.1 ++ ":" ++ (⟨#[48]⟩ : Str), x.1 ++ ":" ++ (⟨#[49]⟩ : Str), x.1 ++ ":" ++ (⟨#[50]⟩ : Str)]
    rw [c1, c2, c3]
theorem flat_eq : ∀ {is : List (Str × Int)}, (∀ x ∈ is, 1 ≤ x.2 ∧ x.2 ≤ 3) → is.flatMap inW = is.flatMap inWr
  | [], _ => rfl
  | x :: xs, h => by rw [List.flatMap_cons, List.flatMap_cons, inW_eq (h x List.mem_cons_self), flat_eq fun y hy => h y (List.mem_cons_of_mem _ hy)]
theorem wd_len {s : Str} (h : Wd s) : s.length ≤ 10 := by
  cases h with
  | n h => have := h.l8; omega
  | p h c hc =>
    rw [TL.len_cat, TL.len_cat, show (":" : Str).length = 1 by decide +kernel, show (⟨#[c]⟩ : Str).length = 1 from rfl]
    have := h.l8
    omega
/-- fit names for the gates of a net -/
structure Gn (n : NetT) (gn : List Str) : Prop where
  len : gn.length = n.b.length
  nm : ∀ s ∈ gn, Nm s
  nd : (namesOf n.a gn).Nodup
theorem kind_facts : ∀ k ∈ KINDS, (dlit LEGL k).getD 0 = legs k ∧ 1 ≤ legs k ∧ legs k ≤ 3 ∧ 32 ∉ L k ∧ Ln k ∧ k.length ≤ 4 := by decide +kernel
theorem insW_len {n : NetT} (G : Gd n) (I : NmsI n) : ((n.a.flatMap inWr).length : Int) = insW n.a := by
  rw [← flat_eq G.iw]
  exact (inW_len n.a G.iw fun x hx => (I.nm x hx).l8).1
theorem wnet_mk {n : NetT} {gn : List Str} (G : Gd n) (I : NmsI n) (O : NmsO n) (g : Gn n gn) : WNet n gn ∧ KLn n := by
  have hl := insW_len G I
  refine ⟨⟨fun x hx => ⟨I.nm x hx, (G.iw x hx).1, (G.iw x hx).2⟩, G.i1, G.i6, g.nm, g.nd, g.len, G.gl, fun p q hq => ?_, G.o1, G.o6, fun o ho => ?_, O.nd⟩, fun q hq => (kind_facts _ (G.gk q hq).1).2.2.2.2.1⟩
  · have hm := List.mem_of_getElem? hq
    obtain ⟨k1, k2⟩ := G.gk q hm
    obtain ⟨f1, f2, f3, f4, f5, f6⟩ := kind_facts _ k1
    refine ⟨by rw [f1, k2], by omega, ⟨f4, fun h => (f5 10 h).2 rfl⟩, fun w hw => ?_⟩
    rw [hl]
    exact G.gw p q hq w hw
  · obtain ⟨a1, a2, a3⟩ := G.ow o ho
    refine ⟨O.nm o ho, a1, a2, fun w hw => ?_⟩
    unfold words
    rw [List.length_append, g.len]
    have := a3 w hw
    omega
theorem enum_zip {α β : Type} (F : α → Str → β) {xs : List α} {ys : List Str} (h : ys.length = xs.length) : (enumL xs).map (fun p => F p.2 (ys.getD p.1.toNat "")) = (xs.zip ys).map fun p => F p.1 p.2 := by
  unfold enumL
  rw [List.map_map]
  apply List.ext_getElem
  · simp [h]
  · intro i h1 h2
    have hx : i < xs.length := by
      rw [List.length_map, List.length_zipIdx] at h1
      exact h1
    simp only [List.getElem_map, List.getElem_zipIdx, List.getElem_zip, Nat.zero_add, Function.comp, Int.toNat_natCast]
    rw [List.getD_eq_getElem?_getD, List.getElem?_eq_getElem (by omega)]
    rfl
theorem rows_100 {n : NetT} {gn : List Str} (G : Gd n) (I : NmsI n) (O : NmsO n) (g : Gn n gn) : ∀ r ∈ rowsOf n gn, r.length ≤ 100 := fun r hr => by
  obtain ⟨W, _⟩ := wnet_mk G I O g
  have l1 : (" " : Str).length = 1 := by decide +kernel
  rcases List.mem_append.mp hr with hr | hr
  · rcases List.mem_append.mp hr with hr | hr
    · obtain ⟨x, hx, rfl⟩ := List.mem_map.mp hr
      have := join_len (" " : Str) 10 [("in" : Str), x.1, strI x.2] fun y hy => by
        simp only [List.mem_cons, List.not_mem_nil, or_false] at hy
        rcases hy with rfl | rfl | rfl
        · decide +kernel
        · have := (I.nm x hx).l8; omega
        · have := (strO_eq (G.iw x hx).1 (G.iw x hx).2).2; omega
      rw [l1] at this
      exact Nat.le_trans this (by simp)
    · obtain ⟨p, hp, rfl⟩ := List.mem_map.mp hr
      have hp := List.of_mem_zip hp
      obtain ⟨k1, k2⟩ := G.gk _ hp.1
      obtain ⟨f1, f2, f3, f4, f5, f6⟩ := kind_facts _ k1
      have := join_len (" " : Str) 10 ((if p.1.c = true then ("sure" : Str) else ("gate" : Str)) :: p.2 :: p.1.a :: p.1.b.l.map (wdAt (words n.a gn))) fun y hy => by
        rcases List.mem_cons.mp hy with rfl | hy
        · cases p.1.c <;> decide +kernel
        · rcases List.mem_cons.mp hy with rfl | hy
          · have := (g.nm _ hp.2).l8; omega
          · rcases List.mem_cons.mp hy with rfl | hy
            · omega
            · obtain ⟨w, hw, rfl⟩ := List.mem_map.mp hy
              have := g_wire W hp.1 w hw
              exact wd_len (wd_of W this.1 this.2)
      rw [l1] at this
      refine Nat.le_trans this ?_
      simp only [List.length_cons, List.length_map]
      omega
  · obtain ⟨o, ho, rfl⟩ := List.mem_map.mp hr
    obtain ⟨a1, a2, a3, a4⟩ := W.o o ho
    have := join_len (" " : Str) 10 (("out" : Str) :: o.1 :: o.2.l.map (wdAt (words n.a gn))) fun y hy => by
      rcases List.mem_cons.mp hy with rfl | hy
      · decide +kernel
      · rcases List.mem_cons.mp hy with rfl | hy
        · have := a1.l8; omega
        · obtain ⟨w, hw, rfl⟩ := List.mem_map.mp hy
          have := a4 w hw
          exact wd_len (wd_of W this.1 this.2)
    rw [l1] at this
    refine Nat.le_trans this ?_
    simp only [List.length_cons, List.length_map]
    omega
theorem wires_map {ws : List Str} {l : List Int} (h : ∀ w ∈ l, 0 ≤ w ∧ w < ws.length) : mapO (fun (x : Int) => (L2.atI ws x).bind fun t => some (t : Str)) l = some (l.map (wdAt ws)) := by
  refine mapO_eq (wdAt ws) l fun w hw => ?_
  obtain ⟨x, hx, e, _⟩ := wd_at (rest := []) (h w hw).1 (h w hw).2
  rw [List.append_nil] at e
  rw [atI_eq (h w hw).1 hx, Option.bind_some, e]
theorem rows_eq {n : NetT} {gn : List Str} (G : Gd n) (I : NmsI n) (O : NmsO n) (g : Gn n gn) : m__law_rows n gn = some (rowsOf n gn) := by
  obtain ⟨W, _⟩ := wnet_mk G I O g
  have l1 : (" " : Str).length = 1 := by decide +kernel
  have hgl := g.len
  have hg60 := G.gl
  have hi6 := G.i6
  have ho6 := G.o6
  unfold m__law_rows
  rw [law_words_eq n.a gn G.i6 G.iw (fun x hx => (I.nm x hx).l8) (by omega), flat_eq G.iw, Option.bind_some, show n.a.flatMap inWr ++ gn = words n.a gn from rfl]
  rw [mapO_eq inRow n.a fun x hx => by
    obtain ⟨e2, l2⟩ := strO_eq (G.iw x hx).1 (G.iw x hx).2
    rw [e2, Option.bind_some, joinO_eq 10 (fun y hy => by
      simp only [List.mem_cons, List.not_mem_nil, or_false] at hy
      rcases hy with rfl | rfl | rfl
      · decide +kernel
      · have := (I.nm x hx).l8; omega
      · omega) (by rw [l1]; simp)]
    rfl]
  rw [Option.bind_some]
  rw [forS_one (fun p : Int × GtT => gRow (words n.a gn) p.2 (gn.getD p.1.toNat "")) (enumL n.b) (n.a.map inRow) (by unfold enumL; simp only [List.length_map, List.length_zipIdx]; omega) fun x hx s hs => by
    obtain ⟨i, q⟩ := x
    obtain ⟨h0, hq⟩ := enumL_at hx
    have hm := List.mem_of_getElem? hq
    have hlt := get_lt hq
    have hgn : gn[i.toNat]? = some (gn.getD i.toNat "") := by rw [List.getD_eq_getElem?_getD, List.getElem?_eq_getElem (by omega)]; rfl
    have nmg := g.nm _ (List.mem_of_getElem? hgn)
    obtain ⟨k1, k2⟩ := G.gk q hm
    obtain ⟨f1, f2, f3, f4, f5, f6⟩ := kind_facts _ k1
    have hb : q.b.l.length ≤ 3 := by omega
    simp only [ks, Option.bind_some]
    rw [atI_eq h0 hgn, Option.bind_some, wires_map (g_wire W hm), Option.bind_some, extO_eq (by simp only [List.length_cons, List.length_nil, List.length_map]; omega), Option.bind_some]
    rw [joinO_eq 10 (fun y hy => by
      simp only [List.cons_append, List.nil_append] at hy
      rcases List.mem_cons.mp hy with rfl | hy
      · cases q.c <;> decide +kernel
      · rcases List.mem_cons.mp hy with rfl | hy
        · have := nmg.l8; omega
        · rcases List.mem_cons.mp hy with rfl | hy
          · omega
          · obtain ⟨w, hw, rfl⟩ := List.mem_map.mp hy
            have := g_wire W hm w hw
            exact wd_len (wd_of W this.1 this.2)) (by rw [l1]; simp only [List.length_append, List.length_cons, List.length_nil, List.length_map]; omega), Option.bind_some, appO_eq hs]
    rfl]
  rw [Option.bind_some, enum_zip (fun q s => gRow (words n.a gn) q s) hgl]
  rw [forS_one (oRow (words n.a gn)) n.c _ (by simp only [List.length_append, List.length_map, List.length_zip]; omega) fun o ho s hs => by
    obtain ⟨a1, a2, a3, a4⟩ := W.o o ho
    rw [wires_map a4, Option.bind_some, extO_eq (by simp only [List.length_cons, List.length_nil, List.length_map]; omega), Option.bind_some]
    rw [joinO_eq 10 (fun y hy => by
      simp only [List.cons_append, List.nil_append] at hy
      rcases List.mem_cons.mp hy with rfl | hy
      · decide +kernel
      · rcases List.mem_cons.mp hy with rfl | hy
        · have := a1.l8; omega
        · obtain ⟨w, hw, rfl⟩ := List.mem_map.mp hy
          have := a4 w hw
          exact wd_len (wd_of W this.1 this.2)) (by rw [l1]; simp only [List.length_append, List.length_cons, List.length_nil, List.length_map]; omega), Option.bind_some, appO_eq hs]
    rfl]
  rfl
end W

namespace W
open PySem PySem.Spec PyProof.Rows L2 TL
open Enc
/-- yam .. ylx -/
def SP144 : List Str := (List.range 144).map fun n => ⟨#[121, 97 + n / 12, 109 + n % 12]⟩
theorem sp144_nm : ∀ s ∈ SP144, 1 ≤ s.length ∧ s.length ≤ 8 ∧ Let s ∧ s ∉ BAR := by decide +kernel
theorem sp144_nd : SP144.Nodup := by decide +kernel
theorem sp144_eq : mapO (fun (x22 : Int) => (signAt ("abcdefghijkl" : Str) (x22 / (12 : Int))).bind fun t33 => (catSO ("y" : Str) t33).bind fun t35 => (signAt ("mnopqrstuvwx" : Str) (x22 % (12 : Int))).bind fun t37 => (catSO t35 t37).bind fun t39 => some (t39 : Str)) (rngL 0 144) = some SP144 := by decide +kernel
theorem gnames_ok {n : NetT} (I : NmsI n) (h6 : n.a.length ≤ 6) (h60 : n.b.length ≤ 60) (head : Int) : Ok (m__law_gate_names n head) (Gn n) := by
  unfold m__law_gate_names
  refine Ok.lt (Ok.bind (names_ok head 400 _ (by decide) (by decide) (by omega) (by omega)) fun r8 h8 => Ok.lt ?_)
  obtain ⟨hl, hnd, hnm⟩ := h8
  have hl : r8.length = n.b.length := by omega
  refine Ok.bind (Ok.forSi (fun i s => s.1.length = i ∧ (∀ x ∈ s.1, Nm x) ∧ s.2 = n.a.map (·.1) ++ s.1 ∧ s.2.Nodup) r8 0 ([], n.a.map (·.1)) ⟨rfl, (fun x hx => by cases hx), by simp, I.nd⟩ fun i x s hx hs => ?_) fun s h => Ok.pure ?_
  · obtain ⟨s1, s2⟩ := s
    obtain ⟨a1, a2, a3, a4⟩ := hs
    have a1 : s1.length = 0 + i := a1
    have a2 : ∀ x ∈ s1, Nm x := a2
    have a3 : s2 = n.a.map (·.1) ++ s1 := a3
    have a4 : s2.Nodup := a4
    have hi := get_lt hx
    have l2 : s2.length ≤ 66 := by
      rw [a3, List.length_append, List.length_map]
      omega
    refine Ok.bind (P := fun j => Nm j ∧ j ∉ s2) (Ok.ite (fun hc => ?_) fun hc => Ok.pure ⟨hnm x (get_mem hx), fun hm => hc (decide_eq_true hm)⟩) fun j hj => ?_
    · rw [sp144_eq]
      simp only [Option.bind_some, List.map_id']
      have e : SP144.filter (fun x44 => (!decide (x44 ∈ s2)) && (!decide (x44 ∈ r8))) = SP144.filter fun x => !decide (x ∈ s2 ++ r8) := List.filter_congr fun y _ => by
        rw [Bool.eq_iff_iff]
        simp
      obtain ⟨y, r, e2, hy, hn⟩ := fresh SP144 (s2 ++ r8) sp144_nd (by rw [List.length_append, show SP144.length = 144 from rfl]; omega)
      rw [e, e2]
      refine Ok.bind (Ok.is (atI_eq (i := 0) (x := y) (by decide) (by rfl))) fun t ht => Ok.pure ?_
      subst ht
      exact ⟨Nm.of (sp144_nm t hy), fun hm => hn (List.mem_append_left _ hm)⟩
    · refine Ok.bind (Ok.is (appO_eq (by show s1.length < _; omega))) fun u hu => Ok.bind (Ok.is (appO_eq (by show s2.length < _; omega))) fun v hv => Ok.pure ?_
      subst hu
      subst hv
      refine ⟨by show (s1 ++ [j]).length = _; rw [List.length_append, List.length_singleton]; omega, fun z hz => ?_, ?_, ?_⟩
      · rcases List.mem_append.mp hz with hz | hz
        · exact a2 z hz
        · rw [List.mem_singleton] at hz
          subst hz
          exact hj.1
      · show s2 ++ [j] = n.a.map (·.1) ++ (s1 ++ [j])
        rw [a3, List.append_assoc]
      · show (s2 ++ [j]).Nodup
        refine List.nodup_append.mpr ⟨a4, by simp, fun a ha b hb e => ?_⟩
        rw [List.mem_singleton] at hb
        subst hb
        subst e
        exact hj.2 ha
  · obtain ⟨h1, h2, h3, h4⟩ := h
    rw [h3] at h4
    exact ⟨by rw [h1, hl]; omega, h2, h4⟩
theorem whole {β : Type} {n : NetT} {gn : List Str} (G : Gd n) (I : NmsI n) (O : NmsO n) (g : Gn n gn) {f : NetT → Option β} {Q : β → Prop} (k : Ok (f n) Q) :
    Ok ((m__law_rows n gn).bind fun r7 => (joinO ("\n" : Str) r7).bind fun t9 => (okO (m_read t9)).bind f) Q := by
  obtain ⟨W, hk⟩ := wnet_mk G I O g
  have hr := rows_100 G I O g
  have hl := rows_len W
  have a6 := G.i6
  have b6 := G.gl
  have c6 := G.o6
  rw [rows_eq G I O g, Option.bind_some, joinO_eq 100 hr (by rw [hl, show ("\n" : Str).length = 1 by decide +kernel]; omega), Option.bind_some, m_read_net W hk 100 hr (by decide)]
  exact k
theorem net_okD {n : NetT} (G : Gd n) (I : NmsI n) (O : NmsO n) : EqD.ok n = true := net_strs (fun x hx => (I.nm x hx).lt) (fun g hg => (G.gk g hg).1) fun x hx => (O.nm x hx).lt
theorem enum_fst {α β : Type} {xs : List (α × β)} {ns : List Str} {k : Nat} (h : k + xs.length ≤ ns.length) : ((enumL xs).map fun p => (ns.getD ((k : Int) + p.1).toNat "", p.2.2)).map (·.1) = (ns.drop k).take xs.length ∧ ((enumL xs).map fun p => (ns.getD ((k : Int) + p.1).toNat "", p.2.2)).map (·.2) = xs.map (·.2) := by
  unfold enumL
  rw [List.map_map, List.map_map, List.map_map]
  constructor
  · apply List.ext_getElem
    · rw [List.length_map, List.length_zipIdx, List.length_take, List.length_drop]
      omega
    · intro i h1 h2
      rw [List.length_map, List.length_zipIdx] at h1
      simp only [List.getElem_map, List.getElem_zipIdx, Nat.zero_add, Function.comp, List.getElem_take, List.getElem_drop]
      rw [show ((k : Int) + (i : Nat)).toNat = k + i by omega, List.getD_eq_getElem?_getD, List.getElem?_eq_getElem (by omega)]
      rfl
  · apply List.ext_getElem
    · simp
    · intro i h1 h2
      simp only [List.getElem_map, List.getElem_zipIdx, Function.comp]
theorem cut_last {α : Type} (xs : List α) (x : α) : cutL (xs ++ [x]) (some (-1 : Int)) none = [x] := by
  unfold cutL HT.sIx
  simp only [List.length_append, List.length_singleton]
  rw [if_pos (by decide)]
  have e : min (((xs.length + 1 : Nat) : Int) + -1).toNat (xs.length + 1) = xs.length := by omega
  rw [show ((-1 : Int) + ((xs.length + 1 : Nat) : Int)).toNat = xs.length by omega]
  simp
end W

namespace W
open PySem PySem.Spec PyProof.Rows L2 TL
open Enc
theorem law_ok (ns : List Int) (_ : ns.length ≤ 63) : m_law ns = some true := by
  unfold m_law
  refine Ok.eqv (P := fun r => r = true) ?_ fun r h => h
  refine Ok.bind (net_ok ns) fun n hn => ?_
  obtain ⟨G, I, O⟩ := hn
  have o1 := G.o1
  have o6 := G.o6
  refine Ok.bind (cell_ok ns 0 (by decide)) fun r3 _ => ?_
  refine Ok.bind (gnames_ok I G.i6 G.gl _) fun gn g => ?_
  refine Ok.bind (cell_ok ns 0 (by decide)) fun r7 _ => Ok.bind (stir_ok r7 343 (by decide) (by decide)) fun r9 _ => ?_
  refine Ok.bind (P := fun j => Gd j ∧ NmsI j ∧ NmsO j ∧ Gn j gn) (Ok.ite (fun hc => ?_) fun _ => Ok.pure ⟨G, I, O, g⟩) fun j hj => ?_
  · rw [Bool.and_eq_true] at hc
    have h6 := of_decide_eq_true hc.2
    refine Ok.bind (Ok.mapO (P := fun x y => gn[x.toNat]? = some y.1 ∧ ∃ o, n.c[x.toNat]? = some o ∧ y.2 = o.2) _ fun x hx => ?_) fun l hl => Ok.lt (Ok.pure ?_)
    · rw [mem_rngL] at hx
      refine Ok.bind (Ok.atI (xs := gn) (i := x) (by omega) (by omega)) fun t22 h22 => Ok.bind (Ok.atI (xs := n.c) (i := x) (by omega) (by omega)) fun t24 h24 => Ok.pure ⟨h22, t24, h24, rfl⟩
    · obtain ⟨hll, hla⟩ := hl
      rw [rngL_length] at hll
      have el : ∀ (i : Nat) y, l[i]? = some y → gn[i]? = some y.1 ∧ ∃ o, n.c[i]? = some o ∧ y.2 = o.2 := fun i y hy => by
        have hi : i < n.c.length := by have := get_lt hy; omega
        have hr : (rngL 0 n.c.length)[i]? = some (i : Int) := by
          have := rngL_at (lo := 0) (n := n.c.length) (i := (i : Int)) (by omega) (by omega)
          simpa using this
        have := hla i _ y hr hy
        simpa using this
      have hm : ∀ y ∈ l, y.1 ∈ gn ∧ ∃ o ∈ n.c, y.2 = o.2 := fun y hy => by
        obtain ⟨i, hi⟩ := mem_get hy
        obtain ⟨h1, o, h2, h3⟩ := el i y hi
        exact ⟨get_mem h1, o, get_mem h2, h3⟩
      have hf : l.map (·.1) = gn.take l.length := by
        apply List.ext_getElem?
        intro i
        rcases Nat.lt_or_ge i l.length with q | q
        · obtain ⟨h1, _⟩ := el i l[i] (List.getElem?_eq_getElem q)
          rw [List.getElem?_map, List.getElem?_eq_getElem q, List.getElem?_take_of_lt q, h1]
          rfl
        · rw [List.getElem?_eq_none (by rw [List.length_map]; exact q), List.getElem?_eq_none (by rw [List.length_take]; omega)]
      refine ⟨⟨G.i1, G.i6, G.iw, G.gl, G.gk, G.gw, by show 1 ≤ l.length; omega, by show l.length ≤ 6; omega, fun o ho => ?_⟩, ⟨I.nm, I.nd⟩, ⟨fun x hx => g.nm _ (hm x hx).1, ?_⟩, ⟨g.len, g.nm, g.nd⟩⟩
      · obtain ⟨_, o', ho', e⟩ := hm o ho
        rw [e]
        exact G.ow o' ho'
      · show (l.map (·.1)).Nodup
        rw [hf]
        exact List.Nodup.sublist (List.take_sublist _ _) (List.nodup_append.mp g.nd).2.1
  · obtain ⟨G, I, O, g⟩ := hj
    obtain ⟨W, hk⟩ := wnet_mk G I O g
    have hr := rows_100 G I O g
    have hl := rows_len W
    have a6 := G.i6
    have b6 := G.gl
    have c6 := G.o6
    have okj := net_okD G I O
    have hread : okO (m_read (Txt.join "\n" (rowsOf j gn))) = some j := by rw [m_read_net W hk 100 hr (by decide)]; rfl
    rw [rows_eq G I O g, Option.bind_some, joinO_eq 100 hr (by rw [hl, show ("\n" : Str).length = 1 by decide +kernel]; omega), Option.bind_some, hread, Option.bind_some]
    refine Ok.ite (fun h => ?_) fun _ => Ok.lt ?_
    · rw [decide_eq_true (show T3.mk j.a j.b j.c = j from rfl)] at h
      cases h
    rw [if_pos (by omega), if_pos (by omega), if_pos (by omega)]
    refine Ok.lt (Ok.lt (Ok.lt (Ok.ite (fun h => ?_) fun _ => ?_)))
    · simp at h
    · rw [Option.bind_some]
      refine Ok.bind (Ok.eqO okj okj) fun b56 hb => ?_
      rw [decide_eq_true rfl] at hb
      subst hb
      exact Ok.pure rfl
end W

namespace W
open PySem L2 TL
open Enc
theorem dfn_mk {K : Fg} {h : Heap} {mg : Str → Option Value} (X : K.In h) (G : h.Ns mainGlobals mg) {x : Str} {st : Stmt} {ps : List Str} {f : Addr} {od an : Option Addr} {sl : Array (Option Value)} {oc kV dc pm cd ct : Value}
    (a : PySem.W.nsIn K mainGlobals x = some (some (.ref f))) (l : K.lookup f = some ⟨oc, od, .func (PySem.W.fnOf x x (defArgs st) (defBody st) (defScope st) .none kV dc pm an cd ct), sl⟩) (c : PySem.W.codeIn K cd x = true) (k : PySem.W.keepIn K (.ref f) = true)
    (hb : ∀ (kV doc pm : Value) (an : Option Addr) (cdv ct : Value) (us : List Value), us.length = ps.length → bindArgs (PySem.W.fnOf x x (defArgs st) (defBody st) (defScope st) .none kV doc pm an cdv ct) ⟨us, []⟩ = pure (ps.zip us)) : Dfn K mg x st ps :=
  ⟨f, _, fun_mk l c k, PySem.W.mg_of X G a, (fun_mk l c k).binds hb⟩
theorem all_mk {l : PySem.W.OpenLaw} {w : World} {K : Fg} {h : Heap} {mg : Str → Option Value} {fa : Addr} (X : K.In h) (G : h.Ns mainGlobals mg) (hfa : mg "law" = some (.ref fa))
    {f0 : Addr} {od0 an0 : Option Addr} {sl0 : Array (Option Value)} {oc0 kV0 dc0 pm0 cd0 ct0 : Value} (a0 : PySem.W.nsIn K mainGlobals "_law_cell_at" = some (some (.ref f0))) (l0 : K.lookup f0 = some ⟨oc0, od0, .func (PySem.W.fnOf "_law_cell_at" "_law_cell_at" (defArgs (top 28)) (defBody (top 28)) (defScope (top 28)) .none kV0 dc0 pm0 an0 cd0 ct0), sl0⟩) (c0 : PySem.W.codeIn K cd0 "_law_cell_at" = true) (k0 : PySem.W.keepIn K (.ref f0) = true)
    {f1 : Addr} {od1 an1 : Option Addr} {sl1 : Array (Option Value)} {oc1 kV1 dc1 pm1 cd1 ct1 : Value} (a1 : PySem.W.nsIn K mainGlobals "_law_stir" = some (some (.ref f1))) (l1 : K.lookup f1 = some ⟨oc1, od1, .func (PySem.W.fnOf "_law_stir" "_law_stir" (defArgs (top 29)) (defBody (top 29)) (defScope (top 29)) .none kV1 dc1 pm1 an1 cd1 ct1), sl1⟩) (c1 : PySem.W.codeIn K cd1 "_law_stir" = true) (k1 : PySem.W.keepIn K (.ref f1) = true)
    {f2 : Addr} {od2 an2 : Option Addr} {sl2 : Array (Option Value)} {oc2 kV2 dc2 pm2 cd2 ct2 : Value} (a2 : PySem.W.nsIn K mainGlobals "_law_names" = some (some (.ref f2))) (l2 : K.lookup f2 = some ⟨oc2, od2, .func (PySem.W.fnOf "_law_names" "_law_names" (defArgs (top 30)) (defBody (top 30)) (defScope (top 30)) .none kV2 dc2 pm2 an2 cd2 ct2), sl2⟩) (c2 : PySem.W.codeIn K cd2 "_law_names" = true) (k2 : PySem.W.keepIn K (.ref f2) = true)
    {f3 : Addr} {od3 an3 : Option Addr} {sl3 : Array (Option Value)} {oc3 kV3 dc3 pm3 cd3 ct3 : Value} (a3 : PySem.W.nsIn K mainGlobals "_law_wires" = some (some (.ref f3))) (l3 : K.lookup f3 = some ⟨oc3, od3, .func (PySem.W.fnOf "_law_wires" "_law_wires" (defArgs (top 31)) (defBody (top 31)) (defScope (top 31)) .none kV3 dc3 pm3 an3 cd3 ct3), sl3⟩) (c3 : PySem.W.codeIn K cd3 "_law_wires" = true) (k3 : PySem.W.keepIn K (.ref f3) = true)
    {f4 : Addr} {od4 an4 : Option Addr} {sl4 : Array (Option Value)} {oc4 kV4 dc4 pm4 cd4 ct4 : Value} (a4 : PySem.W.nsIn K mainGlobals "_law_gate" = some (some (.ref f4))) (l4 : K.lookup f4 = some ⟨oc4, od4, .func (PySem.W.fnOf "_law_gate" "_law_gate" (defArgs (top 32)) (defBody (top 32)) (defScope (top 32)) .none kV4 dc4 pm4 an4 cd4 ct4), sl4⟩) (c4 : PySem.W.codeIn K cd4 "_law_gate" = true) (k4 : PySem.W.keepIn K (.ref f4) = true)
    {f5 : Addr} {od5 an5 : Option Addr} {sl5 : Array (Option Value)} {oc5 kV5 dc5 pm5 cd5 ct5 : Value} (a5 : PySem.W.nsIn K mainGlobals "_law_net" = some (some (.ref f5))) (l5 : K.lookup f5 = some ⟨oc5, od5, .func (PySem.W.fnOf "_law_net" "_law_net" (defArgs (top 33)) (defBody (top 33)) (defScope (top 33)) .none kV5 dc5 pm5 an5 cd5 ct5), sl5⟩) (c5 : PySem.W.codeIn K cd5 "_law_net" = true) (k5 : PySem.W.keepIn K (.ref f5) = true)
    {f6 : Addr} {od6 an6 : Option Addr} {sl6 : Array (Option Value)} {oc6 kV6 dc6 pm6 cd6 ct6 : Value} (a6 : PySem.W.nsIn K mainGlobals "_law_gate_names" = some (some (.ref f6))) (l6 : K.lookup f6 = some ⟨oc6, od6, .func (PySem.W.fnOf "_law_gate_names" "_law_gate_names" (defArgs (top 36)) (defBody (top 36)) (defScope (top 36)) .none kV6 dc6 pm6 an6 cd6 ct6), sl6⟩) (c6 : PySem.W.codeIn K cd6 "_law_gate_names" = true) (k6 : PySem.W.keepIn K (.ref f6) = true)
    {f7 : Addr} {od7 an7 : Option Addr} {sl7 : Array (Option Value)} {oc7 kV7 dc7 pm7 cd7 ct7 : Value} (a7 : PySem.W.nsIn K mainGlobals "_law_words" = some (some (.ref f7))) (l7 : K.lookup f7 = some ⟨oc7, od7, .func (PySem.W.fnOf "_law_words" "_law_words" (defArgs (top 34)) (defBody (top 34)) (defScope (top 34)) .none kV7 dc7 pm7 an7 cd7 ct7), sl7⟩) (c7 : PySem.W.codeIn K cd7 "_law_words" = true) (k7 : PySem.W.keepIn K (.ref f7) = true)
    {f8 : Addr} {od8 an8 : Option Addr} {sl8 : Array (Option Value)} {oc8 kV8 dc8 pm8 cd8 ct8 : Value} (a8 : PySem.W.nsIn K mainGlobals "_law_rows" = some (some (.ref f8))) (l8 : K.lookup f8 = some ⟨oc8, od8, .func (PySem.W.fnOf "_law_rows" "_law_rows" (defArgs (top 35)) (defBody (top 35)) (defScope (top 35)) .none kV8 dc8 pm8 an8 cd8 ct8), sl8⟩) (c8 : PySem.W.codeIn K cd8 "_law_rows" = true) (k8 : PySem.W.keepIn K (.ref f8) = true)
    {f9 : Addr} {od9 an9 : Option Addr} {sl9 : Array (Option Value)} {oc9 kV9 dc9 pm9 cd9 ct9 : Value} (a9 : PySem.W.nsIn K mainGlobals "_law_alike" = some (some (.ref f9))) (l9 : K.lookup f9 = some ⟨oc9, od9, .func (PySem.W.fnOf "_law_alike" "_law_alike" (defArgs (top 37)) (defBody (top 37)) (defScope (top 37)) .none kV9 dc9 pm9 an9 cd9 ct9), sl9⟩) (c9 : PySem.W.codeIn K cd9 "_law_alike" = true) (k9 : PySem.W.keepIn K (.ref f9) = true)
    {f10 : Addr} {od10 an10 : Option Addr} {sl10 : Array (Option Value)} {oc10 kV10 dc10 pm10 cd10 ct10 : Value} (a10 : PySem.W.nsIn K mainGlobals "law" = some (some (.ref f10))) (l10 : K.lookup f10 = some ⟨oc10, od10, .func (PySem.W.fnOf "law" "law" (defArgs (top 38)) (defBody (top 38)) (defScope (top 38)) .none kV10 dc10 pm10 an10 cd10 ct10), sl10⟩) (c10 : PySem.W.codeIn K cd10 "law" = true) (k10 : PySem.W.keepIn K (.ref f10) = true)
    (z_bool : PySem.W.nsIn K mainGlobals "bool" = some none)
    (z_enumerate : PySem.W.nsIn K mainGlobals "enumerate" = some none)
    (z_int : PySem.W.nsIn K mainGlobals "int" = some none)
    (z_isinstance : PySem.W.nsIn K mainGlobals "isinstance" = some none)
    (z_len : PySem.W.nsIn K mainGlobals "len" = some none)
    (z_list : PySem.W.nsIn K mainGlobals "list" = some none)
    (z_min : PySem.W.nsIn K mainGlobals "min" = some none)
    (z_range : PySem.W.nsIn K mainGlobals "range" = some none)
    (z_str : PySem.W.nsIn K mainGlobals "str" = some none)
    (z_sum : PySem.W.nsIn K mainGlobals "sum" = some none)
    (z_tuple : PySem.W.nsIn K mainGlobals "tuple" = some none)
    {fr0 : Addr} {odr0 anr0 : Option Addr} {slr0 : Array (Option Value)} {ocr0 kVr0 dcr0 pmr0 cdr0 ctr0 : Value} (ar0 : PySem.W.nsIn K mainGlobals "is_name" = some (some (.ref fr0))) (lr0 : K.lookup fr0 = some ⟨ocr0, odr0, .func (PySem.W.fnOf "is_name" "is_name" (defArgs (top 21)) (defBody (top 21)) (defScope (top 21)) .none kVr0 dcr0 pmr0 anr0 cdr0 ctr0), slr0⟩) (cr0 : PySem.W.codeIn K cdr0 "is_name" = true) (kr0 : PySem.W.keepIn K (.ref fr0) = true)
    {fr1 : Addr} {odr1 anr1 : Option Addr} {slr1 : Array (Option Value)} {ocr1 kVr1 dcr1 pmr1 cdr1 ctr1 : Value} (ar1 : PySem.W.nsIn K mainGlobals "named" = some (some (.ref fr1))) (lr1 : K.lookup fr1 = some ⟨ocr1, odr1, .func (PySem.W.fnOf "named" "named" (defArgs (top 22)) (defBody (top 22)) (defScope (top 22)) .none kVr1 dcr1 pmr1 anr1 cdr1 ctr1), slr1⟩) (cr1 : PySem.W.codeIn K cdr1 "named" = true) (kr1 : PySem.W.keepIn K (.ref fr1) = true)
    {fr2 : Addr} {odr2 anr2 : Option Addr} {slr2 : Array (Option Value)} {ocr2 kVr2 dcr2 pmr2 cdr2 ctr2 : Value} (ar2 : PySem.W.nsIn K mainGlobals "wire_told" = some (some (.ref fr2))) (lr2 : K.lookup fr2 = some ⟨ocr2, odr2, .func (PySem.W.fnOf "wire_told" "wire_told" (defArgs (top 23)) (defBody (top 23)) (defScope (top 23)) .none kVr2 dcr2 pmr2 anr2 cdr2 ctr2), slr2⟩) (cr2 : PySem.W.codeIn K cdr2 "wire_told" = true) (kr2 : PySem.W.keepIn K (.ref fr2) = true)
    {fr3 : Addr} {odr3 anr3 : Option Addr} {slr3 : Array (Option Value)} {ocr3 kVr3 dcr3 pmr3 cdr3 ctr3 : Value} (ar3 : PySem.W.nsIn K mainGlobals "row_told" = some (some (.ref fr3))) (lr3 : K.lookup fr3 = some ⟨ocr3, odr3, .func (PySem.W.fnOf "row_told" "row_told" (defArgs (top 24)) (defBody (top 24)) (defScope (top 24)) .none kVr3 dcr3 pmr3 anr3 cdr3 ctr3), slr3⟩) (cr3 : PySem.W.codeIn K cdr3 "row_told" = true) (kr3 : PySem.W.keepIn K (.ref fr3) = true)
    {fr4 : Addr} {odr4 anr4 : Option Addr} {slr4 : Array (Option Value)} {ocr4 kVr4 dcr4 pmr4 cdr4 ctr4 : Value} (ar4 : PySem.W.nsIn K mainGlobals "read" = some (some (.ref fr4))) (lr4 : K.lookup fr4 = some ⟨ocr4, odr4, .func (PySem.W.fnOf "read" "read" (defArgs (top 26)) (defBody (top 26)) (defScope (top 26)) .none kVr4 dcr4 pmr4 anr4 cdr4 ctr4), slr4⟩) (cr4 : PySem.W.codeIn K cdr4 "read" = true) (kr4 : PySem.W.keepIn K (.ref fr4) = true)
    {cR : Addr} (rC : PySem.W.nsIn K mainGlobals "Reading" = some (some (.ref cR)))
    {fm0 : Addr} {odm0 anm0 : Option Addr} {slm0 : Array (Option Value)} {ocm0 kVm0 dcm0 pmm0 cdm0 ctm0 : Value} (am0 : PySem.W.findIn K (.ref cR) "__init__" = some (some (.ref fm0))) (lm0 : K.lookup fm0 = some ⟨ocm0, odm0, .func (PySem.W.fnOf "__init__" "Reading.__init__" (defArgs sIni) (defBody sIni) (defScope sIni) .none kVm0 dcm0 pmm0 anm0 cdm0 ctm0), slm0⟩) (cm0 : PySem.W.codeIn K cdm0 "Reading.__init__" = true) (km0 : PySem.W.keepIn K (.ref fm0) = true)
    (im0 : PySem.W.isFn K (.ref fm0) = true)
    {fm1 : Addr} {odm1 anm1 : Option Addr} {slm1 : Array (Option Value)} {ocm1 kVm1 dcm1 pmm1 cdm1 ctm1 : Value} (am1 : PySem.W.findIn K (.ref cR) "in_read" = some (some (.ref fm1))) (lm1 : K.lookup fm1 = some ⟨ocm1, odm1, .func (PySem.W.fnOf "in_read" "Reading.in_read" (defArgs sInr) (defBody sInr) (defScope sInr) .none kVm1 dcm1 pmm1 anm1 cdm1 ctm1), slm1⟩) (cm1 : PySem.W.codeIn K cdm1 "Reading.in_read" = true) (km1 : PySem.W.keepIn K (.ref fm1) = true)
    (im1 : PySem.W.isFn K (.ref fm1) = true)
    {fm2 : Addr} {odm2 anm2 : Option Addr} {slm2 : Array (Option Value)} {ocm2 kVm2 dcm2 pmm2 cdm2 ctm2 : Value} (am2 : PySem.W.findIn K (.ref cR) "numbers_of" = some (some (.ref fm2))) (lm2 : K.lookup fm2 = some ⟨ocm2, odm2, .func (PySem.W.fnOf "numbers_of" "Reading.numbers_of" (defArgs sNum) (defBody sNum) (defScope sNum) .none kVm2 dcm2 pmm2 anm2 cdm2 ctm2), slm2⟩) (cm2 : PySem.W.codeIn K cdm2 "Reading.numbers_of" = true) (km2 : PySem.W.keepIn K (.ref fm2) = true)
    (im2 : PySem.W.isFn K (.ref fm2) = true)
    {fm3 : Addr} {odm3 anm3 : Option Addr} {slm3 : Array (Option Value)} {ocm3 kVm3 dcm3 pmm3 cdm3 ctm3 : Value} (am3 : PySem.W.findIn K (.ref cR) "gate_read" = some (some (.ref fm3))) (lm3 : K.lookup fm3 = some ⟨ocm3, odm3, .func (PySem.W.fnOf "gate_read" "Reading.gate_read" (defArgs sGat) (defBody sGat) (defScope sGat) .none kVm3 dcm3 pmm3 anm3 cdm3 ctm3), slm3⟩) (cm3 : PySem.W.codeIn K cdm3 "Reading.gate_read" = true) (km3 : PySem.W.keepIn K (.ref fm3) = true)
    (im3 : PySem.W.isFn K (.ref fm3) = true)
    {fm4 : Addr} {odm4 anm4 : Option Addr} {slm4 : Array (Option Value)} {ocm4 kVm4 dcm4 pmm4 cdm4 ctm4 : Value} (am4 : PySem.W.findIn K (.ref cR) "out_read" = some (some (.ref fm4))) (lm4 : K.lookup fm4 = some ⟨ocm4, odm4, .func (PySem.W.fnOf "out_read" "Reading.out_read" (defArgs sOut) (defBody sOut) (defScope sOut) .none kVm4 dcm4 pmm4 anm4 cdm4 ctm4), slm4⟩) (cm4 : PySem.W.codeIn K cdm4 "Reading.out_read" = true) (km4 : PySem.W.keepIn K (.ref fm4) = true)
    (im4 : PySem.W.isFn K (.ref fm4) = true)
    {fm5 : Addr} {odm5 anm5 : Option Addr} {slm5 : Array (Option Value)} {ocm5 kVm5 dcm5 pmm5 cdm5 ctm5 : Value} (am5 : PySem.W.findIn K (.ref cR) "row_read" = some (some (.ref fm5))) (lm5 : K.lookup fm5 = some ⟨ocm5, odm5, .func (PySem.W.fnOf "row_read" "Reading.row_read" (defArgs sRow) (defBody sRow) (defScope sRow) .none kVm5 dcm5 pmm5 anm5 cdm5 ctm5), slm5⟩) (cm5 : PySem.W.codeIn K cdm5 "Reading.row_read" = true) (km5 : PySem.W.keepIn K (.ref fm5) = true)
    (im5 : PySem.W.isFn K (.ref fm5) = true)
    (rpg : PySem.W.plainGet K cR Str.empty = true)
    (rhd : PySem.W.hasDictIn K cR = true)
    (rpo : PySem.W.plainOver K cR = true)
    (rsa : PySem.W.findIn K (.ref cR) "__setattr__" = some (some (.builtin "object.__setattr__")))
    (rmk : PySem.W.makesIn K cR = true)
    (rkc : PySem.W.keepIn K (.ref cR) = true)
    (rnins : PySem.W.findIn K (.ref cR) "ins" = some none)
    (rngates : PySem.W.findIn K (.ref cR) "gates" = some none)
    (rnouts : PySem.W.findIn K (.ref cR) "outs" = some none)
    (rnwires : PySem.W.findIn K (.ref cR) "wires" = some none)
    (rnnames : PySem.W.findIn K (.ref cR) "names" = some none)
    (rzlen : PySem.W.nsIn K mainGlobals "len" = some none)
    (rzint : PySem.W.nsIn K mainGlobals "int" = some none)
    (rztuple : PySem.W.nsIn K mainGlobals "tuple" = some none)
    {rt_LETTERS : Tok} (rg_LETTERS : PySem.W.nsIn K mainGlobals "LETTERS" = some (some (.str "abcdefghijklmnopqrstuvwxyz" rt_LETTERS)))
    {rt_FIGURES : Tok} (rg_FIGURES : PySem.W.nsIn K mainGlobals "FIGURES" = some (some (.str "0123456789" rt_FIGURES)))
    {rt_LONGEST_NAME : Tok} (rg_LONGEST_NAME : PySem.W.nsIn K mainGlobals "LONGEST_NAME" = some (some (.int 8 rt_LONGEST_NAME)))
    {rt_MOST_ROWS : Tok} (rg_MOST_ROWS : PySem.W.nsIn K mainGlobals "MOST_ROWS" = some (some (.int 80 rt_MOST_ROWS)))
    {rt_MOST_INS : Tok} (rg_MOST_INS : PySem.W.nsIn K mainGlobals "MOST_INS" = some (some (.int 6 rt_MOST_INS)))
    {rt_MOST_GATES : Tok} (rg_MOST_GATES : PySem.W.nsIn K mainGlobals "MOST_GATES" = some (some (.int 60 rt_MOST_GATES)))
    {rt_MOST_OUTS : Tok} (rg_MOST_OUTS : PySem.W.nsIn K mainGlobals "MOST_OUTS" = some (some (.int 6 rt_MOST_OUTS)))
    {rt_MOST_WIRES : Tok} (rg_MOST_WIRES : PySem.W.nsIn K mainGlobals "MOST_WIRES" = some (some (.int 3 rt_MOST_WIRES)))
    {cB : Addr} (rg_BARRED : PySem.W.nsIn K mainGlobals "BARRED" = some (some (.ref cB)))
    {ro_cB : Option Addr} {rk0_cB rk1_cB rk2_cB rk3_cB rk4_cB rk5_cB rk6_cB rk7_cB rk8_cB : Tok} {rn_cB : Nat} {rsl_cB : Array (Option Value)} (rl_cB : K.lookup cB = some ⟨.type "tuple", ro_cB, .seq #[.str "in" rk0_cB, .str "gate" rk1_cB, .str "sure" rk2_cB, .str "out" rk3_cB, .str "not" rk4_cB, .str "and" rk5_cB, .str "or" rk6_cB, .str "xor" rk7_cB, .str "vote" rk8_cB] rn_cB, rsl_cB⟩)
    {cW : Addr} (rg_WIDTHS : PySem.W.nsIn K mainGlobals "WIDTHS" = some (some (.ref cW)))
    {ro_cW : Option Addr} {rk0_cW rk1_cW rk2_cW : Tok} {rn_cW : Nat} {rsl_cW : Array (Option Value)} (rl_cW : K.lookup cW = some ⟨.type "tuple", ro_cW, .seq #[.str "1" rk0_cW, .str "2" rk1_cW, .str "3" rk2_cW] rn_cW, rsl_cW⟩)
    {cL : Addr} (rg_LEGS : PySem.W.nsIn K mainGlobals "LEGS" = some (some (.ref cL)))
    {rh0 rh1 rh2 rh3 rh4 : Int} {ra0 ra1 ra2 ra3 ra4 ru0 ru1 ru2 ru3 ru4 : Tok} {rnL : Nat} (rlL : K.lookup cL = some ⟨.type "dict", none, .dict #[⟨rh0, .str "not" ra0, .int 1 ru0⟩, ⟨rh1, .str "and" ra1, .int 2 ru1⟩, ⟨rh2, .str "or" ra2, .int 2 ru2⟩, ⟨rh3, .str "xor" ra3, .int 2 ru3⟩, ⟨rh4, .str "vote" ra4, .int 3 ru4⟩] rnL, #[]⟩) (rlowL : (cL == sysModules) = false) (rkL : PySem.W.KeysLit w.params (#[⟨rh0, .str "not" ra0, .int 1 ru0⟩, ⟨rh1, .str "and" ra1, .int 2 ru1⟩, ⟨rh2, .str "or" ra2, .int 2 ru2⟩, ⟨rh3, .str "xor" ra3, .int 2 ru3⟩, ⟨rh4, .str "vote" ra4, .int 3 ru4⟩] : Array DictEntry).toList)
    {rc_NoForm : Addr} (rxa_NoForm : PySem.W.nsIn K mainGlobals "NoForm" = some (some (.ref rc_NoForm)))
    (rxq_NoForm : PySem.W.excIn K rc_NoForm [.type "ValueError", .type "Exception", .type "BaseException", .type "object"] "ValueError.__new__" = true)
    (rxk_NoForm : PySem.W.keepIn K (.ref rc_NoForm) = true)
    (rxt_NoForm : PySem.W.typeIn K (.ref rc_NoForm) = some (.type "type"))
    (rxg_NoForm : PySem.W.findIn K (.ref rc_NoForm) "__getattribute__" = some (some (.builtin "BaseException.__getattribute__")))
    (rxh_NoForm : PySem.W.findIn K (.ref rc_NoForm) "__getattr__" = some none)
    (rxs_NoForm : PySem.W.subIn K (.ref rc_NoForm) (.type "BaseException") = some true)
    (rxd_NoForm : PySem.W.hasDictIn K rc_NoForm = true)
    (rxc_NoForm : PySem.W.findIn K (.ref rc_NoForm) "__class__" = some (some (.builtin "object.__class__")))
    (rxm_NoForm : PySem.W.mroIn K rc_NoForm (.type "object") = some true)
    {rc_NoPlace : Addr} (rxa_NoPlace : PySem.W.nsIn K mainGlobals "NoPlace" = some (some (.ref rc_NoPlace)))
    (rxq_NoPlace : PySem.W.excIn K rc_NoPlace [.type "ValueError", .type "Exception", .type "BaseException", .type "object"] "ValueError.__new__" = true)
    (rxk_NoPlace : PySem.W.keepIn K (.ref rc_NoPlace) = true)
    (rxt_NoPlace : PySem.W.typeIn K (.ref rc_NoPlace) = some (.type "type"))
    (rxg_NoPlace : PySem.W.findIn K (.ref rc_NoPlace) "__getattribute__" = some (some (.builtin "BaseException.__getattribute__")))
    (rxh_NoPlace : PySem.W.findIn K (.ref rc_NoPlace) "__getattr__" = some none)
    (rxs_NoPlace : PySem.W.subIn K (.ref rc_NoPlace) (.type "BaseException") = some true)
    (rxd_NoPlace : PySem.W.hasDictIn K rc_NoPlace = true)
    (rxc_NoPlace : PySem.W.findIn K (.ref rc_NoPlace) "__class__" = some (some (.builtin "object.__class__")))
    (rxm_NoPlace : PySem.W.mroIn K rc_NoPlace (.type "object") = some true)
    {rc_Twice : Addr} (rxa_Twice : PySem.W.nsIn K mainGlobals "Twice" = some (some (.ref rc_Twice)))
    (rxq_Twice : PySem.W.excIn K rc_Twice [.type "ValueError", .type "Exception", .type "BaseException", .type "object"] "ValueError.__new__" = true)
    (rxk_Twice : PySem.W.keepIn K (.ref rc_Twice) = true)
    (rxt_Twice : PySem.W.typeIn K (.ref rc_Twice) = some (.type "type"))
    (rxg_Twice : PySem.W.findIn K (.ref rc_Twice) "__getattribute__" = some (some (.builtin "BaseException.__getattribute__")))
    (rxh_Twice : PySem.W.findIn K (.ref rc_Twice) "__getattr__" = some none)
    (rxs_Twice : PySem.W.subIn K (.ref rc_Twice) (.type "BaseException") = some true)
    (rxd_Twice : PySem.W.hasDictIn K rc_Twice = true)
    (rxc_Twice : PySem.W.findIn K (.ref rc_Twice) "__class__" = some (some (.builtin "object.__class__")))
    (rxm_Twice : PySem.W.mroIn K rc_Twice (.type "object") = some true)
    {rc_Full : Addr} (rxa_Full : PySem.W.nsIn K mainGlobals "Full" = some (some (.ref rc_Full)))
    (rxq_Full : PySem.W.excIn K rc_Full [.type "ValueError", .type "Exception", .type "BaseException", .type "object"] "ValueError.__new__" = true)
    (rxk_Full : PySem.W.keepIn K (.ref rc_Full) = true)
    (rxt_Full : PySem.W.typeIn K (.ref rc_Full) = some (.type "type"))
    (rxg_Full : PySem.W.findIn K (.ref rc_Full) "__getattribute__" = some (some (.builtin "BaseException.__getattribute__")))
    (rxh_Full : PySem.W.findIn K (.ref rc_Full) "__getattr__" = some none)
    (rxs_Full : PySem.W.subIn K (.ref rc_Full) (.type "BaseException") = some true)
    (rxd_Full : PySem.W.hasDictIn K rc_Full = true)
    (rxc_Full : PySem.W.findIn K (.ref rc_Full) "__class__" = some (some (.builtin "object.__class__")))
    (rxm_Full : PySem.W.mroIn K rc_Full (.type "object") = some true)
    {rc_NoWire : Addr} (rxa_NoWire : PySem.W.nsIn K mainGlobals "NoWire" = some (some (.ref rc_NoWire)))
    (rxq_NoWire : PySem.W.excIn K rc_NoWire [.type "ValueError", .type "Exception", .type "BaseException", .type "object"] "ValueError.__new__" = true)
    (rxk_NoWire : PySem.W.keepIn K (.ref rc_NoWire) = true)
    (rxt_NoWire : PySem.W.typeIn K (.ref rc_NoWire) = some (.type "type"))
    (rxg_NoWire : PySem.W.findIn K (.ref rc_NoWire) "__getattribute__" = some (some (.builtin "BaseException.__getattribute__")))
    (rxh_NoWire : PySem.W.findIn K (.ref rc_NoWire) "__getattr__" = some none)
    (rxs_NoWire : PySem.W.subIn K (.ref rc_NoWire) (.type "BaseException") = some true)
    (rxd_NoWire : PySem.W.hasDictIn K rc_NoWire = true)
    (rxc_NoWire : PySem.W.findIn K (.ref rc_NoWire) "__class__" = some (some (.builtin "object.__class__")))
    (rxm_NoWire : PySem.W.mroIn K rc_NoWire (.type "object") = some true)
    {rc_Open : Addr} (rxa_Open : PySem.W.nsIn K mainGlobals "Open" = some (some (.ref rc_Open)))
    (rxq_Open : PySem.W.excIn K rc_Open [.type "ValueError", .type "Exception", .type "BaseException", .type "object"] "ValueError.__new__" = true)
    (rxk_Open : PySem.W.keepIn K (.ref rc_Open) = true)
    (rxt_Open : PySem.W.typeIn K (.ref rc_Open) = some (.type "type"))
    (rxg_Open : PySem.W.findIn K (.ref rc_Open) "__getattribute__" = some (some (.builtin "BaseException.__getattribute__")))
    (rxh_Open : PySem.W.findIn K (.ref rc_Open) "__getattr__" = some none)
    (rxs_Open : PySem.W.subIn K (.ref rc_Open) (.type "BaseException") = some true)
    (rxd_Open : PySem.W.hasDictIn K rc_Open = true)
    (rxc_Open : PySem.W.findIn K (.ref rc_Open) "__class__" = some (some (.builtin "object.__class__")))
    (rxm_Open : PySem.W.mroIn K rc_Open (.type "object") = some true)
    {rc_TooLong : Addr} (rxa_TooLong : PySem.W.nsIn K mainGlobals "TooLong" = some (some (.ref rc_TooLong)))
    (rxq_TooLong : PySem.W.excIn K rc_TooLong [.type "ValueError", .type "Exception", .type "BaseException", .type "object"] "ValueError.__new__" = true)
    (rxk_TooLong : PySem.W.keepIn K (.ref rc_TooLong) = true)
    (rxt_TooLong : PySem.W.typeIn K (.ref rc_TooLong) = some (.type "type"))
    (rxg_TooLong : PySem.W.findIn K (.ref rc_TooLong) "__getattribute__" = some (some (.builtin "BaseException.__getattribute__")))
    (rxh_TooLong : PySem.W.findIn K (.ref rc_TooLong) "__getattr__" = some none)
    (rxs_TooLong : PySem.W.subIn K (.ref rc_TooLong) (.type "BaseException") = some true)
    (rxd_TooLong : PySem.W.hasDictIn K rc_TooLong = true)
    (rxc_TooLong : PySem.W.findIn K (.ref rc_TooLong) "__class__" = some (some (.builtin "object.__class__")))
    (rxm_TooLong : PySem.W.mroIn K rc_TooLong (.type "object") = some true)
    (rxxn : PySem.W.specialIn K (.builtin "object.__class__") "__get__" = some (some (.builtin "getset_descriptor.__get__")))
    (rxxt : PySem.W.takesIn K (.builtin "object.__class__") = some true) :
    ∃ fd : FuncData, (∀ (s : Shared) (v : Value), BindsTo s fd ⟨[v], []⟩ [("script", v)]) ∧ ∀ base : Heap, K.In base → base.Ns mainGlobals mg → FnOk l.prog w K mg base CX0 15 fa fd ["script"] (SpP K R_law) := by
  have e := hfa.symm.trans (PySem.W.mg_of X G a10)
  cases e
  have B : Bi mg := { triv := trivial, bool := PySem.W.mg_none_of X G z_bool, enumerate := PySem.W.mg_none_of X G z_enumerate, int := PySem.W.mg_none_of X G z_int, isinstance := PySem.W.mg_none_of X G z_isinstance, len := PySem.W.mg_none_of X G z_len, list := PySem.W.mg_none_of X G z_list, min := PySem.W.mg_none_of X G z_min, range := PySem.W.mg_none_of X G z_range, str := PySem.W.mg_none_of X G z_str, sum := PySem.W.mg_none_of X G z_sum, tuple := PySem.W.mg_none_of X G z_tuple }
  have dr0 : Dfn K mg "is_name" (top 21) ["word"] := dfn_mk X G ar0 lr0 cr0 kr0 fun _ _ _ _ _ _ us hl => match us, hl with | [_], _ => rfl
  have dr1 : Dfn K mg "named" (top 22) ["word"] := dfn_mk X G ar1 lr1 cr1 kr1 fun _ _ _ _ _ _ us hl => match us, hl with | [_], _ => rfl
  have dr2 : Dfn K mg "wire_told" (top 23) ["word"] := dfn_mk X G ar2 lr2 cr2 kr2 fun _ _ _ _ _ _ us hl => match us, hl with | [_], _ => rfl
  have dr3 : Dfn K mg "row_told" (top 24) ["row"] := dfn_mk X G ar3 lr3 cr3 kr3 fun _ _ _ _ _ _ us hl => match us, hl with | [_], _ => rfl
  have dr4 : Dfn K mg "read" (top 26) ["text"] := dfn_mk X G ar4 lr4 cr4 kr4 fun _ _ _ _ _ _ us hl => match us, hl with | [_], _ => rfl
  have bnd0 := (fun_mk lm0 cm0 km0).binds (ps := ["self"]) fun _ _ _ _ _ _ us hl => match us, hl with | [_], _ => rfl
  have dm1 : Dfm K cR "in_read" "Reading.in_read" sInr ["self", "name", "width"] := ⟨_, _, fun_mk lm1 cm1 km1, ⟨am1, im1, km1⟩, (fun_mk lm1 cm1 km1).binds (ps := ["self", "name", "width"]) fun _ _ _ _ _ _ us hl => match us, hl with | [_, _, _], _ => rfl⟩
  have dm2 : Dfm K cR "numbers_of" "Reading.numbers_of" sNum ["self", "words"] := ⟨_, _, fun_mk lm2 cm2 km2, ⟨am2, im2, km2⟩, (fun_mk lm2 cm2 km2).binds (ps := ["self", "words"]) fun _ _ _ _ _ _ us hl => match us, hl with | [_, _], _ => rfl⟩
  have dm3 : Dfm K cR "gate_read" "Reading.gate_read" sGat ["self", "word", "name", "kind", "wires"] := ⟨_, _, fun_mk lm3 cm3 km3, ⟨am3, im3, km3⟩, (fun_mk lm3 cm3 km3).binds (ps := ["self", "word", "name", "kind", "wires"]) fun _ _ _ _ _ _ us hl => match us, hl with | [_, _, _, _, _], _ => rfl⟩
  have dm4 : Dfm K cR "out_read" "Reading.out_read" sOut ["self", "name", "words"] := ⟨_, _, fun_mk lm4 cm4 km4, ⟨am4, im4, km4⟩, (fun_mk lm4 cm4 km4).binds (ps := ["self", "name", "words"]) fun _ _ _ _ _ _ us hl => match us, hl with | [_, _, _], _ => rfl⟩
  have dm5 : Dfm K cR "row_read" "Reading.row_read" sRow ["self", "said"] := ⟨_, _, fun_mk lm5 cm5 km5, ⟨am5, im5, km5⟩, (fun_mk lm5 cm5 km5).binds (ps := ["self", "said"]) fun _ _ _ _ _ _ us hl => match us, hl with | [_, _], _ => rfl⟩
  have R : RdC K w mg cB cW cL cR := { tB := PySem.W.mg_of X G rg_BARRED, sB := ⟨_, _, _, rl_cB, rfl, rfl, by exact Nat.le_of_ble_eq_true rfl, .cons ⟨_, rfl⟩ (.cons ⟨_, rfl⟩ (.cons ⟨_, rfl⟩ (.cons ⟨_, rfl⟩ (.cons ⟨_, rfl⟩ (.cons ⟨_, rfl⟩ (.cons ⟨_, rfl⟩ (.cons ⟨_, rfl⟩ (.cons ⟨_, rfl⟩ (.nil)))))))))⟩, tW := PySem.W.mg_of X G rg_WIDTHS, sW := ⟨_, _, _, rl_cW, rfl, rfl, by exact Nat.le_of_ble_eq_true rfl, .cons ⟨_, rfl⟩ (.cons ⟨_, rfl⟩ (.cons ⟨_, rfl⟩ (.nil)))⟩, tL := PySem.W.mg_of X G rg_LEGS, sL := legs_mk rlowL rlL rkL, cl := ⟨rpg, rhd, rpo, rsa⟩, gC := PySem.W.mg_of X G rC, nI := rnins, nG := rngates, nO := rnouts, nW := rnwires, nN := rnnames, len := PySem.W.mg_none_of X G rzlen, int := PySem.W.mg_none_of X G rzint, tuple := PySem.W.mg_none_of X G rztuple, lett := ⟨_, PySem.W.mg_of X G rg_LETTERS⟩, figs := ⟨_, PySem.W.mg_of X G rg_FIGURES⟩, long := ⟨_, PySem.W.mg_of X G rg_LONGEST_NAME⟩, rows := ⟨_, PySem.W.mg_of X G rg_MOST_ROWS⟩, ins := ⟨_, PySem.W.mg_of X G rg_MOST_INS⟩, gates := ⟨_, PySem.W.mg_of X G rg_MOST_GATES⟩, outs := ⟨_, PySem.W.mg_of X G rg_MOST_OUTS⟩, wires := ⟨_, PySem.W.mg_of X G rg_MOST_WIRES⟩, xNoForm := ⟨_, PySem.W.mg_of X G rxa_NoForm, rxq_NoForm, rxk_NoForm, rxt_NoForm, ⟨rxg_NoForm, rxh_NoForm, rxs_NoForm, rxd_NoForm, rxc_NoForm, rxxn, rxxt, rxm_NoForm⟩⟩, xNoPlace := ⟨_, PySem.W.mg_of X G rxa_NoPlace, rxq_NoPlace, rxk_NoPlace, rxt_NoPlace, ⟨rxg_NoPlace, rxh_NoPlace, rxs_NoPlace, rxd_NoPlace, rxc_NoPlace, rxxn, rxxt, rxm_NoPlace⟩⟩, xTwice := ⟨_, PySem.W.mg_of X G rxa_Twice, rxq_Twice, rxk_Twice, rxt_Twice, ⟨rxg_Twice, rxh_Twice, rxs_Twice, rxd_Twice, rxc_Twice, rxxn, rxxt, rxm_Twice⟩⟩, xFull := ⟨_, PySem.W.mg_of X G rxa_Full, rxq_Full, rxk_Full, rxt_Full, ⟨rxg_Full, rxh_Full, rxs_Full, rxd_Full, rxc_Full, rxxn, rxxt, rxm_Full⟩⟩, xNoWire := ⟨_, PySem.W.mg_of X G rxa_NoWire, rxq_NoWire, rxk_NoWire, rxt_NoWire, ⟨rxg_NoWire, rxh_NoWire, rxs_NoWire, rxd_NoWire, rxc_NoWire, rxxn, rxxt, rxm_NoWire⟩⟩, xOpen := ⟨_, PySem.W.mg_of X G rxa_Open, rxq_Open, rxk_Open, rxt_Open, ⟨rxg_Open, rxh_Open, rxs_Open, rxd_Open, rxc_Open, rxxn, rxxt, rxm_Open⟩⟩, xTooLong := ⟨_, PySem.W.mg_of X G rxa_TooLong, rxq_TooLong, rxk_TooLong, rxt_TooLong, ⟨rxg_TooLong, rxh_TooLong, rxs_TooLong, rxd_TooLong, rxc_TooLong, rxxn, rxxt, rxm_TooLong⟩⟩ }
  have d0 : Dfn K mg "_law_cell_at" (top 28) ["script", "k"] := dfn_mk X G a0 l0 c0 k0 fun _ _ _ _ _ _ us hl => match us, hl with | [_, _], _ => rfl
  have d1 : Dfn K mg "_law_stir" (top 29) ["cell", "k"] := dfn_mk X G a1 l1 c1 k1 fun _ _ _ _ _ _ us hl => match us, hl with | [_, _], _ => rfl
  have d2 : Dfn K mg "_law_names" (top 30) ["head", "k", "many"] := dfn_mk X G a2 l2 c2 k2 fun _ _ _ _ _ _ us hl => match us, hl with | [_, _, _], _ => rfl
  have d3 : Dfn K mg "_law_wires" (top 31) ["cell", "k", "many", "count"] := dfn_mk X G a3 l3 c3 k3 fun _ _ _ _ _ _ us hl => match us, hl with | [_, _, _, _], _ => rfl
  have d4 : Dfn K mg "_law_gate" (top 32) ["cell", "count"] := dfn_mk X G a4 l4 c4 k4 fun _ _ _ _ _ _ us hl => match us, hl with | [_, _], _ => rfl
  have d5 : Dfn K mg "_law_net" (top 33) ["script"] := dfn_mk X G a5 l5 c5 k5 fun _ _ _ _ _ _ us hl => match us, hl with | [_], _ => rfl
  have d6 : Dfn K mg "_law_gate_names" (top 36) ["net", "head"] := dfn_mk X G a6 l6 c6 k6 fun _ _ _ _ _ _ us hl => match us, hl with | [_, _], _ => rfl
  have d7 : Dfn K mg "_law_words" (top 34) ["ins", "gate_names"] := dfn_mk X G a7 l7 c7 k7 fun _ _ _ _ _ _ us hl => match us, hl with | [_, _], _ => rfl
  have d8 : Dfn K mg "_law_rows" (top 35) ["net", "gate_names"] := dfn_mk X G a8 l8 c8 k8 fun _ _ _ _ _ _ us hl => match us, hl with | [_, _], _ => rfl
  have d9 : Dfn K mg "_law_alike" (top 37) ["found", "due"] := dfn_mk X G a9 l9 c9 k9 fun _ _ _ _ _ _ us hl => match us, hl with | [_, _], _ => rfl
  refine ⟨PySem.W.fnOf "law" "law" (defArgs (top 38)) (defBody (top 38)) (defScope (top 38)) .none kV10 dc10 pm10 an10 cd10 ct10, fun s v => .of_eq rfl, fun base _ _ => ?_⟩
  have g0 := ok_is_name (P := l.prog) (w := w) (base := base) R dr0
  have g1 := ok_named (P := l.prog) (w := w) (base := base) R dr1 g0
  have g2 := ok_wire_told (P := l.prog) (w := w) (base := base) R dr2 g0
  have g3 := ok_row_told (P := l.prog) (w := w) (base := base) R dr3 g1 g2
  have h0 := ok_ini (P := l.prog) (w := w) (mg := mg) (base := base) R (fun_mk lm0 cm0 km0)
  have h1 := ok_inr (P := l.prog) (w := w) (base := base) R dm1
  have h2 := ok_num (P := l.prog) (w := w) (base := base) R dm2
  have h3 := ok_gat (P := l.prog) (w := w) (base := base) R dm3 h2
  have h4 := ok_out (P := l.prog) (w := w) (base := base) R dm4 h2
  have h5 := ok_row (P := l.prog) (w := w) (base := base) R dm5 h1 h3 h4
  have g4 := ok_read (P := l.prog) (w := w) (base := base) R dr4 g3 ⟨_, _, ⟨rmk, am0, im0, rkc⟩, h0, bnd0⟩ h5
  have g_is_name := g0.imp (sp' := SpP K R_is_name) (fun vs H Q E ⟨F, ds, d, r, fh, hR, k⟩ => ⟨F, ds, d, r, fh, is_name_to _ _ hR, k⟩)
  have g_read := g4.imp (sp' := SpX K mg R_read) (SpXT.toX read_to)
  have g_readT := g4.imp (sp' := SpT K RT_read) (spt_read mg)
  have b0 := ok__law_cell_at (P := l.prog) (w := w) (base := base) B d0
  have b1 := ok__law_stir (P := l.prog) (w := w) (base := base) d1
  have b2 := ok__law_names (P := l.prog) (w := w) (base := base) B d2 (b1.mono (by decide))
  have b3 := ok__law_wires (P := l.prog) (w := w) (base := base) B d3 (b1.mono (by decide))
  have b4 := ok__law_gate (P := l.prog) (w := w) (base := base) d4 (b1.mono (by decide)) (b3.mono (by decide))
  have b5 := ok__law_net (P := l.prog) (w := w) (base := base) B d5 (b0.mono (by decide)) (b4.mono (by decide)) (b2.mono (by decide)) (b1.mono (by decide)) (b3.mono (by decide))
  have b6 := ok__law_gate_names (P := l.prog) (w := w) (base := base) B d6 (b2.mono (by decide))
  have b7 := ok__law_words (P := l.prog) (w := w) (base := base) B d7
  have b8 := ok__law_rows (P := l.prog) (w := w) (base := base) B d8 (b7.mono (by decide))
  have b9 := ok__law_alike (P := l.prog) (w := w) (base := base) B d9 12
  exact ok_law B (fun_mk l10 c10 k10) (g_read.mono (by decide)) (g_readT.mono (by decide)) (b9.mono (by decide)) (b0.mono (by decide)) (b6.mono (by decide)) (b5.mono (by decide)) (b8.mono (by decide)) (b1.mono (by decide))
theorem walk {l : PySem.W.OpenLaw} {q : Program} {loose : List Str} {XP : (Str → Option Value) → Heap → Prop} {YP : World → Heap → Prop} {d : DefRec} {K : Params → Fg} (hn : l.most = some 63) (hdf : d.params.defaults = [])
    (hY : ∀ (w : World) (h : Heap), YP w h → (K w.params).In h)
    (F : ∀ (w : World) (mg : Str → Option Value) (fa : Addr) (h : Heap), (K w.params).In h → h.Ns mainGlobals mg → mg d.name = some (.ref fa) →
      ∃ fd : FuncData, (∀ (s : Shared) (u : Value), BindsTo s fd ⟨[u], []⟩ [("script", u)]) ∧ ∀ base : Heap, (K w.params).In base → base.Ns mainGlobals mg → FnOk l.prog w (K w.params) mg base CX0 15 fa fd ["script"] (SpP (K w.params) R_law)) :
    PySem.W.WalkO q loose XP YP l.row.toRowW d [] (fun f vs => PySem.call f vs) :=
  L2.walk_of (n := 63) (k := 15) (x := "script") (CX := fun _ => CX0) (sp := fun w => SpP (K w.params) R_law) hn (by decide) hdf ⟨rfl, by decide, by decide⟩ hY F
    (fun w H a ns hl _ hS => ⟨H, [.list (ns.map .int)], .bool true, .cons (.lst hS (by rw [List.length_map]; exact Nat.le_trans hl (by decide)) (RpAll.of_ints ns)) .nil, Same.refl H, ⟨ns, true, by simp [enc], rfl, law_ok ns hl⟩, fun v F H _ r => by cases r; rfl⟩) fun _ _ _ _ _ z => z
end W

open PySem PySem.W PyProof.Rows in
set_option maxRecDepth 100000 in
set_option maxHeartbeats 0 in
theorem PySem.Challenge.cw_bearfaults_k02_whole_nets_read_holds : PySem.Challenge.rw_bearfaults_k02_whole_nets_read.Holds := by
  w_on; o_law; k_head; (case hw => w_witness2)
  k_fill
  refine W.walk (l := PySem.Challenge.rw_bearfaults_k02_whole_nets_read) rfl rfl (fun w h Y => PySem.W.kIn_of Y) ?F
  case F =>
    intro w mg fa h KX G hmg
    refine' W.all_mk KX G hmg ?a0 ?l0 ?c0 ?k0 ?a1 ?l1 ?c1 ?k1 ?a2 ?l2 ?c2 ?k2 ?a3 ?l3 ?c3 ?k3 ?a4 ?l4 ?c4 ?k4 ?a5 ?l5 ?c5 ?k5 ?a6 ?l6 ?c6 ?k6 ?a7 ?l7 ?c7 ?k7 ?a8 ?l8 ?c8 ?k8 ?a9 ?l9 ?c9 ?k9 ?a10 ?l10 ?c10 ?k10 ?z_bool ?z_enumerate ?z_int ?z_isinstance ?z_len ?z_list ?z_min ?z_range ?z_str ?z_sum ?z_tuple ?ar0 ?lr0 ?cr0 ?kr0 ?ar1 ?lr1 ?cr1 ?kr1 ?ar2 ?lr2 ?cr2 ?kr2 ?ar3 ?lr3 ?cr3 ?kr3 ?ar4 ?lr4 ?cr4 ?kr4 ?rC ?am0 ?lm0 ?cm0 ?km0 ?im0 ?am1 ?lm1 ?cm1 ?km1 ?im1 ?am2 ?lm2 ?cm2 ?km2 ?im2 ?am3 ?lm3 ?cm3 ?km3 ?im3 ?am4 ?lm4 ?cm4 ?km4 ?im4 ?am5 ?lm5 ?cm5 ?km5 ?im5 ?rpg ?rhd ?rpo ?rsa ?rmk ?rkc ?rnins ?rngates ?rnouts ?rnwires ?rnnames ?rzlen ?rzint ?rztuple ?rg_LETTERS ?rg_FIGURES ?rg_LONGEST_NAME ?rg_MOST_ROWS ?rg_MOST_INS ?rg_MOST_GATES ?rg_MOST_OUTS ?rg_MOST_WIRES ?rg_BARRED ?rl_cB ?rg_WIDTHS ?rl_cW ?rg_LEGS ?rlL ?rlowL ?rkL ?rxa_NoForm ?rxq_NoForm ?rxk_NoForm ?rxt_NoForm ?rxg_NoForm ?rxh_NoForm ?rxs_NoForm ?rxd_NoForm ?rxc_NoForm ?rxm_NoForm ?rxa_NoPlace ?rxq_NoPlace ?rxk_NoPlace ?rxt_NoPlace ?rxg_NoPlace ?rxh_NoPlace ?rxs_NoPlace ?rxd_NoPlace ?rxc_NoPlace ?rxm_NoPlace ?rxa_Twice ?rxq_Twice ?rxk_Twice ?rxt_Twice ?rxg_Twice ?rxh_Twice ?rxs_Twice ?rxd_Twice ?rxc_Twice ?rxm_Twice ?rxa_Full ?rxq_Full ?rxk_Full ?rxt_Full ?rxg_Full ?rxh_Full ?rxs_Full ?rxd_Full ?rxc_Full ?rxm_Full ?rxa_NoWire ?rxq_NoWire ?rxk_NoWire ?rxt_NoWire ?rxg_NoWire ?rxh_NoWire ?rxs_NoWire ?rxd_NoWire ?rxc_NoWire ?rxm_NoWire ?rxa_Open ?rxq_Open ?rxk_Open ?rxt_Open ?rxg_Open ?rxh_Open ?rxs_Open ?rxd_Open ?rxc_Open ?rxm_Open ?rxa_TooLong ?rxq_TooLong ?rxk_TooLong ?rxt_TooLong ?rxg_TooLong ?rxh_TooLong ?rxs_TooLong ?rxd_TooLong ?rxc_TooLong ?rxm_TooLong ?rxxn ?rxxt
    (case a0 => k_is)
    (case l0 => k_is)
    (case c0 => k_is)
    (case k0 => k_is)
    (case a1 => k_is)
    (case l1 => k_is)
    (case c1 => k_is)
    (case k1 => k_is)
    (case a2 => k_is)
    (case l2 => k_is)
    (case c2 => k_is)
    (case k2 => k_is)
    (case a3 => k_is)
    (case l3 => k_is)
    (case c3 => k_is)
    (case k3 => k_is)
    (case a4 => k_is)
    (case l4 => k_is)
    (case c4 => k_is)
    (case k4 => k_is)
    (case a5 => k_is)
    (case l5 => k_is)
    (case c5 => k_is)
    (case k5 => k_is)
    (case a6 => k_is)
    (case l6 => k_is)
    (case c6 => k_is)
    (case k6 => k_is)
    (case a7 => k_is)
    (case l7 => k_is)
    (case c7 => k_is)
    (case k7 => k_is)
    (case a8 => k_is)
    (case l8 => k_is)
    (case c8 => k_is)
    (case k8 => k_is)
    (case a9 => k_is)
    (case l9 => k_is)
    (case c9 => k_is)
    (case k9 => k_is)
    (case a10 => k_is)
    (case l10 => k_is)
    (case c10 => k_is)
    (case k10 => k_is)
    (case z_bool => k_is)
    (case z_enumerate => k_is)
    (case z_int => k_is)
    (case z_isinstance => k_is)
    (case z_len => k_is)
    (case z_list => k_is)
    (case z_min => k_is)
    (case z_range => k_is)
    (case z_str => k_is)
    (case z_sum => k_is)
    (case z_tuple => k_is)
    (case ar0 => k_is)
    (case lr0 => k_is)
    (case cr0 => k_is)
    (case kr0 => k_is)
    (case ar1 => k_is)
    (case lr1 => k_is)
    (case cr1 => k_is)
    (case kr1 => k_is)
    (case ar2 => k_is)
    (case lr2 => k_is)
    (case cr2 => k_is)
    (case kr2 => k_is)
    (case ar3 => k_is)
    (case lr3 => k_is)
    (case cr3 => k_is)
    (case kr3 => k_is)
    (case ar4 => k_is)
    (case lr4 => k_is)
    (case cr4 => k_is)
    (case kr4 => k_is)
    (case rC => k_is)
    (case am0 => k_is)
    (case lm0 => k_is)
    (case cm0 => k_is)
    (case km0 => k_is)
    (case im0 => k_is)
    (case am1 => k_is)
    (case lm1 => k_is)
    (case cm1 => k_is)
    (case km1 => k_is)
    (case im1 => k_is)
    (case am2 => k_is)
    (case lm2 => k_is)
    (case cm2 => k_is)
    (case km2 => k_is)
    (case im2 => k_is)
    (case am3 => k_is)
    (case lm3 => k_is)
    (case cm3 => k_is)
    (case km3 => k_is)
    (case im3 => k_is)
    (case am4 => k_is)
    (case lm4 => k_is)
    (case cm4 => k_is)
    (case km4 => k_is)
    (case im4 => k_is)
    (case am5 => k_is)
    (case lm5 => k_is)
    (case cm5 => k_is)
    (case km5 => k_is)
    (case im5 => k_is)
    (case rpg => k_is)
    (case rhd => k_is)
    (case rpo => k_is)
    (case rsa => k_is)
    (case rmk => k_is)
    (case rkc => k_is)
    (case rnins => k_is)
    (case rngates => k_is)
    (case rnouts => k_is)
    (case rnwires => k_is)
    (case rnnames => k_is)
    (case rzlen => k_is)
    (case rzint => k_is)
    (case rztuple => k_is)
    (case rg_LETTERS => k_is)
    (case rg_FIGURES => k_is)
    (case rg_LONGEST_NAME => k_is)
    (case rg_MOST_ROWS => k_is)
    (case rg_MOST_INS => k_is)
    (case rg_MOST_GATES => k_is)
    (case rg_MOST_OUTS => k_is)
    (case rg_MOST_WIRES => k_is)
    (case rg_BARRED => k_is)
    (case rl_cB => k_is)
    (case rg_WIDTHS => k_is)
    (case rl_cW => k_is)
    (case rg_LEGS => k_is)
    (case rlL => k_is)
    (case rlowL => (first | rfl | decide))
    (case rkL => k_keys)
    (case rxa_NoForm => k_is)
    (case rxq_NoForm => k_exc)
    (case rxk_NoForm => k_is)
    (case rxt_NoForm => k_is)
    (case rxg_NoForm => k_is)
    (case rxh_NoForm => k_is)
    (case rxs_NoForm => k_is)
    (case rxd_NoForm => k_is)
    (case rxc_NoForm => k_is)
    (case rxm_NoForm => k_is)
    (case rxa_NoPlace => k_is)
    (case rxq_NoPlace => k_exc)
    (case rxk_NoPlace => k_is)
    (case rxt_NoPlace => k_is)
    (case rxg_NoPlace => k_is)
    (case rxh_NoPlace => k_is)
    (case rxs_NoPlace => k_is)
    (case rxd_NoPlace => k_is)
    (case rxc_NoPlace => k_is)
    (case rxm_NoPlace => k_is)
    (case rxa_Twice => k_is)
    (case rxq_Twice => k_exc)
    (case rxk_Twice => k_is)
    (case rxt_Twice => k_is)
    (case rxg_Twice => k_is)
    (case rxh_Twice => k_is)
    (case rxs_Twice => k_is)
    (case rxd_Twice => k_is)
    (case rxc_Twice => k_is)
    (case rxm_Twice => k_is)
    (case rxa_Full => k_is)
    (case rxq_Full => k_exc)
    (case rxk_Full => k_is)
    (case rxt_Full => k_is)
    (case rxg_Full => k_is)
    (case rxh_Full => k_is)
    (case rxs_Full => k_is)
    (case rxd_Full => k_is)
    (case rxc_Full => k_is)
    (case rxm_Full => k_is)
    (case rxa_NoWire => k_is)
    (case rxq_NoWire => k_exc)
    (case rxk_NoWire => k_is)
    (case rxt_NoWire => k_is)
    (case rxg_NoWire => k_is)
    (case rxh_NoWire => k_is)
    (case rxs_NoWire => k_is)
    (case rxd_NoWire => k_is)
    (case rxc_NoWire => k_is)
    (case rxm_NoWire => k_is)
    (case rxa_Open => k_is)
    (case rxq_Open => k_exc)
    (case rxk_Open => k_is)
    (case rxt_Open => k_is)
    (case rxg_Open => k_is)
    (case rxh_Open => k_is)
    (case rxs_Open => k_is)
    (case rxd_Open => k_is)
    (case rxc_Open => k_is)
    (case rxm_Open => k_is)
    (case rxa_TooLong => k_is)
    (case rxq_TooLong => k_exc)
    (case rxk_TooLong => k_is)
    (case rxt_TooLong => k_is)
    (case rxg_TooLong => k_is)
    (case rxh_TooLong => k_is)
    (case rxs_TooLong => k_is)
    (case rxd_TooLong => k_is)
    (case rxc_TooLong => k_is)
    (case rxm_TooLong => k_is)
    (case rxxn => k_is)
    (case rxxt => k_is)
