import PyProof.Rows.All
import Wide.All
import OpenK.AllK
import Wide.FinOn
import HandS.ForMost
import HandS.Wide
import HandS.EndBits
import HandS.Gcd
import HandS.Deep
import HandS.TupAny
import HandS.TupMul
import HandS.StrMore
import HandS.Iter
import HandS.TryOnly
import HandS.Walk
import HandS.Conv
import HandS.SetFor
import HandS.Strs
import HandS.Style
import PySem.Challenge.RW_commonfront_k01_whole_facts_and_what_den
set_option Elab.async false
set_option linter.all false
set_option maxRecDepth 100000
section SDLcore
set_option maxHeartbeats 4000000
/-! A layer of readings over plain data: no heap in sight. A slot holds data, or a list (dict) of its own. -/
namespace DL
open PySem L2

abbrev D := PyData
/-- a thing that may change: a list, a dict -/
inductive Ob where
  | lst (xs : List D)
  | dK (kvs : List (Key × D))
  | dT (kvs : List (List Key × D))
/-- what a slot holds -/
inductive En where
  | no
  | dat (d : D)
  | ob (p : Bool) (o : Ob)
abbrev Ev := List En
/-- what an expression gives: data, or the thing that a slot owns -/
inductive Rs where
  | dat (d : D)
  | sl (i : Nat)

/-! ### data and heaps -/
section
variable {K : PySem.W.Frag} {F F' H H' : Hp}
theorem same_rd {a : Addr} {u : HO} (e : Same F F') (h : Rd F a u) : Rd F' a u := by
  rcases h with h | ⟨o, h⟩
  · exact .inl (e a _ h)
  · exact .inr ⟨o, e a _ h⟩
theorem same_l {a : Addr} {xs : List V} (e : Same F F') (h : SqL K F a xs) : SqL K F' a xs := by
  rcases h with h | h
  · exact .inl (same_rd e h)
  · exact .inr h
theorem same_t {a : Addr} {xs : List V} (e : Same F F') (h : SqT K F a xs) : SqT K F' a xs := by
  rcases h with h | h
  · exact .inl (same_rd e h)
  · exact .inr h
/-! v stands for the data d in the heap F -/
mutual
inductive Rp (K : PySem.W.Frag) (F : Hp) : V → PyData → Prop
  | non : Rp K F .non .none
  | bl (b : Bool) : Rp K F (.bl b) (.bool b)
  | int (i : Int) : Rp K F (.int i) (.int i)
  | str (x : Str) : Rp K F (.str x) (.str x)
  | lst {a : Addr} {vs : List V} {ds : List PyData} : SqL K F a vs → RpA K F vs ds → Rp K F (.ref a) (.list ds)
  | tup {a : Addr} {vs : List V} {ds : List PyData} : SqT K F a vs → RpA K F vs ds → Rp K F (.ref a) (.tuple ds)
inductive RpA (K : PySem.W.Frag) (F : Hp) : List V → List PyData → Prop
  | nil : RpA K F [] []
  | cons {v : V} {vs : List V} {d : PyData} {ds : List PyData} : Rp K F v d → RpA K F vs ds → RpA K F (v :: vs) (d :: ds)
end
mutual
theorem dp_mono (e : Same F F') : ∀ (d : PyData) (v : V), Rp K F v d → Rp K F' v d
  | .none, _, h => by cases h; exact .non
  | .bool b, _, h => by cases h; exact .bl b
  | .int i, _, h => by cases h; exact .int i
  | .str x, _, h => by cases h; exact .str x
  | .list ds, _, h => by
    cases h with
    | lst h1 h2 => exact .lst (same_l e h1) (dpa_mono e ds _ h2)
  | .tuple ds, _, h => by
    cases h with
    | tup h1 h2 => exact .tup (same_t e h1) (dpa_mono e ds _ h2)
  | .dict _, _, h => by cases h
theorem dpa_mono (e : Same F F') : ∀ (ds : List PyData) (vs : List V), RpA K F vs ds → RpA K F' vs ds
  | [], _, h => by cases h; exact .nil
  | d :: ds, _, h => by
    cases h with
    | cons h1 h2 => exact .cons (dp_mono e d _ h1) (dpa_mono e ds _ h2)
end
mutual
theorem Rp.dp : ∀ {d : D} {v : V}, Rp K F v d → Dp K F v d
  | .none, _, h => by cases h; exact .non
  | .bool b, _, h => by cases h; exact .bl b
  | .int i, _, h => by cases h; exact .int i
  | .str x, _, h => by cases h; exact .str x
  | .list ds, _, h => by
    cases h with
    | lst h1 h2 => exact .lst h1 (RpA.dp h2)
  | .tuple ds, _, h => by
    cases h with
    | tup h1 h2 => exact .tup h1 (RpA.dp h2)
  | .dict _, _, h => by cases h
theorem RpA.dp : ∀ {ds : List D} {vs : List V}, RpA K F vs ds → DpAll K F vs ds
  | [], _, h => by cases h; exact .nil
  | d :: ds, _, h => by
    cases h with
    | cons h1 h2 => exact .cons (Rp.dp h1) (RpA.dp h2)
end
theorem Rp.up {v : V} {d : PyData} (h : Rp K F v d) (e : Same F F') : Rp K F' v d := dp_mono e d v h
theorem RpA.up {vs : List V} {ds : List PyData} (h : RpA K F vs ds) (e : Same F F') : RpA K F' vs ds := dpa_mono e ds vs h
theorem RpA.len : ∀ {vs : List V} {ds : List PyData}, RpA K F vs ds → vs.length = ds.length
  | [], [], _ => rfl
  | _ :: vs, _ :: ds, h => by
    cases h with
    | cons _ h2 => simp only [List.length_cons, RpA.len h2]
  | [], _ :: _, h => by cases h
  | _ :: _, [], h => by cases h
theorem RpA.get : ∀ {vs : List V} {ds : List PyData} {i : Nat} {d : PyData}, RpA K F vs ds → ds[i]? = some d → ∃ v, vs[i]? = some v ∧ Rp K F v d
  | _, [], i, d, _, e => by simp at e
  | _, x :: ds, 0, d, h, e => by
    cases h with
    | cons h1 h2 => simp at e; subst e; exact ⟨_, rfl, h1⟩
  | _, x :: ds, i + 1, d, h, e => by
    cases h with
    | cons h1 h2 =>
      obtain ⟨v, e1, h3⟩ := RpA.get (i := i) (d := d) h2 (by simpa using e)
      exact ⟨v, by simpa using e1, h3⟩
theorem RpA.at : ∀ {vs : List V} {ds : List PyData} {i : Nat} {v : V}, RpA K F vs ds → vs[i]? = some v → ∃ d, ds[i]? = some d ∧ Rp K F v d
  | [], _, i, v, _, e => by simp at e
  | x :: vs, _, 0, v, h, e => by
    cases h with
    | cons h1 h2 => simp at e; subst e; exact ⟨_, rfl, h1⟩
  | x :: vs, _, i + 1, v, h, e => by
    cases h with
    | cons h1 h2 =>
      obtain ⟨d, e1, h3⟩ := RpA.at (i := i) (v := v) h2 (by simpa using e)
      exact ⟨d, by simpa using e1, h3⟩
theorem RpA.app : ∀ {vs ws : List V} {ds es : List PyData}, RpA K F vs ds → RpA K F ws es → RpA K F (vs ++ ws) (ds ++ es)
  | _, _, [], _, h, g => by cases h; exact g
  | _, _, d :: ds, _, h, g => by
    cases h with
    | cons h1 h2 => exact .cons h1 (RpA.app h2 g)
theorem RpA.take : ∀ {vs : List V} {ds : List PyData} (n : Nat), RpA K F vs ds → RpA K F (vs.take n) (ds.take n)
  | _, _, 0, _ => .nil
  | _, _, n + 1, .nil => .nil
  | _, _, n + 1, .cons h t => .cons h (RpA.take n t)
theorem RpA.drop : ∀ {vs : List V} {ds : List PyData} (n : Nat), RpA K F vs ds → RpA K F (vs.drop n) (ds.drop n)
  | _, _, 0, h => h
  | _, _, n + 1, .nil => .nil
  | _, _, n + 1, .cons h t => RpA.drop n t
theorem RpA.set : ∀ {vs : List V} {ds : List PyData} (n : Nat) {v : V} {d : PyData}, RpA K F vs ds → Rp K F v d → RpA K F (vs.set n v) (ds.set n d)
  | _, _, _, _, _, .nil, _ => .nil
  | _, _, 0, _, _, .cons _ t, g => .cons g t
  | _, _, n + 1, _, _, .cons h t, g => .cons h (RpA.set n t g)
theorem RpA.rev {vs : List V} {ds : List PyData} (h : RpA K F vs ds) : RpA K F vs.reverse ds.reverse := by
  induction ds generalizing vs with
  | nil => cases h; exact .nil
  | cons d ds ih =>
    cases h with
    | cons h1 h2 => rw [List.reverse_cons, List.reverse_cons]; exact (ih h2).app (.cons h1 .nil)
theorem RpA.dropLast {vs : List V} {ds : List PyData} (h : RpA K F vs ds) : RpA K F vs.dropLast ds.dropLast := by
  rw [List.dropLast_eq_take, List.dropLast_eq_take, h.len]; exact h.take _
theorem RpA.ints : ∀ ns : List Int, RpA K F (ns.map V.int) (ns.map .int)
  | [] => .nil
  | n :: ns => .cons (.int n) (RpA.ints ns)
theorem RpA.of_ints : ∀ {vs : List V} {ns : List Int}, RpA K F vs (ns.map .int) → vs = ns.map V.int
  | _, [], h => by cases h; rfl
  | _, n :: ns, h => by
    cases h with
    | cons h1 h2 => cases h1; rw [RpA.of_ints h2]; rfl
theorem RpA.of_bools : ∀ {vs : List V} {ns : List Bool}, RpA K F vs (ns.map .bool) → vs = ns.map V.bl
  | _, [], h => by cases h; rfl
  | _, n :: ns, h => by
    cases h with
    | cons h1 h2 => cases h1; rw [RpA.of_bools h2]; rfl
def KVD (K : PySem.W.Frag) (F : Hp) {κ : Type} : List (κ × V) → List (κ × D) → Prop
  | [], [] => True
  | p :: a, q :: b => p.1 = q.1 ∧ Rp K F p.2 q.2 ∧ KVD K F a b
  | _, _ => False
theorem KVD.up {κ : Type} : ∀ {a : List (κ × V)} {b : List (κ × D)}, KVD K F a b → Same F F' → KVD K F' a b
  | [], [], _, _ => trivial
  | _ :: _, _ :: _, ⟨h1, h2, h3⟩, e => ⟨h1, h2.up e, KVD.up h3 e⟩
  | [], _ :: _, h, _ => h.elim
  | _ :: _, [], h, _ => h.elim
def ObR (K : PySem.W.Frag) (F : Hp) : HO → Ob → Prop
  | .lst vs, .lst xs => RpA K F vs xs
  | .dK a, .dK b => KVD K F a b
  | .dT a, .dT b => KVD K F a b
  | _, _ => False
theorem ObR.up {h : HO} {o : Ob} (r : ObR K F h o) (e : Same F F') : ObR K F' h o := by
  cases o <;> cases h <;> first
    | exact r.elim
    | exact RpA.up (show RpA K F _ _ from r) e
    | exact KVD.up (show KVD K F _ _ from r) e
theorem ObR.lst_of {h : HO} {xs : List D} (r : ObR K F h (.lst xs)) : ∃ vs, h = .lst vs ∧ RpA K F vs xs := by
  cases h <;> first | exact ⟨_, rfl, r⟩ | exact r.elim
theorem ObR.dK_of {h : HO} {xs : List (Key × D)} (r : ObR K F h (.dK xs)) : ∃ vs, h = .dK vs ∧ KVD K F vs xs := by
  cases h <;> first | exact ⟨_, rfl, r⟩ | exact r.elim
theorem ObR.dT_of {h : HO} {xs : List (List Key × D)} (r : ObR K F h (.dT xs)) : ∃ vs, h = .dT vs ∧ KVD K F vs xs := by
  cases h <;> first | exact ⟨_, rfl, r⟩ | exact r.elim
end

/-! ### the state -/
/-- the heap and the known data at the def's entry, and which old things it may change -/
structure Bs where
  H0 : Hp
  F0 : Hp
  W : List Addr
  wo : ∀ a ∈ W, H0 a ≠ none
def Own (K : PySem.W.Frag) (B : Bs) (F H : Hp) (p : Bool) (a : Addr) (o : Ob) : Prop :=
  (∃ h, H a = some h ∧ ObR K F h o) ∧ F a = none ∧ (p = false → B.H0 a = none) ∧ (p = true → a ∈ B.W)
structure Ok (K : PySem.W.Frag) (B : Bs) (F H : Hp) (σ : St) (env : Ev) : Prop where
  out : ∀ a o, B.H0 a = some o → a ∉ B.W → H a = some o
  al : ∀ a, B.H0 a ≠ none → H a ≠ none
  f0 : Same B.F0 F
  fh : Same F H
  old : ∀ a, B.H0 a ≠ none → F a = B.F0 a
  len : env.length = σ.length
  dat : ∀ (i : Nat) (d : D), env[i]? = some (En.dat d) → ∃ v : V, σ[i]? = some (some v) ∧ Rp K F v d
  ob : ∀ (i : Nat) (p : Bool) (o : Ob), env[i]? = some (En.ob p o) → ∃ a : Addr, σ[i]? = some (some (V.ref a)) ∧ Own K B F H p a o
  inj : ∀ (i j : Nat) (p q : Bool) (o o' : Ob) (a : Addr), env[i]? = some (En.ob p o) → env[j]? = some (En.ob q o') → σ[i]? = some (some (V.ref a)) → σ[j]? = some (some (V.ref a)) → i = j

def RsR (K : PySem.W.Frag) (F : Hp) (σ : St) (v : V) : Rs → Prop
  | .dat d => Rp K F v d
  | .sl i => σ[i]? = some (some v)
theorem RsR.up {K : PySem.W.Frag} {F F' : Hp} {σ : St} {v : V} {r : Rs} (h : RsR K F σ v r) (e : Same F F') : RsR K F' σ v r := by
  cases r with
  | dat d => exact Rp.up (show Rp K F v d from h) e
  | sl i => exact h
/-- what is seen -/
def see (env : Ev) : Rs → Option D
  | .dat d => some d
  | .sl i => match env[i]? with
    | some (.ob _ (.lst xs)) => some (.list xs)
    | some (.dat d) => some d
    | _ => none
section
variable {K : PySem.W.Frag} {B : Bs} {F F' H H' : Hp} {σ : St} {env : Ev} {v : V} {r : Rs} {d : D}
theorem see_dp (ok : Ok K B F H σ env) (h : RsR K F σ v r) (e : see env r = some d) : Rp K H v d := by
  cases r with
  | dat d' =>
    cases e
    exact Rp.up (show Rp K F v d from h) ok.fh
  | sl i =>
    have h' : σ[i]? = some (some v) := h
    have e' : (match env[i]? with | some (.ob _ (.lst xs)) => some (.list xs) | some (.dat d) => some d | _ => none) = some d := e
    split at e'
    · rename_i p xs he
      cases e'
      obtain ⟨a, ha, ⟨u, hu, ru⟩, _⟩ := ok.ob i _ _ he
      rw [h'] at ha
      cases ha
      obtain ⟨vs, rfl, hv⟩ := ru.lst_of
      exact .lst (SqL.of hu) (hv.up ok.fh)
    · rename_i he
      cases e'
      obtain ⟨u, hu, ru⟩ := ok.dat i _ he
      rw [h'] at hu
      cases hu
      exact ru.up ok.fh
    · cases e'
theorem see_list {xs : List D} (ok : Ok K B F H σ env) (h : RsR K F σ v r) (e : see env r = some (.list xs)) : ∃ a vs, v = .ref a ∧ SqL K H a vs ∧ RpA K F vs xs := by
  cases r with
  | dat d' =>
    cases e
    cases h with
    | lst h1 h2 => exact ⟨_, _, rfl, same_l ok.fh h1, h2⟩
  | sl i =>
    have h' : σ[i]? = some (some v) := h
    have e' : (match env[i]? with | some (.ob _ (.lst xs)) => some (.list xs) | some (.dat d) => some d | _ => none) = some (PyData.list xs) := e
    split at e'
    · rename_i p xs he
      cases e'
      obtain ⟨a, ha, ⟨u, hu, ru⟩, _⟩ := ok.ob i _ _ he
      rw [h'] at ha
      cases ha
      obtain ⟨vs, rfl, hv⟩ := ru.lst_of
      exact ⟨_, _, rfl, SqL.of hu, hv⟩
    · rename_i he
      cases e'
      obtain ⟨u, hu, ru⟩ := ok.dat i _ he
      rw [h'] at hu
      cases hu
      cases ru with
      | lst h1 h2 => exact ⟨_, _, rfl, same_l ok.fh h1, h2⟩
    · cases e'
theorem see_tup {xs : List D} (ok : Ok K B F H σ env) (h : RsR K F σ v r) (e : see env r = some (.tuple xs)) : ∃ a vs, v = .ref a ∧ SqT K H a vs ∧ SqT K F a vs ∧ RpA K F vs xs := by
  cases r with
  | dat d' =>
    cases e
    cases h with
    | tup h1 h2 => exact ⟨_, _, rfl, same_t ok.fh h1, h1, h2⟩
  | sl i =>
    have h' : σ[i]? = some (some v) := h
    have e' : (match env[i]? with | some (.ob _ (.lst xs)) => some (.list xs) | some (.dat d) => some d | _ => none) = some (PyData.tuple xs) := e
    split at e'
    · cases e'
    · rename_i he
      cases e'
      obtain ⟨u, hu, ru⟩ := ok.dat i _ he
      rw [h'] at hu
      cases hu
      cases ru with
      | tup h1 h2 => exact ⟨_, _, rfl, same_t ok.fh h1, h1, h2⟩
    · cases e'
theorem see_int {i : Int} (ok : Ok K B F H σ env) (h : RsR K F σ v r) (e : see env r = some (.int i)) : v = .int i := by
  cases see_dp ok h e; rfl
theorem see_str {i : Str} (ok : Ok K B F H σ env) (h : RsR K F σ v r) (e : see env r = some (.str i)) : v = .str i := by
  cases see_dp ok h e; rfl
theorem see_bool {i : Bool} (ok : Ok K B F H σ env) (h : RsR K F σ v r) (e : see env r = some (.bool i)) : v = .bl i := by
  cases see_dp ok h e; rfl
theorem see_none (ok : Ok K B F H σ env) (h : RsR K F σ v r) (e : see env r = some .none) : v = .non := by
  cases see_dp ok h e; rfl

/-- the state goes on: F and H grow or change, the things of the slots stay as they are -/
theorem Ok.go (ok : Ok K B F H σ env) (e : Same F F') (e2 : Same F' H') (out : ∀ a o, B.H0 a = some o → a ∉ B.W → H' a = some o) (al : ∀ a, H a ≠ none → H' a ≠ none) (old : ∀ a, B.H0 a ≠ none → F' a = F a)
    (keep : ∀ (i : Nat) (p : Bool) (o : Ob) (a : Addr), env[i]? = some (En.ob p o) → σ[i]? = some (some (V.ref a)) → F' a = none ∧ H' a = H a) : Ok K B F' H' σ env where
  out := out
  al := fun a h => al a (ok.al a h)
  f0 := ok.f0.trans e
  fh := e2
  old := fun a h => (old a h).trans (ok.old a h)
  len := ok.len
  dat := fun i d h => by
    obtain ⟨v, h1, h2⟩ := ok.dat i d h
    exact ⟨v, h1, h2.up e⟩
  ob := fun i p o h => by
    obtain ⟨a, h1, ⟨u, hu, ru⟩, h3⟩ := ok.ob i p o h
    obtain ⟨k1, k2⟩ := keep i p o a h h1
    exact ⟨a, h1, ⟨u, k2.trans hu, ru.up e⟩, k1, h3.2⟩
  inj := ok.inj
theorem ne_none {α : Type} {o : Option α} {x : α} (h : o = some x) : o ≠ none := by rw [h]; exact fun z => by cases z
theorem upd_al {p : Addr} {o : HO} (a : Addr) (h : H a ≠ none) : upd H p o a ≠ none := by
  unfold upd
  split
  · exact fun z => by cases z
  · exact h
theorem Ok.fresh0 (ok : Ok K B F H σ env) {p : Addr} (hp : H p = none) : B.H0 p = none := by
  cases q : B.H0 p with
  | none => rfl
  | some o => exact absurd hp (ok.al p (ne_none q))
theorem Ok.freshF (ok : Ok K B F H σ env) {p : Addr} (hp : H p = none) : F p = none := by
  cases q : F p with
  | none => rfl
  | some o => rw [ok.fh p o q] at hp; cases hp
theorem same_new {p : Addr} {o : HO} (hp : H p = none) : Same H (upd H p o) := fun b u e => by rw [upd_ne (ne_of_none e hp)]; exact e
theorem same_upd {p : Addr} {o : HO} (e : Same F H) : Same (upd F p o) (upd H p o) := fun b u h => by
  by_cases hb : b = p
  · subst hb
    rw [upd_same] at h ⊢
    exact h
  · rw [upd_ne hb] at h ⊢
    exact e b u h
/-- a new known thing -/
theorem Ok.newF (ok : Ok K B F H σ env) {p : Addr} (o : HO) (hp : H p = none) : Ok K B (upd F p o) (upd H p o) σ env ∧ Same F (upd F p o) := by
  have hF := ok.freshF hp
  have h0 := ok.fresh0 hp
  refine ⟨ok.go (same_new hF) (same_upd ok.fh) (fun a o' h w => ?_) (fun a h => upd_al a h) (fun a h => ?_) (fun i q o' a h1 h2 => ?_), same_new hF⟩
  · rw [upd_ne (ne_of_none h h0)]; exact ok.out a o' h w
  · have : a ≠ p := fun z => h (by rw [z]; exact h0)
    rw [upd_ne this]
  · obtain ⟨a', e1, ⟨u, hu, _⟩, hf, _⟩ := ok.ob i q o' h1
    rw [h2] at e1; cases e1
    have : a ≠ p := ne_of_none hu hp
    exact ⟨by rw [upd_ne this]; exact hf, upd_ne this⟩
/-- a new thing that is not known yet -/
theorem Ok.newH (ok : Ok K B F H σ env) {p : Addr} (o : HO) (hp : H p = none) : Ok K B F (upd H p o) σ env := by
  have hF := ok.freshF hp
  have h0 := ok.fresh0 hp
  refine ok.go (Same.refl F) (ok.fh.trans (same_new hp)) (fun a o' h w => ?_) (fun a h => upd_al a h) (fun a h => rfl) (fun i q o' a h1 h2 => ?_)
  · rw [upd_ne (ne_of_none h h0)]; exact ok.out a o' h w
  · obtain ⟨a', e1, ⟨u, hu, _⟩, hf, _⟩ := ok.ob i q o' h1
    rw [h2] at e1; cases e1
    exact ⟨hf, upd_ne (ne_of_none hu hp)⟩
/-- a thing that no slot owns becomes known -/
theorem Ok.know (ok : Ok K B F H σ env) {p : Addr} {o : HO} (hp : H p = some o) (hF : F p = none) (h0 : B.H0 p = none) (hn : ∀ (i : Nat) (q : Bool) (o' : Ob), env[i]? = some (En.ob q o') → σ[i]? ≠ some (some (V.ref p))) : Ok K B (upd F p o) H σ env ∧ Same F (upd F p o) := by
  refine ⟨ok.go (same_new hF) (fun a u h => ?_) ok.out (fun a h => h) (fun a h => ?_) (fun i q o' a h1 h2 => ?_), same_new hF⟩
  · by_cases ha : a = p
    · subst ha; rw [upd_same] at h; cases h; exact hp
    · rw [upd_ne ha] at h; exact ok.fh a u h
  · have : a ≠ p := fun z => h (by rw [z]; exact h0)
    rw [upd_ne this]
  · obtain ⟨a', e1, _, hf, _⟩ := ok.ob i q o' h1
    rw [h2] at e1; cases e1
    have : a ≠ p := fun z => hn i q o' h1 (by rw [h2, z])
    exact ⟨by rw [upd_ne this]; exact hf, rfl⟩
theorem get_set {α : Type} {l : List α} {i j : Nat} {x y : α} (h : (l.set i x)[j]? = some y) : (j = i ∧ y = x ∧ i < l.length) ∨ (j ≠ i ∧ l[j]? = some y) := by
  rw [List.getElem?_set] at h
  split at h
  · rename_i e
    split at h
    · cases h; exact .inl ⟨e.symm, rfl, by assumption⟩
    · cases h
  · rename_i e
    exact .inr ⟨fun z => e z.symm, h⟩
/-- slot i gets data -/
theorem Ok.setDat (ok : Ok K B F H σ env) (i : Nat) (h : Rp K F v d) : Ok K B F H (σ.set i (some v)) (env.set i (.dat d)) where
  out := ok.out
  al := ok.al
  f0 := ok.f0
  fh := ok.fh
  old := ok.old
  len := by simp [ok.len]
  dat := fun j d' e => by
    rcases get_set e with ⟨rfl, e1, lt⟩ | ⟨ne, e1⟩
    · cases e1
      exact ⟨v, by rw [List.getElem?_set_self (by rw [← ok.len]; exact lt)], h⟩
    · obtain ⟨u, h1, h2⟩ := ok.dat j d' e1
      exact ⟨u, by rw [List.getElem?_set_ne (Ne.symm ne)]; exact h1, h2⟩
  ob := fun j p o e => by
    rcases get_set e with ⟨rfl, e1, lt⟩ | ⟨ne, e1⟩
    · cases e1
    · obtain ⟨a, h1, h2⟩ := ok.ob j p o e1
      exact ⟨a, by rw [List.getElem?_set_ne (Ne.symm ne)]; exact h1, h2⟩
  inj := fun j k p q o o' a e1 e2 s1 s2 => by
    rcases get_set e1 with ⟨rfl, z, lt⟩ | ⟨ne, f1⟩
    · cases z
    · rcases get_set e2 with ⟨rfl, z, lt⟩ | ⟨ne2, f2⟩
      · cases z
      · rw [List.getElem?_set_ne (Ne.symm ne)] at s1
        rw [List.getElem?_set_ne (Ne.symm ne2)] at s2
        exact ok.inj j k p q o o' a f1 f2 s1 s2
/-- slot i gets a thing of its own -/
theorem Ok.setOb (ok : Ok K B F H σ env) (i : Nat) {p : Bool} {a : Addr} {o : Ob} (h : Own K B F H p a o) (hn : ∀ (j : Nat) (q : Bool) (o' : Ob), env[j]? = some (En.ob q o') → σ[j]? ≠ some (some (V.ref a))) : Ok K B F H (σ.set i (some (.ref a))) (env.set i (.ob p o)) where
  out := ok.out
  al := ok.al
  f0 := ok.f0
  fh := ok.fh
  old := ok.old
  len := by simp [ok.len]
  dat := fun j d' e => by
    rcases get_set e with ⟨rfl, e1, lt⟩ | ⟨ne, e1⟩
    · cases e1
    · obtain ⟨u, h1, h2⟩ := ok.dat j d' e1
      exact ⟨u, by rw [List.getElem?_set_ne (Ne.symm ne)]; exact h1, h2⟩
  ob := fun j q o' e => by
    rcases get_set e with ⟨rfl, e1, lt⟩ | ⟨ne, e1⟩
    · cases e1
      exact ⟨a, by rw [List.getElem?_set_self (by rw [← ok.len]; exact lt)], h⟩
    · obtain ⟨b, h1, h2⟩ := ok.ob j q o' e1
      exact ⟨b, by rw [List.getElem?_set_ne (Ne.symm ne)]; exact h1, h2⟩
  inj := fun j k q q' o1 o2 b e1 e2 s1 s2 => by
    rcases get_set e1 with ⟨rfl, z, lt⟩ | ⟨ne, f1⟩
    · rcases get_set e2 with ⟨rfl, z2, lt2⟩ | ⟨ne2, f2⟩
      · rfl
      · rw [List.getElem?_set_self (by rw [← ok.len]; exact lt)] at s1
        cases s1
        rw [List.getElem?_set_ne (Ne.symm ne2)] at s2
        exact absurd s2 (hn k q' o2 f2)
    · rcases get_set e2 with ⟨rfl, z2, lt2⟩ | ⟨ne2, f2⟩
      · rw [List.getElem?_set_self (by rw [← ok.len]; exact lt2)] at s2
        cases s2
        rw [List.getElem?_set_ne (Ne.symm ne)] at s1
        exact absurd s1 (hn j q o1 f1)
      · rw [List.getElem?_set_ne (Ne.symm ne)] at s1
        rw [List.getElem?_set_ne (Ne.symm ne2)] at s2
        exact ok.inj j k q q' o1 o2 b f1 f2 s1 s2
/-- slot i is forgotten -/
theorem Ok.setNo (ok : Ok K B F H σ env) (i : Nat) (ov : Option V) : Ok K B F H (σ.set i ov) (env.set i .no) where
  out := ok.out
  al := ok.al
  f0 := ok.f0
  fh := ok.fh
  old := ok.old
  len := by simp [ok.len]
  dat := fun j d' e => by
    rcases get_set e with ⟨rfl, e1, lt⟩ | ⟨ne, e1⟩
    · cases e1
    · obtain ⟨u, h1, h2⟩ := ok.dat j d' e1
      exact ⟨u, by rw [List.getElem?_set_ne (Ne.symm ne)]; exact h1, h2⟩
  ob := fun j q o' e => by
    rcases get_set e with ⟨rfl, e1, lt⟩ | ⟨ne, e1⟩
    · cases e1
    · obtain ⟨b, h1, h2⟩ := ok.ob j q o' e1
      exact ⟨b, by rw [List.getElem?_set_ne (Ne.symm ne)]; exact h1, h2⟩
  inj := fun j k p q o o' a e1 e2 s1 s2 => by
    rcases get_set e1 with ⟨rfl, z, lt⟩ | ⟨ne, f1⟩
    · cases z
    · rcases get_set e2 with ⟨rfl, z, lt⟩ | ⟨ne2, f2⟩
      · cases z
      · rw [List.getElem?_set_ne (Ne.symm ne)] at s1
        rw [List.getElem?_set_ne (Ne.symm ne2)] at s2
        exact ok.inj j k p q o o' a f1 f2 s1 s2
/-- the thing that slot i owns is changed in the heap -/
theorem Ok.change (ok : Ok K B F H σ env) {i : Nat} {p : Bool} {o o' : Ob} {a : Addr} {h' : HO} (he : env[i]? = some (En.ob p o)) (hs : σ[i]? = some (some (V.ref a))) (r : ObR K F h' o') : Ok K B F (upd H a h') σ (env.set i (.ob p o')) := by
  obtain ⟨a', e1, ⟨u, hu, _⟩, hf, hp0, hpW⟩ := ok.ob i p o he
  rw [hs] at e1; cases e1
  have lt : i < env.length := by
    rcases Nat.lt_or_ge i env.length with z | z
    · exact z
    · rw [List.getElem?_eq_none z] at he; cases he
  refine ⟨fun b ob hb hw => ?_, fun b hb => upd_al b (ok.al b hb), ok.f0, fun b ob hb => ?_, ok.old, by simp [ok.len], fun j d e => ?_, fun j q ob e => ?_, fun j k q q' o1 o2 b e1 e2 s1 s2 => ?_⟩
  · have : b ≠ a := by
      rintro rfl
      cases p with
      | true => exact hw (hpW rfl)
      | false => rw [hp0 rfl] at hb; cases hb
    rw [upd_ne this]; exact ok.out b ob hb hw
  · have : b ≠ a := by rintro rfl; rw [hf] at hb; cases hb
    rw [upd_ne this]; exact ok.fh b ob hb
  · rcases get_set e with ⟨rfl, e1, _⟩ | ⟨ne, e1⟩
    · cases e1
    · exact ok.dat j d e1
  · rcases get_set e with ⟨rfl, e1, _⟩ | ⟨ne, e1⟩
    · cases e1
      exact ⟨a, hs, ⟨h', upd_same, r⟩, hf, hp0, hpW⟩
    · obtain ⟨b, h1, ⟨w, hw, rw'⟩, h3⟩ := ok.ob j q ob e1
      have : b ≠ a := by
        rintro rfl
        exact ne (ok.inj j i q p ob o b e1 he h1 hs)
      exact ⟨b, h1, ⟨w, by rw [upd_ne this]; exact hw, rw'⟩, h3⟩
  · rcases get_set e1 with ⟨rfl, z, _⟩ | ⟨ne, f1⟩
    · rcases get_set e2 with ⟨rfl, z2, _⟩ | ⟨ne2, f2⟩
      · rfl
      · cases z
        exact ok.inj _ _ _ _ _ _ b he f2 s1 s2
    · rcases get_set e2 with ⟨rfl, z2, _⟩ | ⟨ne2, f2⟩
      · cases z2
        exact ok.inj _ _ _ _ _ _ b f1 he s1 s2
      · exact ok.inj j k q q' o1 o2 b f1 f2 s1 s2
/-- the list that slot i owns becomes known data -/
theorem Ok.frz (ok : Ok K B F H σ env) {i : Nat} {xs : List D} (he : env[i]? = some (En.ob false (.lst xs))) :
    ∃ F' a, σ[i]? = some (some (V.ref a)) ∧ Ok K B F' H σ (env.set i (.dat (.list xs))) ∧ Same F F' ∧ Rp K F' (.ref a) (.list xs) := by
  obtain ⟨a, hs, ⟨u, hu, ru⟩, hf, hp0, _⟩ := ok.ob i _ _ he
  obtain ⟨vs, rfl, hv⟩ := ru.lst_of
  have h0 := hp0 rfl
  have ok1 : Ok K B F H σ (env.set i .no) := by
    have z := ok.setNo i (some (.ref a))
    have e : σ.set i (some (.ref a)) = σ := by
      apply List.ext_getElem?
      intro k
      rw [List.getElem?_set]
      split
      · rename_i e
        subst e
        split
        · exact hs.symm
        · rename_i nl
          rw [List.getElem?_eq_none (by omega)]
      · rfl
    rw [e] at z
    exact z
  obtain ⟨ok2, e2⟩ := ok1.know hu hf h0 (fun j q o' e s => by
    rcases get_set e with ⟨rfl, e1, _⟩ | ⟨ne, e1⟩
    · cases e1
    · exact ne (ok.inj j i _ _ _ _ a e1 he s hs))
  have dp : Rp K (upd F a (.lst vs)) (.ref a) (.list xs) := .lst (SqL.of upd_same) (hv.up e2)
  refine ⟨upd F a (.lst vs), a, hs, ?_, e2, dp⟩
  have z := ok2.setDat (v := .ref a) i dp
  rw [List.set_set] at z
  have e : σ.set i (some (.ref a)) = σ := by
    apply List.ext_getElem?
    intro k
    rw [List.getElem?_set]
    split
    · rename_i e
      subst e
      split
      · exact hs.symm
      · rename_i nl
        rw [List.getElem?_eq_none (by omega)]
    · rfl
  rw [e] at z
  exact z
end
end DL
end SDLcore
section SDLexpr
set_option maxHeartbeats 4000000
/-! Expressions over the data layer. -/
namespace DL
open PySem PySem.Spec PyProof.Rows L2

abbrev TD := Ev → (Rs → Ev → Prop) → Prop
abbrev TTd := Ev → (Bool → Ev → Prop) → Prop
abbrev TAd := Ev → (List Rs → Ev → Prop) → Prop
abbrev TOd := Ev → (Ob → Ev → Prop) → Prop
def RsA (K : PySem.W.Frag) (F : Hp) (σ : L2.St) : List V → List Rs → Prop
  | [], [] => True
  | v :: vs, r :: rs => RsR K F σ v r ∧ RsA K F σ vs rs
  | _, _ => False
theorem RsA.up {K : PySem.W.Frag} {F F' : Hp} {σ : L2.St} : ∀ {vs : List V} {rs : List Rs}, RsA K F σ vs rs → Same F F' → RsA K F' σ vs rs
  | [], [], _, _ => trivial
  | _ :: _, _ :: _, ⟨h1, h2⟩, e => ⟨h1.up e, RsA.up h2 e⟩
  | [], _ :: _, h, _ => h.elim
  | _ :: _, [], h, _ => h.elim
def NewAt (env : Ev) (σ : L2.St) (a : Addr) : Prop := ∀ (j : Nat) (q : Bool) (o' : Ob), env[j]? = some (En.ob q o') → σ[j]? ≠ some (some (V.ref a))
def upE (K : PySem.W.Frag) (t : TD) : TE := fun σ H Q => ∃ (B : Bs) (F : Hp) (env : Ev) (Q' : Rs → Ev → Prop), Ok K B F H σ env ∧ t env Q' ∧
  ∀ r env' v F' H', Q' r env' → Ok K B F' H' σ env' → Same F F' → RsR K F' σ v r → Q v H'
def upT (K : PySem.W.Frag) (t : TTd) : TT := fun σ H Q => ∃ (B : Bs) (F : Hp) (env : Ev) (Q' : Bool → Ev → Prop), Ok K B F H σ env ∧ t env Q' ∧
  ∀ b env' F' H', Q' b env' → Ok K B F' H' σ env' → Same F F' → Q b H'
def upA (K : PySem.W.Frag) (t : TAd) : TA := fun σ H Q => ∃ (B : Bs) (F : Hp) (env : Ev) (Q' : List Rs → Ev → Prop), Ok K B F H σ env ∧ t env Q' ∧
  ∀ rs env' vs F' H', Q' rs env' → Ok K B F' H' σ env' → Same F F' → RsA K F' σ vs rs → Q vs H'
def upO (K : PySem.W.Frag) (t : TOd) : TE := fun σ H Q => ∃ (B : Bs) (F : Hp) (env : Ev) (Q' : Ob → Ev → Prop), Ok K B F H σ env ∧ t env Q' ∧
  ∀ o env' a F' H', Q' o env' → Ok K B F' H' σ env' → Same F F' → Own K B F' H' false a o → NewAt env' σ a → Q (.ref a) H'
structure PD (X : Cx) (e : Expr) (t : TD) : Prop where
  p : PE X e (upE X.K t)
structure PTd (X : Cx) (e : Expr) (t : TTd) : Prop where
  p : PT X e (upT X.K t)
structure PWd (X : Cx) (e : Expr) (t : TTd) : Prop where
  p : PW X e (upT X.K t)
structure PAd (X : Cx) (es : List Expr) (t : TAd) : Prop where
  p : PA X es (upA X.K t)
structure POd (X : Cx) (e : Expr) (t : TOd) : Prop where
  p : PE X e (upO X.K t)
theorem pe_imp {X : Cx} {e : Expr} {t t' : TE} (h : PE X e t) (i : ∀ σ H Q, t' σ H Q → t σ H Q) : PE X e t' := ⟨fun pins s σ H Q I w => h.run pins s σ H Q I (i _ _ _ w)⟩
theorem pt_imp {X : Cx} {e : Expr} {t t' : TT} (h : PT X e t) (i : ∀ σ H Q, t' σ H Q → t σ H Q) : PT X e t' := ⟨fun pins s σ H Q I w => h.run pins s σ H Q I (i _ _ _ w)⟩
theorem pw_imp {X : Cx} {e : Expr} {t t' : TT} (h : PW X e t) (i : ∀ σ H Q, t' σ H Q → t σ H Q) : PW X e t' := ⟨fun wh pins s σ H Q I w => h.run wh pins s σ H Q I (i _ _ _ w)⟩
theorem pa_imp {X : Cx} {e : List Expr} {t t' : TA} (h : PA X e t) (i : ∀ σ H Q, t' σ H Q → t σ H Q) : PA X e t' := ⟨fun pos pins s σ H Q I w => h.run pos pins s σ H Q I (i _ _ _ w)⟩

/-- a value that must be there -/
def onD {α : Type} (o : Option α) (k : α → Prop) : Prop := match o with | some x => k x | none => False
theorem onD_of {α : Type} {o : Option α} {k : α → Prop} (h : onD o k) : ∃ x, o = some x ∧ k x := by
  cases o with
  | none => exact h.elim
  | some x => exact ⟨x, rfl, h⟩

/-! ### names, constants -/
section
variable {X : Cx} {e a b c : Expr} {pos : Pos} {ta tb tc td : TD}
def dVar (i : Nat) : TD := fun env Q => match env[i]? with
  | some (.dat d) => Q (.dat d) env
  | some (.ob _ _) => Q (.sl i) env
  | _ => False
theorem pd_var (i : Nat) {x : Str} (hN : X.N[i]? = some x := by rfl) (hv : Vis X.env.scope x := by first | exact Or.inl rfl | exact Or.inr (Or.inl rfl) | exact Or.inr (Or.inr rfl)) (hd : (x == ("__debug__" : Str)) = false := by decide)
    (hcd : (x == ("__classdict__" : Str)) = false := by decide) : PD X (.Name x pos) (dVar i) := ⟨pe_imp (pe_var hN hv hd hcd) fun σ H Q ⟨B, F, env, Q', ok, h, k⟩ => by
  unfold dVar at h
  split at h
  · rename_i d he
    obtain ⟨v, hv, r⟩ := ok.dat i d he
    exact ⟨v, hv, k _ _ v F H h ok (Same.refl _) r⟩
  · rename_i p o he
    obtain ⟨w, hw, _⟩ := ok.ob i p o he
    exact ⟨_, hw, k _ _ _ F H h ok (Same.refl _) hw⟩
  · exact h.elim⟩
def dC (d : D) : TD := fun env Q => Q (.dat d) env
theorem pd_of_c {v : V} {d : D} (h : PE X e (tC v)) (r : ∀ K F, Rp K F v d) : PD X e (dC d) := ⟨pe_imp h fun σ H Q ⟨B, F, env, Q', ok, h, k⟩ => k _ _ v F H h ok (Same.refl _) (r _ _)⟩
theorem pd_int {i j} : PD X (.Constant (.int i) j pos) (dC (.int i)) := pd_of_c pe_int fun _ _ => .int i
theorem pd_bl {b j} : PD X (.Constant (.bool b) j pos) (dC (.bool b)) := pd_of_c pe_bl fun _ _ => .bl b
theorem pd_non {j} : PD X (.Constant .none j pos) (dC .none) := pd_of_c pe_non fun _ _ => .non
theorem pd_str {x j} : PD X (.Constant (.str x) j pos) (dC (.str x)) := pd_of_c pe_str fun _ _ => .str x
theorem pd_gint {x : Str} {i : Int} {t : Tok} (hg : Gl X x) (hm : X.mg x = some (.int i t)) (hd : (x == ("__debug__" : Str)) = false := by decide) : PD X (.Name x pos) (dC (.int i)) := pd_of_c (pe_glob hg hm (show RelV (.int i) _ from ⟨t, rfl⟩) hd) fun _ _ => .int i
theorem pd_gstr {x : Str} {i : Str} {t : Tok} (hg : Gl X x) (hm : X.mg x = some (.str i t)) (hd : (x == ("__debug__" : Str)) = false := by decide) : PD X (.Name x pos) (dC (.str i)) := pd_of_c (pe_glob hg hm (show RelV (.str i) _ from ⟨t, rfl⟩) hd) fun _ _ => .str i

/-! ### two operands -/
/-- by what is seen of the operands the operator's reading asks f -/
def OpS (K : PySem.W.Frag) (r : R2) (f : D → D → (D → Prop) → Prop) : Prop :=
  ∀ (B : Bs) (F H : Hp) (σ : L2.St) (env : Ev) (v w : V) (r1 r2 : Rs) (x y : D) (Q : D → Prop) (Q' : VK), Ok K B F H σ env → RsR K F σ v r1 → RsR K F σ w r2 → see env r1 = some x → see env r2 = some y → f x y Q →
    (∀ z u F' H', Q z → Ok K B F' H' σ env → Same F F' → Rp K F' u z → Q' u H') → r v w H Q'
def dBin (f : D → D → (D → Prop) → Prop) (ta tb : TD) : TD := fun env Q => ta env fun r1 e1 => tb e1 fun r2 e2 => onD (see e2 r1) fun x => onD (see e2 r2) fun y => f x y fun z => Q (.dat z) e2
theorem up_bin {r : R2} {f : D → D → (D → Prop) → Prop} (hs : OpS X.K r f) (σ : L2.St) (H : Hp) (Q : VK) (h : upE X.K (dBin f ta tb) σ H Q) : tOp r (upE X.K ta) (upE X.K tb) σ H Q := by
  obtain ⟨B, F, env, Q', ok, h, k⟩ := h
  refine ⟨B, F, env, _, ok, h, fun r1 e1 v F1 H1 q1 ok1 s1 x1 => ?_⟩
  refine ⟨B, F1, e1, _, ok1, q1, fun r2 e2 w F2 H2 q2 ok2 s2 x2 => ?_⟩
  obtain ⟨x, hx, q2⟩ := onD_of q2
  obtain ⟨y, hy, q2⟩ := onD_of q2
  exact hs B F2 H2 σ e2 v w r1 r2 x y _ Q ok2 (x1.up s2) x2 hx hy q2 fun z u F3 H3 qz ok3 s3 rz => k _ _ u F3 H3 qz ok3 (s1.trans (s2.trans s3)) rz
theorem pd_bin {op : Operator} {r : R2} {f : D → D → (D → Prop) → Prop} (ho : OpR X (binaryOp op) r) (hs : OpS X.K r f) (ha : PD X a ta) (hb : PD X b tb) : PD X (.BinOp a op b pos) (dBin f ta tb) :=
  ⟨pe_imp (pe_op ho ha.p hb.p) (up_bin hs)⟩
theorem pd_cmp {op : CmpOp} {r : R2} {f : D → D → (D → Prop) → Prop} (ho : OpR X (compareOp op) r) (hs : OpS X.K r f) (ha : PD X a ta) (hb : PD X b tb) (hm : behindInMarks op b = false) : PD X (.Compare a [op] [b] pos) (dBin f ta tb) :=
  ⟨pe_imp (pe_cmpR ho ha.p hb.p hm) (up_bin hs)⟩
/-- a comparison as a test -/
def dTst (t : TD) : TTd := fun env Q => t env fun r e => match r with
  | .dat (.bool b) => Q b e
  | _ => False
theorem up_tst {t : TE} {td : TD} (ht : ∀ σ H Q, upE X.K td σ H Q → t σ H Q) (σ : L2.St) (H : Hp) (Q : Bool → Hp → Prop) (h : upT X.K (dTst td) σ H Q) : tTest t σ H Q := by
  obtain ⟨B, F, env, Q', ok, h, k⟩ := h
  refine ht _ _ _ ⟨B, F, env, _, ok, h, fun r e1 v F1 H1 q1 ok1 s1 x1 => ?_⟩
  split at q1
  · rename_i b
    cases x1
    exact ⟨b, rfl, k _ _ F1 H1 q1 ok1 s1⟩
  · exact q1.elim
theorem td_cmp {op : CmpOp} {r : R2} {f : D → D → (D → Prop) → Prop} (ho : OpR X (compareOp op) r) (hs : OpS X.K r f) (ha : PD X a ta) (hb : PD X b tb) (hm : behindInMarks op b = false) : PTd X (.Compare a [op] [b] pos) (dTst (dBin f ta tb)) :=
  ⟨pt_imp (pt_cmpR ho ha.p hb.p hm) (up_tst (up_bin hs))⟩
/-- any expression that gives a bool, as a test -/
theorem td_val (ha : PD X a ta) (he : ∀ whole, isTrue a X.env whole = (do let v ← whole; standAt a.pos; holding [v] (truthy v)) := by intro _; rfl) : PTd X a (dTst ta) :=
  ⟨pt_imp (pt_val ha.p he) fun σ H Q h => up_tst (fun _ _ _ z => z) σ H Q h⟩

/-! ### sizes, each behind a door that the kernel does not open -/
structure Fit (n : Nat) : Prop where
  h : n ≤ sizeLine
structure Few (n : Nat) : Prop where
  h : n < 100000
structure MulOk (i j : Int) : Prop where
  h : IntMulOk i j
structure PowOk (i j : Int) : Prop where
  h : CPow i j
structure DivOk (i j : Int) : Prop where
  h0 : j ≠ 0
  h1 : j.natAbs.log2 < 9000
/-! ### the operators -/
theorem OpS.or {K : PySem.W.Frag} {r r' : R2} {f : D → D → (D → Prop) → Prop} (h : OpS K r f) : OpS K (fun x y H Q => r x y H Q ∨ r' x y H Q) f := fun B F H σ env v w r1 r2 x y Q Q' ok a b c d e k => .inl (h B F H σ env v w r1 r2 x y Q Q' ok a b c d e k)
/-- ints, a condition -/
def fI (C : Int → Int → Prop) (g : Int → Int → Int) : D → D → (D → Prop) → Prop := fun x y Q => match x, y with
  | .int i, .int j => C i j ∧ Q (.int (g i j))
  | _, _ => False
def fI0 (g : Int → Int → Int) : D → D → (D → Prop) → Prop := fun x y Q => match x, y with
  | .int i, .int j => Q (.int (g i j))
  | _, _ => False
def fB0 (g : Int → Int → Bool) : D → D → (D → Prop) → Prop := fun x y Q => match x, y with
  | .int i, .int j => Q (.bool (g i j))
  | _, _ => False
section
variable {K : PySem.W.Frag}
theorem os_I {C : Int → Int → Prop} {g : Int → Int → Int} : OpS K (rI C fun i j => .int (g i j)) (fI C g) := fun B F H σ env v w r1 r2 x y Q Q' ok a b c d e k => by
  unfold fI at e
  split at e
  · rename_i i j
    cases see_int ok a c
    cases see_int ok b d
    exact ⟨i, j, rfl, rfl, e.1, k _ _ F H e.2 ok (Same.refl _) (.int _)⟩
  · exact e.elim
theorem os_I0 {g : Int → Int → Int} : OpS K (rI0 fun i j => .int (g i j)) (fI0 g) := fun B F H σ env v w r1 r2 x y Q Q' ok a b c d e k => by
  unfold fI0 at e
  split at e
  · rename_i i j
    cases see_int ok a c
    cases see_int ok b d
    exact ⟨i, j, rfl, rfl, k _ _ F H e ok (Same.refl _) (.int _)⟩
  · exact e.elim
theorem os_B0 {g : Int → Int → Bool} : OpS K (rI0 fun i j => .bl (g i j)) (fB0 g) := fun B F H σ env v w r1 r2 x y Q Q' ok a b c d e k => by
  unfold fB0 at e
  split at e
  · rename_i i j
    cases see_int ok a c
    cases see_int ok b d
    exact ⟨i, j, rfl, rfl, k _ _ F H e ok (Same.refl _) (.bl _)⟩
  · exact e.elim
end
def gLt (i j : Int) : Bool := decide (i < j)
def gLe (i j : Int) : Bool := decide (i ≤ j)
def gGt (i j : Int) : Bool := decide (j < i)
def gGe (i j : Int) : Bool := decide (j ≤ i)
def fEq : D → D → (D → Prop) → Prop := fun x y Q => (SeqAt.shaped x = true ∧ SeqAt.shaped y = true) ∧ Q (.bool (PyData.eqv x y))
def fNe : D → D → (D → Prop) → Prop := fun x y Q => (SeqAt.shaped x = true ∧ SeqAt.shaped y = true) ∧ Q (.bool (!PyData.eqv x y))
def rIn2 (K : PySem.W.Frag) (neg : Bool) : R2 := fun x y H Q => ∃ d ds, Dp K H x d ∧ (Dp K H y (.list ds) ∨ Dp K H y (.tuple ds)) ∧ SeqAt.shaped d = true ∧ PyData.canLayAll0 ds = true ∧ Q (.bl (if neg then !ds.any (fun z => PyData.eqv z d) else ds.any fun z => PyData.eqv z d)) H
theorem op_in2 (hu : X.A.units + 65 < cLine) : OpR X (compareOp .In) (rIn2 X.K false) := by
  intro pins s σ H x y v u Q I rx ry h
  obtain ⟨d, ds, hd, he, sd, se, q⟩ := h
  obtain ⟨as, r1⟩ := Dp.reads I d x v hd rx
  rcases he with he | he
  · obtain ⟨bs, r2⟩ := Dp.reads I _ y u he ry
    exact SeqAt.in_list_reads r2 r1 se (SeqAt.canLay_of_shaped sd) (room_in_shaped sd hu) ⟨.bl _, H, I, rfl, q⟩
  · obtain ⟨bs, r2⟩ := Dp.reads I _ y u he ry
    exact SeqAt.in_tuple_reads r2 r1 se (SeqAt.canLay_of_shaped sd) (room_in_shaped sd hu) ⟨.bl _, H, I, rfl, q⟩
theorem op_ni2 (hu : X.A.units + 65 < cLine) : OpR X (compareOp .NotIn) (rIn2 X.K true) := by
  intro pins s σ H x y v u Q I rx ry h
  obtain ⟨d, ds, hd, he, sd, se, q⟩ := h
  obtain ⟨as, r1⟩ := Dp.reads I d x v hd rx
  rcases he with he | he
  · obtain ⟨bs, r2⟩ := Dp.reads I _ y u he ry
    exact SeqAt.notIn_list_reads r2 r1 se (SeqAt.canLay_of_shaped sd) (room_in_shaped sd hu) ⟨.bl _, H, I, rfl, q⟩
  · obtain ⟨bs, r2⟩ := Dp.reads I _ y u he ry
    exact SeqAt.notIn_tuple_reads r2 r1 se (SeqAt.canLay_of_shaped sd) (room_in_shaped sd hu) ⟨.bl _, H, I, rfl, q⟩
/-- x in a list or tuple of data -/
def fIn (neg : Bool) : D → D → (D → Prop) → Prop := fun x y Q => match y with
  | .list ds => (SeqAt.shaped x = true ∧ PyData.canLayAll0 ds = true) ∧ Q (.bool (if neg then !ds.any (fun z => PyData.eqv z x) else ds.any fun z => PyData.eqv z x))
  | .tuple ds => (SeqAt.shaped x = true ∧ PyData.canLayAll0 ds = true) ∧ Q (.bool (if neg then !ds.any (fun z => PyData.eqv z x) else ds.any fun z => PyData.eqv z x))
  | _ => False
/-- a sign in a text -/
def fInS (neg : Bool) : D → D → (D → Prop) → Prop := fun x y Q => match x, y with
  | .str c, .str z => ∃ n, c = ⟨#[n]⟩ ∧ Q (.bool (if neg then !decide (n ∈ z.cps.toList) else decide (n ∈ z.cps.toList)))
  | _, _ => False
def isN : D → Bool
  | .none => true
  | _ => false
def fIsN : D → D → (D → Prop) → Prop := fun x y Q => match y with
  | .none => Q (.bool (isN x))
  | _ => False
def fNoN : D → D → (D → Prop) → Prop := fun x y Q => match y with
  | .none => Q (.bool (!isN x))
  | _ => False
section
variable {K : PySem.W.Frag}
theorem os_eq : OpS K (rEqD K) fEq := fun B F H σ env v w r1 r2 x y Q Q' ok a b c d e k => ⟨x, y, (see_dp ok a c).dp, (see_dp ok b d).dp, e.1.1, e.1.2, k _ _ F H e.2 ok (Same.refl _) (.bl _)⟩
theorem os_ne : OpS K (rNeD K) fNe := fun B F H σ env v w r1 r2 x y Q Q' ok a b c d e k => ⟨x, y, (see_dp ok a c).dp, (see_dp ok b d).dp, e.1.1, e.1.2, k _ _ F H e.2 ok (Same.refl _) (.bl _)⟩
theorem os_in {neg : Bool} : OpS K (rIn2 K neg) (fIn neg) := fun B F H σ env v w r1 r2 x y Q Q' ok a b c d e k => by
  unfold fIn at e
  split at e
  · exact ⟨x, _, (see_dp ok a c).dp, .inl (see_dp ok b d).dp, e.1.1, e.1.2, k _ _ F H e.2 ok (Same.refl _) (.bl _)⟩
  · exact ⟨x, _, (see_dp ok a c).dp, .inr (see_dp ok b d).dp, e.1.1, e.1.2, k _ _ F H e.2 ok (Same.refl _) (.bl _)⟩
  · exact e.elim
theorem rp_none {F : Hp} {v : V} {d : D} (h : Rp K F v d) : decide (v = .non) = isN d := by
  cases h <;> simp [isN]
theorem os_isN : OpS K (fun x y H Q => y = .non ∧ Q (.bl (decide (x = .non))) H) fIsN := fun B F H σ env v w r1 r2 x y Q Q' ok a b c d e k => by
  unfold fIsN at e
  split at e
  · refine ⟨see_none ok b d, ?_⟩
    rw [rp_none (see_dp ok a c)]
    exact k _ _ F H e ok (Same.refl _) (.bl _)
  · exact e.elim
theorem os_noN : OpS K (fun x y H Q => y = .non ∧ Q (.bl (!decide (x = .non))) H) fNoN := fun B F H σ env v w r1 r2 x y Q Q' ok a b c d e k => by
  unfold fNoN at e
  split at e
  · refine ⟨see_none ok b d, ?_⟩
    rw [rp_none (see_dp ok a c)]
    exact k _ _ F H e ok (Same.refl _) (.bl _)
  · exact e.elim
end
/-- + -/
def rAddA (K : PySem.W.Frag) : R2 := fun x y H Q => (∃ i j, x = .int i ∧ y = .int j ∧ Q (.int (i + j)) H) ∨ (∃ i j, x = .str i ∧ y = .str j ∧ i.length + j.length ≤ sizeLine ∧ Q (.str (i ++ j)) H) ∨ rCatA K x y H Q ∨
  (∃ l b xs zs, x = .ref l ∧ y = .ref b ∧ SqL K H l xs ∧ SqL K H b zs ∧ xs.length + zs.length ≤ sizeLine ∧ ∀ p, H p = none → Q (.ref p) (upd H p (.lst (xs ++ zs))))
theorem cat_lists {prog : Program} {w : World} {A : Around} {E : Value → Shared → Prop} {s : Shared} {l b : Addr} {vs ws : List Value} {Q : Value → Shared → Prop} (hl : s.heap.IsList l vs.toArray) (hb : s.heap.IsList b ws.toArray) (hz : vs.length + ws.length ≤ sizeLine)
    (q : Q (.ref s.heap.objs.size) { s with heap := s.heap.push { cls := .type "list", data := .seq (vs ++ ws).toArray } }) : wpAny (model prog w) A (binaryOp .Add (.ref l) (.ref b)) Q E s := by
  obtain ⟨⟨c1, d1, t1, y1⟩, ho, hc, n1, hd⟩ := hl
  obtain ⟨⟨c2, d2, t2, y2⟩, ho2, hc2, n2, hd2⟩ := hb
  simp only at hc hd hc2 hd2
  subst hc hd hc2 hd2
  have ea : vs.toArray ++ ws.toArray = (vs ++ ws).toArray := by simp
  rw [← ea] at q
  exact concat_meets ⟨_, ho, rfl⟩ ⟨_, ho2, rfl⟩ noFill_list_add seq_list_add PySem.F.slot_list_add PySem.F.entry_list_add (PySem.F.args_list_add_2 _ _) (list_addW l b vs.toArray ws.toArray n1 n2 d1 d2 y1 y2 (by simpa using hz)) ⟨ho, ho2, q⟩
theorem op_addA : OpR X (binaryOp .Add) (rAddA X.K) := by
  intro pins s σ H x y v u Q I rx ry h
  rcases h with h | h | h | h
  · exact op_add pins s σ H x y v u Q I rx ry h
  · exact op_add_str pins s σ H x y v u Q I rx ry h
  · exact op_catA pins s σ H x y v u Q I rx ry h
  · obtain ⟨l, b, xs, zs, rfl, rfl, h1, h2, hz, q⟩ := h
    cases rx; cases ry
    obtain ⟨its, r, p1, _⟩ := I.list h1
    obtain ⟨its2, r2, p2, _⟩ := I.list h2
    have l1 := r.length
    have l2 := r2.length
    exact cat_lists p1.isList p2.isList (by omega) ⟨V.ref s.heap.objs.size, upd H s.heap.objs.size (.lst (xs ++ zs)), I.lnew (t' := s.toks) (r.append r2) (by simp only [List.length_append]; omega), rfl, q _ I.fresh⟩
def fAdd : D → D → (D → Prop) → Prop := fun x y Q => match x, y with
  | .int i, .int j => Q (.int (i + j))
  | .str i, .str j => Fit (i.length + j.length) ∧ Q (.str (i ++ j))
  | .tuple i, .tuple j => Fit (i.length + j.length) ∧ Q (.tuple (i ++ j))
  | .list i, .list j => Fit (i.length + j.length) ∧ Q (.list (i ++ j))
  | _, _ => False
theorem os_add {K : PySem.W.Frag} : OpS K (rAddA K) fAdd := fun B F H σ env v w r1 r2 x y Q Q' ok a b c d e k => by
  unfold fAdd at e
  split at e
  · rename_i i j
    cases see_int ok a c
    cases see_int ok b d
    exact .inl ⟨i, j, rfl, rfl, k _ _ F H e ok (Same.refl _) (.int _)⟩
  · rename_i i j
    cases see_str ok a c
    cases see_str ok b d
    exact .inr (.inl ⟨i, j, rfl, rfl, e.1.h, k _ _ F H e.2 ok (Same.refl _) (.str _)⟩)
  · rename_i i j
    obtain ⟨p, vs, rfl, h1, h1F, h2⟩ := see_tup ok a c
    obtain ⟨q, ws, rfl, g1, g1F, g2⟩ := see_tup ok b d
    have l1 := h2.len
    have l2 := g2.len
    have l3 := e.1.h
    refine .inr (.inr (.inl ⟨p, q, vs, ws, rfl, rfl, h1, g1, by omega, fun z => ?_, fun _ z => ?_, fun _ _ t ht => ?_⟩))
    · subst z
      cases h2
      exact k _ _ F H e.2 ok (Same.refl _) (.tup g1F g2)
    · subst z
      cases g2
      rw [List.append_nil] at e
      exact k _ _ F H e.2 ok (Same.refl _) (.tup h1F h2)
    · obtain ⟨ok', sF⟩ := ok.newF (.tup (vs ++ ws)) ht
      exact k _ _ _ _ e.2 ok' sF (.tup (SqT.of upd_same) ((h2.app g2).up sF))
  · rename_i i j
    obtain ⟨p, vs, rfl, h1, h2⟩ := see_list ok a c
    obtain ⟨q, ws, rfl, g1, g2⟩ := see_list ok b d
    have l1 := h2.len
    have l2 := g2.len
    have l3 := e.1.h
    refine .inr (.inr (.inr ⟨p, q, vs, ws, rfl, rfl, h1, g1, by omega, fun t ht => ?_⟩))
    obtain ⟨ok', sF⟩ := ok.newF (.lst (vs ++ ws)) ht
    exact k _ _ _ _ e.2 ok' sF (.lst (SqL.of upd_same) ((h2.app g2).up sF))
  · exact e.elim
theorem pd_add (ha : PD X a ta) (hb : PD X b tb) : PD X (.BinOp a .Add b pos) (dBin fAdd ta tb) := pd_bin op_addA os_add ha hb
theorem pd_sub (ha : PD X a ta) (hb : PD X b tb) : PD X (.BinOp a .Sub b pos) (dBin (fI0 fun i j => i - j) ta tb) := pd_bin op_sub os_I0 ha hb
/-- * -/
theorem op_mulX : OpR X (binaryOp .Mult) (rI IntMulOk fun i j => .int (i * j)) := opI fun _ _ _ _ _ _ _ hc q => mul_int q hc
def rMulA (K : PySem.W.Frag) : R2 := fun x y H Q => (∃ i j, x = .int i ∧ y = .int j ∧ IntMulOk i j ∧ Q (.int (i * j)) H) ∨ rRep x y H Q
theorem op_mulA : OpR X (binaryOp .Mult) (rMulA X.K) := by
  intro pins s σ H x y v u Q I rx ry h
  rcases h with h | h
  · exact op_mulX pins s σ H x y v u Q I rx ry h
  · exact op_rep pins s σ H x y v u Q I rx ry h
theorem rep_flat {K : PySem.W.Frag} {F : Hp} {vs : List V} {ds : List D} (h : RpA K F vs ds) : ∀ k : Nat, RpA K F (List.replicate k vs).flatten (List.replicate k ds).flatten
  | 0 => .nil
  | k + 1 => by
    rw [List.replicate_succ, List.replicate_succ, List.flatten_cons, List.flatten_cons]
    exact h.app (rep_flat h k)
def fMul : D → D → (D → Prop) → Prop := fun x y Q => match x, y with
  | .int i, .int j => MulOk i j ∧ Q (.int (i * j))
  | _, _ => False
theorem os_mul {K : PySem.W.Frag} : OpS K (rMulA K) fMul := fun B F H σ env v w r1 r2 x y Q Q' ok a b c d e k => by
  unfold fMul at e
  split at e
  · rename_i i j
    cases see_int ok a c
    cases see_int ok b d
    exact .inl ⟨i, j, rfl, rfl, e.1.h, k _ _ F H e.2 ok (Same.refl _) (.int _)⟩
  · exact e.elim
theorem pd_mul (ha : PD X a ta) (hb : PD X b tb) : PD X (.BinOp a .Mult b pos) (dBin fMul ta tb) := pd_bin op_mulA os_mul ha hb
/-- // and % -/
theorem op_fdivA : OpR X (binaryOp .FloorDiv) (rI DivOk fun i j => .int (i.fdiv j)) := opI fun _ _ _ _ _ _ _ hc q => floordiv_int hc.h0 q (.inl (PyProof.noPylong_of_log2 hc.h1))
theorem pd_fdiv (ha : PD X a ta) (hb : PD X b tb) : PD X (.BinOp a .FloorDiv b pos) (dBin (fI DivOk fun i j => i.fdiv j) ta tb) := pd_bin op_fdivA os_I ha hb
theorem pd_mod (ha : PD X a ta) (hb : PD X b tb) : PD X (.BinOp a .Mod b pos) (dBin (fI (fun _ j => j ≠ 0) fun i j => i.fmod j) ta tb) := pd_bin op_modN os_I ha hb
theorem os_pow {K : PySem.W.Frag} : OpS K (rI CPow fun i j => .int (i ^ j.toNat)) (fI PowOk fun i j => i ^ j.toNat) := fun B F H σ env v w r1 r2 x y Q Q' ok a b c d e k => by
  unfold fI at e
  split at e
  · rename_i i j
    cases see_int ok a c
    cases see_int ok b d
    exact ⟨i, j, rfl, rfl, e.1.h, k _ _ F H e.2 ok (Same.refl _) (.int _)⟩
  · exact e.elim
theorem pd_pow (ha : PD X a ta) (hb : PD X b tb) : PD X (.BinOp a .Pow b pos) (dBin (fI PowOk fun i j => i ^ j.toNat) ta tb) := pd_bin op_pow os_pow ha hb
/-! comparisons: values and tests -/
theorem pd_lt (ha : PD X a ta) (hb : PD X b tb) : PD X (.Compare a [.Lt] [b] pos) (dBin (fB0 gLt) ta tb) := pd_cmp op_lt os_B0 ha hb (nomark _)
theorem pd_le (ha : PD X a ta) (hb : PD X b tb) : PD X (.Compare a [.LtE] [b] pos) (dBin (fB0 gLe) ta tb) := pd_cmp op_le os_B0 ha hb (nomark _)
theorem pd_gt (ha : PD X a ta) (hb : PD X b tb) : PD X (.Compare a [.Gt] [b] pos) (dBin (fB0 gGt) ta tb) := pd_cmp op_gt os_B0 ha hb (nomark _)
theorem pd_ge (ha : PD X a ta) (hb : PD X b tb) : PD X (.Compare a [.GtE] [b] pos) (dBin (fB0 gGe) ta tb) := pd_cmp op_ge os_B0 ha hb (nomark _)
theorem td_lt (ha : PD X a ta) (hb : PD X b tb) : PTd X (.Compare a [.Lt] [b] pos) (dTst (dBin (fB0 gLt) ta tb)) := td_cmp op_lt os_B0 ha hb (nomark _)
theorem td_le (ha : PD X a ta) (hb : PD X b tb) : PTd X (.Compare a [.LtE] [b] pos) (dTst (dBin (fB0 gLe) ta tb)) := td_cmp op_le os_B0 ha hb (nomark _)
theorem td_gt (ha : PD X a ta) (hb : PD X b tb) : PTd X (.Compare a [.Gt] [b] pos) (dTst (dBin (fB0 gGt) ta tb)) := td_cmp op_gt os_B0 ha hb (nomark _)
theorem td_ge (ha : PD X a ta) (hb : PD X b tb) : PTd X (.Compare a [.GtE] [b] pos) (dTst (dBin (fB0 gGe) ta tb)) := td_cmp op_ge os_B0 ha hb (nomark _)
theorem pd_eq (hu : X.A.units + 64 < cLine) (ha : PD X a ta) (hb : PD X b tb) : PD X (.Compare a [.Eq] [b] pos) (dBin fEq ta tb) := pd_cmp (op_eqD hu) os_eq ha hb (nomark _)
theorem pd_ne (hu : X.A.units + 64 < cLine) (ha : PD X a ta) (hb : PD X b tb) : PD X (.Compare a [.NotEq] [b] pos) (dBin fNe ta tb) := pd_cmp (op_neD hu) os_ne ha hb (nomark _)
theorem td_eq (hu : X.A.units + 64 < cLine) (ha : PD X a ta) (hb : PD X b tb) : PTd X (.Compare a [.Eq] [b] pos) (dTst (dBin fEq ta tb)) := td_cmp (op_eqD hu) os_eq ha hb (nomark _)
theorem td_ne (hu : X.A.units + 64 < cLine) (ha : PD X a ta) (hb : PD X b tb) : PTd X (.Compare a [.NotEq] [b] pos) (dTst (dBin fNe ta tb)) := td_cmp (op_neD hu) os_ne ha hb (nomark _)
theorem pd_in (hu : X.A.units + 65 < cLine) (ha : PD X a ta) (hb : PD X b tb) (hm : behindInMarks .In b = false := by rfl) : PD X (.Compare a [.In] [b] pos) (dBin (fIn false) ta tb) := pd_cmp (op_in2 hu) os_in ha hb hm
theorem pd_ni (hu : X.A.units + 65 < cLine) (ha : PD X a ta) (hb : PD X b tb) (hm : behindInMarks .NotIn b = false := by rfl) : PD X (.Compare a [.NotIn] [b] pos) (dBin (fIn true) ta tb) := pd_cmp (op_ni2 hu) os_in ha hb hm
theorem td_in (hu : X.A.units + 65 < cLine) (ha : PD X a ta) (hb : PD X b tb) (hm : behindInMarks .In b = false := by rfl) : PTd X (.Compare a [.In] [b] pos) (dTst (dBin (fIn false) ta tb)) := td_cmp (op_in2 hu) os_in ha hb hm
theorem td_ni (hu : X.A.units + 65 < cLine) (ha : PD X a ta) (hb : PD X b tb) (hm : behindInMarks .NotIn b = false := by rfl) : PTd X (.Compare a [.NotIn] [b] pos) (dTst (dBin (fIn true) ta tb)) := td_cmp (op_ni2 hu) os_in ha hb hm
theorem pd_is (ha : PD X a ta) (hb : PD X b tb) : PD X (.Compare a [.Is] [b] pos) (dBin fIsN ta tb) := pd_cmp op_isN os_isN ha hb (nomark _)
theorem pd_isnot (ha : PD X a ta) (hb : PD X b tb) : PD X (.Compare a [.IsNot] [b] pos) (dBin fNoN ta tb) := pd_cmp op_notN os_noN ha hb (nomark _)
theorem td_is (ha : PD X a ta) (hb : PD X b tb) : PTd X (.Compare a [.Is] [b] pos) (dTst (dBin fIsN ta tb)) := td_cmp op_isN os_isN ha hb (nomark _)
theorem td_isnot (ha : PD X a ta) (hb : PD X b tb) : PTd X (.Compare a [.IsNot] [b] pos) (dTst (dBin fNoN ta tb)) := td_cmp op_notN os_noN ha hb (nomark _)
end
end DL
end SDLexpr
section SDLexpr2
set_option maxHeartbeats 4000000
/-! Expressions over the data layer: tests, displays, items, slices, calls of what is built in. -/
namespace DL
open PySem PySem.Spec PyProof.Rows L2
section
variable {X : Cx} {e a b c : Expr} {es rest : List Expr} {pos : Pos} {ta tb tc td : TD} {t u : TTd}

/-! ### and, or, not, if -/
def dAndT (t u : TTd) : TTd := fun env Q => t env fun b e => match b with
  | true => u e Q
  | false => Q false e
def dOrT (t u : TTd) : TTd := fun env Q => t env fun b e => match b with
  | true => Q true e
  | false => u e Q
def dNotT (t : TTd) : TTd := fun env Q => t env fun b e => Q (!b) e
theorem up_andT (σ : L2.St) (H : Hp) (Q : Bool → Hp → Prop) (h : upT X.K (dAndT t u) σ H Q) : tAnd (upT X.K t) (upT X.K u) σ H Q := by
  obtain ⟨B, F, env, Q', ok, h, k⟩ := h
  refine ⟨B, F, env, _, ok, h, fun b e1 F1 H1 q1 ok1 s1 => ?_⟩
  cases b with
  | true =>
    rw [if_pos rfl]
    exact ⟨B, F1, e1, _, ok1, q1, fun b e2 F2 H2 q2 ok2 s2 => k _ _ F2 H2 q2 ok2 (s1.trans s2)⟩
  | false =>
    rw [if_neg (by decide)]
    exact k _ _ F1 H1 q1 ok1 s1
theorem up_orT (σ : L2.St) (H : Hp) (Q : Bool → Hp → Prop) (h : upT X.K (dOrT t u) σ H Q) : tOr (upT X.K t) (upT X.K u) σ H Q := by
  obtain ⟨B, F, env, Q', ok, h, k⟩ := h
  refine ⟨B, F, env, _, ok, h, fun b e1 F1 H1 q1 ok1 s1 => ?_⟩
  cases b with
  | false =>
    rw [if_neg (by decide)]
    exact ⟨B, F1, e1, _, ok1, q1, fun b e2 F2 H2 q2 ok2 s2 => k _ _ F2 H2 q2 ok2 (s1.trans s2)⟩
  | true =>
    rw [if_pos rfl]
    exact k _ _ F1 H1 q1 ok1 s1
theorem wd_and1 (ha : PTd X a t) : PWd X (.BoolOp .And [a] pos) t := ⟨pw_and1 ha.p⟩
theorem wd_or1 (ha : PTd X a t) : PWd X (.BoolOp .Or [a] pos) t := ⟨pw_or1 ha.p⟩
theorem wd_and (ha : PTd X a t) (hb : PWd X (.BoolOp .And (b :: rest) pos) u) : PWd X (.BoolOp .And (a :: b :: rest) pos) (dAndT t u) := ⟨pw_imp (pw_and ha.p hb.p) up_andT⟩
theorem wd_or (ha : PTd X a t) (hb : PWd X (.BoolOp .Or (b :: rest) pos) u) : PWd X (.BoolOp .Or (a :: b :: rest) pos) (dOrT t u) := ⟨pw_imp (pw_or ha.p hb.p) up_orT⟩
theorem td_w (h : PWd X e t) : PTd X e t := ⟨h.p.pt⟩
theorem td_not (ha : PTd X a t) : PTd X (.UnaryOp .Not a pos) (dNotT t) := ⟨pt_imp (pt_not ha.p) fun σ H Q ⟨B, F, env, Q', ok, h, k⟩ => ⟨B, F, env, _, ok, h, fun b e1 F1 H1 q1 ok1 s1 => k _ _ F1 H1 q1 ok1 s1⟩⟩
/-! as values -/
def dAndV (ta tb : TD) : TD := fun env Q => ta env fun r e => match r with
  | .dat (.bool true) => tb e Q
  | .dat (.bool false) => Q (.dat (.bool false)) e
  | _ => False
def dOrV (ta tb : TD) : TD := fun env Q => ta env fun r e => match r with
  | .dat (.bool false) => tb e Q
  | .dat (.bool true) => Q (.dat (.bool true)) e
  | _ => False
def dNotV (ta : TD) : TD := fun env Q => ta env fun r e => match r with
  | .dat (.bool b) => Q (.dat (.bool (!b))) e
  | _ => False
theorem pd_one {op} (h : PD X a ta) : PD X (.BoolOp op [a] pos) ta := ⟨pe_one h.p⟩
theorem pd_and (ha : PD X a ta) (hb : PD X (.BoolOp .And (b :: rest) pos) tb) : PD X (.BoolOp .And (a :: b :: rest) pos) (dAndV ta tb) := ⟨pe_imp (pe_and ha.p hb.p) fun σ H Q h => by
  obtain ⟨B, F, env, Q', ok, h, k⟩ := h
  refine ⟨B, F, env, _, ok, h, fun r e1 v F1 H1 q1 ok1 s1 x1 => ?_⟩
  split at q1
  · cases x1
    refine ⟨true, rfl, ?_⟩
    rw [if_pos rfl]
    exact ⟨B, F1, e1, _, ok1, q1, fun r e2 w F2 H2 q2 ok2 s2 x2 => k _ _ w F2 H2 q2 ok2 (s1.trans s2) x2⟩
  · cases x1
    refine ⟨false, rfl, ?_⟩
    rw [if_neg (by decide)]
    exact k _ _ _ F1 H1 q1 ok1 s1 (.bl false)
  · exact q1.elim⟩
theorem pd_or (ha : PD X a ta) (hb : PD X (.BoolOp .Or (b :: rest) pos) tb) : PD X (.BoolOp .Or (a :: b :: rest) pos) (dOrV ta tb) := ⟨pe_imp (pe_or ha.p hb.p) fun σ H Q h => by
  obtain ⟨B, F, env, Q', ok, h, k⟩ := h
  refine ⟨B, F, env, _, ok, h, fun r e1 v F1 H1 q1 ok1 s1 x1 => ?_⟩
  split at q1
  · cases x1
    refine ⟨false, rfl, ?_⟩
    rw [if_neg (by decide)]
    exact ⟨B, F1, e1, _, ok1, q1, fun r e2 w F2 H2 q2 ok2 s2 x2 => k _ _ w F2 H2 q2 ok2 (s1.trans s2) x2⟩
  · cases x1
    refine ⟨true, rfl, ?_⟩
    rw [if_pos rfl]
    exact k _ _ _ F1 H1 q1 ok1 s1 (.bl true)
  · exact q1.elim⟩
theorem pd_not (ha : PD X a ta) : PD X (.UnaryOp .Not a pos) (dNotV ta) := ⟨pe_imp (pe_not ha.p) fun σ H Q h => by
  obtain ⟨B, F, env, Q', ok, h, k⟩ := h
  refine ⟨B, F, env, _, ok, h, fun r e1 v F1 H1 q1 ok1 s1 x1 => ?_⟩
  split at q1
  · cases x1
    exact ⟨_, rfl, k _ _ _ F1 H1 q1 ok1 s1 (.bl _)⟩
  · exact q1.elim⟩
def dIfE (t : TTd) (ta tb : TD) : TD := fun env Q => t env fun b e => match b with
  | true => ta e Q
  | false => tb e Q
theorem pd_ifExp (hc : PTd X c t) (ha : PD X a ta) (hb : PD X b tb) : PD X (.IfExp c a b pos) (dIfE t ta tb) := ⟨pe_imp (pe_ifExp hc.p ha.p hb.p) fun σ H Q h => by
  obtain ⟨B, F, env, Q', ok, h, k⟩ := h
  refine ⟨B, F, env, _, ok, h, fun b e1 F1 H1 q1 ok1 s1 => ?_⟩
  cases b with
  | true =>
    rw [if_pos rfl]
    exact ⟨B, F1, e1, _, ok1, q1, fun r e2 w F2 H2 q2 ok2 s2 x2 => k _ _ w F2 H2 q2 ok2 (s1.trans s2) x2⟩
  | false =>
    rw [if_neg (by decide)]
    exact ⟨B, F1, e1, _, ok1, q1, fun r e2 w F2 H2 q2 ok2 s2 x2 => k _ _ w F2 H2 q2 ok2 (s1.trans s2) x2⟩⟩
/-! -x -/
def dNeg (ta : TD) : TD := fun env Q => ta env fun r e => onD (see e r) fun x => match x with
  | .int i => Q (.dat (.int (-i))) e
  | _ => False
theorem pd_neg (ha : PD X a ta) : PD X (.UnaryOp .USub a pos) (dNeg ta) := ⟨pe_imp (pe_un un_neg ha.p) fun σ H Q h => by
  obtain ⟨B, F, env, Q', ok, h, k⟩ := h
  refine ⟨B, F, env, _, ok, h, fun r e1 v F1 H1 q1 ok1 s1 x1 => ?_⟩
  obtain ⟨x, hx, q1⟩ := onD_of q1
  split at q1
  · cases see_int ok1 x1 hx
    exact ⟨_, rfl, k _ _ _ F1 H1 q1 ok1 s1 (.int _)⟩
  · exact q1.elim⟩
/-! a < b < c -/
def dChain (f g : D → D → (D → Prop) → Prop) (ta tb tc : TD) : TD := fun env Q => ta env fun r1 e1 => tb e1 fun r2 e2 => onD (see e2 r1) fun x => onD (see e2 r2) fun y => f x y fun z => match z with
  | .bool true => tc e2 fun r3 e3 => onD (see e3 r2) fun y => onD (see e3 r3) fun z => g y z fun z' => Q (.dat z') e3
  | .bool false => Q (.dat (.bool false)) e2
  | _ => False
theorem up_chain {r r' : R2} {f g : D → D → (D → Prop) → Prop} (hs : OpS X.K r f) (hs' : OpS X.K r' g) (σ : L2.St) (H : Hp) (Q : VK) (h : upE X.K (dChain f g ta tb tc) σ H Q) : tChain r r' (upE X.K ta) (upE X.K tb) (upE X.K tc) σ H Q := by
  obtain ⟨B, F, env, Q', ok, h, k⟩ := h
  refine ⟨B, F, env, _, ok, h, fun r1 e1 v F1 H1 q1 ok1 s1 x1 => ?_⟩
  refine ⟨B, F1, e1, _, ok1, q1, fun r2 e2 w F2 H2 q2 ok2 s2 x2 => ?_⟩
  obtain ⟨x, hx, q2⟩ := onD_of q2
  obtain ⟨y, hy, q2⟩ := onD_of q2
  refine hs B F2 H2 σ e2 v w r1 r2 x y _ _ ok2 (x1.up s2) x2 hx hy q2 fun z u F3 H3 qz ok3 s3 rz => ?_
  have x23 := x2.up s3
  split at qz
  · cases rz
    refine ⟨true, rfl, ?_⟩
    rw [if_pos rfl]
    refine ⟨B, F3, e2, _, ok3, qz, fun r3 e3 w3 F4 H4 q4 ok4 s4 x4 => ?_⟩
    obtain ⟨y', hy', q4⟩ := onD_of q4
    obtain ⟨z', hz', q4⟩ := onD_of q4
    exact hs' B F4 H4 σ e3 w w3 r2 r3 y' z' _ Q ok4 (x23.up s4) x4 hy' hz' q4 fun z u F5 H5 qz ok5 s5 rz => k _ _ u F5 H5 qz ok5 (s1.trans (s2.trans (s3.trans (s4.trans s5)))) rz
  · cases rz
    refine ⟨false, rfl, ?_⟩
    rw [if_neg (by decide)]
    exact k _ _ _ F3 H3 qz ok3 (s1.trans (s2.trans s3)) (.bl false)
  · exact qz.elim
theorem pd_chain {op op' : CmpOp} {r r' : R2} {f g : D → D → (D → Prop) → Prop} (ho : OpR X (compareOp op) r) (ho' : OpR X (compareOp op') r') (hs : OpS X.K r f) (hs' : OpS X.K r' g) (ha : PD X a ta) (hb : PD X b tb) (hc : PD X c tc)
    (hm : lastMarks [op, op'] [b, c] = false := by with_unfolding_all rfl) : PD X (.Compare a [op, op'] [b, c] pos) (dChain f g ta tb tc) := ⟨pe_imp (pe_chain ho ho' ha.p hb.p hc.p hm) (up_chain hs hs')⟩
theorem td_chain {op op' : CmpOp} {r r' : R2} {f g : D → D → (D → Prop) → Prop} (ho : OpR X (compareOp op) r) (ho' : OpR X (compareOp op') r') (hs : OpS X.K r f) (hs' : OpS X.K r' g) (ha : PD X a ta) (hb : PD X b tb) (hc : PD X c tc)
    (hm : lastMarks [op, op'] [b, c] = false := by with_unfolding_all rfl) : PTd X (.Compare a [op, op'] [b, c] pos) (dTst (dChain f g ta tb tc)) := ⟨pt_imp (pt_chain ho ho' ha.p hb.p hc.p hm) (up_tst (up_chain hs hs'))⟩

/-! ### what is handed on for good -/
def frzR (env : Ev) (r : Rs) (Q : D → Ev → Prop) : Prop := match r with
  | .dat d => Q d env
  | .sl i => match env[i]? with
    | some (.dat d) => Q d env
    | some (.ob false (.lst xs)) => Q (.list xs) (env.set i (.dat (.list xs)))
    | _ => False
def frzL (env : Ev) (rs : List Rs) (Q : List D → Ev → Prop) : Prop := match rs with
  | [] => Q [] env
  | r :: rs => frzR env r fun d e => frzL e rs fun ds e' => Q (d :: ds) e'
theorem frzR_ok {K : PySem.W.Frag} {B : Bs} {F H : Hp} {σ : L2.St} {env : Ev} {v : V} {r : Rs} {Q : D → Ev → Prop} (ok : Ok K B F H σ env) (x : RsR K F σ v r) (h : frzR env r Q) :
    ∃ d env' F', Q d env' ∧ Ok K B F' H σ env' ∧ Same F F' ∧ Rp K F' v d := by
  cases r with
  | dat d => exact ⟨d, env, F, h, ok, Same.refl _, x⟩
  | sl i =>
    have x' : σ[i]? = some (some v) := x
    have h' : (match env[i]? with | some (.dat d) => Q d env | some (.ob false (.lst xs)) => Q (.list xs) (env.set i (.dat (.list xs))) | _ => False) := h
    split at h'
    · rename_i d he
      obtain ⟨u, hu, ru⟩ := ok.dat i d he
      rw [x'] at hu; cases hu
      exact ⟨d, env, F, h', ok, Same.refl _, ru⟩
    · rename_i xs he
      obtain ⟨F', p, hs, ok', s, rp⟩ := ok.frz he
      rw [x'] at hs; cases hs
      exact ⟨_, _, F', h', ok', s, rp⟩
    · exact h'.elim
theorem frzL_ok {K : PySem.W.Frag} {B : Bs} {H : Hp} {σ : L2.St} : ∀ {rs : List Rs} {vs : List V} {F : Hp} {env : Ev} {Q : List D → Ev → Prop}, Ok K B F H σ env → RsA K F σ vs rs → frzL env rs Q →
    ∃ ds env' F', Q ds env' ∧ Ok K B F' H σ env' ∧ Same F F' ∧ RpA K F' vs ds
  | [], [], F, env, Q, ok, _, h => ⟨[], env, F, h, ok, Same.refl _, .nil⟩
  | r :: rs, v :: vs, F, env, Q, ok, ⟨x, xs⟩, h => by
    unfold frzL at h
    obtain ⟨d, e1, F1, q1, ok1, s1, rp1⟩ := frzR_ok ok x h
    obtain ⟨ds, e2, F2, q2, ok2, s2, rp2⟩ := frzL_ok ok1 (xs.up s1) q1
    exact ⟨_, e2, F2, q2, ok2, s1.trans s2, .cons (rp1.up s2) rp2⟩
  | [], _ :: _, _, _, _, _, x, _ => x.elim
  | _ :: _, [], _, _, _, _, x, _ => x.elim
def seeL (env : Ev) : List Rs → Option (List D)
  | [] => some []
  | r :: rs => match see env r, seeL env rs with
    | some d, some ds => some (d :: ds)
    | _, _ => none
theorem Ok.newL {K : PySem.W.Frag} {B : Bs} {F H : Hp} {σ : L2.St} {env : Ev} {vs : List V} {ds : List D} {p : Addr} (ok : Ok K B F H σ env) (hp : H p = none) (r : RpA K F vs ds) :
    Ok K B F (upd H p (.lst vs)) σ env ∧ Own K B F (upd H p (.lst vs)) false p (.lst ds) ∧ NewAt env σ p := by
  refine ⟨ok.newH _ hp, ⟨⟨_, upd_same, r⟩, ok.freshF hp, fun _ => ok.fresh0 hp, fun z => by cases z⟩, fun j q o' h s => ?_⟩
  obtain ⟨w, e1, ⟨u, hu, _⟩, _⟩ := ok.ob j q o' h
  rw [s] at e1; cases e1
  rw [hp] at hu; cases hu

/-! ### arguments, displays -/
def dNil : TAd := fun env Q => Q [] env
def dCons (ta : TD) (tr : TAd) : TAd := fun env Q => ta env fun r e1 => tr e1 fun rs e2 => Q (r :: rs) e2
theorem ad_nil : PAd X [] dNil := ⟨pa_imp pa_nil fun σ H Q ⟨B, F, env, Q', ok, h, k⟩ => k _ _ [] F H h ok (Same.refl _) trivial⟩
theorem ad_cons {tr : TAd} (ha : PD X e ta) (hr : PAd X es tr) (hs : starEach (e :: es) X.env = (false, eval e X.env) :: starEach es X.env := by rfl) : PAd X (e :: es) (dCons ta tr) := ⟨pa_imp (pa_cons ha.p hr.p hs) fun σ H Q h => by
  obtain ⟨B, F, env, Q', ok, h, k⟩ := h
  refine ⟨B, F, env, _, ok, h, fun r e1 v F1 H1 q1 ok1 s1 x1 => ?_⟩
  exact ⟨B, F1, e1, _, ok1, q1, fun rs e2 vs F2 H2 q2 ok2 s2 x2 => k _ _ _ F2 H2 q2 ok2 (s1.trans s2) ⟨x1.up s2, x2⟩⟩⟩
theorem len_line {n : Nat} (h : n ≤ 100000) : n ≤ sizeLine := Nat.le_trans h (by decide)
def dTup (ta : TAd) : TD := fun env Q => ta env fun rs e1 => frzL e1 rs fun ds e2 => Few ds.length ∧ Q (.dat (.tuple ds)) e2
theorem pd_tup {x1} {t : TAd} (h : PAd X es t) : PD X (.Tuple es x1 pos) (dTup t) := ⟨pe_imp (pe_tup h.p) fun σ H Q h => by
  obtain ⟨B, F, env, Q', ok, h, k⟩ := h
  refine ⟨B, F, env, _, ok, h, fun rs e1 vs F1 H1 q1 ok1 s1 x1 => ?_⟩
  obtain ⟨ds, e2, F2, ⟨hl, q2⟩, ok2, s2, rp⟩ := frzL_ok ok1 x1 q1
  refine ⟨by rw [rp.len]; exact len_line (Nat.le_of_lt hl.h), fun p hp => ?_⟩
  obtain ⟨ok3, s3⟩ := ok2.newF (.tup vs) hp
  exact k _ _ _ _ _ q2 ok3 (s1.trans (s2.trans s3)) (.tup (SqT.of upd_same) (rp.up s3))⟩
def dLst (ta : TAd) : TOd := fun env Q => ta env fun rs e1 => frzL e1 rs fun ds e2 => Few ds.length ∧ Q (.lst ds) e2
theorem od_lst {t : TAd} (h : PAd X es t) : POd X (.List es pos) (dLst t) := ⟨pe_imp (pe_lst h.p) fun σ H Q h => by
  obtain ⟨B, F, env, Q', ok, h, k⟩ := h
  refine ⟨B, F, env, _, ok, h, fun rs e1 vs F1 H1 q1 ok1 s1 x1 => ?_⟩
  obtain ⟨ds, e2, F2, ⟨hl, q2⟩, ok2, s2, rp⟩ := frzL_ok ok1 x1 q1
  refine ⟨by rw [rp.len]; exact len_line (Nat.le_of_lt hl.h), fun p hp => ?_⟩
  obtain ⟨ok3, ow, nw⟩ := ok2.newL hp rp
  exact k _ _ _ _ _ q2 ok3 (s1.trans s2) ow nw⟩
def dFrz (t : TOd) : TD := fun env Q => t env fun o e => match o with
  | .lst xs => Q (.dat (.list xs)) e
  | _ => False
theorem pd_of {t : TOd} (h : POd X e t) : PD X e (dFrz t) := ⟨pe_imp h.p fun σ H Q h => by
  obtain ⟨B, F, env, Q', ok, h, k⟩ := h
  refine ⟨B, F, env, _, ok, h, fun o e1 a F1 H1 q1 ok1 s1 ow nw => ?_⟩
  split at q1
  · obtain ⟨⟨u, hu, ru⟩, hf, h0, _⟩ := ow
    obtain ⟨vs, rfl, hv⟩ := ru.lst_of
    obtain ⟨ok2, s2⟩ := ok1.know hu hf (h0 rfl) nw
    exact k _ _ _ _ _ q1 ok2 (s1.trans s2) (.lst (SqL.of upd_same) (hv.up s2))
  · exact q1.elim⟩
theorem pd_lst {t : TAd} (h : PAd X es t) : PD X (.List es pos) (dFrz (dLst t)) := pd_of (od_lst h)

/-! ### items -/
def fIx : D → D → (D → Prop) → Prop := fun x y Q => match x, y with
  | .list xs, .int i => onD (atI xs i) Q
  | .tuple xs, .int i => onD (atI xs i) Q
  | .str z, .int i => Fit z.length ∧ onD (atI z.cps.toList i) fun c => Q (.str ⟨#[c]⟩)
  | _, _ => False
theorem atI_rp {K : PySem.W.Frag} {F : Hp} {vs : List V} {ds : List D} {i : Int} {d : D} (h : RpA K F vs ds) (e : atI ds i = some d) : ∃ v, atI vs i = some v ∧ Rp K F v d := by
  unfold atI at e ⊢
  rw [h.len]
  cases q : ixN ds.length i with
  | none => rw [q] at e; cases e
  | some j =>
    rw [q] at e
    exact h.get e
theorem os_ix {K : PySem.W.Frag} : OpS K (rIx K) fIx := fun B F H σ env v w r1 r2 x y Q Q' ok a b c d e k => by
  unfold fIx at e
  split at e
  · rename_i xs i
    obtain ⟨p, vs, rfl, h1, h2⟩ := see_list ok a c
    cases see_int ok b d
    obtain ⟨z, hz, q⟩ := onD_of e
    obtain ⟨u, hu, ru⟩ := atI_rp h2 hz
    exact .inl ⟨p, vs, i, u, rfl, rfl, h1, hu, k _ _ F H q ok (Same.refl _) ru⟩
  · rename_i xs i
    obtain ⟨p, vs, rfl, h1, _, h2⟩ := see_tup ok a c
    cases see_int ok b d
    obtain ⟨z, hz, q⟩ := onD_of e
    obtain ⟨u, hu, ru⟩ := atI_rp h2 hz
    exact .inr (.inl ⟨p, vs, i, u, rfl, rfl, h1, hu, k _ _ F H q ok (Same.refl _) ru⟩)
  · rename_i xs i
    cases see_str ok a c
    cases see_int ok b d
    obtain ⟨z, hz, q⟩ := onD_of e.2
    exact .inr (.inr ⟨xs, i, z, rfl, rfl, e.1.h, hz, k _ _ F H q ok (Same.refl _) (.str _)⟩)
  · exact e.elim
theorem pd_ix (ha : PD X a ta) (hb : PD X b tb) (hs : PlainIx b := by exact fun _ _ => rfl) : PD X (.Subscript a b pos) (dBin fIx ta tb) := ⟨pe_imp (pe_ix ix_seq ha.p hb.p hs) (up_bin os_ix)⟩

/-! ### slices -/
abbrev TPd := Ev → (Option Int → Ev → Prop) → Prop
def upP (K : PySem.W.Frag) (t : TPd) : TO := fun σ H Q => ∃ (B : Bs) (F : Hp) (env : Ev) (Q' : Option Int → Ev → Prop), Ok K B F H σ env ∧ t env Q' ∧
  ∀ o env' F' H', Q' o env' → Ok K B F' H' σ env' → Same F F' → Q o H'
structure PPd (X : Cx) (e : Option Expr) (t : TPd) : Prop where
  p : PO X e (upP X.K t)
theorem po_imp {e : Option Expr} {t t' : TO} (h : PO X e t) (i : ∀ σ H Q, t' σ H Q → t σ H Q) : PO X e t' := ⟨fun pins s σ H Q I w => h.run pins s σ H Q I (i _ _ _ w)⟩
def dPartN : TPd := fun env Q => Q none env
def dPart (ta : TD) : TPd := fun env Q => ta env fun r e => onD (see e r) fun x => match x with
  | .int i => Q (some i) e
  | _ => False
theorem pd_none : PPd X none dPartN := ⟨po_imp po_none fun σ H Q ⟨B, F, env, Q', ok, h, k⟩ => k _ _ F H h ok (Same.refl _)⟩
theorem pd_some (ha : PD X a ta) : PPd X (some a) (dPart ta) := ⟨po_imp (po_some ha.p) fun σ H Q h => by
  obtain ⟨B, F, env, Q', ok, h, k⟩ := h
  refine ⟨B, F, env, _, ok, h, fun r e1 v F1 H1 q1 ok1 s1 x1 => ?_⟩
  obtain ⟨x, hx, q1⟩ := onD_of q1
  split at q1
  · cases see_int ok1 x1 hx
    exact ⟨_, rfl, k _ _ F1 H1 q1 ok1 s1⟩
  · exact q1.elim⟩
def cutD {α : Type} (xs : List α) (lo hi : Option Int) : List α := (xs.drop (HT.sIx xs.length 0 lo)).take (HT.sIx xs.length xs.length hi - HT.sIx xs.length 0 lo)
def fSl (x : D) (lo hi : Option Int) (Q : D → Prop) : Prop := match x with
  | .list xs => Q (.list (cutD xs lo hi))
  | .tuple xs => Q (.tuple (cutD xs lo hi))
  | .str z => Fit z.length ∧ Q (.str (cutS z lo hi))
  | _ => False
def dSl (ta : TD) (tl th : TPd) : TD := fun env Q => ta env fun r e1 => tl e1 fun lo e2 => th e2 fun hi e3 => onD (see e3 r) fun x => fSl x lo hi fun z => Q (.dat z) e3
def rSlR (K : PySem.W.Frag) : V → Option Int → Option Int → Hp → VK → Prop := fun x lo hi H Q => rSlL K x lo hi H Q ∨ rSlA K x lo hi H Q ∨ rSlS x lo hi H Q
theorem sl_R : SlR X (rSlR X.K) := SlR.or sl_list (SlR.or sl_tupA sl_str)
theorem cut_rp {K : PySem.W.Frag} {F : Hp} {vs : List V} {ds : List D} (h : RpA K F vs ds) (lo hi : Option Int) : RpA K F (cutV vs lo hi) (cutD ds lo hi) := by
  unfold cutV cutD
  rw [h.len]
  exact (h.drop _).take _
theorem cut_whole {α : Type} {xs : List α} {lo hi : Option Int} (h : HT.sIx xs.length 0 lo = 0 ∧ HT.sIx xs.length xs.length hi = xs.length) : cutD xs lo hi = xs := by
  unfold cutD
  rw [h.1, h.2]
  simp
theorem pd_slice {lo hi : Option Expr} {p2 : Pos} {tl th : TPd} (ha : PD X e ta) (hl : PPd X lo tl) (hu : PPd X hi th) : PD X (.Subscript e (.Slice lo hi none p2) pos) (dSl ta tl th) := ⟨pe_imp (pe_slice sl_R ha.p hl.p hu.p) fun σ H Q h => by
  obtain ⟨B, F, env, Q', ok, h, k⟩ := h
  refine ⟨B, F, env, _, ok, h, fun r e1 v F1 H1 q1 ok1 s1 x1 => ?_⟩
  refine ⟨B, F1, e1, _, ok1, q1, fun lo e2 F2 H2 q2 ok2 s2 => ?_⟩
  refine ⟨B, F2, e2, _, ok2, q2, fun hi e3 F3 H3 q3 ok3 s3 => ?_⟩
  obtain ⟨x, hx, q3⟩ := onD_of q3
  have x3 := x1.up (s2.trans s3)
  have s13 := s1.trans (s2.trans s3)
  unfold fSl at q3
  split at q3
  · rename_i xs
    obtain ⟨p, vs, rfl, h1, h2⟩ := see_list ok3 x3 hx
    refine .inl ⟨p, vs, rfl, h1, fun t ht => ?_⟩
    obtain ⟨ok4, s4⟩ := ok3.newF (.lst (cutV vs lo hi)) ht
    exact k _ _ _ _ _ q3 ok4 (s13.trans s4) (.lst (SqL.of upd_same) ((cut_rp h2 lo hi).up s4))
  · rename_i xs
    obtain ⟨p, vs, rfl, h1, h1F, h2⟩ := see_tup ok3 x3 hx
    refine .inr (.inl ⟨p, vs, rfl, h1, fun z => ?_, fun z t ht => ?_⟩)
    · rw [h2.len] at z
      rw [cut_whole z] at q3
      exact k _ _ _ _ _ q3 ok3 s13 (.tup h1F h2)
    · obtain ⟨ok4, s4⟩ := ok3.newF (.tup (cutV vs lo hi)) ht
      exact k _ _ _ _ _ q3 ok4 (s13.trans s4) (.tup (SqT.of upd_same) ((cut_rp h2 lo hi).up s4))
  · rename_i z
    cases see_str ok3 x3 hx
    exact .inr (.inr ⟨z, rfl, q3.1.h, k _ _ _ _ _ q3.2 ok3 s13 (.str _)⟩)
  · exact q3.elim⟩

/-! ### calls of what is built in -/
def CaS (K : PySem.W.Frag) (r : List V → Hp → VK → Prop) (f : List D → (D → Prop) → Prop) : Prop :=
  ∀ (B : Bs) (F H : Hp) (σ : L2.St) (env : Ev) (vs : List V) (rs : List Rs) (ds : List D) (Q : D → Prop) (Q' : VK), Ok K B F H σ env → RsA K F σ vs rs → seeL env rs = some ds → f ds Q →
    (∀ z u F' H', Q z → Ok K B F' H' σ env → Same F F' → Rp K F' u z → Q' u H') → r vs H Q'
def CaO (K : PySem.W.Frag) (r : List V → Hp → VK → Prop) (f : List D → (Ob → Prop) → Prop) : Prop :=
  ∀ (B : Bs) (F H : Hp) (σ : L2.St) (env : Ev) (vs : List V) (rs : List Rs) (ds : List D) (Q : Ob → Prop) (Q' : VK), Ok K B F H σ env → RsA K F σ vs rs → seeL env rs = some ds → f ds Q →
    (∀ o a F' H', Q o → Ok K B F' H' σ env → Same F F' → Own K B F' H' false a o → NewAt env σ a → Q' (.ref a) H') → r vs H Q'
def dCall (f : List D → (D → Prop) → Prop) (t : TAd) : TD := fun env Q => t env fun rs e1 => onD (seeL e1 rs) fun ds => f ds fun z => Q (.dat z) e1
def dCallO (f : List D → (Ob → Prop) → Prop) (t : TAd) : TOd := fun env Q => t env fun rs e1 => onD (seeL e1 rs) fun ds => f ds fun z => Q z e1
theorem up_call {r : List V → Hp → VK → Prop} {f : List D → (D → Prop) → Prop} {t : TAd} (hs : CaS X.K r f) (σ : L2.St) (H : Hp) (Q : VK) (h : upE X.K (dCall f t) σ H Q) : tCB r (upA X.K t) σ H Q := by
  obtain ⟨B, F, env, Q', ok, h, k⟩ := h
  refine ⟨B, F, env, _, ok, h, fun rs e1 vs F1 H1 q1 ok1 s1 x1 => ?_⟩
  obtain ⟨ds, hd, q1⟩ := onD_of q1
  exact hs B F1 H1 σ e1 vs rs ds _ Q ok1 x1 hd q1 fun z u F2 H2 qz ok2 s2 rz => k _ _ u F2 H2 qz ok2 (s1.trans s2) rz
theorem up_callO {r : List V → Hp → VK → Prop} {f : List D → (Ob → Prop) → Prop} {t : TAd} (hs : CaO X.K r f) (σ : L2.St) (H : Hp) (Q : VK) (h : upO X.K (dCallO f t) σ H Q) : tCB r (upA X.K t) σ H Q := by
  obtain ⟨B, F, env, Q', ok, h, k⟩ := h
  refine ⟨B, F, env, _, ok, h, fun rs e1 vs F1 H1 q1 ok1 s1 x1 => ?_⟩
  obtain ⟨ds, hd, q1⟩ := onD_of q1
  exact hs B F1 H1 σ e1 vs rs ds _ Q ok1 x1 hd q1 fun o a F2 H2 qz ok2 s2 ow nw => k _ _ a F2 H2 qz ok2 (s1.trans s2) ow nw
theorem pd_callB {x : Str} {p : Pos} {id : String} {r : List V → Hp → VK → Prop} {f : List D → (D → Prop) → Prop} {t : TAd} (hc : CallR X (.builtin id) r) (hs : CaS X.K r f) (hg : Gl X x) (hm : X.mg x = none) (hv : bootBuiltins x = some (.builtin id)) (ha : PAd X (e :: es) t)
    (hn : x ≠ "__name__" := by decide) (hdb : (x == ("__debug__" : Str)) = false := by decide) (he : starEach (e :: es) X.env = (false, eval e X.env) :: starEach es X.env := by rfl) (hpl : (backTo pos (starEach es X.env)).any (·.1) = false := by rfl) :
    PD X (.Call (.Name x p) (e :: es) [] pos) (dCall f t) := ⟨pe_imp (pe_callB hc hg hm hv ha.p hn hdb he hpl) (up_call hs)⟩
theorem pd_callTy {x : Str} {p : Pos} {id : String} {r : List V → Hp → VK → Prop} {f : List D → (D → Prop) → Prop} {t : TAd} (hc : CallR X (.type id) r) (hs : CaS X.K r f) (hg : Gl X x) (hm : X.mg x = none) (hv : bootBuiltins x = some (.type id)) (ha : PAd X (e :: es) t)
    (hn : x ≠ "__name__" := by decide) (hdb : (x == ("__debug__" : Str)) = false := by decide) (he : starEach (e :: es) X.env = (false, eval e X.env) :: starEach es X.env := by rfl) (hpl : (backTo pos (starEach es X.env)).any (·.1) = false := by rfl) :
    PD X (.Call (.Name x p) (e :: es) [] pos) (dCall f t) := ⟨pe_imp (pe_callTy hc hg hm hv ha.p hn hdb he hpl) (up_call hs)⟩
theorem od_callB {x : Str} {p : Pos} {id : String} {r : List V → Hp → VK → Prop} {f : List D → (Ob → Prop) → Prop} {t : TAd} (hc : CallR X (.builtin id) r) (hs : CaO X.K r f) (hg : Gl X x) (hm : X.mg x = none) (hv : bootBuiltins x = some (.builtin id)) (ha : PAd X (e :: es) t)
    (hn : x ≠ "__name__" := by decide) (hdb : (x == ("__debug__" : Str)) = false := by decide) (he : starEach (e :: es) X.env = (false, eval e X.env) :: starEach es X.env := by rfl) (hpl : (backTo pos (starEach es X.env)).any (·.1) = false := by rfl) :
    POd X (.Call (.Name x p) (e :: es) [] pos) (dCallO f t) := ⟨pe_imp (pe_callB hc hg hm hv ha.p hn hdb he hpl) (up_callO hs)⟩
theorem od_callTy {x : Str} {p : Pos} {id : String} {r : List V → Hp → VK → Prop} {f : List D → (Ob → Prop) → Prop} {t : TAd} (hc : CallR X (.type id) r) (hs : CaO X.K r f) (hg : Gl X x) (hm : X.mg x = none) (hv : bootBuiltins x = some (.type id)) (ha : PAd X (e :: es) t)
    (hn : x ≠ "__name__" := by decide) (hdb : (x == ("__debug__" : Str)) = false := by decide) (he : starEach (e :: es) X.env = (false, eval e X.env) :: starEach es X.env := by rfl) (hpl : (backTo pos (starEach es X.env)).any (·.1) = false := by rfl) :
    POd X (.Call (.Name x p) (e :: es) [] pos) (dCallO f t) := ⟨pe_imp (pe_callTy hc hg hm hv ha.p hn hdb he hpl) (up_callO hs)⟩
theorem pd_callF {x : Str} {p : Pos} {id : String} {r : List V → Hp → VK → Prop} {f : List D → (D → Prop) → Prop} {t : TAd} (hc : CallR X (.builtin id) r) (hs : CaS X.K r f) (hg : Gl X x) (hm : X.mg x = some (.builtin id)) (ha : PAd X (e :: es) t)
    (hdb : (x == ("__debug__" : Str)) = false := by decide) (he : starEach (e :: es) X.env = (false, eval e X.env) :: starEach es X.env := by rfl) (hpl : (backTo pos (starEach es X.env)).any (·.1) = false := by rfl) :
    PD X (.Call (.Name x p) (e :: es) [] pos) (dCall f t) := ⟨pe_imp (pe_callBfun hc hg hm ha.p hdb he hpl) (up_call hs)⟩
section
variable {K : PySem.W.Frag} {B : Bs} {F H : Hp} {σ : L2.St} {env : Ev}
theorem seeL1 {vs : List V} {rs : List Rs} {x : D} (ok : Ok K B F H σ env) (h : RsA K F σ vs rs) (e : seeL env rs = some [x]) : ∃ v r, vs = [v] ∧ rs = [r] ∧ RsR K F σ v r ∧ see env r = some x := by
  match vs, rs, h with
  | [], [], _ => cases e
  | v :: vs, r :: rs, ⟨h1, h2⟩ =>
    unfold seeL at e
    split at e
    · rename_i d ds e1 e2
      cases e
      match vs, rs, h2 with
      | [], [], _ => exact ⟨v, r, rfl, rfl, h1, e1⟩
      | _ :: _, r2 :: rs, _ =>
        unfold seeL at e2
        split at e2 <;> cases e2
    · cases e
theorem seeL2 {vs : List V} {rs : List Rs} {x y : D} (ok : Ok K B F H σ env) (h : RsA K F σ vs rs) (e : seeL env rs = some [x, y]) : ∃ v w r s, vs = [v, w] ∧ RsR K F σ v r ∧ see env r = some x ∧ RsR K F σ w s ∧ see env s = some y := by
  match vs, rs, h with
  | [], [], _ => cases e
  | v :: vs, r :: rs, ⟨h1, h2⟩ =>
    unfold seeL at e
    split at e
    · rename_i d ds e1 e2
      cases e
      obtain ⟨w, s, rfl, rfl, h3, h4⟩ := seeL1 ok h2 e2
      exact ⟨v, w, r, s, rfl, h1, e1, h3, h4⟩
    · cases e
end
/-! len -/
def fLen : List D → (D → Prop) → Prop := fun ds Q => match ds with
  | [.list xs] => Q (.int (xs.length : Nat))
  | [.tuple xs] => Q (.int (xs.length : Nat))
  | [.str z] => Fit z.length ∧ Q (.int (z.length : Nat))
  | _ => False
def rLenA (K : PySem.W.Frag) : List V → Hp → VK → Prop := fun xs H Q => (∃ p ys, xs = [.ref p] ∧ (SqL K H p ys ∨ SqT K H p ys) ∧ Q (.int ys.length) H) ∨ ∃ z, xs = [.str z] ∧ z.length ≤ sizeLine ∧ Q (.int z.length) H
theorem cr_lenA : CallR X (.builtin "len") (rLenA X.K) := CallR.or call_len_seq call_len_str
theorem ca_len {K : PySem.W.Frag} : CaS K (rLenA K) fLen := fun B F H σ env vs rs ds Q Q' ok x e f k => by
  unfold fLen at f
  split at f
  · obtain ⟨v, r, rfl, rfl, h1, h2⟩ := seeL1 ok x e
    obtain ⟨p, vs, rfl, h3, h4⟩ := see_list ok h1 h2
    exact .inl ⟨p, vs, rfl, .inl h3, k _ _ F H f ok (Same.refl _) (by rw [h4.len]; exact .int _)⟩
  · obtain ⟨v, r, rfl, rfl, h1, h2⟩ := seeL1 ok x e
    obtain ⟨p, vs, rfl, h3, _, h4⟩ := see_tup ok h1 h2
    exact .inl ⟨p, vs, rfl, .inr h3, k _ _ F H f ok (Same.refl _) (by rw [h4.len]; exact .int _)⟩
  · obtain ⟨v, r, rfl, rfl, h1, h2⟩ := seeL1 ok x e
    cases see_str ok h1 h2
    exact .inr ⟨_, rfl, f.1.h, k _ _ F H f.2 ok (Same.refl _) (.int _)⟩
  · exact f.elim
/-! int(i), abs(i), max(i, j), min(i, j), gcd -/
def fInt1 : List D → (D → Prop) → Prop := fun ds Q => match ds with
  | [.int i] => Q (.int i)
  | [.bool b] => Q (.int (if b then 1 else 0))
  | _ => False
theorem ca_int1 {K : PySem.W.Frag} : CaS K (fun xs H Q => (∃ i, xs = [.int i] ∧ Q (.int i) H) ∨ ∃ k, xs = [.bl k] ∧ Q (.int (if k then 1 else 0)) H) fInt1 := fun B F H σ env vs rs ds Q Q' ok x e f k => by
  unfold fInt1 at f
  split at f
  · obtain ⟨v, r, rfl, rfl, h1, h2⟩ := seeL1 ok x e
    cases see_int ok h1 h2
    exact .inl ⟨_, rfl, k _ _ F H f ok (Same.refl _) (.int _)⟩
  · obtain ⟨v, r, rfl, rfl, h1, h2⟩ := seeL1 ok x e
    cases see_bool ok h1 h2
    exact .inr ⟨_, rfl, k _ _ F H f ok (Same.refl _) (.int _)⟩
  · exact f.elim
def fAbs : List D → (D → Prop) → Prop := fun ds Q => match ds with
  | [.int i] => Q (.int (if i < 0 then -i else i))
  | _ => False
theorem ca_abs {K : PySem.W.Frag} : CaS K (fun xs H Q => ∃ i, xs = [.int i] ∧ Q (.int (if i < 0 then -i else i)) H) fAbs := fun B F H σ env vs rs ds Q Q' ok x e f k => by
  unfold fAbs at f
  split at f
  · obtain ⟨v, r, rfl, rfl, h1, h2⟩ := seeL1 ok x e
    cases see_int ok h1 h2
    exact ⟨_, rfl, k _ _ F H f ok (Same.refl _) (.int _)⟩
  · exact f.elim
def fInt2 (g : Int → Int → Int) : List D → (D → Prop) → Prop := fun ds Q => match ds with
  | [.int i, .int j] => Q (.int (g i j))
  | _ => False
theorem ca_int2 {K : PySem.W.Frag} {g : Int → Int → Int} : CaS K (fun xs H Q => ∃ i j, xs = [.int i, .int j] ∧ Q (.int (g i j)) H) (fInt2 g) := fun B F H σ env vs rs ds Q Q' ok x e f k => by
  unfold fInt2 at f
  split at f
  · obtain ⟨v, w, r, s, rfl, h1, h2, h3, h4⟩ := seeL2 ok x e
    cases see_int ok h1 h2
    cases see_int ok h3 h4
    exact ⟨_, _, rfl, k _ _ F H f ok (Same.refl _) (.int _)⟩
  · exact f.elim
def gMax (i j : Int) : Int := if j > i then j else i
def gMin (i j : Int) : Int := if j < i then j else i
def gGcd (i j : Int) : Int := ((Nat.gcd i.natAbs j.natAbs : Nat) : Int)
/-! sum, any, all, max, min of a list -/
def ints? : List D → Option (List Int)
  | [] => some []
  | .int i :: r => match ints? r with
    | some is => some (i :: is)
    | none => none
  | _ => none
theorem ints?_eq : ∀ {ds : List D} {is : List Int}, ints? ds = some is → ds = is.map .int
  | [], _, h => by cases h; rfl
  | .int i :: r, _, h => by
    unfold ints? at h
    split at h
    · rename_i js e
      cases h
      rw [ints?_eq e]; rfl
    · cases h
  | .none :: _, _, h => by cases h
  | .bool _ :: _, _, h => by cases h
  | .str _ :: _, _, h => by cases h
  | .list _ :: _, _, h => by cases h
  | .tuple _ :: _, _, h => by cases h
  | .dict _ :: _, _, h => by cases h
theorem ints?_map (is : List Int) : ints? (is.map .int) = some is := by
  induction is with
  | nil => rfl
  | cons i is ih => show (match ints? (is.map .int) with | some is => some (i :: is) | none => none) = _; rw [ih]
def bools? : List D → Option (List Bool)
  | [] => some []
  | .bool i :: r => match bools? r with
    | some is => some (i :: is)
    | none => none
  | _ => none
theorem bools?_eq : ∀ {ds : List D} {is : List Bool}, bools? ds = some is → ds = is.map .bool
  | [], _, h => by cases h; rfl
  | .bool i :: r, _, h => by
    unfold bools? at h
    split at h
    · rename_i js e
      cases h
      rw [bools?_eq e]; rfl
    · cases h
  | .none :: _, _, h => by cases h
  | .int _ :: _, _, h => by cases h
  | .str _ :: _, _, h => by cases h
  | .list _ :: _, _, h => by cases h
  | .tuple _ :: _, _, h => by cases h
  | .dict _ :: _, _, h => by cases h
theorem bools?_map (is : List Bool) : bools? (is.map .bool) = some is := by
  induction is with
  | nil => rfl
  | cons i is ih => show (match bools? (is.map .bool) with | some is => some (i :: is) | none => none) = _; rw [ih]
def fSum : List D → (D → Prop) → Prop := fun ds Q => match ds with
  | [.list xs] => onD (ints? xs) fun is => Q (.int is.sum)
  | _ => False
theorem ca_sum {K : PySem.W.Frag} : CaS K (rSum K) fSum := fun B F H σ env vs rs ds Q Q' ok x e f k => by
  unfold fSum at f
  split at f
  · obtain ⟨v, r, rfl, rfl, h1, h2⟩ := seeL1 ok x e
    obtain ⟨p, vs, rfl, h3, h4⟩ := see_list ok h1 h2
    obtain ⟨is, hi, q⟩ := onD_of f
    rw [ints?_eq hi] at h4
    rw [h4.of_ints] at h3
    exact ⟨p, is, rfl, h3, k _ _ F H q ok (Same.refl _) (.int _)⟩
  · exact f.elim
def fAny : List D → (D → Prop) → Prop := fun ds Q => match ds with
  | [.list xs] => onD (bools? xs) fun is => Q (.bool (is.any id))
  | _ => False
def fAll : List D → (D → Prop) → Prop := fun ds Q => match ds with
  | [.list xs] => onD (bools? xs) fun is => Q (.bool (is.all id))
  | _ => False
theorem ca_any {K : PySem.W.Frag} : CaS K (rAny K) fAny := fun B F H σ env vs rs ds Q Q' ok x e f k => by
  unfold fAny at f
  split at f
  · obtain ⟨v, r, rfl, rfl, h1, h2⟩ := seeL1 ok x e
    obtain ⟨p, vs, rfl, h3, h4⟩ := see_list ok h1 h2
    obtain ⟨is, hi, q⟩ := onD_of f
    rw [bools?_eq hi] at h4
    rw [h4.of_bools] at h3
    exact ⟨p, is, rfl, h3, k _ _ F H q ok (Same.refl _) (.bl _)⟩
  · exact f.elim
theorem ca_all {K : PySem.W.Frag} : CaS K (rAll K) fAll := fun B F H σ env vs rs ds Q Q' ok x e f k => by
  unfold fAll at f
  split at f
  · obtain ⟨v, r, rfl, rfl, h1, h2⟩ := seeL1 ok x e
    obtain ⟨p, vs, rfl, h3, h4⟩ := see_list ok h1 h2
    obtain ⟨is, hi, q⟩ := onD_of f
    rw [bools?_eq hi] at h4
    rw [h4.of_bools] at h3
    exact ⟨p, is, rfl, h3, k _ _ F H q ok (Same.refl _) (.bl _)⟩
  · exact f.elim
def fMaxL : List D → (D → Prop) → Prop := fun ds Q => match ds with
  | [.list xs] => onD (ints? xs) fun is => 0 < is.length ∧ ∀ m, m ∈ is → (∀ y, y ∈ is → y ≤ m) → Q (.int m)
  | _ => False
def fMinL : List D → (D → Prop) → Prop := fun ds Q => match ds with
  | [.list xs] => onD (ints? xs) fun is => 0 < is.length ∧ ∀ m, m ∈ is → (∀ y, y ∈ is → m ≤ y) → Q (.int m)
  | _ => False
theorem ca_maxL {K : PySem.W.Frag} : CaS K (rMax K) fMaxL := fun B F H σ env vs rs ds Q Q' ok x e f k => by
  unfold fMaxL at f
  split at f
  · obtain ⟨v, r, rfl, rfl, h1, h2⟩ := seeL1 ok x e
    obtain ⟨p, vs, rfl, h3, h4⟩ := see_list ok h1 h2
    obtain ⟨is, hi, q⟩ := onD_of f
    rw [ints?_eq hi] at h4
    rw [h4.of_ints] at h3
    exact ⟨p, is, rfl, h3, q.1, fun m hm hl => k _ _ F H (q.2 m hm hl) ok (Same.refl _) (.int _)⟩
  · exact f.elim
theorem ca_minL {K : PySem.W.Frag} : CaS K (rMin K) fMinL := fun B F H σ env vs rs ds Q Q' ok x e f k => by
  unfold fMinL at f
  split at f
  · obtain ⟨v, r, rfl, rfl, h1, h2⟩ := seeL1 ok x e
    obtain ⟨p, vs, rfl, h3, h4⟩ := see_list ok h1 h2
    obtain ⟨is, hi, q⟩ := onD_of f
    rw [ints?_eq hi] at h4
    rw [h4.of_ints] at h3
    exact ⟨p, is, rfl, h3, q.1, fun m hm hl => k _ _ F H (q.2 m hm hl) ok (Same.refl _) (.int _)⟩
  · exact f.elim
/-! list(xs), tuple(xs) -/
def fListOf : List D → (Ob → Prop) → Prop := fun ds Q => match ds with
  | [.list xs] => Q (.lst xs)
  | [.tuple xs] => Q (.lst xs)
  | _ => False
theorem co_list {K : PySem.W.Frag} : CaO K (fun xs H Q => ∃ p ys, xs = [.ref p] ∧ (SqL K H p ys ∨ SqT K H p ys) ∧ ∀ l, H l = none → Q (.ref l) (upd H l (.lst ys))) fListOf := fun B F H σ env vs rs ds Q Q' ok x e f k => by
  unfold fListOf at f
  split at f
  · obtain ⟨v, r, rfl, rfl, h1, h2⟩ := seeL1 ok x e
    obtain ⟨p, vs, rfl, h3, h4⟩ := see_list ok h1 h2
    refine ⟨p, vs, rfl, .inl h3, fun l hl => ?_⟩
    obtain ⟨ok3, ow, nw⟩ := ok.newL hl h4
    exact k _ _ _ _ f ok3 (Same.refl _) ow nw
  · obtain ⟨v, r, rfl, rfl, h1, h2⟩ := seeL1 ok x e
    obtain ⟨p, vs, rfl, h3, _, h4⟩ := see_tup ok h1 h2
    refine ⟨p, vs, rfl, .inr h3, fun l hl => ?_⟩
    obtain ⟨ok3, ow, nw⟩ := ok.newL hl h4
    exact k _ _ _ _ f ok3 (Same.refl _) ow nw
  · exact f.elim
def fTupOf : List D → (D → Prop) → Prop := fun ds Q => match ds with
  | [.list xs] => Q (.tuple xs)
  | [.tuple xs] => Q (.tuple xs)
  | _ => False
theorem ca_tup {K : PySem.W.Frag} : CaS K (fun xs H Q => ∃ p ys, xs = [.ref p] ∧ ((SqL K H p ys ∧ ∀ l, H l = none → Q (.ref l) (upd H l (.tup ys))) ∨ (SqT K H p ys ∧ Q (.ref p) H))) fTupOf := fun B F H σ env vs rs ds Q Q' ok x e f k => by
  unfold fTupOf at f
  split at f
  · obtain ⟨v, r, rfl, rfl, h1, h2⟩ := seeL1 ok x e
    obtain ⟨p, vs, rfl, h3, h4⟩ := see_list ok h1 h2
    refine ⟨p, vs, rfl, .inl ⟨h3, fun l hl => ?_⟩⟩
    obtain ⟨ok3, s3⟩ := ok.newF (.tup vs) hl
    exact k _ _ _ _ f ok3 s3 (.tup (SqT.of upd_same) (h4.up s3))
  · obtain ⟨v, r, rfl, rfl, h1, h2⟩ := seeL1 ok x e
    obtain ⟨p, vs, rfl, h3, h3F, h4⟩ := see_tup ok h1 h2
    exact ⟨p, vs, rfl, .inr ⟨h3, k _ _ _ _ f ok (Same.refl _) (.tup h3F h4)⟩⟩
  · exact f.elim
end
end DL
end SDLexpr2
section SDLstmt
set_option maxHeartbeats 4000000
/-! Statements over the data layer. -/
namespace DL
open PySem PySem.Spec PyProof.Rows L2

/-- what a def gives back: data, or a new thing -/
inductive Rt where
  | dat (d : D)
  | ob (o : Ob)
structure EndsD where
  nx : Ev → Prop
  rt : Rt → Ev → Prop
  bk : Ev → Prop := fun _ => False
  ct : Ev → Prop := fun _ => False
abbrev TSd := EndsD → Ev → Prop
def RtR (K : PySem.W.Frag) (B : Bs) (F H : Hp) (v : V) : Rt → Prop
  | .dat d => Rp K F v d
  | .ob o => ∃ a, v = .ref a ∧ Own K B F H false a o
structure Lft (K : PySem.W.Frag) (B : Bs) (F : Hp) (D' : EndsD) (De : Ends) : Prop where
  nx : ∀ env σ F' H', D'.nx env → Same F F' → Ok K B F' H' σ env → De.nx σ H'
  rt : ∀ r env v σ F' H', D'.rt r env → Same F F' → Ok K B F' H' σ env → RtR K B F' H' v r → De.rt v H'
  bk : ∀ env σ F' H', D'.bk env → Same F F' → Ok K B F' H' σ env → De.bk σ H'
  ct : ∀ env σ F' H', D'.ct env → Same F F' → Ok K B F' H' σ env → De.ct σ H'
theorem Lft.up {K : PySem.W.Frag} {B : Bs} {F F' : Hp} {D' : EndsD} {De : Ends} (l : Lft K B F D' De) (s : Same F F') : Lft K B F' D' De :=
  ⟨fun e σ F' H' a b => l.nx e σ F' H' a (s.trans b), fun r e v σ F' H' a b => l.rt r e v σ F' H' a (s.trans b), fun e σ F' H' a b => l.bk e σ F' H' a (s.trans b), fun e σ F' H' a b => l.ct e σ F' H' a (s.trans b)⟩
def upS (K : PySem.W.Frag) (t : TSd) : TS := fun De σ H => ∃ (B : Bs) (F : Hp) (env : Ev) (D' : EndsD), Ok K B F H σ env ∧ t D' env ∧ Lft K B F D' De
structure PSd (X : Cx) (st : Stmt) (t : TSd) : Prop where
  p : PS X st (upS X.K t)
structure PBd (X : Cx) (st : List Stmt) (t : TSd) : Prop where
  p : PSs X st (upS X.K t)
theorem ps_imp {X : Cx} {st : Stmt} {t t' : TS} (h : PS X st t) (i : ∀ De σ H, t' De σ H → t De σ H) : PS X st t' := ⟨fun pins s σ H De I w => h.run pins s σ H De I (i _ _ _ w)⟩
theorem pss_imp {X : Cx} {st : List Stmt} {t t' : TS} (h : PSs X st t) (i : ∀ De σ H, t' De σ H → t De σ H) : PSs X st t' := ⟨fun pins s σ H De I w => h.run pins s σ H De I (i _ _ _ w)⟩
section
variable {X : Cx} {st : Stmt} {rest : List Stmt} {e a b c : Expr} {pos : Pos} {ta tb : TD} {t u : TSd}
/-! ### blocks -/
def dNext : TSd := fun De env => De.nx env
def dSeq (t u : TSd) : TSd := fun De env => t { De with nx := u De } env
theorem bd_nil : PBd X [] dNext := ⟨pss_imp pss_nil fun De σ H ⟨B, F, env, D', ok, h, l⟩ => l.nx env σ F H h (Same.refl _) ok⟩
theorem bd_cons (h1 : PSd X st t) (h2 : PBd X rest u) : PBd X (st :: rest) (dSeq t u) := ⟨pss_imp (pss_cons h1.p h2.p) fun De σ H ⟨B, F, env, D', ok, h, l⟩ =>
  ⟨B, F, env, _, ok, h, ⟨fun e σ' F' H' a s ok' => ⟨B, F', e, D', ok', a, l.up s⟩, l.rt, l.bk, l.ct⟩⟩⟩
theorem bd_one (h1 : PSd X st t) : PBd X [st] t := ⟨pss_one h1.p⟩
theorem sd_pass : PSd X (.Pass pos) dNext := ⟨ps_imp ps_pass fun De σ H ⟨B, F, env, D', ok, h, l⟩ => l.nx env σ F H h (Same.refl _) ok⟩
theorem sd_break : PSd X (.Break pos) (fun De env => De.bk env) := ⟨ps_imp ps_break fun De σ H ⟨B, F, env, D', ok, h, l⟩ => l.bk env σ F H h (Same.refl _) ok⟩
theorem sd_cont : PSd X (.Continue pos) (fun De env => De.ct env) := ⟨ps_imp ps_continue fun De σ H ⟨B, F, env, D', ok, h, l⟩ => l.ct env σ F H h (Same.refl _) ok⟩
def dNever : TSd := fun _ _ => False
theorem sd_never : PSd X st dNever := ⟨ps_imp ps_never fun De σ H ⟨B, F, env, D', ok, h, l⟩ => h⟩
def dDrop (ta : TD) : TSd := fun De env => ta env fun _ e => De.nx e
theorem sd_expr (ha : PD X a ta) (hs : swapsWith a none pos.line X.env = pure false := by rfl) : PSd X (.Expr a pos) (dDrop ta) := ⟨ps_imp (ps_expr ha.p hs) fun De σ H ⟨B, F, env, D', ok, h, l⟩ =>
  ⟨B, F, env, _, ok, h, fun r e1 v F1 H1 q1 ok1 s1 x1 => l.nx e1 σ F1 H1 q1 s1 ok1⟩⟩
def dRet (ta : TD) : TSd := fun De env => ta env fun r e => frzR e r fun d e' => De.rt (.dat d) e'
theorem sd_ret (ha : PD X a ta) : PSd X (.Return (some a) pos) (dRet ta) := ⟨ps_imp (ps_ret ha.p) fun De σ H ⟨B, F, env, D', ok, h, l⟩ =>
  ⟨B, F, env, _, ok, h, fun r e1 v F1 H1 q1 ok1 s1 x1 => by
    obtain ⟨d, e2, F2, q2, ok2, s2, rp⟩ := frzR_ok ok1 x1 q1
    exact l.rt _ e2 v σ F2 H1 q2 (s1.trans s2) ok2 rp⟩⟩
def dRetO (ta : TOd) : TSd := fun De env => ta env fun o e => De.rt (.ob o) e
theorem sd_retO {ta : TOd} (ha : POd X a ta) : PSd X (.Return (some a) pos) (dRetO ta) := ⟨ps_imp (ps_ret ha.p) fun De σ H ⟨B, F, env, D', ok, h, l⟩ =>
  ⟨B, F, env, _, ok, h, fun o e1 p F1 H1 q1 ok1 s1 ow nw => l.rt _ e1 _ σ F1 H1 q1 s1 ok1 ⟨p, rfl, ow⟩⟩⟩
/-- return of a name that owns a thing: it is handed on as it is -/
def dRetV (i : Nat) : TSd := fun De env => match env[i]? with
  | some (.ob false o) => De.rt (.ob o) env
  | _ => False
theorem sd_retV (i : Nat) {x : Str} {p : Pos} (hN : X.N[i]? = some x := by rfl) (hv : Vis X.env.scope x := by first | exact Or.inl rfl | exact Or.inr (Or.inl rfl) | exact Or.inr (Or.inr rfl)) (hd : (x == ("__debug__" : Str)) = false := by decide)
    (hcd : (x == ("__classdict__" : Str)) = false := by decide) : PSd X (.Return (some (.Name x p)) pos) (dRetV i) := ⟨ps_imp (ps_ret (pe_var hN hv hd hcd)) fun De σ H ⟨B, F, env, D', ok, h, l⟩ => by
  unfold dRetV at h
  split at h
  · rename_i o he
    obtain ⟨p, hp, ow⟩ := ok.ob i _ o he
    exact ⟨_, hp, l.rt _ env _ σ F H h (Same.refl _) ok ⟨p, rfl, ow⟩⟩
  · exact h.elim⟩
theorem sd_retN : PSd X (.Return none pos) (fun De env => De.rt (.dat .none) env) := ⟨ps_imp ps_retN fun De σ H ⟨B, F, env, D', ok, h, l⟩ => l.rt _ env _ σ F H h (Same.refl _) ok .non⟩
def dIf (c : TTd) (t u : TSd) : TSd := fun De env => c env fun b e => match b with
  | true => t De e
  | false => u De e
theorem sd_if {tc : TTd} {xs ys : List Stmt} (hc : PTd X c tc) (ha : PBd X xs t) (hb : PBd X ys u) : PSd X (.If c xs ys pos) (dIf tc t u) := ⟨ps_imp (ps_if hc.p ha.p hb.p) fun De σ H ⟨B, F, env, D', ok, h, l⟩ =>
  ⟨B, F, env, _, ok, h, fun b e1 F1 H1 q1 ok1 s1 => by
    cases b with
    | true => rw [if_pos rfl]; exact ⟨B, F1, e1, D', ok1, q1, l.up s1⟩
    | false => rw [if_neg (by decide)]; exact ⟨B, F1, e1, D', ok1, q1, l.up s1⟩⟩⟩

/-! ### stores -/
def dAsg (i : Nat) (ta : TD) : TSd := fun De env => ta env fun r e1 => frzR e1 r fun d e2 => De.nx (e2.set i (.dat d))
theorem sd_asg (i : Nat) {x : Str} {pos' : Pos} (hN : X.N.Nodup) (ha : PD X a ta) (hi : X.N[i]? = some x := by rfl) (hx : Loc X.env.scope x := by first | exact Or.inl rfl | exact Or.inr rfl) (hs : swapsWith a (some (.Name x pos')) pos.line X.env = pure false := by rfl)
    (hf : X.fn x = true ∨ X.env.scope.names.lookup x = some .local := by first | exact .inl rfl | exact .inr rfl | assumption) : PSd X (.Assign [.Name x pos'] a pos) (dAsg i ta) := ⟨ps_imp (ps_set hN hi hx ha.p hs hf) fun De σ H ⟨B, F, env, D', ok, h, l⟩ =>
  ⟨B, F, env, _, ok, h, fun r e1 v F1 H1 q1 ok1 s1 x1 => by
    obtain ⟨d, e2, F2, q2, ok2, s2, rp⟩ := frzR_ok ok1 x1 q1
    exact l.nx _ _ F2 H1 q2 (s1.trans s2) (ok2.setDat i rp)⟩⟩
def dAsgO (i : Nat) (ta : TOd) : TSd := fun De env => ta env fun o e1 => De.nx (e1.set i (.ob false o))
theorem sd_asgO (i : Nat) {ta : TOd} {x : Str} {pos' : Pos} (hN : X.N.Nodup) (ha : POd X a ta) (hi : X.N[i]? = some x := by rfl) (hx : Loc X.env.scope x := by first | exact Or.inl rfl | exact Or.inr rfl) (hs : swapsWith a (some (.Name x pos')) pos.line X.env = pure false := by rfl)
    (hf : X.fn x = true ∨ X.env.scope.names.lookup x = some .local := by first | exact .inl rfl | exact .inr rfl | assumption) : PSd X (.Assign [.Name x pos'] a pos) (dAsgO i ta) := ⟨ps_imp (ps_set hN hi hx ha.p hs hf) fun De σ H ⟨B, F, env, D', ok, h, l⟩ =>
  ⟨B, F, env, _, ok, h, fun o e1 p F1 H1 q1 ok1 s1 ow nw => l.nx _ _ F1 H1 q1 s1 (ok1.setOb i ow nw)⟩⟩
/-- a name handed to another one: the thing moves -/
def dMove (i j : Nat) : TSd := fun De env => match env[j]? with
  | some (.ob false o) => De.nx ((env.set j .no).set i (.ob false o))
  | _ => False
theorem sd_move (i j : Nat) {x y : Str} {pos' p : Pos} (hN : X.N.Nodup) (hi : X.N[i]? = some x := by rfl) (hx : Loc X.env.scope x := by first | exact Or.inl rfl | exact Or.inr rfl) (hj : X.N[j]? = some y := by rfl) (hv : Vis X.env.scope y := by first | exact Or.inl rfl | exact Or.inr (Or.inl rfl) | exact Or.inr (Or.inr rfl))
    (hd : (y == ("__debug__" : Str)) = false := by decide) (hcd : (y == ("__classdict__" : Str)) = false := by decide) (hs : swapsWith (.Name y p) (some (.Name x pos')) pos.line X.env = pure false := by rfl)
    (hf : X.fn x = true ∨ X.env.scope.names.lookup x = some .local := by first | exact .inl rfl | exact .inr rfl | assumption) : PSd X (.Assign [.Name x pos'] (.Name y p) pos) (dMove i j) := ⟨ps_imp (ps_set hN hi hx (pe_var hj hv hd hcd) hs hf) fun De σ H ⟨B, F, env, D', ok, h, l⟩ => by
  unfold dMove at h
  split at h
  · rename_i o he
    obtain ⟨q, hq, ow⟩ := ok.ob j _ o he
    refine ⟨_, hq, l.nx _ _ F H h (Same.refl _) ?_⟩
    have z := ok.setNo j (some (.ref q))
    have e : σ.set j (some (.ref q)) = σ := by
      apply List.ext_getElem?
      intro k
      rw [List.getElem?_set]
      split
      · rename_i e
        subst e
        split
        · exact hq.symm
        · rw [List.getElem?_eq_none (by omega)]
      · rfl
    rw [e] at z
    refine z.setOb i ow fun k p' o' hk hs => ?_
    rcases get_set hk with ⟨_, z1, _⟩ | ⟨ne, hk'⟩
    · cases z1
    · exact ne (ok.inj k j _ _ _ _ q hk' he hs hq)
  · exact h.elim⟩
/-! targets: the slots that they may write stand beside -/
abbrev TGd := D → Ev → (Ev → Prop) → Prop
abbrev TGsd := List D → Ev → (Ev → Prop) → Prop
def Beside (σ σ' : L2.St) (vs : List Nat) : Prop := σ'.length = σ.length ∧ ∀ k, k ∉ vs → σ'[k]? = σ[k]?
theorem Beside.refl (σ : L2.St) (vs : List Nat) : Beside σ σ vs := ⟨rfl, fun _ _ => rfl⟩
theorem Beside.set (σ : L2.St) (i : Nat) (v : Option V) : Beside σ (σ.set i v) [i] := ⟨by simp, fun k h => List.getElem?_set_ne (fun e => h (by simp [e]))⟩
theorem Beside.trans {σ σ1 σ2 : L2.St} {vs ws : List Nat} (a : Beside σ σ1 vs) (b : Beside σ1 σ2 ws) : Beside σ σ2 (vs ++ ws) := ⟨b.1.trans a.1, fun k h => by
  rw [List.mem_append] at h
  rw [b.2 k fun z => h (.inr z), a.2 k fun z => h (.inl z)]⟩
def upG (K : PySem.W.Frag) (vs : List Nat) (g : TGd) : TG := fun v σ H Q => ∃ (B : Bs) (F : Hp) (env : Ev) (d : D) (Q' : Ev → Prop), Ok K B F H σ env ∧ Rp K F v d ∧ g d env Q' ∧ ∀ e' σ' F' H', Q' e' → Ok K B F' H' σ' e' → Same F F' → Beside σ σ' vs → Q σ' H'
def upGs (K : PySem.W.Frag) (ws : List Nat) (g : TGsd) : TGs := fun vs σ H Q => ∃ (B : Bs) (F : Hp) (env : Ev) (ds : List D) (Q' : Ev → Prop), Ok K B F H σ env ∧ RpA K F vs ds ∧ g ds env Q' ∧ ∀ e' σ' F' H', Q' e' → Ok K B F' H' σ' e' → Same F F' → Beside σ σ' ws → Q σ' H'
structure PGd (X : Cx) (tg : Expr) (vs : List Nat) (g : TGd) : Prop where
  p : PG X tg (upG X.K vs g)
structure PGsd (X : Cx) (tg : List Expr) (vs : List Nat) (g : TGsd) : Prop where
  p : PGs X tg (upGs X.K vs g)
theorem pg_imp {tg : Expr} {t t' : TG} (h : PG X tg t) (i : ∀ v σ H Q, t' v σ H Q → t v σ H Q) : PG X tg t' := ⟨fun pins s σ H v u Q I r w => h.run pins s σ H v u Q I r (i _ _ _ _ w)⟩
theorem pgs_imp {tg : List Expr} {t t' : TGs} (h : PGs X tg t) (i : ∀ v σ H Q, t' v σ H Q → t v σ H Q) : PGs X tg t' := ⟨fun pins s σ H v u Q I r w => h.run pins s σ H v u Q I r (i _ _ _ _ w)⟩
def gdName (i : Nat) : TGd := fun d env Q => Q (env.set i (.dat d))
theorem gd_name (i : Nat) {x : Str} (hN : X.N.Nodup) (hi : X.N[i]? = some x := by rfl) (hx : Loc X.env.scope x := by first | exact Or.inl rfl | exact Or.inr rfl) (hf : X.fn x = true ∨ X.env.scope.names.lookup x = some .local := by first | exact .inl rfl | exact .inr rfl | assumption) : PGd X (.Name x pos) [i] (gdName i) :=
  ⟨pg_imp (pg_name hN hi hx hf) fun v σ H Q ⟨B, F, env, d, Q', ok, r, h, k⟩ => k _ _ F H h (ok.setDat i r) (Same.refl _) (Beside.set σ i _)⟩
def gdNil : TGsd := fun ds env Q => match ds with
  | [] => Q env
  | _ => False
def gdCons (g : TGd) (u : TGsd) : TGsd := fun ds env Q => match ds with
  | d :: r => g d env fun e => u r e Q
  | [] => False
theorem gsd_nil : PGsd X [] [] gdNil := ⟨pgs_imp pgs_nil fun vs σ H Q ⟨B, F, env, ds, Q', ok, r, h, k⟩ => by
  unfold gdNil at h
  split at h
  · cases r; exact ⟨rfl, k _ _ F H h ok (Same.refl _) (Beside.refl _ _)⟩
  · exact h.elim⟩
theorem gsd_cons {es : List Expr} {g : TGd} {u : TGsd} {vs ws : List Nat} (h1 : PGd X e vs g) (h2 : PGsd X es ws u) (hs : (assignEach (e :: es) X.env).map (·.2) = assign e X.env :: (assignEach es X.env).map (·.2) := by rfl) : PGsd X (e :: es) (vs ++ ws) (gdCons g u) := ⟨pgs_imp (pgs_cons h1.p h2.p hs) fun vs σ H Q ⟨B, F, env, ds, Q', ok, r, h, k⟩ => by
  unfold gdCons at h
  split at h
  · cases r with
    | cons r1 r2 => exact ⟨_, _, rfl, B, F, env, _, _, ok, r1, h, fun e1 σ1 F1 H1 q1 ok1 s1 b1 => ⟨B, F1, e1, _, _, ok1, r2.up s1, q1, fun e2 σ2 F2 H2 q2 ok2 s2 b2 => k _ _ F2 H2 q2 ok2 (s1.trans s2) (b1.trans b2)⟩⟩
  · exact h.elim⟩
def gdTup (n : Nat) (u : TGsd) : TGd := fun d env Q => match d with
  | .tuple xs => xs.length = n ∧ u xs env Q
  | .list xs => xs.length = n ∧ u xs env Q
  | _ => False
theorem pg_or {tg : Expr} {t u : TG} (h1 : PG X tg t) (h2 : PG X tg u) : PG X tg (fun v σ H Q => t v σ H Q ∨ u v σ H Q) := ⟨fun pins s σ H v w Q I r h => by
  rcases h with h | h
  · exact h1.run pins s σ H v w Q I r h
  · exact h2.run pins s σ H v w Q I r h⟩
theorem gd_tup {es : List Expr} {k n : Nat} {u : TGsd} {vs : List Nat} (hc : X.calm = true) (h : PGsd X es vs u) (hn : (assignEach es X.env).length = n := by rfl) (hst : (assignEach es X.env).findIdx? (·.1) = none := by rfl) : PGd X (.Tuple es k pos) vs (gdTup n u) := ⟨pg_imp (pg_or (pg_tup hc h.p hn hst) (pg_lst hc h.p hn hst)) fun v σ H Q ⟨B, F, env, d, Q', ok, r, h, k⟩ => by
  unfold gdTup at h
  split at h
  · rename_i xs
    cases r with
    | tup h1 h2 => exact .inl ⟨_, _, rfl, same_t ok.fh h1, by rw [h2.len]; exact h.1, B, F, env, _, _, ok, h2, h.2, k⟩
  · rename_i xs
    cases r with
    | lst h1 h2 => exact .inr ⟨_, _, rfl, same_l ok.fh h1, by rw [h2.len]; exact h.1, B, F, env, _, _, ok, h2, h.2, k⟩
  · exact h.elim⟩
/-- xs[i] = e of a list that a slot owns -/
def gdSub (ta tb : TD) : TGd := fun d env Q => ta env fun r e1 => tb e1 fun s e2 => match r with
  | .sl j => match e2[j]? with
    | some (.ob p (.lst xs)) => onD (see e2 s) fun y => match y with
      | .int i => onD (ixN xs.length i) fun m => Q (e2.set j (.ob p (.lst (xs.set m d))))
      | _ => False
    | _ => False
  | _ => False
theorem gd_sub (ha : PD X a ta) (hb : PD X b tb) (hs : ∀ v, assign (.Subscript a b pos) X.env v = (do
      let ov ← holding [v] (eval a X.env)
      let iv ← holding [v, ov] (eval b X.env)
      standAt pos
      holding [v, ov, iv] (setItem ov iv v)
      release [v, ov, iv] []) := by intro _; rfl) : PGd X (.Subscript a b pos) [] (gdSub ta tb) := ⟨pg_imp (pg_sub ha.p hb.p set_list hs) fun v σ H Q ⟨B, F, env, d, Q', ok, r, h, k⟩ => by
  refine ⟨B, F, env, _, ok, h, fun r1 e1 v1 F1 H1 q1 ok1 s1 x1 => ?_⟩
  refine ⟨B, F1, e1, _, ok1, q1, fun r2 e2 v2 F2 H2 q2 ok2 s2 x2 => ?_⟩
  split at q2
  · rename_i j
    split at q2
    · rename_i p xs he
      obtain ⟨y, hy, q2⟩ := onD_of q2
      split at q2
      · rename_i i
        obtain ⟨m, hm, q2⟩ := onD_of q2
        cases see_int ok2 x2 hy
        obtain ⟨w, hw, ⟨u, hu, ru⟩, _⟩ := ok2.ob j p _ he
        have x1' : σ[j]? = some (some v1) := x1
        rw [x1'] at hw; cases hw
        obtain ⟨vs, rfl, hv⟩ := ru.lst_of
        refine ⟨_, vs, i, m, rfl, rfl, hu, by rw [hv.len]; exact hm, ?_⟩
        exact k _ _ _ _ q2 (ok2.change he x1' (hv.set m (r.up (s1.trans s2)))) (s1.trans s2) (Beside.refl _ _)
      · exact q2.elim
    · exact q2.elim
  · exact q2.elim⟩
def dAsgG (ta : TD) (g : TGd) : TSd := fun De env => ta env fun r e1 => frzR e1 r fun d e2 => g d e2 De.nx
theorem sd_asgG {tg : Expr} {g : TGd} {vs : List Nat} (ha : PD X a ta) (hg : PGd X tg vs g) (hs : swapsWithSole [tg] a pos.line X.env = pure false := by rfl) (hw : swappedStores [tg] a X.env = pure none := by rfl) (h1 : (assignEach [tg] X.env).map (·.2) = [assign tg X.env] := by rfl) :
    PSd X (.Assign [tg] a pos) (dAsgG ta g) := ⟨ps_imp (ps_asg ha.p hg.p hs hw h1) fun De σ H ⟨B, F, env, D', ok, h, l⟩ =>
  ⟨B, F, env, _, ok, h, fun r e1 v F1 H1 q1 ok1 s1 x1 => by
    obtain ⟨d, e2, F2, q2, ok2, s2, rp⟩ := frzR_ok ok1 x1 q1
    exact ⟨B, F2, e2, d, _, ok2, rp, q2, fun e3 σ3 F3 H3 q3 ok3 s3 _ => l.nx _ _ F3 H3 q3 (s1.trans (s2.trans s3)) ok3⟩⟩⟩
/-! a, b = x, y -/
def dPar (i j : Nat) (ta : TAd) : TSd := fun De env => ta env fun rs e1 => frzL e1 rs fun ds e2 => match ds with
  | [d, d'] => De.nx ((e2.set i (.dat d)).set j (.dat d'))
  | _ => False
theorem sd_par (i j : Nat) {x y : Str} {t : TAd} {px py pt : Pos} {kt k2 : Nat} {pt2 : Pos} (hc : X.calm = true) (hN : X.N.Nodup) (ha : PAd X [a, b] t) (hi : X.N[i]? = some x := by rfl) (hj : X.N[j]? = some y := by rfl) (hij : i ≠ j := by decide)
    (hx : X.env.scope.names.lookup x = some .local := by rfl) (hy : X.env.scope.names.lookup y = some .local := by rfl)
    (hw : swappedStores [.Tuple [.Name x px, .Name y py] kt pt] (.Tuple [a, b] k2 pt2) X.env = pure (some [x, y]) := by rfl)
    (hs : swapsWithSole [.Tuple [.Name x px, .Name y py] kt pt] (.Tuple [a, b] k2 pt2) pos.line X.env = pure false := by rfl) :
    PSd X (.Assign [.Tuple [.Name x px, .Name y py] kt pt] (.Tuple [a, b] k2 pt2) pos) (dPar i j t) := ⟨ps_imp (ps_par hc hN hi hj hij hx hy ha.p hw hs) fun De σ H ⟨B, F, env, D', ok, h, l⟩ =>
  ⟨B, F, env, _, ok, h, fun rs e1 vs F1 H1 q1 ok1 s1 x1 => by
    obtain ⟨ds, e2, F2, q2, ok2, s2, rp⟩ := frzL_ok ok1 x1 q1
    split at q2
    · cases rp with
      | cons r1 r2 =>
        cases r2 with
        | cons r2 r3 =>
          cases r3
          exact ⟨_, _, rfl, l.nx _ _ F2 H1 q2 (s1.trans s2) ((ok2.setDat i r1).setDat j r2)⟩
    · exact q2.elim⟩⟩
/-! a thing that nobody owns yet is kept while something else is reckoned -/
def Bs.with (B : Bs) (a : Addr) (H : Hp) (h : H a ≠ none) : Bs where
  H0 := fun b => if b = a then H a else B.H0 b
  F0 := B.F0
  W := B.W
  wo := fun b hb => by
    split
    · exact h
    · exact B.wo b hb
theorem Ok.rebase {K : PySem.W.Frag} {B : Bs} {F H : Hp} {σ : L2.St} {env : Ev} {p : Addr} {o : Ob} (ok : Ok K B F H σ env) (ow : Own K B F H false p o) (nw : NewAt env σ p) : Ok K (B.with p H (ne_none ow.1.choose_spec.1)) F H σ env where
  out := fun b ob h w => by
    by_cases e : b = p
    · subst e; simpa [Bs.with] using h
    · exact ok.out b ob (by simpa [Bs.with, e] using h) w
  al := fun b h => by
    by_cases e : b = p
    · subst e; simpa [Bs.with] using h
    · exact ok.al b (by simpa [Bs.with, e] using h)
  f0 := ok.f0
  fh := ok.fh
  old := fun b h => by
    by_cases e : b = p
    · subst e
      show F b = B.F0 b
      rw [ow.2.1]
      cases q : B.F0 b with
      | none => rfl
      | some o => have := ok.f0 b o q; rw [ow.2.1] at this; cases this
    · exact ok.old b (by simpa [Bs.with, e] using h)
  len := ok.len
  dat := ok.dat
  ob := fun i q o' h => by
    obtain ⟨b, h1, h2, h3, h4, h5⟩ := ok.ob i q o' h
    have ne : b ≠ p := fun z => nw i q o' h (by rw [h1, z])
    exact ⟨b, h1, h2, h3, fun z => by simpa [Bs.with, ne] using h4 z, h5⟩
  inj := ok.inj
theorem Ok.unbase {K : PySem.W.Frag} {B : Bs} {F F' H H' : Hp} {σ : L2.St} {env : Ev} {p : Addr} {o : Ob} {hne : H p ≠ none} (ok : Ok K (B.with p H hne) F' H' σ env) (s : Same F F') (ow : Own K B F H false p o) (f0 : B.F0 p = none) :
    Ok K B F' H' σ env ∧ Own K B F' H' false p o ∧ NewAt env σ p := by
  obtain ⟨⟨u, hu, ru⟩, hf, h0, _⟩ := ow
  have h0' := h0 rfl
  have hw : p ∉ B.W := fun z => B.wo p z h0'
  have hp : H' p = some u := ok.out p u (by simpa [Bs.with] using hu) hw
  have hF : F' p = none := by
    rw [ok.old p (by simp [Bs.with, hu])]
    exact f0
  refine ⟨⟨fun b ob h w => ok.out b ob ?_ w, fun b h => ok.al b ?_, ok.f0, ok.fh, fun b h => ok.old b ?_, ok.len, ok.dat, fun i q o' h => ?_, ok.inj⟩, ⟨⟨u, hp, ru.up s⟩, hF, h0, fun z => by cases z⟩, fun j q o' h e => ?_⟩
  · have : b ≠ p := fun z => by rw [z, h0'] at h; cases h
    simpa [Bs.with, this] using h
  · have : b ≠ p := fun z => h (by rw [z]; exact h0')
    simpa [Bs.with, this] using h
  · have : b ≠ p := fun z => h (by rw [z]; exact h0')
    simpa [Bs.with, this] using h
  · obtain ⟨b, h1, h2, h3, h4, h5⟩ := ok.ob i q o' h
    refine ⟨b, h1, h2, h3, fun z => ?_, h5⟩
    by_cases e : b = p
    · rw [e]; exact h0'
    · simpa [Bs.with, e] using h4 z
  · obtain ⟨b, h1, _, _, h4, h5⟩ := ok.ob j q o' h
    rw [e] at h1; cases h1
    cases q with
    | true => exact hw (h5 rfl)
    | false =>
      have := h4 rfl
      simp [Bs.with, hu] at this
theorem Ok.f0none {K : PySem.W.Frag} {B : Bs} {F H : Hp} {σ : L2.St} {env : Ev} {p : Addr} (ok : Ok K B F H σ env) (hf : F p = none) : B.F0 p = none := by
  cases q : B.F0 p with
  | none => rfl
  | some o => have := ok.f0 p o q; rw [hf] at this; cases this
/-- both new things; W holds old things alone -/
def dParO (i j : Nat) (ta tb : TOd) : TSd := fun De env => ta env fun o e1 => tb e1 fun o' e2 => De.nx ((e2.set i (.ob false o)).set j (.ob false o'))
def dParOD (i j : Nat) (ta : TOd) (tb : TD) : TSd := fun De env => ta env fun o e1 => tb e1 fun r e2 => frzR e2 r fun d e3 => De.nx ((e3.set i (.ob false o)).set j (.dat d))
def dParDO (i j : Nat) (ta : TD) (tb : TOd) : TSd := fun De env => ta env fun r e1 => frzR e1 r fun d e2 => tb e2 fun o e3 => De.nx ((e3.set i (.dat d)).set j (.ob false o))
theorem sd_parO (i j : Nat) {x y : Str} {ta tb : TOd} {px py pt : Pos} {kt k2 : Nat} {pt2 : Pos} (hc : X.calm = true) (hN : X.N.Nodup) (ha : POd X a ta) (hb : POd X b tb) (hi : X.N[i]? = some x := by rfl) (hj : X.N[j]? = some y := by rfl) (hij : i ≠ j := by decide)
    (hx : X.env.scope.names.lookup x = some .local := by rfl) (hy : X.env.scope.names.lookup y = some .local := by rfl)
    (hw : swappedStores [.Tuple [.Name x px, .Name y py] kt pt] (.Tuple [a, b] k2 pt2) X.env = pure (some [x, y]) := by rfl)
    (hs : swapsWithSole [.Tuple [.Name x px, .Name y py] kt pt] (.Tuple [a, b] k2 pt2) pos.line X.env = pure false := by rfl)
    (hs1 : starEach [a, b] X.env = (false, eval a X.env) :: starEach [b] X.env := by rfl) (hs2 : starEach [b] X.env = (false, eval b X.env) :: starEach [] X.env := by rfl) :
    PSd X (.Assign [.Tuple [.Name x px, .Name y py] kt pt] (.Tuple [a, b] k2 pt2) pos) (dParO i j ta tb) := ⟨ps_imp (ps_par hc hN hi hj hij hx hy (pa_cons ha.p (pa_cons hb.p pa_nil hs2) hs1) hw hs) fun De σ H ⟨B, F, env, D', ok, h, l⟩ =>
  ⟨B, F, env, _, ok, h, fun o e1 p F1 H1 q1 ok1 s1 ow nw => by
    refine ⟨_, F1, e1, _, ok1.rebase ow nw, q1, fun o' e2 p' F2 H2 q2 ok2 s2 ow2 nw2 => ?_⟩
    obtain ⟨ok3, ow3, nw3⟩ := ok2.unbase s2 ow (ok1.f0none ow.2.1)
    have ne : p' ≠ p := fun z => by
      have := ow2.2.2.1 rfl
      obtain ⟨⟨u, hu, _⟩, _⟩ := ow
      rw [z] at this
      simp [Bs.with, hu] at this
    have ow4 : Own X.K B F2 H2 false p' o' := ⟨ow2.1, ow2.2.1, fun _ => by have := ow2.2.2.1 rfl; simpa [Bs.with, ne] using this, fun z => by cases z⟩
    refine ⟨_, _, rfl, l.nx _ _ F2 H2 q2 (s1.trans s2) ((ok3.setOb i ow3 nw3).setOb j ow4 fun k q ob hk hsk => ?_)⟩
    rcases get_set hk with ⟨rfl, z1, _⟩ | ⟨ne2, hk'⟩
    · have lt : k < σ.length := by rw [← ok3.len]; assumption
      rw [List.getElem?_set_self lt] at hsk
      cases hsk
      exact ne rfl
    · rw [List.getElem?_set_ne (Ne.symm ne2)] at hsk
      exact nw2 k q ob hk' hsk⟩⟩
theorem sd_parOD (i j : Nat) {x y : Str} {ta : TOd} {tb : TD} {px py pt : Pos} {kt k2 : Nat} {pt2 : Pos} (hc : X.calm = true) (hN : X.N.Nodup) (ha : POd X a ta) (hb : PD X b tb) (hi : X.N[i]? = some x := by rfl) (hj : X.N[j]? = some y := by rfl) (hij : i ≠ j := by decide)
    (hx : X.env.scope.names.lookup x = some .local := by rfl) (hy : X.env.scope.names.lookup y = some .local := by rfl)
    (hw : swappedStores [.Tuple [.Name x px, .Name y py] kt pt] (.Tuple [a, b] k2 pt2) X.env = pure (some [x, y]) := by rfl)
    (hs : swapsWithSole [.Tuple [.Name x px, .Name y py] kt pt] (.Tuple [a, b] k2 pt2) pos.line X.env = pure false := by rfl)
    (hs1 : starEach [a, b] X.env = (false, eval a X.env) :: starEach [b] X.env := by rfl) (hs2 : starEach [b] X.env = (false, eval b X.env) :: starEach [] X.env := by rfl) :
    PSd X (.Assign [.Tuple [.Name x px, .Name y py] kt pt] (.Tuple [a, b] k2 pt2) pos) (dParOD i j ta tb) := ⟨ps_imp (ps_par hc hN hi hj hij hx hy (pa_cons ha.p (pa_cons hb.p pa_nil hs2) hs1) hw hs) fun De σ H ⟨B, F, env, D', ok, h, l⟩ =>
  ⟨B, F, env, _, ok, h, fun o e1 p F1 H1 q1 ok1 s1 ow nw => by
    refine ⟨_, F1, e1, _, ok1.rebase ow nw, q1, fun r e2 v F2 H2 q2 ok2 s2 x2 => ?_⟩
    obtain ⟨d, e3, F3, q3, ok3, s3, rp⟩ := frzR_ok ok2 x2 q2
    obtain ⟨ok4, ow4, nw4⟩ := ok3.unbase (s2.trans s3) ow (ok1.f0none ow.2.1)
    exact ⟨_, _, rfl, l.nx _ _ F3 H2 q3 (s1.trans (s2.trans s3)) ((ok4.setOb i ow4 nw4).setDat j rp)⟩⟩⟩
theorem sd_parDO (i j : Nat) {x y : Str} {ta : TD} {tb : TOd} {px py pt : Pos} {kt k2 : Nat} {pt2 : Pos} (hc : X.calm = true) (hN : X.N.Nodup) (ha : PD X a ta) (hb : POd X b tb) (hi : X.N[i]? = some x := by rfl) (hj : X.N[j]? = some y := by rfl) (hij : i ≠ j := by decide)
    (hx : X.env.scope.names.lookup x = some .local := by rfl) (hy : X.env.scope.names.lookup y = some .local := by rfl)
    (hw : swappedStores [.Tuple [.Name x px, .Name y py] kt pt] (.Tuple [a, b] k2 pt2) X.env = pure (some [x, y]) := by rfl)
    (hs : swapsWithSole [.Tuple [.Name x px, .Name y py] kt pt] (.Tuple [a, b] k2 pt2) pos.line X.env = pure false := by rfl)
    (hs1 : starEach [a, b] X.env = (false, eval a X.env) :: starEach [b] X.env := by rfl) (hs2 : starEach [b] X.env = (false, eval b X.env) :: starEach [] X.env := by rfl) :
    PSd X (.Assign [.Tuple [.Name x px, .Name y py] kt pt] (.Tuple [a, b] k2 pt2) pos) (dParDO i j ta tb) := ⟨ps_imp (ps_par hc hN hi hj hij hx hy (pa_cons ha.p (pa_cons hb.p pa_nil hs2) hs1) hw hs) fun De σ H ⟨B, F, env, D', ok, h, l⟩ =>
  ⟨B, F, env, _, ok, h, fun r e1 v F1 H1 q1 ok1 s1 x1 => by
    obtain ⟨d, e2, F2, q2, ok2, s2, rp⟩ := frzR_ok ok1 x1 q1
    refine ⟨B, F2, e2, _, ok2, q2, fun o e3 p F3 H3 q3 ok3 s3 ow nw => ?_⟩
    refine ⟨_, _, rfl, l.nx _ _ F3 H3 q3 (s1.trans (s2.trans s3)) ((ok3.setDat i (rp.up s3)).setOb j ow fun k q ob hk hsk => ?_)⟩
    rcases get_set hk with ⟨rfl, z1, _⟩ | ⟨ne2, hk'⟩
    · cases z1
    · rw [List.getElem?_set_ne (Ne.symm ne2)] at hsk
      exact nw k q ob hk' hsk⟩⟩
end
end DL
end SDLstmt
section SDLloop
set_option maxHeartbeats 4000000
/-! Loops and comprehensions over the data layer. -/
namespace DL
open PySem PySem.Spec PyProof.Rows L2

/-! ### what is walked -/
def Wks (K : PySem.W.Frag) (F1 : Hp) (J : It) (ds : List D) : Prop := ∃ (G : Hp → Prop) (Y : Nat → Hp → V → Hp → Prop), Walk J ds.length G Y ∧
  (∀ B F H σ env, Same F1 F → Ok K B F H σ env → G H) ∧
  ∀ i x B F H H' σ env d, Same F1 F → Ok K B F H σ env → Y i H x H' → ds[i]? = some d → ∃ F', Ok K B F' H' σ env ∧ Same F F' ∧ Rp K F' x d
abbrev TId := Ev → (List D → Ev → Prop) → Prop
def upI (K : PySem.W.Frag) (it : TId) : TI := fun σ H R => ∃ (B : Bs) (F : Hp) (env : Ev) (Q' : List D → Ev → Prop), Ok K B F H σ env ∧ it env Q' ∧
  ∀ ds env' F' H' J, Q' ds env' → Ok K B F' H' σ env' → Same F F' → Wks K F' J ds → R J H'
structure PId (X : Cx) (tg iter : Expr) (it : TId) : Prop where
  p : PI X tg iter (upI X.K it)
theorem pi_imp {X : Cx} {tg iter : Expr} {t t' : TI} (h : PI X tg iter t) (i : ∀ σ H R, t' σ H R → t σ H R) : PI X tg iter t' := ⟨fun pins s σ H R I w => h.run pins s σ H R I (i _ _ _ w)⟩
section
variable {X : Cx} {tg e a b c : Expr} {pos : Pos} {ta tb : TD} {t u : TSd}
theorem wks_list {K : PySem.W.Frag} {F1 : Hp} {p : Addr} {vs : List V} {ds : List D} (h : SqL K F1 p vs) (r : RpA K F1 vs ds) : Wks K F1 (Itl K p) ds :=
  ⟨fun H => SqL K H p vs, YAt vs, by rw [← r.len]; exact walk_list, fun B F H σ env s ok => same_l ok.fh (same_l s h), fun i x B F H H' σ env d s ok ⟨e, hx⟩ hd => by
    subst e
    obtain ⟨d', h1, h2⟩ := r.at hx
    rw [hd] at h1; cases h1
    exact ⟨F, ok, Same.refl _, h2.up s⟩⟩
theorem wks_tup {K : PySem.W.Frag} {F1 : Hp} {p : Addr} {vs : List V} {ds : List D} (h : SqT K F1 p vs) (r : RpA K F1 vs ds) : Wks K F1 (Itt K p) ds :=
  ⟨fun H => SqT K H p vs, YAt vs, by rw [← r.len]; exact walk_tup, fun B F H σ env s ok => same_t ok.fh (same_t s h), fun i x B F H H' σ env d s ok ⟨e, hx⟩ hd => by
    subst e
    obtain ⟨d', h1, h2⟩ := r.at hx
    rw [hd] at h1; cases h1
    exact ⟨F, ok, Same.refl _, h2.up s⟩⟩
def seqD (d : D) (k : List D → Prop) : Prop := match d with
  | .list xs => k xs
  | .tuple xs => k xs
  | _ => False
/-- a list or a tuple, by what it is -/
def iSeqV (K : PySem.W.Frag) (tl : TE) : TI := fun σ H R => tl σ H fun x H1 => (∃ p, x = .ref p ∧ (∃ xs, SqL K H1 p xs) ∧ R (Itl K p) H1) ∨ ∃ p, x = .ref p ∧ (∃ xs, SqT K H1 p xs) ∧ R (Itt K p) H1
theorem pi_seqV {l : Expr} {tl : TE} (hl : PE X l tl) : PI X tg l (iSeqV X.K tl) := by
  constructor
  intro pins s σ H R I h
  refine thn (hl.run pins s σ H _ I h) fun v s1 ⟨x, H1, I1, r1, q1⟩ => ?_
  have new : ∀ b ∈ [s1.heap.objs.size], FpOk X pins H1 b := fun b hb => by
    cases List.mem_singleton.mp hb
    exact I1.fpOk (Nat.le_refl _) (I1.hok.fresh (Nat.le_refl _))
  rcases q1 with ⟨p, rfl, ⟨xs, hq⟩, q⟩ | ⟨p, rfl, ⟨xs, hq⟩, q⟩
  · cases r1
    obtain ⟨its, rv, pl, hz⟩ := I1.list hq
    exact wpAny_pyIter_list pl.isList ⟨_, _, _, _, H1, rfl, I1.kept (t' := s1.toks) fun b o e => Heap.get?_push_of_some _ e, turn_list p _, ⟨_, Heap.get?_push_size _ rfl, rfl, rfl⟩, new, q⟩
  · cases r1
    obtain ⟨its, rv, pl, hz⟩ := I1.tuple hq
    exact wpAny_pyIter_tuple (show s1.heap.IsTuple p its.toArray from pl) ⟨_, _, _, _, H1, rfl, I1.kept (t' := s1.toks) fun b o e => Heap.get?_push_of_some _ e, turn_tuple p _, ⟨_, Heap.get?_push_size _ rfl, rfl, rfl⟩, new, q⟩
def idSeq (ta : TD) : TId := fun env Q => ta env fun r e1 => frzR e1 r fun d e2 => seqD d fun xs => Q xs e2
theorem id_seq (ha : PD X a ta) : PId X tg a (idSeq ta) := ⟨pi_imp (pi_seqV ha.p) fun σ H R ⟨B, F, env, Q', ok, h, k⟩ =>
  ⟨B, F, env, _, ok, h, fun r e1 v F1 H1 q1 ok1 s1 x1 => by
    obtain ⟨d, e2, F2, q2, ok2, s2, rp⟩ := frzR_ok ok1 x1 q1
    unfold seqD at q2
    split at q2
    · cases rp with
      | lst h1 h2 => exact .inl ⟨_, rfl, ⟨_, same_l ok2.fh h1⟩, k _ _ F2 H1 _ q2 ok2 (s1.trans s2) (wks_list h1 h2)⟩
    · cases rp with
      | tup h1 h2 => exact .inr ⟨_, rfl, ⟨_, same_t ok2.fh h1⟩, k _ _ F2 H1 _ q2 ok2 (s1.trans s2) (wks_tup h1 h2)⟩
    · exact q2.elim⟩⟩
/-! ranges -/
def rngD (lo : Int) (n : Nat) : List D := (List.range n).map fun i => PyData.int (lo + (i : Nat))
theorem rngD_get {lo : Int} {n i : Nat} {d : D} (h : (rngD lo n)[i]? = some d) : d = .int (lo + (i : Nat)) ∧ i < n := by
  unfold rngD at h
  rw [List.getElem?_map] at h
  cases q : (List.range n)[i]? with
  | none => rw [q] at h; cases h
  | some j =>
    rw [q] at h
    obtain ⟨lt, e⟩ := List.getElem?_eq_some_iff.mp q
    simp at e lt
    cases h
    exact ⟨by rw [← e], lt⟩
theorem wks_rng {K : PySem.W.Frag} {F1 : Hp} {lo : Int} {n : Nat} : Wks K F1 (Itr lo n) (rngD lo n) :=
  ⟨fun _ => True, YFn fun i => .int (lo + (i : Nat)), by simpa [rngD] using walk_range, fun _ _ _ _ _ _ _ => trivial, fun i x B F H H' σ env d s ok ⟨e, hx⟩ hd => by
    subst e hx
    obtain ⟨rfl, _⟩ := rngD_get hd
    exact ⟨F, ok, Same.refl _, .int _⟩⟩
structure inRg (i : Int) : Prop where
  h1 : -(2 ^ 62) ≤ i
  h2 : i < 2 ^ 62
def idRng1 (ta : TAd) : TId := fun env Q => ta env fun rs e1 => onD (seeL e1 rs) fun ds => match ds with
  | [.int j] => inRg j ∧ Q (rngD 0 j.toNat) e1
  | _ => False
def idRng2 (ta : TAd) : TId := fun env Q => ta env fun rs e1 => onD (seeL e1 rs) fun ds => match ds with
  | [.int i, .int j] => (inRg i ∧ inRg j) ∧ Q (rngD i (j - i).toNat) e1
  | _ => False
theorem id_rng1 {p : Pos} {ta : TAd} (hg : Gl X "range") (hm : X.mg "range" = none) (ha : PAd X [a] ta) (hs : starEach [a] X.env = [(false, eval a X.env)] := by rfl) : PId X tg (.Call (.Name "range" p) [a] [] pos) (idRng1 ta) := ⟨pi_imp (pi_range1 hg hm ha.p hs) fun σ H R ⟨B, F, env, Q', ok, h, k⟩ =>
  ⟨B, F, env, _, ok, h, fun rs e1 vs F1 H1 q1 ok1 s1 x1 => by
    obtain ⟨ds, hd, q2⟩ := onD_of q1
    split at q2
    · obtain ⟨v, r, rfl, rfl, h1, h2⟩ := seeL1 ok1 x1 hd
      cases see_int ok1 h1 h2
      exact ⟨_, rfl, q2.1.h1, q2.1.h2, k _ _ F1 H1 _ q2.2 ok1 s1 wks_rng⟩
    · exact q2.elim⟩⟩
theorem id_rng2 {p : Pos} {ta : TAd} (hg : Gl X "range") (hm : X.mg "range" = none) (ha : PAd X [a, b] ta) (hs : starEach [a, b] X.env = [(false, eval a X.env), (false, eval b X.env)] := by rfl) (hs2 : starEach [b] X.env = [(false, eval b X.env)] := by rfl) :
    PId X tg (.Call (.Name "range" p) [a, b] [] pos) (idRng2 ta) := ⟨pi_imp (pi_range2 hg hm ha.p hs hs2) fun σ H R ⟨B, F, env, Q', ok, h, k⟩ =>
  ⟨B, F, env, _, ok, h, fun rs e1 vs F1 H1 q1 ok1 s1 x1 => by
    obtain ⟨ds, hd, q2⟩ := onD_of q1
    split at q2
    · obtain ⟨v, w, r, s, rfl, h1, h2, h3, h4⟩ := seeL2 ok1 x1 hd
      cases see_int ok1 h1 h2
      cases see_int ok1 h3 h4
      exact ⟨_, _, rfl, ⟨q2.1.1.h1, q2.1.1.h2, q2.1.2.h1, q2.1.2.h2⟩, k _ _ F1 H1 _ q2.2 ok1 s1 wks_rng⟩
    · exact q2.elim⟩⟩

/-! ### for -/
def forD (g : TGd) (body : TSd) (De : EndsD) : List D → Ev → Prop
  | [], env => De.nx env
  | d :: ds, env => g d env fun e => body { De with nx := forD g body De ds, ct := forD g body De ds, bk := De.nx } e
def dFor (it : TId) (g : TGd) (body : TSd) : TSd := fun De env => it env fun ds e1 => forD g body De ds e1
theorem drop_get {α : Type} {l : List α} {i : Nat} {x : α} (h : l[i]? = some x) : l.drop i = x :: l.drop (i + 1) := by
  obtain ⟨lt, e⟩ := List.getElem?_eq_some_iff.mp h
  rw [List.drop_eq_getElem_cons lt, e]
theorem sd_for {iter : Expr} {body : List Stmt} {it : TId} {g : TGd} {vs : List Nat} {tb : TSd} (hp : PassesOwn (model X.prog X.w) X.A X.env X.xe) (hc : X.calm = true) (hi : PId X tg iter it) (hg : PGd X tg vs g) (hb : PBd X body tb)
    (hs : ∀ x, foldedSetIterable iter X.env x = pure x := by intro _; rfl) : PSd X (.For tg iter body [] pos) (dFor it g tb) := ⟨ps_imp (ps_for hp hc hi.p hg.p hb.p hs) fun De σ H ⟨B, F, env, D', ok, h, l⟩ => by
  refine ⟨B, F, env, _, ok, h, fun ds e1 F1 H1 J q1 ok1 s1 wk => ?_⟩
  obtain ⟨G, Y, w, hG, hY⟩ := wk
  have l1 := l.up s1
  refine for_it w (fun i σ H => ∃ F env, i ≤ ds.length ∧ Same F1 F ∧ Ok X.K B F H σ env ∧ forD g tb D' (ds.drop i) env) ⟨F1, e1, Nat.zero_le _, Same.refl _, ok1, q1⟩ (fun i σ H hi ⟨F, env, _, s, ok, _⟩ => hG B F H σ env s ok) (fun i x σ H H' hi ⟨F, env, _, s, ok, q⟩ y => ?_) (fun σ H ⟨F, env, _, s, ok, q⟩ => ?_)
  · have hd : ds[i]? = some ds[i] := List.getElem?_eq_getElem hi
    rw [drop_get hd] at q
    obtain ⟨F2, ok2, s2, rp⟩ := hY i x B F H H' σ env _ s ok y hd
    refine ⟨B, F2, env, _, _, ok2, rp, q, fun e3 σ3 F3 H3 q3 ok3 s3 _ => ?_⟩
    have s13 := s.trans (s2.trans s3)
    refine ⟨B, F3, e3, _, ok3, q3, ⟨fun e4 σ4 F4 H4 q4 s4 ok4 => ⟨F4, e4, hi, s13.trans s4, ok4, q4⟩, fun r e4 v σ4 F4 H4 q4 s4 ok4 x4 => l1.rt r e4 v σ4 F4 H4 q4 (s13.trans s4) ok4 x4, fun e4 σ4 F4 H4 q4 s4 ok4 => l1.nx e4 σ4 F4 H4 q4 (s13.trans s4) ok4, fun e4 σ4 F4 H4 q4 s4 ok4 => ⟨F4, e4, hi, s13.trans s4, ok4, q4⟩⟩⟩
  · rw [List.drop_length] at q
    exact l1.nx env σ F H q s ok⟩

/-! ### while -/
def whileD (c : TTd) (body : TSd) (De : EndsD) : Nat → Ev → Prop
  | 0, _ => False
  | n + 1, env => c env fun b e => match b with
    | true => body { De with nx := whileD c body De n, ct := whileD c body De n, bk := De.nx } e
    | false => De.nx e
def dWhile (c : TTd) (body : TSd) : TSd := fun De env => ∃ n, whileD c body De n env
theorem sd_while {body : List Stmt} {tc : TTd} {tb : TSd} (hp : PassesOwn (model X.prog X.w) X.A X.env X.xe) (hc : PTd X c tc) (hb : PBd X body tb) : PSd X (.While c body [] pos) (dWhile tc tb) := ⟨ps_imp (ps_while hp hc.p hb.p) fun De σ H ⟨B, F, env, D', ok, ⟨n, h⟩, l⟩ => by
  refine ⟨fun m σ H => ∃ F1 env, Same F F1 ∧ Ok X.K B F1 H σ env ∧ whileD tc tb D' m env, ⟨n, F, env, Same.refl _, ok, h⟩, fun m σ H ⟨F1, env, s, ok, q⟩ => ?_⟩
  cases m with
  | zero => exact (show False from q).elim
  | succ m =>
    refine ⟨B, F1, env, _, ok, q, fun b e2 F2 H2 q2 ok2 s2 => ?_⟩
    have s12 := s.trans s2
    cases b with
    | true =>
      show (if true = true then _ else _)
      rw [if_pos rfl]
      refine ⟨fun σ H => ∃ F1 env, Same F F1 ∧ Ok X.K B F1 H σ env ∧ whileD tc tb D' m env, fun σ' H' w => ⟨m, Nat.lt_succ_self m, w⟩, ?_⟩
      refine ⟨B, F2, e2, _, ok2, q2, ⟨fun e4 σ4 F4 H4 q4 s4 ok4 => ⟨F4, e4, s12.trans s4, ok4, q4⟩, fun r e4 v σ4 F4 H4 q4 s4 ok4 x4 => l.rt r e4 v σ4 F4 H4 q4 (s12.trans s4) ok4 x4, fun e4 σ4 F4 H4 q4 s4 ok4 => l.nx e4 σ4 F4 H4 q4 (s12.trans s4) ok4, fun e4 σ4 F4 H4 q4 s4 ok4 => ⟨F4, e4, s12.trans s4, ok4, q4⟩⟩⟩
    | false =>
      show (if false = true then _ else _)
      rw [if_neg (by decide)]
      exact l.nx e2 σ F2 H2 q2 s12 ok2⟩

/-! ### comprehensions -/
def wipeE (env : Ev) : List Nat → Ev
  | [] => env
  | v :: vs => (wipeE env vs).set v .no
theorem wipe_get (σ : L2.St) : ∀ (vs : List Nat) (k : Nat), (wipe σ vs)[k]? = if k ∈ vs ∧ k < σ.length then some none else σ[k]?
  | [], k => by simp [wipe]
  | v :: vs, k => by
    unfold wipe
    rw [List.getElem?_set]
    by_cases e : v = k
    · subst e
      rw [if_pos rfl, wipe_length]
      by_cases h : v < σ.length
      · rw [if_pos h, if_pos ⟨by simp, h⟩]
      · rw [if_neg h, if_neg (fun z => h z.2), List.getElem?_eq_none (by omega)]
    · rw [if_neg e, wipe_get σ vs k]
      simp [show k ≠ v from fun z => e z.symm]
theorem wipe_beside {σ σ2 : L2.St} {vs ws : List Nat} (h : Beside (wipe σ vs) σ2 ws) (hv : ∀ k ∈ ws, k ∈ vs) : wipe σ2 vs = wipe σ vs := by
  have hl : σ2.length = σ.length := by rw [h.1, wipe_length]
  apply List.ext_getElem?
  intro k
  rw [wipe_get, wipe_get, hl]
  by_cases hk : k ∈ vs
  · by_cases lt : k < σ.length
    · rw [if_pos ⟨hk, lt⟩, if_pos ⟨hk, lt⟩]
    · rw [if_neg (fun z => lt z.2), if_neg (fun z => lt z.2), List.getElem?_eq_none (by omega), List.getElem?_eq_none (by omega)]
  · rw [if_neg (fun z => hk z.1), if_neg (fun z => hk z.1), h.2 k (fun z => hk (hv k z)), wipe_get, if_neg (fun z => hk z.1)]
theorem Ok.wipe {K : PySem.W.Frag} {B : Bs} {F H : Hp} {σ σ' : L2.St} {env : Ev} (ok : Ok K B F H σ env) : ∀ (vs : List Nat), Ok K B F H (L2.wipe σ vs) (wipeE env vs)
  | [] => ok
  | v :: vs => (Ok.wipe (σ' := σ') ok vs).setNo v none
theorem wipeE_get (env : Ev) : ∀ (vs : List Nat) (k : Nat), (wipeE env vs)[k]? = if k ∈ vs ∧ k < env.length then some En.no else env[k]?
  | [], k => by simp [wipeE]
  | v :: vs, k => by
    unfold wipeE
    have hl : ∀ vs : List Nat, (wipeE env vs).length = env.length := fun vs => by
      induction vs with
      | nil => rfl
      | cons v vs ih => unfold wipeE; rw [List.length_set, ih]
    rw [List.getElem?_set]
    by_cases e : v = k
    · subst e
      rw [if_pos rfl, hl]
      by_cases h : v < env.length
      · rw [if_pos h, if_pos ⟨by simp, h⟩]
      · rw [if_neg h, if_neg (fun z => h z.2), List.getElem?_eq_none (by omega)]
    · rw [if_neg e, wipeE_get env vs k]
      simp [show k ≠ v from fun z => e z.symm]
/-- what is known of slots that another state shares -/
theorem Ok.unwipe {K : PySem.W.Frag} {B : Bs} {F H : Hp} {σ : L2.St} {env : Ev} {vs : List Nat} (ok : Ok K B F H (L2.wipe σ vs) (wipeE env vs)) : Ok K B F H σ (wipeE env vs) := by
  have hs : ∀ k e, (wipeE env vs)[k]? = some e → e ≠ En.no → (L2.wipe σ vs)[k]? = σ[k]? := fun k e h n => by
    rw [wipe_get]
    rw [wipeE_get] at h
    have hl : env.length = σ.length := by
      have := ok.len
      rw [wipe_length] at this
      have h2 : (wipeE env vs).length = env.length := by
        clear ok h this
        induction vs with
        | nil => rfl
        | cons v vs ih => unfold wipeE; rw [List.length_set, ih]
      omega
    by_cases hk : k ∈ vs ∧ k < env.length
    · rw [if_pos hk] at h; cases h; exact absurd rfl n
    · rw [if_neg (by rw [← hl]; exact hk)]
  exact ⟨ok.out, ok.al, ok.f0, ok.fh, ok.old, by rw [ok.len, wipe_length], fun i d h => by
    obtain ⟨v, h1, h2⟩ := ok.dat i d h
    exact ⟨v, by rw [← hs i _ h (fun z => by cases z)]; exact h1, h2⟩, fun i p o h => by
    obtain ⟨v, h1, h2⟩ := ok.ob i p o h
    exact ⟨v, by rw [← hs i _ h (fun z => by cases z)]; exact h1, h2⟩, fun i j p q o o' p' h1 h2 h3 h4 => ok.inj i j p q o o' p' h1 h2 (by rw [hs i _ h1 (fun z => by cases z)]; exact h3) (by rw [hs j _ h2 (fun z => by cases z)]; exact h4)⟩
/-- the unowned list is written -/
theorem Ok.poke {K : PySem.W.Frag} {B : Bs} {F H : Hp} {σ : L2.St} {env : Ev} {p : Addr} {o : Ob} (ok : Ok K B F H σ env) (ow : Own K B F H false p o) (nw : NewAt env σ p) (h' : HO) : Ok K B F (upd H p h') σ env := by
  refine ok.go (Same.refl _) (fun b u hb => ?_) (fun b u hb hw => ?_) (fun b hb => upd_al b hb) (fun _ _ => rfl) (fun i q o' b h1 h2 => ?_)
  · have : b ≠ p := fun z => by rw [z, ow.2.1] at hb; cases hb
    rw [upd_ne this]; exact ok.fh b u hb
  · have : b ≠ p := fun z => by rw [z, ow.2.2.1 rfl] at hb; cases hb
    rw [upd_ne this]; exact ok.out b u hb hw
  · have : b ≠ p := fun z => nw i q o' h1 (by rw [h2, z])
    obtain ⟨w, e1, _, hf, _⟩ := ok.ob i q o' h1
    rw [h2] at e1; cases e1
    exact ⟨hf, upd_ne this⟩
def compD (g : TGd) (tt : TTd) (te : TD) (vs : List Nat) (Q : Ob → Ev → Prop) : List D → List D → Ev → Prop
  | [], acc, env => Q (.lst acc) env
  | d :: ds, acc, env => g d (wipeE env vs) fun e1 => tt e1 fun b e2 => match b with
    | true => te e2 fun r e3 => frzR e3 r fun y e4 => Few acc.length ∧ compD g tt te vs Q ds (acc ++ [y]) (wipeE e4 vs)
    | false => compD g tt te vs Q ds acc (wipeE e2 vs)
def dComp (it : TId) (g : TGd) (tt : TTd) (te : TD) (vs : List Nat) : TOd := fun env Q => it env fun ds e1 => compD g tt te vs Q ds [] e1
structure PTsd (X : Cx) (ifs : List Expr) (t : TTd) : Prop where
  p : PTs X ifs (upT X.K t)
def dYes : TTd := fun env Q => Q true env
theorem tsd_nil : PTsd X [] dYes := ⟨⟨fun pins s σ H Q I ⟨B, F, env, Q', ok, h, k⟩ => pts_nil.run pins s σ H Q I (k _ _ F H h ok (Same.refl _))⟩⟩
theorem tsd_one {t : TTd} (h : PTd X c t) : PTsd X [c] t := ⟨pts_one h.p⟩
theorem up_comp {it : TId} {g : TGd} {tt : TTd} {te : TD} {vs ws : List Nat} (hv : ∀ k ∈ ws, k ∈ vs) (σ : L2.St) (H : Hp) (Q : VK) (h : upO X.K (dComp it g tt te vs) σ H Q) : tLc (upI X.K it) (upG X.K ws g) (upT X.K tt) (upE X.K te) vs σ H Q := by
  obtain ⟨B, F, env, Q', ok, h, k⟩ := h
  refine ⟨B, F, env, _, ok, h, fun ds e1 F1 H1 J q1 ok1 s1 wk p hp => ?_⟩
  obtain ⟨G, Y, w, hG, hY⟩ := wk
  obtain ⟨ok1', ow1, nw1⟩ := ok1.newL hp (K := X.K) .nil
  refine lc_it w (fun i H => ∃ F env acc, i ≤ ds.length ∧ Same F1 F ∧ Ok X.K B F H σ env ∧ Own X.K B F H false p (.lst acc) ∧ NewAt env σ p ∧ compD g tt te vs Q' (ds.drop i) acc env) ⟨F1, e1, [], Nat.zero_le _, Same.refl _, ok1', ow1, nw1, q1⟩
    (fun i H hi ⟨F, env, acc, _, s, ok, _⟩ => hG B F H σ env s ok) (fun i x H H' hi ⟨F, env, acc, _, s, ok, ow, nw, q⟩ y => ?_) (fun H ⟨F, env, acc, _, s, ok, ow, nw, q⟩ => ?_)
  · have hd : ds[i]? = some ds[i] := List.getElem?_eq_getElem hi
    rw [drop_get hd] at q
    have okB := ok.rebase ow nw
    obtain ⟨F2, ok2, s2, rp⟩ := hY i x _ F H H' σ env _ s okB y hd
    have ok2w := Ok.wipe (σ' := σ) ok2 vs
    refine ⟨_, F2, _, _, _, ok2w, rp, q, fun e3 σ3 F3 H3 q3 ok3 s3 bs => ?_⟩
    have hw := wipe_beside bs hv
    refine ⟨hw, _, F3, e3, _, ok3, q3, fun b e4 F4 H4 q4 ok4 s4 => ?_⟩
    have f0 := ok.f0none ow.2.1
    cases b with
    | true =>
      show (if true = true then _ else _)
      rw [if_pos rfl]
      refine ⟨_, F4, e4, _, ok4, q4, fun r e5 v F5 H5 q5 ok5 s5 x5 => ?_⟩
      obtain ⟨d, e6, F6, ⟨hl, q6⟩, ok6, s6, rp6⟩ := frzR_ok ok5 x5 q5
      have sF : Same F F6 := s2.trans (s3.trans (s4.trans (s5.trans s6)))
      have okw := Ok.wipe (σ' := σ) ok6 vs
      rw [hw] at okw
      obtain ⟨ok7, ow7, nw7⟩ := (Ok.unwipe okw).unbase sF ow f0
      obtain ⟨⟨u, hu, ru⟩, hf, h0, hW⟩ := ow7
      obtain ⟨vsx, rfl, hvx⟩ := ru.lst_of
      refine ⟨vsx, hu, by rw [hvx.len]; exact Nat.lt_of_lt_of_le hl.h (by decide), F6, _, acc ++ [d], hi, s.trans sF, ok7.poke ⟨⟨_, hu, ru⟩, hf, h0, hW⟩ nw7 _, ⟨⟨_, upd_same, ?_⟩, hf, h0, hW⟩, nw7, q6⟩
      exact hvx.app (.cons rp6 .nil)
    | false =>
      show (if false = true then _ else _)
      rw [if_neg (by decide)]
      have sF : Same F F4 := s2.trans (s3.trans s4)
      have okw := Ok.wipe (σ' := σ) ok4 vs
      rw [hw] at okw
      obtain ⟨ok7, ow7, nw7⟩ := (Ok.unwipe okw).unbase sF ow f0
      exact ⟨F4, _, acc, hi, s.trans sF, ok7, ow7, nw7, q4⟩
  · rw [List.drop_length] at q
    exact k _ _ p F H q ok (s1.trans s) ow nw
theorem od_comp {elt iter : Expr} {ifs : List Expr} {scope : Scope} {own : List (Str × Nat)} {it : TId} {g : TGd} {ws : List Nat} {tt : TTd} {te : TD} (hc : X.calm = true) (hN : X.N.Nodup) (hi : PId X tg iter it) (ok : BlkOk X.N X.env.scope scope own)
    (hg : ∀ (s : Shared) (H : Hp) (C : Addr) (cl : List (Str × Addr)) (fp : List Addr), PGd (X.blk s H scope (compEnvC scope cl C X.env) fp) tg ws g) (ht : ∀ (s : Shared) (H : Hp) (C : Addr) (cl : List (Str × Addr)) (fp : List Addr), PTsd (X.blk s H scope (compEnvC scope cl C X.env) fp) ifs tt)
    (he : ∀ (s : Shared) (H : Hp) (C : Addr) (cl : List (Str × Addr)) (fp : List Addr), PD (X.blk s H scope (compEnvC scope cl C X.env) fp) elt te) (hv : ∀ k ∈ ws, k ∈ own.map (·.2) := by decide) (hs : ∀ x, foldedSetIterable iter X.env x = pure x := by intro _; rfl) :
    POd X (.ListComp elt [⟨tg, iter, ifs, 0⟩] scope pos) (dComp it g tt te (own.map (·.2))) :=
  ⟨pe_imp (pe_lc hc hN hi.p ok (fun s H C cl fp => (hg s H C cl fp).p) (fun s H C cl fp => (ht s H C cl fp).p) (fun s H C cl fp => (he s H C cl fp).p) hs) (up_comp hv)⟩
/-- name = [..] -/
theorem sd_asgC (i : Nat) {y : Str} {py : Pos} {elt iter : Expr} {ifs : List Expr} {scope : Scope} {own : List (Str × Nat)} {spos : Pos} {it : TId} {g : TGd} {ws : List Nat} {tt : TTd} {te : TD} (hc : X.calm = true) (hN : X.N.Nodup) (hi : PId X tg iter it) (ok : BlkOk X.N X.env.scope scope own)
    (hg : ∀ (s : Shared) (H : Hp) (C : Addr) (cl : List (Str × Addr)) (fp : List Addr), PGd (X.blk s H scope (compEnvC scope cl C X.env) fp) tg ws g) (ht : ∀ (s : Shared) (H : Hp) (C : Addr) (cl : List (Str × Addr)) (fp : List Addr), PTsd (X.blk s H scope (compEnvC scope cl C X.env) fp) ifs tt)
    (he : ∀ (s : Shared) (H : Hp) (C : Addr) (cl : List (Str × Addr)) (fp : List Addr), PD (X.blk s H scope (compEnvC scope cl C X.env) fp) elt te) (hv : ∀ k ∈ ws, k ∈ own.map (·.2) := by decide)
    (hsw : swapsWith (.ListComp elt [⟨tg, iter, ifs, 0⟩] scope pos) (some (.Name y py)) spos.line X.env = pure true := by exact sw_true rfl rfl rfl (by decide +kernel)) (hy : X.N[i]? = some y := by rfl) (hyl : X.env.scope.names.lookup y = some .local := by rfl) (hs : ∀ x, foldedSetIterable iter X.env x = pure x := by intro _; rfl) :
    PSd X (.Assign [.Name y py] (.ListComp elt [⟨tg, iter, ifs, 0⟩] scope pos) spos) (dAsgO i (dComp it g tt te (own.map (·.2)))) := ⟨ps_imp (ps_setLc hc hN hy hyl hsw hi.p ok (fun s H C cl fp => (hg s H C cl fp).p) (fun s H C cl fp => (ht s H C cl fp).p) (fun s H C cl fp => (he s H C cl fp).p) hs) fun De σ H ⟨B, F, env, D', ok, h, l⟩ => by
  refine up_comp (X := X) hv σ H _ ⟨B, F, env, _, ok, h, fun o e1 p F1 H1 q1 ok1 s1 ow nw => ?_⟩
  exact l.nx _ _ F1 H1 q1 s1 (ok1.setOb i ow nw)⟩
end
end DL
end SDLloop
section SDLfn
set_option maxHeartbeats 4000000
/-! Defs and methods over the data layer. -/
namespace DL
open PySem PySem.Spec PyProof.Rows L2

/-- what stands behind a call: only the things at M may have changed -/
structure Post (F H : Hp) (M : List Addr) (F' H' : Hp) : Prop where
  ff : Same F F'
  fh : Same F' H'
  old : ∀ a, H a ≠ none → F' a = F a
  out : ∀ a o, H a = some o → a ∉ M → H' a = some o
  al : ∀ a, H a ≠ none → H' a ≠ none
def RtN (K : PySem.W.Frag) (F' H H' : Hp) (v : V) : Rt → Prop
  | .dat d => Rp K F' v d
  | .ob o => ∃ a, v = .ref a ∧ H a = none ∧ F' a = none ∧ ∃ h, H' a = some h ∧ ObR K F' h o
/-- a def over data -/
abbrev SpP := List D → (Rt → Prop) → Prop
/-- a def that may change the one thing that stands at its parameter m -/
abbrev SpM := List D → Ob → (Rt → Ob → Prop) → Prop
def spP (K : PySem.W.Frag) (R : SpP) : Sp := fun vs H Q _ => ∃ (F : Hp) (ds : List D) (R' : Rt → Prop), Same F H ∧ RpA K F vs ds ∧ R ds R' ∧
  ∀ r v F' H', R' r → Post F H [] F' H' → RtN K F' H H' v r → Q v H'
def spM (K : PySem.W.Frag) (m : Nat) (R : SpM) : Sp := fun vs H Q _ => ∃ (F : Hp) (ds : List D) (o : Ob) (a : Addr) (R' : Rt → Ob → Prop), Same F H ∧ vs[m]? = some (.ref a) ∧ RpA K F (vs.eraseIdx m) ds ∧
  (∃ h, H a = some h ∧ ObR K F h o) ∧ F a = none ∧ R ds o R' ∧
  ∀ r o' v F' H', R' r o' → Post F H [a] F' H' → (∃ h, H' a = some h ∧ ObR K F' h o') → RtN K F' H H' v r → Q v H'
theorem Ok.post {K : PySem.W.Frag} {B : Bs} {F H F' H' : Hp} {σ : L2.St} {env : Ev} (ok : Ok K B F H σ env) {M : List Addr} (p : Post F H M F' H') (hM : ∀ a ∈ M, B.H0 a = none ∨ a ∈ B.W) (hn : ∀ a ∈ M, NewAt env σ a) : Ok K B F' H' σ env :=
  ok.go p.ff p.fh (fun a o h w => p.out a o (ok.out a o h w) fun hm => by
    rcases hM a hm with z | z
    · rw [z] at h; cases h
    · exact w z) p.al (fun a h => p.old a (ok.al a h)) fun i q o a h1 h2 => by
    obtain ⟨b, e1, ⟨u, hu, _⟩, hf, _⟩ := ok.ob i q o h1
    rw [h2] at e1; cases e1
    refine ⟨(p.old a (ne_none hu)).trans hf, ?_⟩
    rw [hu]
    exact p.out a u hu fun hm => hn a hm i q o h1 h2
/-! ### the callee -/
def startE (N : List Str) (ds : List D) : Ev := ds.map En.dat ++ List.replicate (N.length - ds.length) En.no
theorem start_dat {K : PySem.W.Frag} {F : Hp} {N : List Str} {vs : List V} {ds : List D} (r : RpA K F vs ds) {i : Nat} {d : D} (h : (startE N ds)[i]? = some (En.dat d)) : ∃ v, (start N vs)[i]? = some (some v) ∧ Rp K F v d := by
  unfold startE at h
  rw [List.getElem?_append] at h
  split at h
  · rename_i lt
    rw [List.getElem?_map] at h
    cases q : ds[i]? with
    | none => rw [q] at h; cases h
    | some d' =>
      rw [q] at h; cases h
      obtain ⟨v, h1, h2⟩ := r.get q
      refine ⟨v, ?_, h2⟩
      unfold L2.start
      rw [List.getElem?_append, if_pos (by simp only [List.length_map] at lt ⊢; rw [r.len]; exact lt), List.getElem?_map, h1]
      rfl
  · rw [List.getElem?_replicate] at h
    split at h <;> cases h
theorem start_no {N : List Str} {ds : List D} {i : Nat} {p : Bool} {o : Ob} (h : (startE N ds)[i]? = some (En.ob p o)) : False := by
  unfold startE at h
  rw [List.getElem?_append] at h
  split at h
  · rw [List.getElem?_map] at h
    cases q : ds[i]? with
    | none => rw [q] at h; cases h
    | some d' => rw [q] at h; cases h
  · rw [List.getElem?_replicate] at h
    split at h <;> cases h
theorem Ok.begin {K : PySem.W.Frag} {F H : Hp} {N : List Str} {vs : List V} {ds : List D} (s : Same F H) (r : RpA K F vs ds) : Ok K ⟨H, F, [], fun _ h => by cases h⟩ F H (start N vs) (startE N ds) where
  out := fun a o h _ => h
  al := fun a h => h
  f0 := Same.refl _
  fh := s
  old := fun _ _ => rfl
  len := by
    simp only [startE, L2.start, List.length_append, List.length_map, List.length_replicate, r.len]
  dat := fun i d h => start_dat r h
  ob := fun i p o h => (start_no h).elim
  inj := fun i j p q o o' a h => (start_no h).elim
theorem Ok.ends {K : PySem.W.Frag} {F H F' H' : Hp} {W : List Addr} {wo : ∀ a ∈ W, H a ≠ none} {σ : L2.St} {env : Ev} (ok : Ok K ⟨H, F, W, wo⟩ F' H' σ env) : Post F H W F' H' := ⟨ok.f0, ok.fh, ok.old, ok.out, ok.al⟩
theorem rtN_of {K : PySem.W.Frag} {F H F' H' : Hp} {W : List Addr} {wo : ∀ a ∈ W, H a ≠ none} {v : V} {r : Rt} (h : RtR K ⟨H, F, W, wo⟩ F' H' v r) : RtN K F' H H' v r := by
  cases r with
  | dat d => exact h
  | ob o =>
    obtain ⟨a, e, ⟨u, hu, ru⟩, hf, h0, _⟩ := h
    exact ⟨a, e, h0 rfl, hf, u, hu, ru⟩
section
variable {P : Program} {w : World} {K : PySem.W.Frag} {mg : Str → Option Value} {base : Heap}
/-- a def over data keeps its promise: the derivation of its body, and the reading of that -/
theorem fnP {x qual : Str} {st : Stmt} {f : Addr} {fd : FuncData} {N ps : List Str} {k : Nat} {R : SpP} {t : TSd} (F : Fun K x qual st f fd) (S : FnScope N ps (defScope st)) (hlen : ∀ ds Q, R ds Q → ds.length = ps.length)
    (der : ∀ (cdv : Value) (A : Around) (outer : List Env) (s : Shared) (H : Hp) (E : XK), Room k (A.deeper (envOfC qual (defScope st) s.heap.objs.size f cdv)) → PBd (cxOf CX0 P w K mg base N qual (defScope st) f cdv A outer s H E).nox (defBody st) t)
    (sem : ∀ ds Q, R ds Q → t { nx := fun _ => Q (.dat .none), rt := fun r _ => Q r } (startE N ds)) : FnOk P w K mg base CX0 (k + 1) f fd ps (spP K R) := by
  refine F.ok S (fun vs H Q E h => ?_) fun cdv A outer s H vs Q E hr h => ?_
  · obtain ⟨F, ds, R', _, r, h, _⟩ := h
    rw [r.len]
    exact hlen _ _ h
  · obtain ⟨F, ds, R', s1, r, h, k⟩ := h
    refine ⟨_, (der cdv A outer s H E hr).p, ?_⟩
    refine ⟨_, F, _, _, Ok.begin s1 r, sem ds R' h, ⟨fun env σ F' H' q _ ok => ?_, fun rt env v σ F' H' q _ ok x => ?_, fun env σ F' H' q _ ok => q.elim, fun env σ F' H' q _ ok => q.elim⟩⟩
    · exact k _ _ F' H' q ok.ends (show RtN K F' H H' .non (.dat .none) from .non)
    · exact k _ _ F' H' q ok.ends (rtN_of x)
def startM (N : List Str) (m : Nat) (ds : List D) (o : Ob) : Ev := (ds.map En.dat).take m ++ En.ob true o :: ((ds.map En.dat).drop m ++ List.replicate (N.length - ds.length - 1) En.no)
end
/-! with the changing parameter first -/
def startM0 (N : List Str) (ds : List D) (o : Ob) : Ev := En.ob true o :: (ds.map En.dat ++ List.replicate (N.length - ds.length - 1) En.no)
theorem startM0_get (N : List Str) (ds : List D) (o : Ob) (i : Nat) : (startM0 N ds o)[i + 1]? = (startE (N.drop 1) ds)[i]? := by
  unfold startM0 startE
  rw [List.getElem?_cons_succ]
  have : N.length - ds.length - 1 = (N.drop 1).length - ds.length := by simp; omega
  rw [this]
theorem Ok.beginM {K : PySem.W.Frag} {F H : Hp} {N : List Str} {vs : List V} {ds : List D} {o : Ob} {a : Addr} (s : Same F H) (r : RpA K F vs ds) (ho : ∃ h, H a = some h ∧ ObR K F h o) (hf : F a = none) (hN : ds.length + 1 ≤ N.length) :
    Ok K ⟨H, F, [a], fun b hb => by cases List.mem_singleton.mp hb; obtain ⟨h, e, _⟩ := ho; exact ne_none e⟩ F H (start N (.ref a :: vs)) (startM0 N ds o) where
  out := fun a o h _ => h
  al := fun a h => h
  f0 := Same.refl _
  fh := s
  old := fun _ _ => rfl
  len := by
    simp only [startM0, L2.start, List.length_append, List.length_map, List.length_replicate, r.len, List.length_cons]
    omega
  dat := fun i d h => by
    cases i with
    | zero => cases h
    | succ i =>
      rw [startM0_get] at h
      obtain ⟨v, h1, h2⟩ := start_dat r h
      refine ⟨v, ?_, h2⟩
      unfold L2.start at h1 ⊢
      rw [List.map_cons, List.cons_append, List.getElem?_cons_succ]
      have : (N.drop 1).length - vs.length = N.length - (V.ref a :: vs).length := by simp; omega
      rw [this] at h1
      exact h1
  ob := fun i p o' h => by
    cases i with
    | zero =>
      cases h
      exact ⟨a, rfl, ho, hf, fun z => (by cases z), fun _ => List.mem_singleton.mpr rfl⟩
    | succ i => rw [startM0_get] at h; exact (start_no h).elim
  inj := fun i j p q o1 o2 b h1 h2 h3 h4 => by
    cases i with
    | zero =>
      cases j with
      | zero => rfl
      | succ j => rw [startM0_get] at h2; exact (start_no h2).elim
    | succ i => rw [startM0_get] at h1; exact (start_no h1).elim
def outM (Q : Rt → Ob → Prop) (r : Rt) (env : Ev) : Prop := match env with
  | En.ob true o' :: _ => Q r o'
  | _ => False
section
variable {P : Program} {w : World} {K : PySem.W.Frag} {mg : Str → Option Value} {base : Heap}
theorem fnM {x qual : Str} {st : Stmt} {f : Addr} {fd : FuncData} {N ps : List Str} {k : Nat} {R : SpM} {t : TSd} (F : Fun K x qual st f fd) (S : FnScope N ps (defScope st)) (hlen : ∀ ds o Q, R ds o Q → ds.length + 1 = ps.length) (hN : ps.length ≤ N.length)
    (der : ∀ (cdv : Value) (A : Around) (outer : List Env) (s : Shared) (H : Hp) (E : XK), Room k (A.deeper (envOfC qual (defScope st) s.heap.objs.size f cdv)) → PBd (cxOf CX0 P w K mg base N qual (defScope st) f cdv A outer s H E).nox (defBody st) t)
    (sem : ∀ ds o Q, R ds o Q → t { nx := outM Q (.dat .none), rt := outM Q } (startM0 N ds o)) : FnOk P w K mg base CX0 (k + 1) f fd ps (spM K 0 R) := by
  have start0 : ∀ (vs : List V) (a : Addr), vs[0]? = some (.ref a) → vs = .ref a :: vs.eraseIdx 0 := fun vs a h => by
    cases vs with
    | nil => cases h
    | cons v vs => simp at h; subst h; rfl
  refine F.ok S (fun vs H Q E h => ?_) fun cdv A outer s H vs Q E hr h => ?_
  · obtain ⟨F, ds, o, a, R', _, e, r, _, _, h, _⟩ := h
    rw [start0 vs a e, List.length_cons, r.len]
    exact hlen _ _ _ h
  · obtain ⟨F, ds, o, a, R', s1, e, r, ho, hf, h, k⟩ := h
    have hl := hlen _ _ _ h
    refine ⟨_, (der cdv A outer s H E hr).p, ?_⟩
    have out : ∀ (rt : Rt) (env : Ev) (v : V) (σ : L2.St) (F' H' : Hp) (wo), outM R' rt env → Ok K ⟨H, F, [a], wo⟩ F' H' σ env → RtN K F' H H' v rt → Q v H' := fun rt env v σ F' H' wo q ok x => by
      unfold outM at q
      split at q
      · rename_i o' rest
        obtain ⟨b, hb, h1, _, _, h4⟩ := ok.ob 0 true o' rfl
        cases List.mem_singleton.mp (h4 rfl)
        exact k _ _ _ F' H' q ok.ends h1 x
      · exact q.elim
    rw [start0 vs a e]
    refine ⟨_, F, _, _, Ok.beginM s1 r ho hf (by omega), sem ds o R' h, ⟨fun env σ F' H' q _ ok => ?_, fun rt env v σ F' H' q _ ok x => ?_, fun env σ F' H' q _ ok => q.elim, fun env σ F' H' q _ ok => q.elim⟩⟩
    · exact out _ env .non σ F' H' _ q ok (show RtN K F' H H' .non (.dat .none) from .non)
    · exact out _ env v σ F' H' _ q ok (rtN_of x)
end
/-! ### the caller -/
section
variable {X : Cx} {e a b c : Expr} {es : List Expr} {pos : Pos} {ta tb : TD} {k : Nat} {f : Addr} {fd : FuncData} {ps : List Str} {x : Str} {p : Pos}
def dCallP (R : SpP) (t : TAd) : TD := fun env Q => t env fun rs e1 => frzL e1 rs fun ds e2 => R ds fun rt => match rt with
  | .dat d => Q (.dat d) e2
  | .ob _ => False
def dCallPO (R : SpP) (t : TAd) : TOd := fun env Q => t env fun rs e1 => frzL e1 rs fun ds e2 => R ds fun rt => match rt with
  | .ob o => Q o e2
  | .dat _ => False
theorem Ok.newR {K : PySem.W.Frag} {B : Bs} {F H F' H' : Hp} {σ : L2.St} {env : Ev} {a : Addr} {o : Ob} (ok : Ok K B F H σ env) (h1 : H a = none) (h2 : F' a = none) (h3 : ∃ h, H' a = some h ∧ ObR K F' h o) : Own K B F' H' false a o ∧ NewAt env σ a :=
  ⟨⟨h3, h2, fun _ => ok.fresh0 h1, fun z => by cases z⟩, fun j q o' h s => by
    obtain ⟨b, e1, ⟨u, hu, _⟩, _⟩ := ok.ob j q o' h
    rw [s] at e1; cases e1
    rw [h1] at hu; cases hu⟩
theorem pd_callP {R : SpP} {t : TAd} (G : FnOk X.prog X.w X.K X.mg X.base CX0 k f fd ps (spP X.K R)) (hr : Room k X.A) (hg : Gl X x) (hm : X.mg x = some (.ref f)) (hk : PySem.W.keepIn X.K (.ref f) = true) (hb : Binds X.K fd ps []) (ha : PAd X (e :: es) t)
    (hdb : (x == ("__debug__" : Str)) = false := by decide) (he : starEach (e :: es) X.env = (false, eval e X.env) :: starEach es X.env := by rfl) (hpl : (backTo pos (starEach es X.env)).any (·.1) = false := by rfl) : PD X (.Call (.Name x p) (e :: es) [] pos) (dCallP R t) :=
  ⟨pe_imp (pe_call G hr hg hm hk hb .nil pass0 ha.p hdb he hpl) fun σ H Q ⟨B, F, env, Q', ok, h, k⟩ => ⟨B, F, env, _, ok, h, fun rs e1 vs F1 H1 q1 ok1 s1 x1 => by
    obtain ⟨ds, e2, F2, q2, ok2, s2, rp⟩ := frzL_ok ok1 x1 q1
    rw [List.append_nil]
    refine ⟨F2, ds, _, ok2.fh, rp, q2, fun r v F' H' q po rr => ?_⟩
    have ok3 := ok2.post po (fun _ h => by cases h) (fun _ h => by cases h)
    cases r with
    | dat d => exact k _ _ v F' H' q ok3 (s1.trans (s2.trans po.ff)) rr
    | ob o => exact q.elim⟩⟩
theorem od_callP {R : SpP} {t : TAd} (G : FnOk X.prog X.w X.K X.mg X.base CX0 k f fd ps (spP X.K R)) (hr : Room k X.A) (hg : Gl X x) (hm : X.mg x = some (.ref f)) (hk : PySem.W.keepIn X.K (.ref f) = true) (hb : Binds X.K fd ps []) (ha : PAd X (e :: es) t)
    (hdb : (x == ("__debug__" : Str)) = false := by decide) (he : starEach (e :: es) X.env = (false, eval e X.env) :: starEach es X.env := by rfl) (hpl : (backTo pos (starEach es X.env)).any (·.1) = false := by rfl) : POd X (.Call (.Name x p) (e :: es) [] pos) (dCallPO R t) :=
  ⟨pe_imp (pe_call G hr hg hm hk hb .nil pass0 ha.p hdb he hpl) fun σ H Q ⟨B, F, env, Q', ok, h, k⟩ => ⟨B, F, env, _, ok, h, fun rs e1 vs F1 H1 q1 ok1 s1 x1 => by
    obtain ⟨ds, e2, F2, q2, ok2, s2, rp⟩ := frzL_ok ok1 x1 q1
    rw [List.append_nil]
    refine ⟨F2, ds, _, ok2.fh, rp, q2, fun r v F' H' q po rr => ?_⟩
    have ok3 := ok2.post po (fun _ h => by cases h) (fun _ h => by cases h)
    cases r with
    | dat d => exact q.elim
    | ob o =>
      obtain ⟨p, rfl, h1, h2, h3⟩ := rr
      obtain ⟨ow, nw⟩ := ok2.newR h1 h2 h3 (H' := H')
      exact k _ _ p F' H' q ok3 (s1.trans (s2.trans po.ff)) ow nw⟩⟩
/-- a call of a def without arguments -/
theorem pd_callP0 {R : SpP} (G : FnOk X.prog X.w X.K X.mg X.base CX0 k f fd ps (spP X.K R)) (hr : Room k X.A) (hg : Gl X x) (hm : X.mg x = some (.ref f)) (hk : PySem.W.keepIn X.K (.ref f) = true) (hb : Binds X.K fd ps [])
    (hdb : (x == ("__debug__" : Str)) = false := by decide) : PD X (.Call (.Name x p) [] [] pos) (dCallP R dNil) :=
  ⟨pe_imp (pe_call0 G hr hg hm hk hb .nil pass0 hdb) fun σ H Q ⟨B, F, env, Q', ok, h, k⟩ => by
    have h : R [] _ := h
    refine ⟨F, [], _, ok.fh, .nil, h, fun r v F' H' q po rr => ?_⟩
    have ok3 := ok.post po (fun _ h => by cases h) (fun _ h => by cases h)
    cases r with
    | dat d => exact k _ _ v F' H' q ok3 po.ff rr
    | ob o => exact q.elim⟩
/-- the first argument is the thing of a slot: it may change -/
def dCallM (R : SpM) (t : TAd) : TD := fun env Q => t env fun rs e1 => match rs with
  | .sl j :: rs => frzL e1 rs fun ds e2 => match e2[j]? with
    | some (.ob p o) => R ds o fun rt o' => match rt with
      | .dat d => Q (.dat d) (e2.set j (.ob p o'))
      | .ob _ => False
    | _ => False
  | _ => False
def dCallMO (R : SpM) (t : TAd) : TOd := fun env Q => t env fun rs e1 => match rs with
  | .sl j :: rs => frzL e1 rs fun ds e2 => match e2[j]? with
    | some (.ob p o) => R ds o fun rt o' => match rt with
      | .ob o2 => Q o2 (e2.set j (.ob p o'))
      | .dat _ => False
    | _ => False
  | _ => False
theorem set_same {σ : L2.St} {j : Nat} {v : Option V} (h : σ[j]? = some v) : σ.set j v = σ := by
  apply List.ext_getElem?
  intro k
  rw [List.getElem?_set]
  split
  · rename_i e
    subst e
    split
    · exact h.symm
    · rw [List.getElem?_eq_none (by omega)]
  · rfl
theorem Ok.postM {K : PySem.W.Frag} {B : Bs} {F H F' H' : Hp} {σ : L2.St} {env : Ev} {j : Nat} {p : Bool} {o o' : Ob} {a : Addr} (ok : Ok K B F H σ env) (he : env[j]? = some (En.ob p o)) (hs : σ[j]? = some (some (V.ref a))) (po : Post F H [a] F' H') (h' : ∃ h, H' a = some h ∧ ObR K F' h o') :
    Ok K B F' H' σ (env.set j (.ob p o')) := by
  obtain ⟨b, e1, ⟨u, hu, _⟩, hf, h0, hW⟩ := ok.ob j p o he
  rw [hs] at e1; cases e1
  have ok0 := ok.setNo j (some (.ref a))
  rw [set_same hs] at ok0
  have nw : NewAt (env.set j .no) σ a := fun i q o2 h s => by
    rcases get_set h with ⟨_, z, _⟩ | ⟨ne, h⟩
    · cases z
    · exact ne (ok.inj i j _ _ _ _ a h he s hs)
  have ok1 := ok0.post po (fun b hb => by
    cases List.mem_singleton.mp hb
    cases p with
    | false => exact .inl (h0 rfl)
    | true => exact .inr (hW rfl)) (fun b hb => by cases List.mem_singleton.mp hb; exact nw)
  have ok2 := ok1.setOb j (p := p) (o := o') (a := a) ⟨h', (po.old a (ne_none hu)).trans hf, h0, hW⟩ nw
  rw [List.set_set, set_same hs] at ok2
  exact ok2
theorem pd_callM {R : SpM} {t : TAd} (G : FnOk X.prog X.w X.K X.mg X.base CX0 k f fd ps (spM X.K 0 R)) (hr : Room k X.A) (hg : Gl X x) (hm : X.mg x = some (.ref f)) (hk : PySem.W.keepIn X.K (.ref f) = true) (hb : Binds X.K fd ps []) (ha : PAd X (e :: es) t)
    (hdb : (x == ("__debug__" : Str)) = false := by decide) (he : starEach (e :: es) X.env = (false, eval e X.env) :: starEach es X.env := by rfl) (hpl : (backTo pos (starEach es X.env)).any (·.1) = false := by rfl) : PD X (.Call (.Name x p) (e :: es) [] pos) (dCallM R t) :=
  ⟨pe_imp (pe_call G hr hg hm hk hb .nil pass0 ha.p hdb he hpl) fun σ H Q ⟨B, F, env, Q', ok, h, k⟩ => ⟨B, F, env, _, ok, h, fun rs e1 vs F1 H1 q1 ok1 s1 x1 => by
    split at q1
    · rename_i j rs
      cases vs with
      | nil => exact x1.elim
      | cons v vs =>
        obtain ⟨xv, x1⟩ := x1
        have xv : σ[j]? = some (some v) := xv
        obtain ⟨ds, e2, F2, q2, ok2, s2, rp⟩ := frzL_ok ok1 x1 q1
        split at q2
        · rename_i pb o he2
          obtain ⟨a', e3, ⟨u, hu, ru⟩, hf, _⟩ := ok2.ob j pb o he2
          rw [xv] at e3; cases e3
          rw [List.append_nil]
          refine ⟨F2, ds, o, a', _, ok2.fh, rfl, rp, ⟨u, hu, ru⟩, hf, q2, fun r o' v F' H' q po h' rr => ?_⟩
          have ok3 := ok2.postM he2 xv po h'
          cases r with
          | dat d => exact k _ _ v F' H' q ok3 (s1.trans (s2.trans po.ff)) rr
          | ob o => exact q.elim
        · exact q2.elim
    · exact q1.elim⟩⟩
theorem od_callM {R : SpM} {t : TAd} (G : FnOk X.prog X.w X.K X.mg X.base CX0 k f fd ps (spM X.K 0 R)) (hr : Room k X.A) (hg : Gl X x) (hm : X.mg x = some (.ref f)) (hk : PySem.W.keepIn X.K (.ref f) = true) (hb : Binds X.K fd ps []) (ha : PAd X (e :: es) t)
    (hdb : (x == ("__debug__" : Str)) = false := by decide) (he : starEach (e :: es) X.env = (false, eval e X.env) :: starEach es X.env := by rfl) (hpl : (backTo pos (starEach es X.env)).any (·.1) = false := by rfl) : POd X (.Call (.Name x p) (e :: es) [] pos) (dCallMO R t) :=
  ⟨pe_imp (pe_call G hr hg hm hk hb .nil pass0 ha.p hdb he hpl) fun σ H Q ⟨B, F, env, Q', ok, h, k⟩ => ⟨B, F, env, _, ok, h, fun rs e1 vs F1 H1 q1 ok1 s1 x1 => by
    split at q1
    · rename_i j rs
      cases vs with
      | nil => exact x1.elim
      | cons v vs =>
        obtain ⟨xv, x1⟩ := x1
        have xv : σ[j]? = some (some v) := xv
        obtain ⟨ds, e2, F2, q2, ok2, s2, rp⟩ := frzL_ok ok1 x1 q1
        split at q2
        · rename_i pb o he2
          obtain ⟨a', e3, ⟨u, hu, ru⟩, hf, _⟩ := ok2.ob j pb o he2
          rw [xv] at e3; cases e3
          rw [List.append_nil]
          refine ⟨F2, ds, o, a', _, ok2.fh, rfl, rp, ⟨u, hu, ru⟩, hf, q2, fun r o' v F' H' q po h' rr => ?_⟩
          have ok3 := ok2.postM he2 xv po h'
          cases r with
          | dat d => exact q.elim
          | ob o2 =>
            obtain ⟨p2, rfl, h1, h2, h3⟩ := rr
            obtain ⟨ow, nw⟩ := ok2.newR h1 h2 h3 (H' := H')
            refine k _ _ p2 F' H' q ok3 (s1.trans (s2.trans po.ff)) ow fun i q' o3 h s => ?_
            rcases get_set h with ⟨rfl, z, _⟩ | ⟨ne, h⟩
            · exact nw i _ _ he2 s
            · exact nw i _ _ h s
        · exact q2.elim
    · exact q1.elim⟩⟩

/-! ### methods of a list that a slot owns -/
def MtS (K : PySem.W.Frag) (r : V → List V → Hp → VK → Prop) (fm : List D → List D → (D → List D → Prop) → Prop) : Prop :=
  ∀ (F H : Hp) (a : Addr) (vs ws : List V) (xs ds : List D) (Q : D → List D → Prop) (Q' : VK), Same F H → H a = some (.lst vs) → RpA K F vs xs → RpA K F ws ds → fm xs ds Q →
    (∀ z u xs' vs', Q z xs' → RpA K F vs' xs' → Rp K F u z → Q' u (upd H a (.lst vs'))) → r (.ref a) ws H Q'
def dMt (i : Nat) (fm : List D → List D → (D → List D → Prop) → Prop) (t : TAd) : TD := fun env Q => match env[i]? with
  | some (.ob _ (.lst _)) => t env fun rs e1 => frzL e1 rs fun ds e2 => match e2[i]? with
    | some (.ob p (.lst xs)) => fm xs ds fun z xs' => Q (.dat z) (e2.set i (.ob p (.lst xs')))
    | _ => False
  | _ => False
theorem mt_fin {K : PySem.W.Frag} {B : Bs} {F H : Hp} {σ : L2.St} {env : Ev} {i : Nat} {q : Bool} {xs : List D} {a : Addr} {vs' : List V} {xs' : List D} (ok : Ok K B F H σ env) (he : env[i]? = some (En.ob q (.lst xs))) (hs : σ[i]? = some (some (V.ref a))) (r : RpA K F vs' xs') : Ok K B F (upd H a (.lst vs')) σ (env.set i (.ob q (.lst xs'))) :=
  ok.change he hs r
theorem pd_mt (i : Nat) {y name : Str} {apos cpos ypos : Pos} {id : String} {r : V → List V → Hp → VK → Prop} {fm : List D → List D → (D → List D → Prop) → Prop} {t : TAd} (slot : Slot "list" name id) (hty : typeOf (.builtin id) = pure (.type "method_descriptor")) (hm : MtR X id r) (hs : MtS X.K r fm) (ha : PAd X (e :: es) t)
    (hN : X.N[i]? = some y := by rfl) (hv : Vis X.env.scope y := by first | exact Or.inl rfl | exact Or.inr (Or.inl rfl) | exact Or.inr (Or.inr rfl)) (hd : (y == ("__debug__" : Str)) = false := by decide) (hcd : (y == ("__classdict__" : Str)) = false := by decide)
    (hbase : attributeBase (.Name y ypos) name X.env (eval (.Name y ypos) X.env) = eval (.Name y ypos) X.env := by rfl)
    (hfew : ((backTo cpos (starEach (e :: es) X.env)).all (fun x => !x.1) && (backToKw cpos (keywordEach [] X.env)).all (fun x => x.1.isSome) && decide ((e :: es).length + ([] : List Keyword).length + (if ([] : List Keyword).isEmpty then 0 else 1) < 30)) = true := by rfl)
    (hline : (apos.endLine == cpos.line) = true := by rfl) (hst : starEach (e :: es) X.env = (false, eval e X.env) :: starEach es X.env := by rfl) (hplain : (backTo cpos (starEach es X.env)).any (·.1) = false := by rfl) :
    PD X (.Call (.Attribute (.Name y ypos) name apos) (e :: es) [] cpos) (dMt i fm t) :=
  ⟨pe_imp (pe_bm PySem.F.plainAttrs_list slot hty hm (pe_var hN hv hd hcd) ha.p hbase hfew hline hst hplain) fun σ H Q ⟨B, F, env, Q', ok, h, k⟩ => by
    unfold dMt at h
    split at h
    · rename_i p0 xs0 he0
      obtain ⟨a', hs0, ⟨u, hu, ru⟩, _⟩ := ok.ob i p0 _ he0
      obtain ⟨vs0, rfl, hv0⟩ := ru.lst_of
      refine ⟨_, hs0, .inl ⟨rfl, vs0, .inl (.inl hu)⟩, B, F, env, _, ok, h, fun rs e1 vs F1 H1 q1 ok1 s1 x1 => ?_⟩
      obtain ⟨ds, e2, F2, q2, ok2, s2, rp⟩ := frzL_ok ok1 x1 q1
      split at q2
      · rename_i q xs he2
        obtain ⟨b, hs2, ⟨u2, hu2, ru2⟩, _⟩ := ok2.ob i q _ he2
        rw [hs0] at hs2; cases hs2
        obtain ⟨vs2, rfl, hv2⟩ := ru2.lst_of
        exact hs F2 H1 a' vs2 vs xs ds _ Q ok2.fh hu2 hv2 rp q2 fun z u xs' vs' qz r1 r2 => k _ _ u F2 _ qz (mt_fin ok2 he2 hs0 r1) (s1.trans s2) r2
      · exact q2.elim
    · exact h.elim⟩
def dMt0 (i : Nat) (fm : List D → List D → (D → List D → Prop) → Prop) : TD := fun env Q => match env[i]? with
  | some (.ob p (.lst xs)) => fm xs [] fun z xs' => Q (.dat z) (env.set i (.ob p (.lst xs')))
  | _ => False
theorem pd_mt0 (i : Nat) {y name : Str} {apos cpos ypos : Pos} {id : String} {r : V → List V → Hp → VK → Prop} {fm : List D → List D → (D → List D → Prop) → Prop} (slot : Slot "list" name id) (hty : typeOf (.builtin id) = pure (.type "method_descriptor")) (hm : MtR X id r) (hs : MtS X.K r fm)
    (hN : X.N[i]? = some y := by rfl) (hv : Vis X.env.scope y := by first | exact Or.inl rfl | exact Or.inr (Or.inl rfl) | exact Or.inr (Or.inr rfl)) (hd : (y == ("__debug__" : Str)) = false := by decide) (hcd : (y == ("__classdict__" : Str)) = false := by decide)
    (hbase : attributeBase (.Name y ypos) name X.env (eval (.Name y ypos) X.env) = eval (.Name y ypos) X.env := by rfl) (hline : (apos.endLine == cpos.line) = true := by rfl) :
    PD X (.Call (.Attribute (.Name y ypos) name apos) [] [] cpos) (dMt0 i fm) :=
  ⟨pe_imp (pe_bm0 PySem.F.plainAttrs_list slot hty hm (pe_var hN hv hd hcd) hbase hline) fun σ H Q ⟨B, F, env, Q', ok, h, k⟩ => by
    unfold dMt0 at h
    split at h
    · rename_i p0 xs0 he0
      obtain ⟨a', hs0, ⟨u, hu, ru⟩, _⟩ := ok.ob i p0 _ he0
      obtain ⟨vs0, rfl, hv0⟩ := ru.lst_of
      exact ⟨_, hs0, .inl ⟨rfl, vs0, .inl (.inl hu)⟩, hs F H a' vs0 [] xs0 [] _ Q ok.fh hu hv0 .nil h fun z u xs' vs' qz r1 r2 => k _ _ u F _ qz (mt_fin ok he0 hs0 r1) (Same.refl _) r2⟩
    · exact h.elim⟩
def fmAppend : List D → List D → (D → List D → Prop) → Prop := fun xs ds Q => match ds with
  | [d] => Few xs.length ∧ Q .none (xs ++ [d])
  | _ => False
theorem ms_append {K : PySem.W.Frag} : MtS K rAppend fmAppend := fun F H a vs ws xs ds Q Q' s hH r1 r2 h k => by
  unfold fmAppend at h
  split at h
  · cases r2 with
    | cons r2 r3 =>
      cases r3
      refine ⟨a, vs, _, rfl, rfl, hH, by rw [r1.len]; exact Nat.lt_of_lt_of_le h.1.h (by decide), ?_⟩
      exact k _ _ _ _ h.2 (r1.app (.cons r2 .nil)) .non
  · exact h.elim
theorem pd_append (i : Nat) {y : Str} {apos cpos ypos : Pos} {t : TAd} (ha : PAd X [e] t) (hN : X.N[i]? = some y := by rfl) (hv : Vis X.env.scope y := by first | exact Or.inl rfl | exact Or.inr (Or.inl rfl) | exact Or.inr (Or.inr rfl)) (hd : (y == ("__debug__" : Str)) = false := by decide) (hcd : (y == ("__classdict__" : Str)) = false := by decide)
    (hbase : attributeBase (.Name y ypos) "append" X.env (eval (.Name y ypos) X.env) = eval (.Name y ypos) X.env := by rfl)
    (hfew : ((backTo cpos (starEach [e] X.env)).all (fun x => !x.1) && (backToKw cpos (keywordEach [] X.env)).all (fun x => x.1.isSome) && decide (([e] : List Expr).length + ([] : List Keyword).length + (if ([] : List Keyword).isEmpty then 0 else 1) < 30)) = true := by rfl)
    (hline : (apos.endLine == cpos.line) = true := by rfl) (hst : starEach [e] X.env = (false, eval e X.env) :: starEach [] X.env := by rfl) (hplain : (backTo cpos (starEach [] X.env)).any (·.1) = false := by rfl) :
    PD X (.Call (.Attribute (.Name y ypos) "append" apos) [e] [] cpos) (dMt i fmAppend t) :=
  pd_mt i PySem.F.slot_list_append PySem.F.type_list_append mt_append ms_append ha hN hv hd hcd hbase hfew hline hst hplain

/-! ### x op= e -/
def dAug (i : Nat) (fo : D → D → (D → Prop) → Prop) (ta : TD) : TSd := fun De env => match env[i]? with
  | some (.dat x) => ta env fun r e1 => onD (see e1 r) fun y => fo x y fun z => De.nx (e1.set i (.dat z))
  | _ => False
theorem sd_aug (i : Nat) {y : Str} {op : Operator} {r : R2} {fo : D → D → (D → Prop) → Prop} {pos' : Pos} (hN : X.N.Nodup) (ha : PD X a ta) (ho : OpR X (inplaceOp op) r) (hs : OpS X.K r fo) (hi : X.N[i]? = some y := by rfl) (hx : Loc X.env.scope y := by first | exact Or.inl rfl | exact Or.inr rfl)
    (hf : X.fn y = true ∨ X.env.scope.names.lookup y = some .local := by first | exact .inl rfl | exact .inr rfl | assumption) : PSd X (.AugAssign (.Name y pos') op a pos) (dAug i fo ta) := ⟨ps_imp (ps_aug hN hi hx ha.p ho hf) fun De σ H ⟨B, F, env, D', ok, h, l⟩ => by
  unfold dAug at h
  split at h
  · rename_i d he
    obtain ⟨v, hv, rv⟩ := ok.dat i d he
    refine ⟨v, hv, B, F, env, _, ok, h, fun r2 e1 w F1 H1 q1 ok1 s1 x1 => ?_⟩
    obtain ⟨y', hy, q1⟩ := onD_of q1
    exact hs B F1 H1 σ e1 v w (.dat d) r2 d y' _ _ ok1 (rv.up s1) x1 rfl hy q1 fun z u F' H' qz ok' s' rz => l.nx _ _ F' H' qz (s1.trans s') (ok'.setDat i rz)
  · exact h.elim⟩
theorem sd_addA (i : Nat) {y : Str} {pos' : Pos} (hN : X.N.Nodup) (ha : PD X a ta) (hi : X.N[i]? = some y := by rfl) (hx : Loc X.env.scope y := by first | exact Or.inl rfl | exact Or.inr rfl)
    (hf : X.fn y = true ∨ X.env.scope.names.lookup y = some .local := by first | exact .inl rfl | exact .inr rfl | assumption) : PSd X (.AugAssign (.Name y pos') .Add a pos) (dAug i (fI0 fun i j => i + j) ta) := sd_aug i hN ha iop_add os_I0 hi hx hf
theorem sd_subA (i : Nat) {y : Str} {pos' : Pos} (hN : X.N.Nodup) (ha : PD X a ta) (hi : X.N[i]? = some y := by rfl) (hx : Loc X.env.scope y := by first | exact Or.inl rfl | exact Or.inr rfl)
    (hf : X.fn y = true ∨ X.env.scope.names.lookup y = some .local := by first | exact .inl rfl | exact .inr rfl | assumption) : PSd X (.AugAssign (.Name y pos') .Sub a pos) (dAug i (fI0 fun i j => i - j) ta) := sd_aug i hN ha iop_sub os_I0 hi hx hf
theorem iop_mulX : OpR X (inplaceOp .Mult) (rI IntMulOk fun i j => .int (i * j)) := opI fun _ _ _ _ _ _ _ hc q => imul_int q hc
theorem os_imul {K : PySem.W.Frag} : OpS K (rI IntMulOk fun i j => .int (i * j)) fMul := fun B F H σ env v w r1 r2 x y Q Q' ok a b c d e k => by
  unfold fMul at e
  split at e
  · rename_i i j
    cases see_int ok a c
    cases see_int ok b d
    exact ⟨i, j, rfl, rfl, e.1.h, k _ _ F H e.2 ok (Same.refl _) (.int _)⟩
  · exact e.elim
theorem sd_mulA (i : Nat) {y : Str} {pos' : Pos} (hN : X.N.Nodup) (ha : PD X a ta) (hi : X.N[i]? = some y := by rfl) (hx : Loc X.env.scope y := by first | exact Or.inl rfl | exact Or.inr rfl)
    (hf : X.fn y = true ∨ X.env.scope.names.lookup y = some .local := by first | exact .inl rfl | exact .inr rfl | assumption) : PSd X (.AugAssign (.Name y pos') .Mult a pos) (dAug i fMul ta) := sd_aug i hN ha iop_mulX os_imul hi hx hf
end
end DL
end SDLfn
section SDLboot
set_option maxHeartbeats 4000000
/-! What is built in, by name; the ends of a law. -/
namespace DL.B
open PySem
theorem len : bootBuiltins "len" = some (.builtin "len") := by decide +kernel
theorem int : bootBuiltins "int" = some (.type "int") := by decide +kernel
theorem abs : bootBuiltins "abs" = some (.builtin "abs") := by decide +kernel
theorem max : bootBuiltins "max" = some (.builtin "max") := by decide +kernel
theorem min : bootBuiltins "min" = some (.builtin "min") := by decide +kernel
theorem sum : bootBuiltins "sum" = some (.builtin "sum") := by decide +kernel
theorem any : bootBuiltins "any" = some (.builtin "any") := by decide +kernel
theorem all : bootBuiltins "all" = some (.builtin "all") := by decide +kernel
theorem list : bootBuiltins "list" = some (.type "list") := by decide +kernel
theorem tuple : bootBuiltins "tuple" = some (.type "tuple") := by decide +kernel
theorem sorted : bootBuiltins "sorted" = some (.builtin "sorted") := by decide +kernel
theorem set : bootBuiltins "set" = some (.type "set") := by decide +kernel
end DL.B
namespace DL
open PySem PySem.Spec PyProof.Rows L2
theorem room65 {k : Nat} {A : Around} (hr : Room k A) : A.units + 65 < cLine := by have := hr.un; omega
theorem ca_gcd {K : PySem.W.Frag} : CaS K rGcd (fInt2 gGcd) := fun B F H σ env vs rs ds Q Q' ok x e f k => by
  unfold fInt2 at f
  split at f
  · obtain ⟨v, w, r, s, rfl, h1, h2, h3, h4⟩ := seeL2 ok x e
    cases see_int ok h1 h2
    cases see_int ok h3 h4
    exact ⟨_, _, rfl, k _ _ F H f ok (Same.refl _) (.int _)⟩
  · exact f.elim
/-- the law's own promise -/
def sp_law : SpP := fun ds Q => ∃ ns : List Int, ds = [.list (ns.map .int)] ∧ ns.length ≤ 63 ∧ (∀ z ∈ ns, Builtin.Int.intBits z ≤ 1048576) ∧ Q (.dat (.bool true))
theorem hl_law : ∀ ds Q, sp_law ds Q → ds.length = 1 := fun ds Q ⟨ns, e, _⟩ => by rw [e]; rfl
theorem law_ends {K : PySem.W.Frag} {H : Hp} {a : Addr} {ns : List Int} (hl : ns.length ≤ 63) (hb : ∀ z ∈ ns, Builtin.Int.intBits z ≤ 1048576) (hs : SqL K H a (ns.map V.int)) : spP K sp_law [.ref a] H (fun v _ => v = .bl true) fun _ _ _ => False :=
  ⟨H, [.list (ns.map .int)], fun r => r = .dat (.bool true), Same.refl _, .cons (.lst hs (RpA.ints ns)) .nil, ⟨ns, rfl, hl, hb, rfl⟩, fun r v F' H' e po rr => by
    subst e
    cases rr
    rfl⟩
theorem walk_data {l : PySem.W.OpenLaw} {k : Nat} {q : Program} {loose : List Str} {XP : (Str → Option Value) → Heap → Prop} {YP : World → Heap → Prop} {d : DefRec} {K : Params → PySem.W.Frag} (hn : l.most = some 63) (hdf : d.params.defaults = []) (hr : Room k callerA)
    (hY : ∀ (w : World) (h : Heap), YP w h → (K w.params).In h)
    (F : ∀ (w : World) (mg : Str → Option Value) (fa : Addr) (h : Heap), (K w.params).In h → h.Ns mainGlobals mg → mg d.name = some (.ref fa) →
      ∃ fd : FuncData, (∀ (s : Shared) (u : Value), BindsTo s fd ⟨[u], []⟩ [("script", u)]) ∧ ∀ base : Heap, (K w.params).In base → base.Ns mainGlobals mg → FnOk l.prog w (K w.params) mg base CX0 k fa fd ["script"] (spP (K w.params) sp_law)) :
    PySem.W.WalkO q loose XP YP l.row.toRowW d [] (fun f vs => PySem.call f vs) :=
  L2.walk_ofB (n := 63) (k := k) (x := "script") (CX := fun _ => CX0) (sp := fun w => spP (K w.params) sp_law) hn (by decide) hdf hr hY F (fun _ _ a ns hl hb _ hS => law_ends hl hb hS) fun _ _ _ _ _ z => z
end DL
end SDLboot
section SDLnorm
set_option maxHeartbeats 4000000
/-! How a reading is opened: each row turns a piece whose parts are known. -/
namespace DL
open PySem PySem.Spec PyProof.Rows L2
section
variable {α : Type} {Q : D → Prop} {env : Ev} {De : EndsD} {R : Rs → Ev → Prop} {T : Bool → Ev → Prop} {ta tb tc : TD} {t u : TTd} {a : TAd}
theorem onD_s {x : α} {k : α → Prop} : onD (some x) k = k x := id rfl
theorem onD_n {k : α → Prop} : onD none k = False := id rfl
/-! operators -/
theorem fI_i {C : Int → Int → Prop} {g : Int → Int → Int} {i j : Int} : fI C g (.int i) (.int j) Q = (C i j ∧ Q (.int (g i j))) := id rfl
theorem fI0_i {g : Int → Int → Int} {i j : Int} : fI0 g (.int i) (.int j) Q = Q (.int (g i j)) := id rfl
theorem fB0_i {g : Int → Int → Bool} {i j : Int} : fB0 g (.int i) (.int j) Q = Q (.bool (g i j)) := id rfl
theorem fAdd_i {i j : Int} : fAdd (.int i) (.int j) Q = Q (.int (i + j)) := id rfl
theorem fAdd_s {i j : Str} : fAdd (.str i) (.str j) Q = (Fit (i.length + j.length) ∧ Q (.str (i ++ j))) := id rfl
theorem fAdd_t {i j : List D} : fAdd (.tuple i) (.tuple j) Q = (Fit (i.length + j.length) ∧ Q (.tuple (i ++ j))) := id rfl
theorem fAdd_l {i j : List D} : fAdd (.list i) (.list j) Q = (Fit (i.length + j.length) ∧ Q (.list (i ++ j))) := id rfl
theorem fMul_i {i j : Int} : fMul (.int i) (.int j) Q = (MulOk i j ∧ Q (.int (i * j))) := id rfl
theorem fIn_l {neg : Bool} {x : D} {ds : List D} : fIn neg x (.list ds) Q = ((SeqAt.shaped x = true ∧ PyData.canLayAll0 ds = true) ∧ Q (.bool (if neg then !ds.any (fun z => PyData.eqv z x) else ds.any fun z => PyData.eqv z x))) := id rfl
theorem fIn_t {neg : Bool} {x : D} {ds : List D} : fIn neg x (.tuple ds) Q = ((SeqAt.shaped x = true ∧ PyData.canLayAll0 ds = true) ∧ Q (.bool (if neg then !ds.any (fun z => PyData.eqv z x) else ds.any fun z => PyData.eqv z x))) := id rfl
theorem fIsN_n {x : D} : fIsN x .none Q = Q (.bool (isN x)) := id rfl
theorem fNoN_n {x : D} : fNoN x .none Q = Q (.bool (!isN x)) := id rfl
theorem isN_n : isN .none = true := id rfl
theorem isN_i {i : Int} : isN (.int i) = false := id rfl
theorem isN_t {i : List D} : isN (.tuple i) = false := id rfl
theorem isN_l {i : List D} : isN (.list i) = false := id rfl
theorem isN_s {i : Str} : isN (.str i) = false := id rfl
theorem fIx_l {xs : List D} {i : Int} : fIx (.list xs) (.int i) Q = onD (atI xs i) Q := id rfl
theorem fIx_t {xs : List D} {i : Int} : fIx (.tuple xs) (.int i) Q = onD (atI xs i) Q := id rfl
theorem fSl_l {xs : List D} {l h : Option Int} : fSl (.list xs) l h Q = Q (.list (cutD xs l h)) := id rfl
theorem fSl_t {xs : List D} {l h : Option Int} : fSl (.tuple xs) l h Q = Q (.tuple (cutD xs l h)) := id rfl
/-! what an expression gives -/
def tstB (r : Rs) (k : Bool → Prop) : Prop := match r with
  | .dat (.bool b) => k b
  | _ => False
theorem tstB_b {b : Bool} {k : Bool → Prop} : tstB (.dat (.bool b)) k = k b := id rfl
theorem dTst_eq : dTst ta env T = ta env fun r e => tstB r fun b => T b e := by
  unfold dTst
  congr
def thenB (b : Bool) (p q : Prop) : Prop := match b with
  | true => p
  | false => q
theorem thenB_t {p q : Prop} : thenB true p q = p := id rfl
theorem thenB_f {p q : Prop} : thenB false p q = q := id rfl
theorem thenB_of {b : Bool} {p q : Prop} (h1 : b = true → p) (h2 : b = false → q) : thenB b p q := by
  cases b
  · exact h2 rfl
  · exact h1 rfl
theorem dAndT_eq : dAndT t u env T = t env fun b e => thenB b (u e T) (T false e) := by
  unfold dAndT
  congr
theorem dOrT_eq : dOrT t u env T = t env fun b e => thenB b (T true e) (u e T) := by
  unfold dOrT
  congr
theorem dAndV_eq : dAndV ta tb env R = ta env fun r e => tstB r fun b => thenB b (tb e R) (R (.dat (.bool false)) e) := by
  unfold dAndV
  congr
  funext r e
  rcases r with (_ | b | _ | _ | _ | _ | _) | _ <;> first | rfl | (cases b <;> rfl)
theorem dOrV_eq : dOrV ta tb env R = ta env fun r e => tstB r fun b => thenB b (R (.dat (.bool true)) e) (tb e R) := by
  unfold dOrV
  congr
  funext r e
  rcases r with (_ | b | _ | _ | _ | _ | _) | _ <;> first | rfl | (cases b <;> rfl)
theorem dNotV_eq : dNotV ta env R = ta env fun r e => tstB r fun b => R (.dat (.bool (!b))) e := id rfl
theorem dIfE_eq : dIfE t ta tb env R = t env fun b e => thenB b (ta e R) (tb e R) := by
  unfold dIfE
  congr
theorem dIf_eq {x y : TSd} : dIf t x y De env = t env fun b e => thenB b (x De e) (y De e) := by
  unfold dIf
  congr
def negD (x : D) (k : Int → Prop) : Prop := match x with
  | .int i => k i
  | _ => False
theorem negD_i {i : Int} {k : Int → Prop} : negD (.int i) k = k i := id rfl
theorem dNeg_eq : dNeg ta env R = ta env fun r e => onD (see e r) fun x => negD x fun i => R (.dat (.int (-i))) e := by
  unfold dNeg
  congr
theorem dPart_eq {P : Option Int → Ev → Prop} : dPart ta env P = ta env fun r e => onD (see e r) fun x => negD x fun i => P (some i) e := by
  unfold dPart
  congr
theorem see_d {d : D} : see env (.dat d) = some d := id rfl
theorem seeL_n : seeL env [] = some [] := id rfl
def consO (x : Option D) (xs : Option (List D)) : Option (List D) := match x, xs with
  | some d, some ds => some (d :: ds)
  | _, _ => none
theorem consO_s {d : D} {ds : List D} : consO (some d) (some ds) = some (d :: ds) := id rfl
theorem seeL_c {r : Rs} {rs : List Rs} : seeL env (r :: rs) = consO (see env r) (seeL env rs) := id rfl
theorem frzR_d {d : D} {k : D → Ev → Prop} : frzR env (.dat d) k = k d env := id rfl
theorem frzL_n {k : List D → Ev → Prop} : frzL env [] k = k [] env := by unfold frzL; rfl
theorem frzL_c {r : Rs} {rs : List Rs} {k : List D → Ev → Prop} : frzL env (r :: rs) k = frzR env r fun d e => frzL e rs fun ds e' => k (d :: ds) e' := by
  conv => lhs; unfold frzL
def seeE (e : Option En) : Option D := match e with
  | some (.ob _ (.lst xs)) => some (.list xs)
  | some (.dat d) => some d
  | _ => none
theorem see_s {i : Nat} : see env (.sl i) = seeE env[i]? := id rfl
theorem seeE_o {p : Bool} {xs : List D} : seeE (some (.ob p (.lst xs))) = some (.list xs) := id rfl
theorem seeE_d {d : D} : seeE (some (.dat d)) = some d := id rfl
def varE (e : Option En) (i : Nat) (k : Rs → Prop) : Prop := match e with
  | some (.dat d) => k (.dat d)
  | some (.ob _ _) => k (.sl i)
  | _ => False
theorem varE_d {d : D} {i : Nat} {k : Rs → Prop} : varE (some (.dat d)) i k = k (.dat d) := id rfl
theorem varE_o {p : Bool} {o : Ob} {i : Nat} {k : Rs → Prop} : varE (some (.ob p o)) i k = k (.sl i) := id rfl
theorem dVar_eq {i : Nat} : dVar i env R = varE env[i]? i fun r => R r env := id rfl
def frzE (e : Option En) (k1 k2 : D → Prop) : Prop := match e with
  | some (.dat d) => k1 d
  | some (.ob false (.lst xs)) => k2 (.list xs)
  | _ => False
theorem frzE_d {d : D} {k1 k2 : D → Prop} : frzE (some (.dat d)) k1 k2 = k1 d := id rfl
theorem frzE_o {xs : List D} {k1 k2 : D → Prop} : frzE (some (.ob false (.lst xs))) k1 k2 = k2 (.list xs) := id rfl
theorem frzR_s {i : Nat} {k : D → Ev → Prop} : frzR env (.sl i) k = frzE env[i]? (fun d => k d env) (fun d => k d (env.set i (.dat d))) := id rfl
/-! new things -/
def lstO (o : Ob) (k : List D → Prop) : Prop := match o with
  | .lst xs => k xs
  | _ => False
theorem lstO_l {xs : List D} {k : List D → Prop} : lstO (.lst xs) k = k xs := id rfl
theorem dFrz_eq {x : TOd} : dFrz x env R = x env fun o e => lstO o fun xs => R (.dat (.list xs)) e := by
  unfold dFrz
  congr
/-! calls -/
def rtD (r : Rt) (k : D → Prop) : Prop := match r with
  | .dat d => k d
  | .ob _ => False
def rtO (r : Rt) (k : Ob → Prop) : Prop := match r with
  | .ob d => k d
  | .dat _ => False
theorem rtD_d {d : D} {k : D → Prop} : rtD (.dat d) k = k d := id rfl
theorem rtO_o {d : Ob} {k : Ob → Prop} : rtO (.ob d) k = k d := id rfl
theorem dCallP_eq {S : SpP} : dCallP S a env R = a env fun rs e1 => frzL e1 rs fun ds e2 => S ds fun rt => rtD rt fun d => R (.dat d) e2 := id rfl
theorem dCallPO_eq {S : SpP} {k : Ob → Ev → Prop} : dCallPO S a env k = a env fun rs e1 => frzL e1 rs fun ds e2 => S ds fun rt => rtO rt fun d => k d e2 := by
  unfold dCallPO
  congr
def ownE (e : Option En) (k : Bool → Ob → Prop) : Prop := match e with
  | some (.ob p o) => k p o
  | _ => False
theorem ownE_o {p : Bool} {o : Ob} {k : Bool → Ob → Prop} : ownE (some (.ob p o)) k = k p o := id rfl
def slotR (rs : List Rs) (k : Nat → List Rs → Prop) : Prop := match rs with
  | .sl j :: rs => k j rs
  | _ => False
theorem slotR_s {j : Nat} {rs : List Rs} {k : Nat → List Rs → Prop} : slotR (.sl j :: rs) k = k j rs := id rfl
theorem dCallM_eq {S : SpM} : dCallM S a env R = a env fun rs e1 => slotR rs fun j rs => frzL e1 rs fun ds e2 => ownE e2[j]? fun p o => S ds o fun rt o' => rtD rt fun d => R (.dat d) (e2.set j (.ob p o')) := by
  unfold dCallM
  congr
theorem dCallMO_eq {S : SpM} {k : Ob → Ev → Prop} : dCallMO S a env k = a env fun rs e1 => slotR rs fun j rs => frzL e1 rs fun ds e2 => ownE e2[j]? fun p o => S ds o fun rt o' => rtO rt fun d => k d (e2.set j (.ob p o')) := by
  unfold dCallMO
  congr
def lstE (e : Option En) (k : Bool → List D → Prop) : Prop := match e with
  | some (.ob p (.lst xs)) => k p xs
  | _ => False
theorem lstE_o {p : Bool} {xs : List D} {k : Bool → List D → Prop} : lstE (some (.ob p (.lst xs))) k = k p xs := id rfl
theorem dMt_eq {i : Nat} {fm : List D → List D → (D → List D → Prop) → Prop} : dMt i fm a env R = lstE env[i]? fun _ _ => a env fun rs e1 => frzL e1 rs fun ds e2 => lstE e2[i]? fun p xs => fm xs ds fun z xs' => R (.dat z) (e2.set i (.ob p (.lst xs'))) := id rfl
theorem dMt0_eq {i : Nat} {fm : List D → List D → (D → List D → Prop) → Prop} : dMt0 i fm env R = lstE env[i]? fun p xs => fm xs [] fun z xs' => R (.dat z) (env.set i (.ob p (.lst xs'))) := id rfl
theorem fmAppend_d {xs : List D} {d : D} {k : D → List D → Prop} : fmAppend xs [d] k = (Few xs.length ∧ k .none (xs ++ [d])) := id rfl
/-! statements -/
def datE (e : Option En) (k : D → Prop) : Prop := match e with
  | some (.dat d) => k d
  | _ => False
theorem datE_d {d : D} {k : D → Prop} : datE (some (.dat d)) k = k d := id rfl
theorem dAug_eq {i : Nat} {f : D → D → (D → Prop) → Prop} : dAug i f ta De env = datE env[i]? fun x => ta env fun r e1 => onD (see e1 r) fun y => f x y fun z => De.nx (e1.set i (.dat z)) := id rfl
def two (ds : List D) (k : D → D → Prop) : Prop := match ds with
  | [d, d'] => k d d'
  | _ => False
theorem two_d {d d' : D} {k : D → D → Prop} : two [d, d'] k = k d d' := id rfl
theorem dPar_eq {i j : Nat} : dPar i j a De env = a env fun rs e1 => frzL e1 rs fun ds e2 => two ds fun d d' => De.nx ((e2.set i (.dat d)).set j (.dat d')) := by
  unfold dPar
  congr
theorem dRetV_eq {i : Nat} : dRetV i De env = (match env[i]? with | some (.ob false o) => De.rt (.ob o) env | _ => False) := id rfl
theorem gdTup_t {n : Nat} {v : TGsd} {xs : List D} {k : Ev → Prop} : gdTup n v (.tuple xs) env k = (xs.length = n ∧ v xs env k) := id rfl
theorem gdTup_l {n : Nat} {v : TGsd} {xs : List D} {k : Ev → Prop} : gdTup n v (.list xs) env k = (xs.length = n ∧ v xs env k) := id rfl
theorem gdCons_c {g : TGd} {v : TGsd} {d : D} {r : List D} {k : Ev → Prop} : gdCons g v (d :: r) env k = g d env fun e => v r e k := id rfl
theorem gdNil_n {k : Ev → Prop} : gdNil [] env k = k env := id rfl
def subE (e : Option En) (k : Bool → List D → Prop) : Prop := lstE e k
theorem gdSub_eq {d : D} {k : Ev → Prop} : gdSub ta tb d env k = ta env fun r e1 => tb e1 fun s e2 => slotR [r] fun j _ => lstE e2[j]? fun p xs => onD (see e2 s) fun y => negD y fun i => onD (ixN xs.length i) fun m => k (e2.set j (.ob p (.lst (xs.set m d)))) := by
  have : ∀ (r : Rs) (s : Rs) (e2 : Ev), (match r with
      | .sl j => match e2[j]? with
        | some (.ob p (.lst xs)) => onD (see e2 s) fun y => match y with
          | .int i => onD (ixN xs.length i) fun m => k (e2.set j (.ob p (.lst (xs.set m d))))
          | _ => False
        | _ => False
      | _ => False) = slotR [r] fun j _ => lstE e2[j]? fun p xs => onD (see e2 s) fun y => negD y fun i => onD (ixN xs.length i) fun m => k (e2.set j (.ob p (.lst (xs.set m d)))) := fun r s e2 => by
    cases r <;> rfl
  exact congrArg (ta env) (funext fun r => funext fun e1 => congrArg (tb e1) (funext fun s => funext fun e2 => this r s e2))
theorem seqD_l {xs : List D} {k : List D → Prop} : seqD (.list xs) k = k xs := id rfl
theorem seqD_t {xs : List D} {k : List D → Prop} : seqD (.tuple xs) k = k xs := id rfl
def rng1 (ds : List D) (k : Int → Prop) : Prop := match ds with
  | [.int j] => k j
  | _ => False
def rng2 (ds : List D) (k : Int → Int → Prop) : Prop := match ds with
  | [.int i, .int j] => k i j
  | _ => False
theorem rng1_i {j : Int} {k : Int → Prop} : rng1 [.int j] k = k j := id rfl
theorem rng2_i {i j : Int} {k : Int → Int → Prop} : rng2 [.int i, .int j] k = k i j := id rfl
theorem idRng1_eq {k : List D → Ev → Prop} : idRng1 a env k = a env fun rs e1 => onD (seeL e1 rs) fun ds => rng1 ds fun j => inRg j ∧ k (rngD 0 j.toNat) e1 := by
  unfold idRng1
  congr
theorem idRng2_eq {k : List D → Ev → Prop} : idRng2 a env k = a env fun rs e1 => onD (seeL e1 rs) fun ds => rng2 ds fun i j => (inRg i ∧ inRg j) ∧ k (rngD i (j - i).toNat) e1 := by
  unfold idRng2
  congr
theorem fLen_l {xs : List D} : fLen [.list xs] Q = Q (.int (xs.length : Nat)) := id rfl
theorem fLen_t {xs : List D} : fLen [.tuple xs] Q = Q (.int (xs.length : Nat)) := id rfl
theorem fInt1_i {i : Int} : fInt1 [.int i] Q = Q (.int i) := id rfl
theorem fInt1_b {i : Bool} : fInt1 [.bool i] Q = Q (.int (if i then 1 else 0)) := id rfl
theorem fInt2_i {g : Int → Int → Int} {i j : Int} : fInt2 g [.int i, .int j] Q = Q (.int (g i j)) := id rfl
theorem fAbs_i {i : Int} : fAbs [.int i] Q = Q (.int (if i < 0 then -i else i)) := id rfl
theorem fSum_l {xs : List D} : fSum [.list xs] Q = onD (ints? xs) fun is => Q (.int is.sum) := id rfl
theorem fAny_l {xs : List D} : fAny [.list xs] Q = onD (bools? xs) fun is => Q (.bool (is.any id)) := id rfl
theorem fAll_l {xs : List D} : fAll [.list xs] Q = onD (bools? xs) fun is => Q (.bool (is.all id)) := id rfl
theorem fListOf_l {xs : List D} {k : Ob → Prop} : fListOf [.list xs] k = k (.lst xs) := id rfl
theorem fListOf_t {xs : List D} {k : Ob → Prop} : fListOf [.tuple xs] k = k (.lst xs) := id rfl
theorem fTupOf_l {xs : List D} : fTupOf [.list xs] Q = Q (.tuple xs) := id rfl
theorem fTupOf_t {xs : List D} : fTupOf [.tuple xs] Q = Q (.tuple xs) := id rfl
def chainB (z : D) (k1 k2 : Prop) : Prop := match z with
  | .bool true => k1
  | .bool false => k2
  | _ => False
theorem chainB_b {b : Bool} {k1 k2 : Prop} : chainB (.bool b) k1 k2 = thenB b k1 k2 := by cases b <;> rfl
theorem dChain_eq {f g : D → D → (D → Prop) → Prop} : dChain f g ta tb tc env R = ta env fun r1 e1 => tb e1 fun r2 e2 => onD (see e2 r1) fun x => onD (see e2 r2) fun y => f x y fun z => chainB z (tc e2 fun r3 e3 => onD (see e3 r2) fun y => onD (see e3 r3) fun z => g y z fun z' => R (.dat z') e3) (R (.dat (.bool false)) e2) := by
  unfold dChain
  congr
end
theorem few {n : Nat} (h : n < 100000) : Few n := ⟨h⟩
theorem fit {n : Nat} (h : n ≤ 16777216) : Fit n := ⟨by rw [sizeLine_eq]; exact h⟩
theorem few1 : Few 1 := ⟨by decide⟩
theorem few2 : Few 2 := ⟨by decide⟩
theorem few3 : Few 3 := ⟨by decide⟩
theorem few4 : Few 4 := ⟨by decide⟩
theorem few5 : Few 5 := ⟨by decide⟩
theorem few0 : Few 0 := ⟨by decide⟩
end DL
end SDLnorm
section SDLlaw
set_option maxHeartbeats 4000000
/-! The laws' own draws. -/
namespace DL
open PySem PySem.Spec PyProof.Rows L2
local macro_rules | `(tactic| walk_at "d") => `(tactic| simp only [dSeq, dAsg, dAsgO, dAsgG, dCall, dCallO, dCallP, dCallPO, dCallM, dCallMO, dCons, dNil, dVar, dC, dBin, dTst, dIf, dNext, dRet, dRetO, dRetV, dTup, dLst, dFrz, dNeg, dAndT, dOrT, dNotT, dAndV, dOrV, dNotV, dIfE, dChain, dDrop, dMt, dMt0, fmAppend, dAug, dPar, dParO, dParOD, dParDO, gdName, gdTup, gdCons, gdNil, gdSub, dFor, dWhile, idSeq, seqD, idRng1, idRng2, fI, fI0, fB0, fAdd, fMul, fInt1, fInt2, fAbs, fLen, fSum, fAny, fAll, fEq, fNe, fIsN, fNoN, fIn, fIx, fSl, dSl, dPart, dPartN, fListOf, fTupOf, frzR, frzL, seeL, see, onD, outM, dComp, dYes, List.getElem?_cons_zero, List.getElem?_cons_succ, List.set_cons_zero, List.set_cons_succ, gLt, gLe, gGt, gGe, gGcd, gMax, gMin])

local macro_rules | `(tactic| walk_at "dl") => `(tactic| simp only [List.length_cons, List.length_nil, Nat.zero_add, Nat.reduceAdd, true_and, few2])

/-! ### items -/
theorem atI_0 {α : Type} (x : α) (xs : List α) : atI (x :: xs) 0 = some x := by
  simp [atI, ixN]
theorem atI_1 {α : Type} (x y : α) (xs : List α) : atI (x :: y :: xs) 1 = some y := by
  simp only [atI, ixN, List.length_cons]
  rw [if_pos (by decide), if_pos (by omega)]
  rfl
theorem atI_2 {α : Type} (x y z : α) (xs : List α) : atI (x :: y :: z :: xs) 2 = some z := by
  simp only [atI, ixN, List.length_cons]
  rw [if_pos (by decide), if_pos (by omega)]
  rfl
theorem atI_3 {α : Type} (x y z u : α) (xs : List α) : atI (x :: y :: z :: u :: xs) 3 = some u := by
  simp only [atI, ixN, List.length_cons]
  rw [if_pos (by decide), if_pos (by omega)]
  rfl
theorem atI_4 {α : Type} (x y z u v : α) (xs : List α) : atI (x :: y :: z :: u :: v :: xs) 4 = some v := by
  simp only [atI, ixN, List.length_cons]
  rw [if_pos (by decide), if_pos (by omega)]
  rfl
theorem atI_some {α : Type} {xs : List α} {i : Int} (h0 : 0 ≤ i) (h1 : i < xs.length) : atI xs i = xs[i.toNat]? := by
  simp only [atI, ixN]
  rw [if_pos h0, if_pos h1]
  rfl
theorem atI_mem {α : Type} {xs : List α} {i : Int} (h0 : 0 ≤ i) (h1 : i < xs.length) : ∃ x, atI xs i = some x ∧ x ∈ xs := by
  have lt : i.toNat < xs.length := by omega
  refine ⟨xs[i.toNat], ?_, List.getElem_mem lt⟩
  rw [atI_some h0 h1, List.getElem?_eq_getElem lt]
theorem atI_neg1 {α : Type} (xs : List α) (x : α) : atI (xs ++ [x]) (-1) = some x := atI_last xs x
theorem ixN_0 (n : Nat) : ixN (n + 1) 0 = some 0 := by simp [ixN]
theorem ixN_1 (n : Nat) : ixN (n + 1 + 1) 1 = some 1 := by
  simp only [ixN]
  rw [if_pos (by decide), if_pos (by omega)]
  rfl
theorem ixN_nat {n : Nat} {i : Int} (h0 : 0 ≤ i) (h1 : i < n) : ixN n i = some i.toNat := by
  simp only [ixN]
  rw [if_pos h0, if_pos h1]

/-! ### sizes -/
theorem bits_le {x : Int} {n : Nat} (h : x.natAbs < 2 ^ n) : Builtin.Int.intBits x ≤ n := by
  unfold Builtin.Int.intBits
  split
  · exact Nat.zero_le _
  · rename_i hx
    have : x.natAbs ≠ 0 := fun z => hx (by rw [Int.natAbs_eq_zero.mp z]; rfl)
    exact (Nat.log2_lt this).mpr h
theorem lt_bits {x : Int} {n : Nat} (h : Builtin.Int.intBits x ≤ n) : x.natAbs < 2 ^ n := by
  unfold Builtin.Int.intBits at h
  split at h
  · rename_i hx
    have : x = 0 := by simpa using hx
    subst this
    exact Nat.two_pow_pos n
  · rename_i hx
    have : x.natAbs ≠ 0 := fun z => hx (by rw [Int.natAbs_eq_zero.mp z]; rfl)
    exact (Nat.log2_lt this).mp h
theorem mul_ok {x y : Int} (h : Builtin.Int.intBits x + Builtin.Int.intBits y ≤ 100000000) : MulOk x y := by
  have e : bitsLine = 134217728 := by decide
  constructor
  unfold IntMulOk
  intro z
  rw [Bool.and_eq_true] at z
  have z2 := z.2
  unfold Builtin.Int.intTooBig at z2
  have z3 := of_decide_eq_true z2
  rw [e] at z3
  omega
theorem mul_okL {x y : Int} (h1 : -18446744073709551616 < x) (h2 : x < 18446744073709551616) : MulOk x y := ⟨.of_left (bits_le (n := 64) (by show x.natAbs < 18446744073709551616; omega))⟩
theorem mul_okR {x y : Int} (h1 : -18446744073709551616 < y) (h2 : y < 18446744073709551616) : MulOk x y := ⟨.of_right (bits_le (n := 64) (by show y.natAbs < 18446744073709551616; omega))⟩
theorem mul_okB {x y : Int} {m n : Nat} (h1 : x.natAbs < 2 ^ m) (h2 : y.natAbs < 2 ^ n) (h : m + n ≤ 100000000) : MulOk x y := mul_ok (by have := bits_le h1; have := bits_le h2; omega)
theorem div_okB {x y : Int} {n : Nat} (h0 : y ≠ 0) (h : y.natAbs < 2 ^ n) (hn : n ≤ 9000) : DivOk x y := ⟨h0, Nat.lt_of_lt_of_le ((Nat.log2_lt (fun z => h0 (Int.natAbs_eq_zero.mp z))).mpr h) hn⟩
theorem div_okS {x y : Int} (h0 : 0 < y) (h : y < 1267650600228229401496703205376) : DivOk x y := div_okB (n := 100) (by omega) (by show y.natAbs < 1267650600228229401496703205376; omega) (by decide)

/-! ### the state -/
def Stt (o : Ob) : Prop := ∃ s0 s1 : Int, o = .lst [.int s0, .int s1] ∧ 0 ≤ s0 ∧ 0 ≤ s1 ∧ Builtin.Int.intBits s1 ≤ 1500000
inductive sp_law_draw : SpM
  | mk {many : Int} {o : Ob} {Q : Rt → Ob → Prop} : 0 < many → many < 1267650600228229401496703205376 → Stt o → (∀ d o', 0 ≤ d → d < many → Stt o' → Q (.dat (.int d)) o') → sp_law_draw [.int many] o Q
theorem hl_law_draw : ∀ ds o Q, sp_law_draw ds o Q → ds.length + 1 = 2 := fun ds o Q h => by cases h; rfl
def t_law_draw : TSd := (dSeq (dIf (dTst (dBin (fB0 gLt) (dBin fIx (dVar 0) (dC (.int 0))) (dVar 1))) (dSeq (dAsg 2 (dBin (fI (fun _ j => j ≠ 0) fun i j => i.fmod j) (dCall fInt1 (dCons (dBin fAdd (dBin fAdd (dBin fMul (dBin fIx (dVar 0) (dC (.int 1))) (dBin fIx (dVar 0) (dC (.int 1)))) (dBin fMul (dC (.int 48271)) (dBin fIx (dVar 0) (dC (.int 1))))) (dC (.int 12345))) dNil)) (dC (.int 2305843009213693951))))
  (dSeq (dAsg 3 (dBin (fI (fun _ j => j ≠ 0) fun i j => i.fmod j) (dCall fInt1 (dCons (dBin fAdd (dBin fAdd (dBin fMul (dVar 2) (dVar 2)) (dBin fMul (dC (.int 69621)) (dVar 2))) (dC (.int 77))) dNil)) (dC (.int 618970019642690137449562111))))
  (dSeq (dAsgG (dVar 3) (gdSub (dVar 0) (dC (.int 1))))
  (dAsgG (dBin fAdd (dVar 1) (dBin (fI (fun _ j => j ≠ 0) fun i j => i.fmod j) (dCall fInt1 (dCons (dBin fAdd (dBin fMul (dVar 3) (dVar 3)) (dVar 2)) dNil)) (dC (.int 162259276829213363391578010288127)))) (gdSub (dVar 0) (dC (.int 0))))))) dNext)
  (dSeq (dAsg 4 (dBin (fI (fun _ j => j ≠ 0) fun i j => i.fmod j) (dCall fInt1 (dCons (dBin fIx (dVar 0) (dC (.int 0))) dNil)) (dVar 1)))
  (dSeq (dAsgG (dBin (fI DivOk fun i j => i.fdiv j) (dBin fIx (dVar 0) (dC (.int 0))) (dVar 1)) (gdSub (dVar 0) (dC (.int 0))))
  (dRet (dVar 4)))))
abbrev N_law_draw : List Str := ["state", "many", "one", "two", "digit"]
theorem sm_law_draw : ∀ ds o Q, sp_law_draw ds o Q → t_law_draw { nx := outM Q (.dat .none), rt := outM Q } (startM0 N_law_draw ds o) := by
  rintro _ _ Q (@⟨many, o, _, h0, h1, ⟨s0, s1, rfl, p0, p1, hb⟩, k⟩)
  show t_law_draw _ [.ob true (.lst [.int s0, .int s1]), .dat (.int many), .no, .no, .no]
  unfold t_law_draw
  have hmany : many ≠ 0 := by omega
  have dig : ∀ s : Int, 0 ≤ s.fmod many ∧ s.fmod many < many := fun s => ⟨Int.fmod_nonneg_of_pos s h0, Int.fmod_lt_of_pos s h0⟩
  have dv : ∀ s : Int, 0 ≤ s → 0 ≤ s.fdiv many := fun s hs => Int.fdiv_nonneg hs (by omega)
  walk_at "d"
  simp only [atI_0, atI_1, ixN_0, ixN_1, List.length_cons, List.length_nil, List.getElem?_cons_zero, List.getElem?_cons_succ, List.set_cons_zero, List.set_cons_succ]
  by_cases hlt : s0 < many
  · rw [decide_eq_true hlt]
    have h2 : ∀ z : Int, 0 ≤ z.fmod 2305843009213693951 ∧ z.fmod 2305843009213693951 < 2305843009213693951 := fun z => ⟨Int.fmod_nonneg_of_pos z (by decide), Int.fmod_lt_of_pos z (by decide)⟩
    have h3 : ∀ z : Int, 0 ≤ z.fmod 618970019642690137449562111 ∧ z.fmod 618970019642690137449562111 < 618970019642690137449562111 := fun z => ⟨Int.fmod_nonneg_of_pos z (by decide), Int.fmod_lt_of_pos z (by decide)⟩
    have h4 : ∀ z : Int, 0 ≤ z.fmod 162259276829213363391578010288127 := fun z => Int.fmod_nonneg_of_pos z (by decide)
    refine ⟨mul_ok (by omega), mul_okL (by decide) (by decide), by decide, ?_⟩
    generalize e1 : (s1 * s1 + 48271 * s1 + 12345).fmod 2305843009213693951 = one
    have b1 := h2 (s1 * s1 + 48271 * s1 + 12345)
    rw [e1] at b1
    refine ⟨mul_okL (by omega) (by omega), mul_okL (by decide) (by decide), by decide, ?_⟩
    generalize e2 : (one * one + 69621 * one + 77).fmod 618970019642690137449562111 = two
    have b2 := h3 (one * one + 69621 * one + 77)
    rw [e2] at b2
    have n2 : two.natAbs < 2 ^ 90 := by show two.natAbs < 1237940039285380274899124224; omega
    refine ⟨mul_okB n2 n2 (by decide), by decide, hmany, div_okS h0 h1, ?_⟩
    refine k _ _ (dig _).1 (dig _).2 ⟨_, two, rfl, dv _ ?_, b2.1, Nat.le_trans (bits_le n2) (by decide)⟩
    have := h4 (two * two + one)
    omega
  · rw [decide_eq_false hlt]
    exact ⟨hmany, div_okS h0 h1, k _ _ (dig _).1 (dig _).2 ⟨_, s1, rfl, dv _ p0, p1, hb⟩⟩
inductive sp_law_state : SpP
  | mk {ns : List Int} {k salt : Int} {Q : Rt → Prop} : 0 ≤ k → k ≤ 1000 → 0 ≤ salt → salt ≤ 1000 → ns.length ≤ 63 → (∀ z ∈ ns, Builtin.Int.intBits z ≤ 1048576) → (∀ o, Stt o → Q (.ob o)) → sp_law_state [.list (ns.map .int), .int k, .int salt] Q
theorem hl_law_state : ∀ ds Q, sp_law_state ds Q → ds.length = 3 := fun ds Q h => by cases h; rfl
def t_law_state : TSd := (dSeq (dAsg 3 (dC (.int 0)))
  (dSeq (dIf (dTst (dBin (fB0 gGt) (dCall fLen (dCons (dVar 0) dNil)) (dC (.int 0)))) (dAsg 3 (dCall fInt1 (dCons (dBin fIx (dVar 0) (dBin (fI (fun _ j => j ≠ 0) fun i j => i.fmod j) (dCall fInt1 (dCons (dVar 1) dNil)) (dCall fLen (dCons (dVar 0) dNil)))) dNil))) dNext)
  (dSeq (dIf (dTst (dBin (fB0 gLt) (dVar 3) (dC (.int 0)))) (dAsg 3 (dBin (fI0 fun i j => i - j) (dC (.int 1)) (dBin fMul (dC (.int 2)) (dVar 3)))) dNext)
  (dSeq (dIf (dAndT (dTst (dBin (fB0 gLt) (dVar 1) (dCall fLen (dCons (dVar 0) dNil)))) (dTst (dBin (fB0 gGe) (dVar 3) (dBin (fI PowOk fun i j => i ^ j.toNat) (dC (.int 10)) (dC (.int 18)))))) (dRetO (dLst (dCons (dVar 3) (dCons (dBin fAdd (dVar 2) (dC (.int 1))) dNil)))) dNext)
  (dRetO (dLst (dCons (dC (.int 0)) (dCons (dBin fAdd (dBin fAdd (dBin fAdd (dBin fMul (dVar 3) (dC (.int 61))) (dBin fMul (dC (.int 7919)) (dVar 1))) (dBin fMul (dC (.int 104729)) (dVar 2))) (dC (.int 1))) dNil))))))))
abbrev N_law_state : List Str := ["script", "k", "salt", "cell"]
theorem bits_lin {c k s : Int} {n : Nat} (hn : 10 ≤ n) (hc : c.natAbs < 2 ^ n) (hk : 0 ≤ k ∧ k ≤ 1000) (hs : 0 ≤ s ∧ s ≤ 1000) : (c * 61 + 7919 * k + 104729 * s + 1).natAbs < 2 ^ (n + 28) := by
  have e : 2 ^ (n + 28) = 2 ^ n * 268435456 := by rw [Nat.pow_add]
  have h10 : 2 ^ 10 ≤ 2 ^ n := Nat.pow_le_pow_right (by decide) hn
  rw [e]
  generalize 2 ^ n = z at *
  omega
theorem bits_neg {c : Int} {n : Nat} (hc : c.natAbs < 2 ^ n) : (1 - 2 * c).natAbs < 2 ^ (n + 2) := by
  have e : 2 ^ (n + 2) = 2 ^ n * 4 := by rw [Nat.pow_add]
  rw [e]
  generalize 2 ^ n = z at *
  omega
/-- what follows is shown once, for all states that the first part may leave -/
theorem seq_i {t u : TSd} {De : EndsD} {env : Ev} {ι : Type} (sh : ι → Ev) (P : ι → Prop) (tail : ∀ i, P i → u De (sh i)) (head : ∀ N : Ev → Prop, (∀ i, P i → N (sh i)) → t { De with nx := N } env) : dSeq t u De env := head (u De) tail
theorem sm_law_state : ∀ ds Q, sp_law_state ds Q → t_law_state { nx := fun _ => Q (.dat .none), rt := fun r _ => Q r } (startE N_law_state ds) := by
  rintro _ Q (@⟨ns, k, salt, _, k0, k1, s0, s1, hl, hb, q⟩)
  show t_law_state _ [.dat (.list (ns.map .int)), .dat (.int k), .dat (.int salt), .no]
  unfold t_law_state
  refine seq_i (fun _ : Unit => [.dat (.list (ns.map .int)), .dat (.int k), .dat (.int salt), .dat (.int 0)]) (fun _ => True) (fun _ _ => ?_) (fun N hN => hN () trivial)
  refine seq_i (fun c : Int => [.dat (.list (ns.map .int)), .dat (.int k), .dat (.int salt), .dat (.int c)]) (fun c => c.natAbs < 2 ^ 1048576) (fun c hc => ?_) (fun N hN => ?_)
  · refine seq_i (fun c : Int => [.dat (.list (ns.map .int)), .dat (.int k), .dat (.int salt), .dat (.int c)]) (fun c => c.natAbs < 2 ^ 1048578 ∧ 0 ≤ c) (fun c ⟨hc, c0⟩ => ?_) (fun N hN => ?_)
    · generalize hn : 1048578 = n at hc
      have n10 : 10 ≤ n := by omega
      have fin1 : Q (.ob (.lst [.int c, .int (salt + 1)])) := q _ ⟨c, salt + 1, rfl, c0, by omega, Nat.le_trans (bits_le (n := 64) (by show _ < 18446744073709551616; omega)) (by decide)⟩
      have fin2 : Q (.ob (.lst [.int 0, .int (c * 61 + 7919 * k + 104729 * salt + 1)])) := q _ ⟨0, _, rfl, by decide, by omega, Nat.le_trans (bits_le (bits_lin n10 hc ⟨k0, k1⟩ ⟨s0, s1⟩)) (by omega)⟩
      have m1 : MulOk c 61 := mul_okR (by decide) (by decide)
      have m2 : MulOk 7919 k := mul_okL (by decide) (by decide)
      have m3 : MulOk 104729 salt := mul_okL (by decide) (by decide)
      have c1 : PowOk 10 18 := ⟨⟨by decide, by decide, by decide⟩⟩
      walk_at "d"
      walk_at "dl"
      repeat' first
        | split
        | exact fin1
        | exact fin2
        | refine ⟨m1, m2, m3, ?_⟩
        | refine ⟨c1, ?_⟩
    · generalize hn : 1048576 = n at hc
      have e2 : 1048578 = n + 2 := by omega
      rw [e2] at hN
      walk_at "d"
      split
      · rename_i h
        exact ⟨mul_okL (by decide) (by decide), hN _ ⟨bits_neg hc, by have := of_decide_eq_true h; omega⟩⟩
      · rename_i h
        have e : 2 ^ (n + 2) = 2 ^ n * 4 := by rw [Nat.pow_add]
        refine hN _ ⟨by rw [e]; generalize 2 ^ n = z at *; omega, by have := of_decide_eq_false h; omega⟩
  · walk_at "d"
    split
    · rename_i h
      have h := of_decide_eq_true h
      have hlen : (ns.map PyData.int).length = ns.length := by simp
      refine ⟨by omega, ?_⟩
      have hp : (0 : Int) < ((ns.map PyData.int).length : Nat) := h
      obtain ⟨x, hx, hm⟩ := atI_mem (xs := ns.map PyData.int) (i := k.fmod ((ns.map PyData.int).length : Nat)) (Int.fmod_nonneg_of_pos _ hp) (Int.fmod_lt_of_pos _ hp)
      rw [hx]
      obtain ⟨z, hz, rfl⟩ := List.mem_map.mp hm
      exact hN z (lt_bits (hb z hz))
    · exact hN 0 (Nat.two_pow_pos _)
/-! ### loops by what holds -/
theorem forD_inv {g : TGd} {body : TSd} {De : EndsD} (I : Ev → Prop) : ∀ {ds : List D} {env : Ev}, I env → (∀ d ∈ ds, ∀ env, I env → ∀ N : Ev → Prop, (∀ e, I e → N e) → g d env fun e => body { De with nx := N, ct := N, bk := De.nx } e) → (∀ env, I env → De.nx env) → forD g body De ds env
  | [], env, h0, _, done => done env h0
  | d :: ds, env, h0, step, done => step d List.mem_cons_self env h0 _ fun e he => forD_inv I he (fun d hd => step d (List.mem_cons_of_mem _ hd)) done
theorem forD_rest {g : TGd} {body : TSd} {De : EndsD} (I : List D → Ev → Prop) : ∀ {ds : List D} {env : Ev}, I ds env → (∀ d r env, I (d :: r) env → ∀ N : Ev → Prop, (∀ e, I r e → N e) → g d env fun e => body { De with nx := N, ct := N, bk := De.nx } e) → (∀ env, I [] env → De.nx env) → forD g body De ds env
  | [], env, h0, _, done => done env h0
  | d :: ds, env, h0, step, done => step d ds env h0 _ fun e he => forD_rest I he step done
theorem compD_rest {g : TGd} {tt : TTd} {te : TD} {vs : List Nat} {Q : Ob → Ev → Prop} (I : List D → List D → Ev → Prop) : ∀ {ds acc : List D} {env : Ev}, I ds acc env → (∀ d r acc env, I (d :: r) acc env → ∀ N : List D → Ev → Prop, (∀ a e, I r a e → N a e) → g d (wipeE env vs) fun e1 => tt e1 fun b e2 => thenB b (te e2 fun r' e3 => frzR e3 r' fun y e4 => Few acc.length ∧ N (acc ++ [y]) (wipeE e4 vs)) (N acc (wipeE e2 vs))) → (∀ acc env, I [] acc env → Q (.lst acc) env) → compD g tt te vs Q ds acc env
  | [], acc, env, h0, _, done => done acc env h0
  | d :: ds, acc, env, h0, step, done => by
    have := step d ds acc env h0 (compD g tt te vs Q ds) fun a e he => compD_rest I he step done
    unfold compD
    refine cast (congrArg _ ?_) this
    funext e1
    congr
theorem mem_rng {lo : Int} {n : Nat} {d : D} (h : d ∈ rngD lo n) : ∃ i : Int, d = .int i ∧ lo ≤ i ∧ i < lo + n := by
  unfold rngD at h
  obtain ⟨j, hj, rfl⟩ := List.mem_map.mp h
  have := List.mem_range.mp hj
  exact ⟨_, rfl, by omega, by omega⟩
theorem rng_len (lo : Int) (n : Nat) : (rngD lo n).length = n := by simp [rngD]
theorem inRg_of {i : Int} (h1 : -1000000 ≤ i) (h2 : i ≤ 1000000) : inRg i := ⟨by omega, by omega⟩
theorem eqv_int (i j : Int) : PyData.eqv (.int i) (.int j) = (i == j) := by simp only [PyData.eqv]
theorem sh_int (i : Int) : SeqAt.shaped (.int i) = true := rfl
theorem sh_bool (i : Bool) : SeqAt.shaped (.bool i) = true := rfl
theorem eqv_bool (i j : Bool) : PyData.eqv (.bool i) (.bool j) = (i == j) := by simp only [PyData.eqv]
end DL
end SDLlaw
section SDLmore
set_option maxHeartbeats 4000000
/-! More of the language over the data layer: list(range). -/
namespace DL
open PySem PySem.Spec PyProof.Rows L2
section
variable {X : Cx} {e a b c : Expr} {es rest : List Expr} {pos : Pos} {ta tb tc td : TD}
def rgA1 (ta : TA) : L2.St → Hp → (Int → Int → Hp → Prop) → Prop := fun σ H Q => ta σ H fun vs H1 => ∃ n : Int, vs = [.int n] ∧ Q 0 n H1
def rgA2 (ta : TA) : L2.St → Hp → (Int → Int → Hp → Prop) → Prop := fun σ H Q => ta σ H fun vs H1 => ∃ i j : Int, vs = [.int i, .int j] ∧ Q i j H1
theorem prgA1 {t : TA} {p : Pos} (hg : Gl X "range") (hm : X.mg "range" = none) (ha : PA X [a] t) (hs : starEach [a] X.env = [(false, eval a X.env)] := by rfl) : PRg X (.Call (.Name "range" p) [a] [] pos) (rgA1 t) := by
  intro pins s σ H Q I h
  refine Call_ (ld_blt I hg hm boot_range (PyProof.Rows.callWith_type1 (thn (ha.run pos pins s σ H _ I h) fun us s1 ⟨vs, H1, I1, r1, q1⟩ => ?_) hs rfl))
  obtain ⟨n, rfl, q⟩ := q1
  cases r1 with
  | cons r rr =>
    cases rr
    obtain ⟨t, rfl⟩ := r
    exact call_range_1 ⟨_, 0, n, _, _, _, H1, rfl, IsRange.new _ _ _ _ _ _ _, I1.kept fun b u e => Heap.get?_push_of_some _ e, q⟩
theorem prgA2 {t : TA} {p : Pos} (hg : Gl X "range") (hm : X.mg "range" = none) (ha : PA X [a, b] t) (hs : starEach [a, b] X.env = [(false, eval a X.env), (false, eval b X.env)] := by rfl) (hs2 : starEach [b] X.env = [(false, eval b X.env)] := by rfl) :
    PRg X (.Call (.Name "range" p) [a, b] [] pos) (rgA2 t) := by
  intro pins s σ H Q I h
  refine Call_ (ld_blt I hg hm boot_range (PyProof.Rows.callWith_type1 (thn (ha.run pos pins s σ H _ I h) fun us s1 ⟨vs, H1, I1, r1, q1⟩ => ?_) (by rw [hs, hs2]) (by rw [hs2]; rfl)))
  obtain ⟨i, j, rfl, q⟩ := q1
  cases r1 with
  | cons r rr =>
    cases rr with
    | cons r' rr =>
      cases rr
      obtain ⟨t, rfl⟩ := r
      obtain ⟨t', rfl⟩ := r'
      exact call_range_2 ⟨_, i, j, _, _, _, H1, rfl, IsRange.new _ _ _ _ _ _ _, I1.kept fun b u e => Heap.get?_push_of_some _ e, q⟩
structure rgSz (a b : Int) : Prop where
  h : RgOk a b
theorem rgSz_of {a b : Int} (h1 : -1000000 ≤ a) (h2 : a ≤ 1000000) (h3 : -1000000 ≤ b) (h4 : b ≤ 1000000) : rgSz a b := ⟨by omega, by omega, by omega, by omega, by omega⟩
def dListRange1 (ta : TAd) : TOd := fun env Q => ta env fun rs e1 => onD (seeL e1 rs) fun ds => match ds with
  | [.int j] => rgSz 0 j ∧ Q (.lst (rngD 0 j.toNat)) e1
  | _ => False
def dListRange2 (ta : TAd) : TOd := fun env Q => ta env fun rs e1 => onD (seeL e1 rs) fun ds => match ds with
  | [.int i, .int j] => rgSz i j ∧ Q (.lst (rngD i (j - i).toNat)) e1
  | _ => False
theorem rg_rps {K : PySem.W.Frag} {F : Hp} (a b : Int) : RpA K F (rgV a b) (rngD a (b - a).toNat) := by
  unfold rgV rngD
  generalize List.range (b - a).toNat = xs
  induction xs with
  | nil => exact .nil
  | cons x xs ih => exact .cons (.int _) ih
theorem od_listRange1 {t : TAd} {p p' pos' : Pos} (hc : X.calm = true) (hg : Gl X "list") (hm : X.mg "list" = none) (hg2 : Gl X "range") (hm2 : X.mg "range" = none) (h : PAd X [a] t) (hs : starEach [a] X.env = [(false, eval a X.env)] := by rfl) (na : starEach [.Call (.Name "range" p') [a] [] pos'] X.env = (false, eval (.Call (.Name "range" p') [a] [] pos') X.env) :: starEach [] X.env := by rfl) :
    POd X (.Call (.Name "list" p) [.Call (.Name "range" p') [a] [] pos'] [] pos) (dListRange1 t) := ⟨pe_imp (pe_listRg hc hg hm (prgA1 hg2 hm2 h.p hs) na) fun σ H Q h => by
  obtain ⟨B, F, env, Q', ok, h, k⟩ := h
  refine ⟨B, F, env, _, ok, h, fun rs e1 vs F1 H1 q1 ok1 s1 x1 => ?_⟩
  obtain ⟨ds, hd, q2⟩ := onD_of q1
  split at q2
  · obtain ⟨v, r, rfl, rfl, h1, h2⟩ := seeL1 ok1 x1 hd
    cases see_int ok1 h1 h2
    refine ⟨_, rfl, q2.1.h, fun q hq => ?_⟩
    obtain ⟨ok2, ow, nw⟩ := ok1.newL hq (rg_rps (K := X.K) (F := F1) 0 _)
    refine k _ _ _ _ _ ?_ ok2 s1 ow nw
    rw [Int.sub_zero]
    exact q2.2
  · exact q2.elim⟩
theorem od_listRange2 {t : TAd} {p p' pos' : Pos} (hc : X.calm = true) (hg : Gl X "list") (hm : X.mg "list" = none) (hg2 : Gl X "range") (hm2 : X.mg "range" = none) (h : PAd X [a, b] t) (hs : starEach [a, b] X.env = [(false, eval a X.env), (false, eval b X.env)] := by rfl) (hs2 : starEach [b] X.env = [(false, eval b X.env)] := by rfl) (na : starEach [.Call (.Name "range" p') [a, b] [] pos'] X.env = (false, eval (.Call (.Name "range" p') [a, b] [] pos') X.env) :: starEach [] X.env := by rfl) :
    POd X (.Call (.Name "list" p) [.Call (.Name "range" p') [a, b] [] pos'] [] pos) (dListRange2 t) := ⟨pe_imp (pe_listRg hc hg hm (prgA2 hg2 hm2 h.p hs hs2) na) fun σ H Q h => by
  obtain ⟨B, F, env, Q', ok, h, k⟩ := h
  refine ⟨B, F, env, _, ok, h, fun rs e1 vs F1 H1 q1 ok1 s1 x1 => ?_⟩
  obtain ⟨ds, hd, q2⟩ := onD_of q1
  split at q2
  · obtain ⟨v, w, r, s, rfl, h1, h2, h3, h4⟩ := seeL2 ok1 x1 hd
    cases see_int ok1 h1 h2
    cases see_int ok1 h3 h4
    refine ⟨_, _, rfl, q2.1.h, fun q hq => ?_⟩
    obtain ⟨ok2, ow, nw⟩ := ok1.newL hq (rg_rps (K := X.K) (F := F1) _ _)
    exact k _ _ _ _ _ q2.2 ok2 s1 ow nw
  · exact q2.elim⟩
def lrg1 (ds : List D) (Q : List D → Prop) : Prop := match ds with
  | [.int j] => rgSz 0 j ∧ Q (rngD 0 j.toNat)
  | _ => False
def lrg2 (ds : List D) (Q : List D → Prop) : Prop := match ds with
  | [.int i, .int j] => rgSz i j ∧ Q (rngD i (j - i).toNat)
  | _ => False
theorem dListRange1_eq {ta : TAd} {env : Ev} {Q : Ob → Ev → Prop} : dListRange1 ta env Q = ta env fun rs e1 => onD (seeL e1 rs) fun ds => lrg1 ds fun xs => Q (.lst xs) e1 := by
  unfold dListRange1
  congr
theorem dListRange2_eq {ta : TAd} {env : Ev} {Q : Ob → Ev → Prop} : dListRange2 ta env Q = ta env fun rs e1 => onD (seeL e1 rs) fun ds => lrg2 ds fun xs => Q (.lst xs) e1 := by
  unfold dListRange2
  congr
theorem lrg1_i {j : Int} {Q : List D → Prop} : lrg1 [.int j] Q = (rgSz 0 j ∧ Q (rngD 0 j.toNat)) := id rfl
theorem lrg2_i {i j : Int} {Q : List D → Prop} : lrg2 [.int i, .int j] Q = (rgSz i j ∧ Q (rngD i (j - i).toNat)) := id rfl
end
theorem wipeE_n {env : Ev} : wipeE env [] = env := id rfl
theorem wipeE_c {env : Ev} {v : Nat} {vs : List Nat} : wipeE env (v :: vs) = (wipeE env vs).set v .no := id rfl
theorem compD_n {g : TGd} {tt : TTd} {te : TD} {vs : List Nat} {Q : Ob → Ev → Prop} {acc : List D} {env : Ev} : compD g tt te vs Q [] acc env = Q (.lst acc) env := id rfl
theorem compD_c {g : TGd} {tt : TTd} {te : TD} {vs : List Nat} {Q : Ob → Ev → Prop} {d : D} {ds acc : List D} {env : Ev} : compD g tt te vs Q (d :: ds) acc env = g d (wipeE env vs) fun e1 => tt e1 fun b e2 => thenB b (te e2 fun r e3 => frzR e3 r fun y e4 => Few acc.length ∧ compD g tt te vs Q ds (acc ++ [y]) (wipeE e4 vs)) (compD g tt te vs Q ds acc (wipeE e2 vs)) := by
  conv => lhs; unfold compD
  congr
/-- a comprehension as filterMap -/
theorem compD_map {ι : Type} {g : TGd} {tt : TTd} {te : TD} {vs : List Nat} {Q : Ob → Ev → Prop} (f : D → Option D) (sh : ι → Ev) {all : List D} (i0 : ι) (hl : all.length ≤ 90000)
    (step : ∀ d ∈ all, ∀ i, ∀ N : Option D → Ev → Prop, (∀ j, N (f d) (sh j)) → g d (wipeE (sh i) vs) fun e1 => tt e1 fun b e2 => thenB b (te e2 fun r' e3 => frzR e3 r' fun y e4 => N (some y) (wipeE e4 vs)) (N none (wipeE e2 vs)))
    (done : ∀ i, Q (.lst (all.filterMap f)) (sh i)) : compD g tt te vs Q all [] (sh i0) := by
  refine compD_rest (fun ds acc e => acc ++ ds.filterMap f = all.filterMap f ∧ (∀ d ∈ ds, d ∈ all) ∧ acc.length + ds.length ≤ all.length ∧ ∃ i, e = sh i) ⟨rfl, fun _ h => h, by simp, _, rfl⟩ ?_ ?_
  · rintro d r acc _ ⟨h1, h2, h3, i, rfl⟩ N hN
    refine step d (h2 d List.mem_cons_self) i (fun o e => match o with
      | some y => Few acc.length ∧ N (acc ++ [y]) e
      | none => N acc e) fun j => ?_
    rw [List.length_cons] at h3
    rw [List.filterMap_cons] at h1
    cases hf : f d with
    | none =>
      rw [hf] at h1
      exact hN _ _ ⟨h1, fun d hd => h2 d (List.mem_cons_of_mem _ hd), by omega, j, rfl⟩
    | some y =>
      rw [hf] at h1
      exact ⟨few (by omega), hN _ _ ⟨by rw [List.append_assoc]; exact h1, fun d hd => h2 d (List.mem_cons_of_mem _ hd), by rw [List.length_append, List.length_singleton]; omega, j, rfl⟩⟩
  · rintro acc _ ⟨h1, _, _, i, rfl⟩
    rw [List.filterMap_nil, List.append_nil] at h1
    rw [h1]
    exact done i
end DL
end SDLmore
section SDLdata
set_option maxHeartbeats 4000000
/-! Plain things as data. -/
namespace DL
open PySem PySem.Spec PyProof.Rows L2
/-- f lays things as data; n bounds the depth -/
structure Emb {α : Type} [DecidableEq α] (f : α → D) (n : Nat) : Prop where
  eq : ∀ a b, PyData.eqv (f a) (f b) = decide (a = b)
  lay : ∀ a, PyData.canLay0 (f a) = true
  dep : ∀ a, PyData.depth (f a) ≤ n
theorem depth_int (i : Int) : PyData.depth (.int i) = 0 := by simp only [PyData.depth]
theorem depth_lst (xs : List D) : PyData.depth (.list xs) = PyData.depthAll xs + 1 := by simp only [PyData.depth]
theorem depth_tup (xs : List D) : PyData.depth (.tuple xs) = PyData.depthAll xs + 1 := by simp only [PyData.depth]
theorem depthAll_nil : PyData.depthAll [] = 0 := by simp only [PyData.depthAll]
theorem depthAll_cons (x : D) (xs : List D) : PyData.depthAll (x :: xs) = max (PyData.depth x) (PyData.depthAll xs) := by simp only [PyData.depthAll]
theorem eqv_lst (xs ys : List D) : PyData.eqv (.list xs) (.list ys) = PyData.eqvAll xs ys := by simp only [PyData.eqv]
theorem eqv_tup (xs ys : List D) : PyData.eqv (.tuple xs) (.tuple ys) = PyData.eqvAll xs ys := by simp only [PyData.eqv]
theorem eqvAll_nn : PyData.eqvAll [] [] = true := by simp only [PyData.eqvAll]
theorem eqvAll_nc (x : D) (xs : List D) : PyData.eqvAll [] (x :: xs) = false := by simp only [PyData.eqvAll]
theorem eqvAll_cn (x : D) (xs : List D) : PyData.eqvAll (x :: xs) [] = false := by simp only [PyData.eqvAll]
theorem eqvAll_cc (x y : D) (xs ys : List D) : PyData.eqvAll (x :: xs) (y :: ys) = (PyData.eqv x y && PyData.eqvAll xs ys) := by simp only [PyData.eqvAll]
theorem lay_int (i : Int) : PyData.canLay0 (.int i) = true := by simp only [PyData.canLay0]
theorem lay_lst (xs : List D) : PyData.canLay0 (.list xs) = PyData.canLayAll0 xs := by simp only [PyData.canLay0]
theorem lay_tup (xs : List D) : PyData.canLay0 (.tuple xs) = PyData.canLayAll0 xs := by simp only [PyData.canLay0]
theorem layAll_n : PyData.canLayAll0 [] = true := by simp only [PyData.canLayAll0]
theorem layAll_c (x : D) (xs : List D) : PyData.canLayAll0 (x :: xs) = (PyData.canLay0 x && PyData.canLayAll0 xs) := by simp only [PyData.canLayAll0]
section
variable {α β : Type} [DecidableEq α] [DecidableEq β] {f : α → D} {g : β → D} {m n : Nat}
theorem Emb.up (h : Emb f n) (l : n ≤ m) : Emb f m := ⟨h.eq, h.lay, fun a => Nat.le_trans (h.dep a) l⟩
theorem Emb.sh (h : Emb f n) (a : α) (l : n ≤ 64 := by decide) : SeqAt.shaped (f a) = true := by
  unfold SeqAt.shaped
  rw [h.lay, Bool.true_and]
  exact decide_eq_true (Nat.le_trans (h.dep a) l)
theorem Emb.int : Emb (fun i : Int => (.int i : D)) 0 := ⟨fun a b => by rw [eqv_int]; rfl, lay_int, fun a => Nat.le_of_eq (depth_int a)⟩
theorem Emb.bool : Emb (fun i : Bool => (.bool i : D)) 0 := ⟨fun a b => by rw [eqv_bool]; cases a <;> cases b <;> rfl, fun a => by simp only [PyData.canLay0], fun a => by simp only [PyData.depth]; decide⟩
theorem Emb.layAll (h : Emb f n) : ∀ xs : List α, PyData.canLayAll0 (xs.map f) = true
  | [] => layAll_n
  | x :: xs => by rw [List.map_cons, layAll_c, h.lay, h.layAll xs]; rfl
theorem Emb.eqAll (h : Emb f n) : ∀ xs ys : List α, PyData.eqvAll (xs.map f) (ys.map f) = decide (xs = ys)
  | [], [] => by rw [List.map_nil, eqvAll_nn]; simp
  | [], y :: ys => by rw [List.map_nil, List.map_cons, eqvAll_nc]; simp
  | x :: xs, [] => by rw [List.map_nil, List.map_cons, eqvAll_cn]; simp
  | x :: xs, y :: ys => by
    rw [List.map_cons, List.map_cons, eqvAll_cc, h.eq, h.eqAll xs ys]
    simp
theorem Emb.depAll (h : Emb f n) : ∀ xs : List α, PyData.depthAll (xs.map f) ≤ n
  | [] => by rw [List.map_nil, depthAll_nil]; exact Nat.zero_le _
  | x :: xs => by
    rw [List.map_cons, depthAll_cons]
    exact Nat.max_le.mpr ⟨h.dep x, h.depAll xs⟩
theorem Emb.lst (h : Emb f n) : Emb (fun xs : List α => (.list (xs.map f) : D)) (n + 1) :=
  ⟨fun a b => by rw [eqv_lst, h.eqAll], fun a => by rw [lay_lst, h.layAll], fun a => by rw [depth_lst]; exact Nat.succ_le_succ (h.depAll a)⟩
theorem Emb.tup (h : Emb f n) : Emb (fun xs : List α => (.tuple (xs.map f) : D)) (n + 1) :=
  ⟨fun a b => by rw [eqv_tup, h.eqAll], fun a => by rw [lay_tup, h.layAll], fun a => by rw [depth_tup]; exact Nat.succ_le_succ (h.depAll a)⟩
theorem Emb.pair (h : Emb f n) (k : Emb g n) : Emb (fun p : α × β => (.tuple [f p.1, g p.2] : D)) (n + 1) :=
  ⟨fun a b => by
    obtain ⟨a1, a2⟩ := a
    obtain ⟨b1, b2⟩ := b
    rw [eqv_tup, eqvAll_cc, eqvAll_cc, eqvAll_nn, h.eq, k.eq]
    simp,
  fun a => by rw [lay_tup, layAll_c, layAll_c, layAll_n, h.lay, k.lay]; rfl,
  fun a => by
    rw [depth_tup, depthAll_cons, depthAll_cons, depthAll_nil]
    exact Nat.succ_le_succ (Nat.max_le.mpr ⟨h.dep _, Nat.max_le.mpr ⟨k.dep _, Nat.zero_le _⟩⟩)⟩
theorem Emb.any (h : Emb f n) (a : α) : ∀ xs : List α, (xs.map f).any (fun z => PyData.eqv z (f a)) = decide (a ∈ xs)
  | [] => by simp
  | x :: xs => by
    rw [List.map_cons, List.any_cons, h.eq, h.any a xs]
    by_cases e : x = a
    · subst e; simp
    · simp [e]
      intro z
      exact absurd z.symm e
/-- filterMap over things laid as data -/
theorem fm_map {f : α → D} {g : D → Option D} {p : α → Option β} {h : β → D} (hg : ∀ a, g (f a) = (p a).map h) : ∀ xs : List α, (xs.map f).filterMap g = (xs.filterMap p).map h
  | [] => rfl
  | x :: xs => by
    rw [List.map_cons, List.filterMap_cons, hg, List.filterMap_cons, fm_map hg xs]
    cases p x <;> rfl
end
/-- the ints of a range -/
def rngI (lo : Int) (n : Nat) : List Int := (List.range n).map fun i => lo + (i : Nat)
theorem rngD_I (lo : Int) (n : Nat) : rngD lo n = (rngI lo n).map .int := by
  unfold rngD rngI
  rw [List.map_map]
  rfl
theorem mem_rngI {lo : Int} {n : Nat} {i : Int} : i ∈ rngI lo n ↔ lo ≤ i ∧ i < lo + n := by
  unfold rngI
  rw [List.mem_map]
  constructor
  · rintro ⟨j, hj, rfl⟩
    have := List.mem_range.mp hj
    omega
  · intro h
    exact ⟨(i - lo).toNat, List.mem_range.mpr (by omega), by omega⟩
theorem rngI_len (lo : Int) (n : Nat) : (rngI lo n).length = n := by simp [rngI]
/-- a comprehension over things laid as data, with a plain filter -/
theorem compD_fm {α β ι : Type} {g : TGd} {tt : TTd} {te : TD} {vs : List Nat} {Q : Ob → Ev → Prop} (f : α → D) (h : β → D) (p : α → Option β) (sh : ι → Ev) {all : List α} (i0 : ι) (hl : all.length ≤ 90000)
    (step : ∀ a ∈ all, ∀ i, ∀ N : Option D → Ev → Prop, (∀ j, N ((p a).map h) (sh j)) → g (f a) (wipeE (sh i) vs) fun e1 => tt e1 fun b e2 => thenB b (te e2 fun r' e3 => frzR e3 r' fun y e4 => N (some y) (wipeE e4 vs)) (N none (wipeE e2 vs)))
    (done : ∀ i, Q (.lst ((all.filterMap p).map h)) (sh i)) : compD g tt te vs Q (all.map f) [] (sh i0) := by
  refine compD_rest (fun ds acc e => ∃ (pre : List α) (rest : List α), all = pre ++ rest ∧ ds = rest.map f ∧ acc = (pre.filterMap p).map h ∧ ∃ i, e = sh i) ⟨[], all, rfl, rfl, rfl, _, rfl⟩ ?_ ?_
  · rintro d r acc _ ⟨pre, rest, h1, h2, rfl, i, rfl⟩ N hN
    cases rest with
    | nil => cases h2
    | cons a rest =>
      rw [List.map_cons] at h2
      cases h2
      have hlen : ((pre.filterMap p).map h).length ≤ pre.length := by rw [List.length_map]; exact List.length_filterMap_le _ _
      have hpre : pre.length ≤ all.length := by rw [h1, List.length_append]; omega
      refine step a (by rw [h1]; simp) i (fun o e => match o with
        | some y => Few ((pre.filterMap p).map h).length ∧ N ((pre.filterMap p).map h ++ [y]) e
        | none => N ((pre.filterMap p).map h) e) fun j => ?_
      cases hp : p a with
      | none => exact hN _ _ ⟨pre ++ [a], rest, by rw [h1]; simp, rfl, by simp [List.filterMap_append, hp], j, rfl⟩
      | some y => exact ⟨few (by omega), hN _ _ ⟨pre ++ [a], rest, by rw [h1]; simp, rfl, by simp [List.filterMap_append, hp], j, rfl⟩⟩
  · rintro acc _ ⟨pre, rest, h1, h2, rfl, i, rfl⟩
    cases rest with
    | nil =>
      rw [List.append_nil] at h1
      subst h1
      exact done i
    | cons a rest => cases h2
end DL
end SDLdata
section SDLset
set_option maxHeartbeats 4000000
/-! sorted(set(xs)) of ints; is, is not of bools; a list times an int. -/
namespace DL
open PySem PySem.Spec PyProof.Rows L2
section
variable {P : Program} {w : World} {A : Around} {E : Value → Shared → Prop} {s : Shared}
/-- a set as it is made -/
abbrev sNew (w : World) : Obj := { cls := .type "set", dict := none, data := .set #[] 0 (.fresh 0 0 (!w.params.followText "set-order")) }
set_option maxHeartbeats 3200000 in
theorem set_of_list {b : Addr} {us : Array Value} (ks : List Int) {Q : Value → Shared → Prop} (hn : A.handled = none) (hb : s.heap.IsList b us) (hk : IntsAre us.toList ks) (hf : ks.length + 1 < scanBound)
    (q : ∀ (h2 : Heap) (tk m : Nat), SetR w h2 s.heap.objs.size (fun j => decide (j ∈ ks)) m → m ≤ ks.length → (∀ c o, s.heap.get? c = some o → h2.get? c = some o) → Q (.ref s.heap.objs.size) { s with heap := h2, toks := tk }) :
    wpAny (model P w) A (call (.type "set") [.ref b]) Q E s := by
  have hsz : us.size = ks.length := by
    have z := IntsAre.length hk
    rwa [Array.length_toList] at z
  obtain ⟨c0, tl0, hm0⟩ := F.called_set.mro
  have k1 := F.called_set.made
  have k2 := F.called_set.sub
  refine (wpAny_call (codeAny_of_tree ?_))
  show wpAny _ _ (callAny (.type "set") _) _ _ (_ : Shared)
  refine (wpAny_pure ⟨Code.quiet_builtin _ (by decide +kernel), codeAny_builtin F.entry_type_call ?_⟩)
  rw [Around.under_plain (weight_type_call_type "set" [.ref b] []) rfl]
  have k3 := F.called_set.notType
  have k4 := F.called_set.canCreate
  have k5 := F.typeCall_set_1 (.ref b)
  repeat (any_goals (first | assumption | wp_step))
  refine codeAny_mono (code_set_led1 (.ref b) (E := E) (Q₁ := fun x s1 => x = .ref s.heap.objs.size ∧ s1 = { s with heap := s.heap.push (sNew w) }) ⟨rfl, rfl⟩) (fun r s1 hr => ?_)
  match r, hr with
  | .ok (.ret x), hr =>
    obtain ⟨rfl, rfl⟩ := hr
    have gS : (s.heap.push (sNew w)).get? s.heap.objs.size = some (sNew w) := Heap.get?_push_size _ rfl
    have gT : Shared.TypeIs { s with heap := s.heap.push (sNew w) } (.ref s.heap.objs.size) "set" := ⟨_, gS, rfl⟩
    have k6 := F.called_set.init.lookup
    have k7 := F.called_set.init.bind (.ref s.heap.objs.size)
    repeat (any_goals (first | assumption | wp_step))
    refine codeAny_mono (codeAny_call_builtin (R := wants (fun y s2 => y = .none ∧ ∃ h2 tk m, s2 = { s with heap := h2, toks := tk } ∧ SetR w h2 s.heap.objs.size (fun j => decide (j ∈ ks)) m ∧ m ≤ ks.length ∧ (∀ c o, s.heap.get? c = some o → h2.get? c = some o)) E) F.called_set.init.plain F.entry_set_init (check_set_init_1 gT ?_)) (fun y s2 hy => ?_)
    · obtain ⟨ob, gb, eb, mb, db⟩ := hb
      obtain ⟨cb, dib, dab, slb⟩ := ob
      dsimp only at eb db
      subst eb
      subst db
      have gb2 : (s.heap.push (sNew w)).get? b = some { cls := .type "list", dict := dib, data := .seq us mb, slots := slb } := Heap.get?_push_of_some _ gb
      have k8 := F.sub_list_set
      have k9 := F.sub_list_frozenset
      have k10 : (Value.type "list" == Value.type "dict") = false := by decide
      have isb : (s.heap.push (sNew w)).IsList b us := ⟨_, gb2, rfl, mb, rfl⟩
      unfold Builtin.«set.__init__» noKeywords
      unfold Builtin.Frozenset.updateFrom
      generalize hI : pyIter = I0
      wp_walk
      subst hI
      refine wpAny_pyIter_list isb (wpAny_bind (wpAny_runValue ?_))
      have ltb : b < s.heap.objs.size := Heap.lt_size gb
      have hh3 : A.in1.in1.in1.handled = none := by simpa using hn
      have nI : b ≠ (s.heap.push (sNew w)).objs.size := by
        rw [Heap.size_push]
        exact (Nat.ne_of_lt (Nat.lt_succ_of_lt ltb))
      have nS : s.heap.objs.size ∉ [(s.heap.push (sNew w)).objs.size, b] := by
        rw [Heap.size_push]
        simp only [List.mem_cons, List.not_mem_nil, or_false, not_or]
        exact ⟨Nat.ne_of_lt (Nat.lt_succ_self _), Nat.ne_of_gt ltb⟩
      have vals : ∀ (i : Nat) (v : Value), us[i]? = some v → ∃ k t, ks[i]? = some k ∧ v = .int k t := fun i v hv => by
        have lt : i < ks.length := by rw [← hsz]; exact (Array.getElem?_eq_some_iff.mp hv).1
        obtain ⟨t, e⟩ := PyProof.Rows.IntsAre.int_at hk i v (by rw [Array.getElem?_toList]; exact hv)
        refine ⟨ks[i], t, List.getElem?_eq_getElem lt, ?_⟩
        rw [e, List.getD_eq_getElem?_getD, List.getElem?_eq_getElem lt]
        rfl
      refine set_update_ints ((Walks.list hh3 _ b nI us).toS) s.heap.objs.size nS ks hsz hf vals (us.size - 0) 0 _ (by omega) (Nat.zero_le _) ⟨⟨_, Heap.get?_push_size _ rfl, rfl, rfl⟩, (isb.push _)⟩ ⟨0, Nat.le_refl 0, setR_new_at (Heap.get?_push_of_some _ gS)⟩ ?_
      intro s3 m mv lm R3
      obtain ⟨h3, g3, d3, tk3, os3⟩ := s3
      obtain rfl : g3 = s.gens := mv.gens
      obtain rfl : d3 = s.drawn := mv.drawn
      obtain rfl : os3 = s.os := mv.os
      show wpAny _ _ _ _ _ (_ : Shared)
      refine wpAny_pure (show wpAny _ _ (ret Value.none) _ _ _ from ?_)
      rw [hsz] at lm
      refine (wpAny_pure ⟨rfl, h3, tk3, m, rfl, R3, lm, fun c o e => ?_⟩)
      have l0 : c < s.heap.objs.size := Heap.lt_size e
      refine mv.heap c o ?_ (Heap.get?_push_of_some _ (Heap.get?_push_of_some _ e))
      rw [Heap.size_push]
      simp only [List.mem_cons, List.not_mem_nil, or_false, not_or]
      exact ⟨Nat.ne_of_lt l0, Nat.ne_of_lt (Nat.lt_succ_of_lt l0)⟩
    · match y, hy with
      | .ok (.ret z), hy =>
        obtain ⟨rfl, h2, tk, m, rfl, R2, lm, kp⟩ := hy
        repeat (any_goals (first | assumption | wp_step))
        exact q _ _ _ R2 lm kp
      | .ok (.next), hy => exact hy.elim
      | .error e, hy => exact hy
  | .error e, hr => exact hr
end
def rSetOfI (K : PySem.W.Frag) (w : World) : List V → Hp → VK → Prop := fun vs H Q => ∃ (b : Addr) (ks : List Int), vs = [V.ref b] ∧ SqL K H b (ks.map V.int) ∧ ks.length < 64 ∧
  ∀ (a : Addr) (m : Nat), H a = none → m ≤ ks.length → Q (.ref a) (upd H a (SetO w a (fun j => decide (j ∈ ks)) m))
section
variable {X : Cx} {e a b c : Expr} {es rest : List Expr} {pos : Pos} {ta tb tc td : TD}
theorem cr_setOfI (hc : X.calm = true) : CallR X (.type "set") (rSetOfI X.K X.w) := by
  intro pins s σ H vs us Q I r h
  obtain ⟨b, ks, rfl, hs, h64, q⟩ := h
  rw [Vals.ref1 r]
  obtain ⟨its, rv, pl, hz⟩ := I.list hs
  refine set_of_list ks (I.ok.hd hc) pl.isList (by simpa using rv.ints) (by unfold scanBound; omega) fun h2 tk m R lm kp => ?_
  exact ⟨.ref s.heap.objs.size, _, I.laid (t' := tk) kp (Nat.le_refl _) (setO_new R), rfl, q _ m (I.hok.fresh (Nat.le_refl _)) lm⟩
/-- sorted(set(xs)) -/
def sortI (ks : List Int) : List Int := (ks.mergeSort (fun x y => decide (x ≤ y))).eraseDups
structure Few64 (n : Nat) : Prop where
  h : n < 64
def intsD : List D → Option (List Int)
  | [] => some []
  | .int i :: ds => (intsD ds).map (i :: ·)
  | _ :: _ => none
def dSortedSet (t : TAd) : TOd := fun env Q => t env fun rs e1 => onD (seeL e1 rs) fun ds => match ds with
  | [.list xs] => onD (intsD xs) fun ks => Few64 ks.length ∧ ∀ ns : List Int, ns.Pairwise (· < ·) → (∀ k : Int, k ∈ ns ↔ k ∈ ks) → Q (.lst (ns.map .int)) e1
  | _ => False
theorem intsD_rp {K : PySem.W.Frag} {F : Hp} : ∀ {xs : List D} {vs : List V} {ks : List Int}, RpA K F vs xs → intsD xs = some ks → vs = ks.map V.int
  | [], _, _, r, h => by
    cases r
    cases h
    rfl
  | d :: xs, _, ks, r, h => by
    cases r with
    | cons h1 h2 =>
      cases h1 with
      | int i =>
        unfold intsD at h
        cases e : intsD xs with
        | none => rw [e] at h; cases h
        | some ks' =>
          rw [e] at h
          cases h
          rw [intsD_rp h2 e]
          rfl
      | _ => cases h
theorem ints_rps {K : PySem.W.Frag} {F : Hp} : ∀ ns : List Int, RpA K F (ns.map V.int) (ns.map .int)
  | [] => .nil
  | n :: ns => .cons (.int n) (ints_rps ns)
theorem od_sortedSet {p p2 pos2 : Pos} {t : TAd} (hc : X.calm = true) (hg : Gl X "sorted") (hm : X.mg "sorted" = none) (hg2 : Gl X "set") (hm2 : X.mg "set" = none) (ha : PAd X [a] t)
    (hs : starEach [a] X.env = (false, eval a X.env) :: starEach [] X.env := by rfl) (hs2 : starEach [.Call (.Name "set" p2) [a] [] pos2] X.env = (false, eval (.Call (.Name "set" p2) [a] [] pos2) X.env) :: starEach [] X.env := by rfl) :
    POd X (.Call (.Name "sorted" p) [.Call (.Name "set" p2) [a] [] pos2] [] pos) (dSortedSet t) := by
  have h1 := pe_callTy (pos := pos2) (p := p2) (cr_setOfI (X := X) hc) hg2 hm2 boot_set ha.p (by decide) (by decide) hs rfl
  have h2 := pe_callB (pos := pos) (p := p) (cr_sortedSet (X := X) hc) hg hm DL.B.sorted (pa_cons h1 pa_nil hs2) (by decide) (by decide) hs2 rfl
  refine ⟨pe_imp h2 fun σ H Q h => ?_⟩
  obtain ⟨B, F, env, Q', ok, h, k⟩ := h
  refine ⟨B, F, env, _, ok, h, fun rs e1 vs F1 H1 q1 ok1 s1 x1 => ?_⟩
  obtain ⟨ds, hd, q2⟩ := onD_of q1
  split at q2
  · obtain ⟨v, r, rfl, rfl, h1, h2⟩ := seeL1 ok1 x1 hd
    obtain ⟨ks, hk, lm, q3⟩ := onD_of q2
    obtain ⟨b, us, rfl, h3, h4⟩ := see_list ok1 h1 h2
    obtain rfl := intsD_rp h4 hk
    refine ⟨b, ks, rfl, h3, lm.h, fun a m ha hm => ?_⟩
    have hlt : m < 64 := Nat.lt_of_le_of_lt hm lm.h
    refine ⟨a, _, m, rfl, upd_same, hlt, fun ns p hp1 hp2 hp3 hp => ?_⟩
    have ok2 := ok1.newH (SetO X.w a (fun j => decide (j ∈ ks)) m) ha
    obtain ⟨ok3, ow, nw⟩ := ok2.newL hp (ints_rps (K := X.K) (F := F1) ns)
    exact k _ _ _ _ _ (q3 ns hp1 fun k => by rw [hp2]; exact decide_eq_true_iff) ok3 s1 ow nw
  · exact q2.elim
def sset (ds : List D) (Q : List Int → Prop) : Prop := match ds with
  | [.list xs] => onD (intsD xs) fun ks => Few64 ks.length ∧ ∀ ns : List Int, ns.Pairwise (· < ·) → (∀ k : Int, k ∈ ns ↔ k ∈ ks) → Q ns
  | _ => False
theorem dSortedSet_eq {t : TAd} {env : Ev} {Q : Ob → Ev → Prop} : dSortedSet t env Q = t env fun rs e1 => onD (seeL e1 rs) fun ds => sset ds fun ns => Q (.lst (ns.map .int)) e1 := by
  unfold dSortedSet
  congr
theorem sset_l {xs : List D} {Q : List Int → Prop} : sset [.list xs] Q = onD (intsD xs) fun ks => Few64 ks.length ∧ ∀ ns : List Int, ns.Pairwise (· < ·) → (∀ k : Int, k ∈ ns ↔ k ∈ ks) → Q ns := id rfl
theorem intsD_map : ∀ ks : List Int, intsD (ks.map .int) = some ks
  | [] => rfl
  | k :: ks => by
    show (intsD (ks.map .int)).map (k :: ·) = _
    rw [intsD_map ks]
    rfl
/-! is, is not of bools -/
def fIsB : D → D → (D → Prop) → Prop := fun x y Q => match x, y with
  | .bool a, .bool b => Q (.bool (decide (a = b)))
  | _, _ => False
def fNoB : D → D → (D → Prop) → Prop := fun x y Q => match x, y with
  | .bool a, .bool b => Q (.bool (!decide (a = b)))
  | _, _ => False
theorem fIsB_b {a b : Bool} {Q : D → Prop} : fIsB (.bool a) (.bool b) Q = Q (.bool (decide (a = b))) := id rfl
theorem fNoB_b {a b : Bool} {Q : D → Prop} : fNoB (.bool a) (.bool b) Q = Q (.bool (!decide (a = b))) := id rfl
theorem os_isB {K : PySem.W.Frag} : OpS K rIsB fIsB := fun B F H σ env v w r1 r2 x y Q Q' ok a b c d e k => by
  unfold fIsB at e
  split at e
  · cases see_bool ok a c
    cases see_bool ok b d
    exact ⟨_, _, rfl, rfl, k _ _ F H e ok (Same.refl _) (.bl _)⟩
  · exact e.elim
theorem os_noB {K : PySem.W.Frag} : OpS K rNotB fNoB := fun B F H σ env v w r1 r2 x y Q Q' ok a b c d e k => by
  unfold fNoB at e
  split at e
  · cases see_bool ok a c
    cases see_bool ok b d
    exact ⟨_, _, rfl, rfl, k _ _ F H e ok (Same.refl _) (.bl _)⟩
  · exact e.elim
theorem pd_isB (ha : PD X a ta) (hb : PD X b tb) : PD X (.Compare a [.Is] [b] pos) (dBin fIsB ta tb) := pd_cmp op_isBl os_isB ha hb (nomark _)
theorem pd_isnotB (ha : PD X a ta) (hb : PD X b tb) : PD X (.Compare a [.IsNot] [b] pos) (dBin fNoB ta tb) := pd_cmp op_notBl os_noB ha hb (nomark _)
theorem td_isB (ha : PD X a ta) (hb : PD X b tb) : PTd X (.Compare a [.Is] [b] pos) (dTst (dBin fIsB ta tb)) := td_cmp op_isBl os_isB ha hb (nomark _)
theorem td_isnotB (ha : PD X a ta) (hb : PD X b tb) : PTd X (.Compare a [.IsNot] [b] pos) (dTst (dBin fNoB ta tb)) := td_cmp op_notBl os_noB ha hb (nomark _)
/-! a list times an int -/
structure RepOk (n : Nat) (k : Int) : Prop where
  h1 : -(2 ^ 63) ≤ k
  h2 : k < 2 ^ 63
  h3 : n * k.toNat ≤ sizeLine
def repK (d : D) (k : Int → Prop) : Prop := match d with
  | .int j => k j
  | _ => False
theorem repK_i {j : Int} {k : Int → Prop} : repK (.int j) k = k j := id rfl
def dRep (ta : TOd) (tb : TD) : TOd := fun env Q => ta env fun o e1 => lstO o fun xs => tb e1 fun r e2 => onD (see e2 r) fun d => repK d fun j => RepOk xs.length j ∧ Q (.lst (List.replicate j.toNat xs).flatten) e2
theorem od_rep {ta : TOd} (ha : POd X a ta) (hb : PD X b tb) : POd X (.BinOp a .Mult b pos) (dRep ta tb) := ⟨pe_imp (pe_op op_mulA ha.p hb.p) fun σ H Q h => by
  obtain ⟨B, F, env, Q', ok, h, k⟩ := h
  refine ⟨B, F, env, _, ok, h, fun o e1 a F1 H1 q1 ok1 s1 ow nw => ?_⟩
  unfold lstO at q1
  split at q1
  · obtain ⟨⟨u, hu, ru⟩, hf, h0, _⟩ := ow
    obtain ⟨vs, rfl, hv⟩ := ru.lst_of
    obtain ⟨ok2, s2⟩ := ok1.know hu hf (h0 rfl) nw
    refine ⟨B, _, e1, _, ok2, q1, fun r e2 w F3 H3 q3 ok3 s3 x3 => ?_⟩
    obtain ⟨d, hd, q4⟩ := onD_of q3
    unfold repK at q4
    split at q4
    · cases see_int ok3 x3 hd
      have g3 : H3 a = some (.lst vs) := ok3.fh _ _ (s3 _ _ upd_same)
      have hv3 := hv.up (s2.trans s3)
      refine .inr ⟨a, _, vs, rfl, rfl, g3, q4.1.h1, q4.1.h2, by rw [hv3.len]; exact q4.1.h3, fun p hp => ?_⟩
      obtain ⟨ok4, ow4, nw4⟩ := ok3.newL hp (rep_flat hv3 _)
      exact k _ _ _ _ _ q4.2 ok4 (s1.trans (s2.trans s3)) ow4 nw4
    · exact q4.elim
  · exact q1.elim⟩
end
end DL
end SDLset
section SDLlib
set_option maxHeartbeats 4000000
/-! The laws' own helpers. -/
namespace DL
open PySem PySem.Spec PyProof.Rows L2
local macro_rules | `(tactic| walk_at "d") => `(tactic| simp only [dSeq, dAsg, dAsgO, dAsgG, dCall, dCallO, dCallP_eq, dCallPO_eq, dCallM_eq, dCallMO_eq, dCons, dNil, dVar_eq, dC, dBin, dTst_eq, dIf_eq, dNext, dNever, dRet, dRetO, dRetV_eq, dTup, dLst, dFrz_eq, dNeg_eq, dAndT_eq, dOrT_eq, dNotT, dAndV_eq, dOrV_eq, dNotV_eq, dIfE_eq, dChain_eq, dDrop, dMt_eq, dMt0_eq, fmAppend_d, dAug_eq, dPar_eq, two_d, dParO, dParOD, dParDO, gdName, gdTup_t, gdTup_l, gdCons_c, gdNil_n, gdSub_eq, dFor, idSeq, seqD_l, seqD_t, idRng1_eq, idRng2_eq, rng1_i, rng2_i, fI_i, fI0_i, fB0_i, fAdd_i, fAdd_s, fAdd_t, fAdd_l, fMul_i, fInt1_i, fInt1_b, fInt2_i, fAbs_i, fLen_l, fLen_t, fSum_l, fAny_l, fAll_l, fListOf_l, fListOf_t, fTupOf_l, fTupOf_t, fEq, fNe, fIsN_n, fNoN_n, isN_n, isN_i, isN_t, isN_l, isN_s, fIn_l, fIn_t, fIx_l, fIx_t, fSl_l, fSl_t, dSl, dPart_eq, dPartN, negD_i, see_d, see_s, seeE_o, seeE_d, seeL_n, seeL_c, consO_s, onD_s, dListRange1_eq, dListRange2_eq, lrg1_i, lrg2_i, wipeE_n, wipeE_c, dSortedSet_eq, sset_l, intsD_map, fIsB_b, fNoB_b, dRep, repK_i, varE_d, varE_o, frzR_d, frzR_s, frzE_d, frzE_o, frzL_n, frzL_c, lstO_l, lstE_o, ownE_o, slotR_s, datE_d, rtD_d, rtO_o, tstB_b, thenB_t, thenB_f, chainB_b, outM, dComp, dYes, List.getElem?_cons_zero, List.getElem?_cons_succ, List.set_cons_zero, List.set_cons_succ, gLt, gLe, gGt, gGe, gGcd, gMax, gMin])
local macro_rules | `(tactic| walk_at "dl") => `(tactic| simp only [List.length_cons, List.length_nil, Nat.zero_add, Nat.reduceAdd, true_and, few0, few1, few2, few3, few4, few5, atI_0, atI_1, atI_2, atI_3, atI_4, onD_s, ixN_0, ixN_1, sh_int, sh_bool, eqv_int, eqv_bool])
mutual
theorem eqv_self : ∀ d : D, PyData.canLay0 d = true → PyData.eqv d d = true
  | .none, _ => by simp only [PyData.eqv]
  | .bool b, _ => by simp [PyData.eqv]
  | .int i, _ => by simp [PyData.eqv]
  | .str x, _ => by simp [PyData.eqv]
  | .list xs, h => by rw [eqv_lst]; exact eqvAll_self xs (by rw [← lay_lst]; exact h)
  | .tuple xs, h => by rw [eqv_tup]; exact eqvAll_self xs (by rw [← lay_tup]; exact h)
  | .dict _, h => by simp [PyData.canLay0] at h
theorem eqvAll_self : ∀ xs : List D, PyData.canLayAll0 xs = true → PyData.eqvAll xs xs = true
  | [], _ => eqvAll_nn
  | x :: xs, h => by
    rw [layAll_c, Bool.and_eq_true] at h
    rw [eqvAll_cc, eqv_self x h.1, eqvAll_self xs h.2]
    rfl
end
theorem ints_map : ∀ ks : List Int, ints? (ks.map .int) = some ks
  | [] => rfl
  | k :: ks => by
    rw [List.map_cons, ints?, ints_map ks]
theorem bools_map : ∀ ks : List Bool, bools? (ks.map .bool) = some ks
  | [] => rfl
  | k :: ks => by
    rw [List.map_cons, bools?, bools_map ks]
/-- for over things laid as data -/
theorem forD_map {α : Type} {g : TGd} {body : TSd} {De : EndsD} (f : α → D) (I : List α → List α → Ev → Prop) {all : List α} {env : Ev} (h0 : I [] all env)
    (step : ∀ pre a r env, I pre (a :: r) env → all = pre ++ a :: r → ∀ N : Ev → Prop, (∀ e, I (pre ++ [a]) r e → N e) → g (f a) env fun e => body { De with nx := N, ct := N, bk := De.nx } e) (done : ∀ env, I all [] env → De.nx env) : forD g body De (all.map f) env := by
  refine forD_rest (fun ds e => ∃ pre r, all = pre ++ r ∧ ds = r.map f ∧ I pre r e) ⟨[], all, rfl, rfl, h0⟩ ?_ ?_
  · rintro d r env ⟨pre, q, h1, h2, h3⟩ N hN
    cases q with
    | nil => cases h2
    | cons a q =>
      cases h2
      exact step pre a q env h3 h1 N fun e he => hN e ⟨pre ++ [a], q, by rw [h1]; simp, rfl, he⟩
  · rintro env ⟨pre, q, h1, h2, h3⟩
    cases q with
    | nil =>
      rw [List.append_nil] at h1
      subst h1
      exact done env h3
    | cons a q => cases h2
/-! points -/
def pointLd (p : List Int) : D := .tuple (p.map .int)
def pairLd (p : Int × Int) : D := .tuple [.int p.1, .int p.2]
theorem gd_pair {p : Int × Int} {i j : Nat} {env : Ev} {Q : Ev → Prop} : gdTup 2 (gdCons (gdName i) (gdCons (gdName j) gdNil)) (pairLd p) env Q = Q ((env.set i (.dat (.int p.1))).set j (.dat (.int p.2))) := by
  unfold pairLd
  simp only [gdTup_t, gdCons_c, gdNil_n, gdName, List.length_cons, List.length_nil, true_and]
def ext1 (p : Int × Int) (q : List Int) : List (List Int) := (rngI p.1 (p.2 + 1 - p.1).toNat).map fun a => q ++ [a]
def ptsOf (rs : List (Int × Int)) : List (List Int) := rs.foldl (fun found p => found.flatMap (ext1 p)) [[]]
theorem pts_len0 : ∀ (rs : List (Int × Int)) (found : List (List Int)) (k : Nat), (∀ q ∈ found, q.length = k) → ∀ q ∈ rs.foldl (fun found p => found.flatMap (ext1 p)) found, q.length = k + rs.length
  | [], _, _, h, q, hq => by simpa using h q hq
  | p :: rs, found, k, h, q, hq => by
    rw [List.foldl_cons] at hq
    have := pts_len0 rs _ (k + 1) (fun q' hq' => by
      obtain ⟨r, hr, hm⟩ := List.mem_flatMap.mp hq'
      obtain ⟨a, _, rfl⟩ := List.mem_map.mp hm
      rw [List.length_append, h r hr, List.length_singleton]) q hq
    rw [this, List.length_cons]
    omega
theorem pts_len {rs : List (Int × Int)} {q : List Int} (h : q ∈ ptsOf rs) : q.length = rs.length := by
  have := pts_len0 rs [[]] 0 (fun q hq => by rw [List.mem_singleton.mp hq]; rfl) q h
  omega
structure Rg (p : Int × Int) : Prop where
  a : -1000 ≤ p.1
  b : p.1 ≤ p.2
  c : p.2 - p.1 ≤ 7
  d : p.1 ≤ 1000
theorem ext1_len {p : Int × Int} (h : Rg p) (q : List Int) : (ext1 p q).length ≤ 8 := by
  obtain ⟨a, b, c, d⟩ := h
  unfold ext1
  rw [List.length_map, rngI_len]
  omega
theorem flat_len {p : Int × Int} (h : Rg p) : ∀ qs : List (List Int), (qs.flatMap (ext1 p)).length ≤ 8 * qs.length
  | [] => by simp
  | q :: qs => by
    rw [List.flatMap_cons, List.length_append, List.length_cons]
    have := ext1_len h q
    have := flat_len h qs
    omega
inductive sp_law_points : SpP
  | mk {rs : List (Int × Int)} {Q : Rt → Prop} : rs.length ≤ 5 → (∀ p ∈ rs, Rg p) → Q (.dat (.list ((ptsOf rs).map pointLd))) → sp_law_points [.list (rs.map pairLd)] Q
theorem hl_law_points : ∀ ds Q, sp_law_points ds Q → ds.length = 1 := fun ds Q h => by cases h; rfl
abbrev N_law_points : List Str := ["ranges", "found", "low", "high", "longer", "point", "a"]
def t_law_points : TSd := (dSeq (dAsgO 1 (dLst (dCons (dTup dNil) dNil)))
  (dSeq (dFor (idSeq (dVar 0)) (gdTup 2 (gdCons (gdName 2) (gdCons (gdName 3) gdNil))) (dSeq (dAsgO 4 (dLst dNil))
  (dSeq (dFor (idSeq (dVar 1)) (gdName 5) (dAsg 4 (dBin fAdd (dVar 4) (dFrz (dComp (idRng2 (dCons (dVar 2) (dCons (dBin fAdd (dVar 3) (dC (.int 1))) dNil))) (gdName 6) dYes (dBin fAdd (dVar 5) (dTup (dCons (dVar 6) dNil))) [6])))))
  (dAsg 1 (dVar 4)))))
  (dRet (dVar 1))))
theorem sm_law_points : ∀ ds Q, sp_law_points ds Q → t_law_points { nx := fun _ => Q (.dat .none), rt := fun r _ => Q r } (startE N_law_points ds) := by
  rintro _ Q (@⟨rs, _, hl, hr, k⟩)
  generalize hs : PyData.list (rs.map pairLd) = sc
  show t_law_points _ [.dat sc, .no, .no, .no, .no, .no, .no]
  subst hs
  unfold t_law_points
  refine seq_i (fun _ : Unit => [.dat (.list (rs.map pairLd)), .ob false (.lst [pointLd []]), .no, .no, .no, .no, .no]) (fun _ => True) (fun _ _ => ?_) (fun N hN => ?_)
  case refine_2 =>
    walk_at "d"
    walk_at "dl"
    exact hN () trivial
  refine seq_i (fun x : En × En × En × En × En × En => [.dat (.list (rs.map pairLd)), x.1, x.2.1, x.2.2.1, x.2.2.2.1, x.2.2.2.2.1, x.2.2.2.2.2]) (fun x => x.1 = .ob false (.lst ((ptsOf rs).map pointLd)) ∨ x.1 = .dat (.list ((ptsOf rs).map pointLd))) (fun x hx => ?_) (fun N hN => ?_)
  case refine_1 =>
    obtain ⟨x1, x2, x3, x4, x5, x6⟩ := x
    simp only at hx ⊢
    rcases hx with rfl | rfl <;>
    · walk_at "d"
      exact k
  walk_at "d"
  refine forD_map pairLd (fun pre r e => ∃ x1 x2 x3 x4 x5 x6, (ptsOf pre).length ≤ 8 ^ pre.length ∧ (x1 = .ob false (.lst ((ptsOf pre).map pointLd)) ∨ x1 = .dat (.list ((ptsOf pre).map pointLd))) ∧ e = [.dat (.list (rs.map pairLd)), x1, x2, x3, x4, x5, x6]) ⟨_, _, _, _, _, _, by decide, .inl rfl, rfl⟩ ?_ ?_
  · rintro pre p r _ ⟨x1, x2, x3, x4, x5, x6, hlen, hx, rfl⟩ hall N2 hN2
    have hp : Rg p := hr p (by rw [hall]; simp)
    have hpre : pre.length ≤ 4 := by rw [hall, List.length_append, List.length_cons] at hl; omega
    have hb : (ptsOf pre).length ≤ 4096 := Nat.le_trans hlen (Nat.pow_le_pow_right (n := 8) (by decide) hpre)
    simp only [gd_pair, List.set_cons_succ, List.set_cons_zero]
    refine seq_i (fun _ : Unit => [.dat (.list (rs.map pairLd)), x1, .dat (.int p.1), .dat (.int p.2), .ob false (.lst []), x5, x6]) (fun _ => True) (fun _ _ => ?_) (fun N hN => ?_)
    case refine_2 =>
      walk_at "d"
      walk_at "dl"
      exact hN () trivial
    refine seq_i (fun x : En × En × En => [.dat (.list (rs.map pairLd)), .dat (.list ((ptsOf pre).map pointLd)), .dat (.int p.1), .dat (.int p.2), x.1, x.2.1, x.2.2]) (fun x => x.1 = .ob false (.lst (((ptsOf pre).flatMap (ext1 p)).map pointLd)) ∨ x.1 = .dat (.list (((ptsOf pre).flatMap (ext1 p)).map pointLd))) (fun x hx => ?_) (fun N hN => ?_)
    case refine_1 =>
      obtain ⟨x4, x5, x6⟩ := x
      simp only at hx ⊢
      have e : ptsOf (pre ++ [p]) = (ptsOf pre).flatMap (ext1 p) := by
        unfold ptsOf
        rw [List.foldl_append]
        rfl
      have hl2 : (ptsOf (pre ++ [p])).length ≤ 8 ^ (pre ++ [p]).length := by
        rw [e, List.length_append, List.length_singleton, Nat.pow_succ]
        have := flat_len hp (ptsOf pre)
        omega
      rcases hx with rfl | rfl <;>
      · walk_at "d"
        exact hN2 _ ⟨_, _, _, _, _, _, hl2, .inr (by rw [e]), rfl⟩
    have go : ∀ bk ct : Ev → Prop, forD (gdName 5) (dAsg 4 (dBin fAdd (dVar 4) (dFrz (dComp (idRng2 (dCons (dVar 2) (dCons (dBin fAdd (dVar 3) (dC (.int 1))) dNil))) (gdName 6) dYes (dBin fAdd (dVar 5) (dTup (dCons (dVar 6) dNil))) [6])))) { nx := N, rt := fun r _ => Q r, bk := bk, ct := ct } ((ptsOf pre).map pointLd) [.dat (.list (rs.map pairLd)), .dat (.list ((ptsOf pre).map pointLd)), .dat (.int p.1), .dat (.int p.2), .ob false (.lst []), x5, x6] := by
      intro bk ct
      refine forD_map pointLd (fun pr r e => ∃ x4 x5 x6, (x4 = .ob false (.lst ((pr.flatMap (ext1 p)).map pointLd)) ∨ x4 = .dat (.list ((pr.flatMap (ext1 p)).map pointLd))) ∧ e = [.dat (.list (rs.map pairLd)), .dat (.list ((ptsOf pre).map pointLd)), .dat (.int p.1), .dat (.int p.2), x4, x5, x6]) ⟨_, _, _, .inl rfl, rfl⟩ ?_ ?_
      · rintro pr q r' _ ⟨x4, x5, x6, hx4, rfl⟩ hall2 N3 hN3
        have hpl : (pr.flatMap (ext1 p)).length ≤ 8 * 4096 := by
          have h1 := flat_len hp pr
          have h2 : pr.length ≤ (ptsOf pre).length := by rw [hall2, List.length_append]; omega
          omega
        have heq : ((pr ++ [q]).flatMap (ext1 p)).map pointLd = (pr.flatMap (ext1 p)).map pointLd ++ (ext1 p q).map pointLd := by
          rw [List.flatMap_append, List.map_append]
          simp
        have hx1 := ext1_len hp q
        rcases hx4 with rfl | rfl <;>
        · walk_at "d"
          refine ⟨⟨inRg_of (by have := hp.a; have := hp.d; omega) (by have := hp.d; omega), inRg_of (by have := hp.a; have := hp.b; omega) (by have := hp.d; have := hp.c; omega)⟩, ?_⟩
          rw [rngD_I]
          refine compD_fm (f := .int) (h := pointLd) (p := fun a => some (q ++ [a])) (sh := fun x6 : En => [.dat (.list (rs.map pairLd)), .dat (.list ((ptsOf pre).map pointLd)), .dat (.int p.1), .dat (.int p.2), _, .dat (pointLd q), x6]) x6 ?_ (fun a ha x6 N4 hN4 => ?_) (fun x6 => ?_)
          · rw [rngI_len]
            have := hp.c
            omega
          · have h1 : q.length ≤ 5 := by
              rw [pts_len (rs := pre) (by rw [hall2]; simp)]
              omega
            simp only [pointLd]
            walk_at "d"
            refine ⟨few1, fit (by simp; omega), ?_⟩
            have := hN4 .no
            simp only [Option.map_some, pointLd, List.map_append, List.map_cons, List.map_nil] at this
            exact this
          · have e : (rngI p.1 (p.2 + 1 - p.1).toNat).filterMap (fun a => some (q ++ [a])) = ext1 p q := by
              unfold ext1
              rw [← List.filterMap_eq_map]
              rfl
            rw [e]
            walk_at "d"
            refine ⟨fit (by rw [List.length_map, List.length_map]; omega), ?_⟩
            exact hN3 _ ⟨_, _, _, .inr (by rw [heq]), rfl⟩
      · rintro _ ⟨x4, x5, x6, hx4, rfl⟩
        exact hN (x4, x5, x6) hx4
    rcases hx with rfl | rfl <;>
    · walk_at "d"
      exact go _ _
  · rintro _ ⟨x1, x2, x3, x4, x5, x6, _, hx, rfl⟩
    exact hN (x1, x2, x3, x4, x5, x6) hx
end DL
end SDLlib
section SK01S
set_option maxHeartbeats 4000000
/-! Facts: the defs' specifications and their readings. -/
namespace Cf
open PySem PySem.Spec PyProof.Rows L2 DL
inductive Rl | le | ge | eq | ne
  deriving DecidableEq
def Rl.s : Rl → Str
  | .le => "<="
  | .ge => ">="
  | .eq => "="
  | .ne => "!="
def Rl.h : Rl → Int → Int → Bool
  | .le, x, y => decide (x ≤ y)
  | .ge, x, y => decide (x ≥ y)
  | .eq, x, y => x == y
  | .ne, x, y => !(x == y)
def Rl.ng : Rl → Rl
  | .le => .ge
  | .ge => .le
  | .eq => .ne
  | .ne => .eq
def Rl.na : Rl → Int → Int
  | .le, a => a + 1
  | .ge, a => a - 1
  | .eq, a => a
  | .ne, a => a
def lit (v : Int) (r : Rl) (a : Int) : D := .tuple [.int v, .str r.s, .int a]
def imp (v : Int) (r : Rl) (a : Int) (w : Int) (q : Rl) (b : Int) : Bool :=
  if v == w then
    match r, q with
    | .eq, q => q.h a b
    | .ne, .ne => a == b
    | .ne, _ => false
    | .le, .le => Rl.h .le a b
    | .le, .ne => !Rl.h .le b a
    | .le, _ => false
    | .ge, .ge => Rl.h .ge a b
    | .ge, .ne => !Rl.h .ge b a
    | .ge, _ => false
  else false
theorem q00 : PyData.eqv (.str "<=") (.str "<=") = true := by decide +kernel
theorem q01 : PyData.eqv (.str "<=") (.str ">=") = false := by decide +kernel
theorem q02 : PyData.eqv (.str "<=") (.str "=") = false := by decide +kernel
theorem q03 : PyData.eqv (.str "<=") (.str "!=") = false := by decide +kernel
theorem q10 : PyData.eqv (.str ">=") (.str "<=") = false := by decide +kernel
theorem q11 : PyData.eqv (.str ">=") (.str ">=") = true := by decide +kernel
theorem q12 : PyData.eqv (.str ">=") (.str "=") = false := by decide +kernel
theorem q13 : PyData.eqv (.str ">=") (.str "!=") = false := by decide +kernel
theorem q20 : PyData.eqv (.str "=") (.str "<=") = false := by decide +kernel
theorem q21 : PyData.eqv (.str "=") (.str ">=") = false := by decide +kernel
theorem q22 : PyData.eqv (.str "=") (.str "=") = true := by decide +kernel
theorem q23 : PyData.eqv (.str "=") (.str "!=") = false := by decide +kernel
theorem q30 : PyData.eqv (.str "!=") (.str "<=") = false := by decide +kernel
theorem q31 : PyData.eqv (.str "!=") (.str ">=") = false := by decide +kernel
theorem q32 : PyData.eqv (.str "!=") (.str "=") = false := by decide +kernel
theorem q33 : PyData.eqv (.str "!=") (.str "!=") = true := by decide +kernel
theorem sh0 : SeqAt.shaped (.str "<=") = true := by decide +kernel
theorem sh1 : SeqAt.shaped (.str ">=") = true := by decide +kernel
theorem sh2 : SeqAt.shaped (.str "=") = true := by decide +kernel
theorem sh3 : SeqAt.shaped (.str "!=") = true := by decide +kernel
theorem cl0 : PyData.canLayAll0 [.str "<=", .str "="] = true := by decide +kernel
theorem cl1 : PyData.canLayAll0 [.str ">=", .str "="] = true := by decide +kernel
theorem u00 : PyData.eqv (.str "row") (.str "row") = true := by decide +kernel
theorem u01 : PyData.eqv (.str "row") (.str "any") = false := by decide +kernel
theorem u10 : PyData.eqv (.str "any") (.str "row") = false := by decide +kernel
theorem u11 : PyData.eqv (.str "any") (.str "any") = true := by decide +kernel
theorem sh4 : SeqAt.shaped (.str "row") = true := by decide +kernel
theorem sh5 : SeqAt.shaped (.str "any") = true := by decide +kernel
theorem ok0 : PyData.strOk "<=" = true := by decide +kernel
theorem ok1 : PyData.strOk ">=" = true := by decide +kernel
theorem ok2 : PyData.strOk "=" = true := by decide +kernel
theorem ok3 : PyData.strOk "!=" = true := by decide +kernel
theorem ok4 : PyData.strOk "row" = true := by decide +kernel
theorem ok5 : PyData.strOk "any" = true := by decide +kernel
structure Lt where
  v : Int
  r : Rl
  a : Int
  deriving DecidableEq
def Lt.d (x : Lt) : D := lit x.v x.r x.a
def Lt.neg (x : Lt) : Lt := ⟨x.v, x.r.ng, x.r.na x.a⟩
inductive Fc where
  | row (ts : List (Int × Int)) (b : Int)
  | any (ls : List Lt)
  deriving DecidableEq
def Fc.d : Fc → D
  | .row ts b => .tuple [.str "row", .tuple (ts.map pairLd), .int b]
  | .any ls => .tuple [.str "any", .tuple (ls.map Lt.d)]
def optD : Option Fc → D
  | some f => f.d
  | none => .none
def optL : Option Lt → D
  | some f => f.d
  | none => .none
def ptg (p : List Int) (v : Int) : Int := p.getD v.toNat 0
def tsum (ts : List (Int × Int)) (p : List Int) : Int := (ts.map fun q => q.2 * ptg p q.1).sum
def ngT (ts : List (Int × Int)) : List (Int × Int) := ts.map fun q => (q.1, -q.2)
def Lt.h (l : Lt) (p : List Int) : Bool := l.r.h (ptg p l.v) l.a
def Fc.h : Fc → List Int → Bool
  | .row ts b, p => decide (tsum ts p ≤ b)
  | .any ls, p => ls.any fun l => l.h p
def Fc.con : Fc → Bool
  | .row ts b => ts.length == 0 && decide (b < 0)
  | .any ls => ls.length == 0
def Fc.asRow : Fc → Option Fc
  | .row ts b => some (.row ts b)
  | .any [⟨v, .le, a⟩] => some (.row [(v, 1)] a)
  | .any [⟨v, .ge, a⟩] => some (.row [(v, -1)] (-a))
  | .any _ => none
def Fc.asLit : Fc → Option Lt
  | .row [(v, c)] b => some (if c > 0 then ⟨v, .le, b.fdiv c⟩ else ⟨v, .ge, -(b.fdiv (-c))⟩)
  | .row _ _ => none
  | .any [l] => some l
  | .any _ => none
def Fc.neg : Fc → Option Fc
  | .row ts b => some (.row (ngT ts) (-b - 1))
  | .any [l] => some (.any [l.neg])
  | .any _ => none
def Lt.imp (l m : Lt) : Bool := Cf.imp l.v l.r l.a m.v m.r m.a
def litsImp (f g : Fc) : Bool := match f.asLit with
  | none => false
  | some l => match g with
    | .any ms => ms.any fun m => l.imp m
    | .row ts b => match Fc.asLit (.row ts b) with
      | none => false
      | some m => l.imp m
def rowImp : Option Fc → Fc → Bool
  | some (.row ts b), .row us c => ts == us && decide (b ≤ c)
  | _, _ => false
def anyImp : Fc → Fc → Bool
  | .any ls, .any ms => ls.all fun l => decide (l ∈ ms)
  | _, _ => false
def impl (f g : Fc) : Bool := f.con || (rowImp f.asRow g || (anyImp f g || litsImp f g))
structure TOk (q : Int × Int) : Prop where
  v0 : 0 ≤ q.1
  v1 : q.1 < 3
  c0 : q.2 ≠ 0
  c1 : -3 ≤ q.2
  c2 : q.2 ≤ 3
structure LOk (l : Lt) : Prop where
  v0 : 0 ≤ l.v
  v1 : l.v < 3
def FOk : Fc → Prop
  | .row ts _ => ts.length ≤ 10 ∧ ∀ q ∈ ts, TOk q
  | .any ls => ls.length ≤ 10 ∧ ∀ l ∈ ls, LOk l
local macro_rules | `(tactic| walk_at "d") => `(tactic| simp only [dSeq, dAsg, dAsgO, dAsgG, dCall, dCallO, dCallP_eq, dCallPO_eq, dCallM_eq, dCallMO_eq, dCons, dNil, dVar_eq, dC, dBin, dTst_eq, dIf_eq, dNext, dNever, dRet, dRetO, dRetV_eq, dTup, dLst, dFrz_eq, dNeg_eq, dAndT_eq, dOrT_eq, dNotT, dAndV_eq, dOrV_eq, dNotV_eq, dIfE_eq, dChain_eq, dDrop, dMt_eq, dMt0_eq, fmAppend_d, dAug_eq, dPar_eq, two_d, dParO, dParOD, dParDO, gdName, gdTup_t, gdTup_l, gdCons_c, gdNil_n, gdSub_eq, dFor, idSeq, seqD_l, seqD_t, idRng1_eq, idRng2_eq, rng1_i, rng2_i, fI_i, fI0_i, fB0_i, fAdd_i, fAdd_s, fAdd_t, fAdd_l, fMul_i, fInt1_i, fInt1_b, fInt2_i, fAbs_i, fLen_l, fLen_t, fSum_l, fAny_l, fAll_l, fListOf_l, fListOf_t, fTupOf_l, fTupOf_t, fEq, fNe, fIsN_n, fNoN_n, isN_n, isN_i, isN_t, isN_l, isN_s, fIn_l, fIn_t, fIx_l, fIx_t, fSl_l, fSl_t, dSl, dPart_eq, dPartN, negD_i, see_d, see_s, seeE_o, seeE_d, seeL_n, seeL_c, consO_s, onD_s, dListRange1_eq, dListRange2_eq, lrg1_i, lrg2_i, wipeE_n, wipeE_c, dSortedSet_eq, sset_l, intsD_map, fIsB_b, fNoB_b, dRep, repK_i, varE_d, varE_o, frzR_d, frzR_s, frzE_d, frzE_o, frzL_n, frzL_c, lstO_l, lstE_o, ownE_o, slotR_s, datE_d, rtD_d, rtO_o, tstB_b, thenB_t, thenB_f, chainB_b, outM, dComp, dYes, List.getElem?_cons_zero, List.getElem?_cons_succ, List.set_cons_zero, List.set_cons_succ, gLt, gLe, gGt, gGe, gGcd, gMax, gMin])
local macro_rules | `(tactic| walk_at "dl") => `(tactic| simp only [List.length_cons, List.length_nil, Nat.zero_add, Nat.reduceAdd, true_and, few0, few1, few2, few3, few4, few5, atI_0, atI_1, atI_2, atI_3, atI_4, onD_s, ixN_0, ixN_1, sh_int, sh_bool, eqv_int, eqv_bool])
local macro_rules | `(tactic| walk_at "s") => `(tactic| simp only [q00, q01, q02, q03, q10, q11, q12, q13, q20, q21, q22, q23, q30, q31, q32, q33, u00, u01, u10, u11, sh0, sh1, sh2, sh3, sh4, sh5, cl0, cl1, List.nil_append, List.cons_append, Rl.s, and_true, Bool.not_true, Bool.not_false, thenB_t, thenB_f, List.any_cons, List.any_nil, Bool.or_false, Bool.or_true, Bool.false_or, Bool.true_or, if_true, if_false, Bool.false_eq_true, ite_true, ite_false])
local macro_rules | `(tactic| walk_at "w") => `(tactic| repeat (first | walk_at "d" | walk_at "dl" | walk_at "s"))
inductive sp_relation_holds : SpP
  | mk {r : Rl} {x y : Int} {Q : Rt → Prop} : Q (.dat (.bool (r.h x y))) → sp_relation_holds [.str r.s, .int x, .int y] Q
inductive sp_literal_holds : SpP
  | mk {r : Rl} {v x y : Int} {Q : Rt → Prop} : Q (.dat (.bool (r.h x y))) → sp_literal_holds [lit v r y, .int x] Q
inductive sp_negated : SpP
  | mk {r : Rl} {v y : Int} {Q : Rt → Prop} : Q (.dat (lit v r.ng (r.na y))) → sp_negated [lit v r y] Q
inductive sp_literal_implies : SpP
  | mk {r q : Rl} {v w a b : Int} {Q : Rt → Prop} : Q (.dat (.bool (imp v r a w q b))) → sp_literal_implies [lit v r a, lit w q b] Q
inductive sp_law_stands : SpP
  | mk {r : Rl} {x y : Int} {Q : Rt → Prop} : Q (.dat (.bool (r.h x y))) → sp_law_stands [.str r.s, .int x, .int y] Q
def weak : Fc → Fc
  | .row ts b => .row ts (b + 1)
  | .any ls => .any (ls ++ [⟨2, .ge, 1⟩])
theorem weak_ok {f : Fc} (h : FOk f) (hl : (match f with | .any ls => ls.length | .row ts _ => ts.length) ≤ 4) : FOk (weak f) := by
  cases f with
  | row ts b => exact h
  | any ls =>
    refine ⟨?_, fun l hm => ?_⟩
    · simp only at hl
      rw [List.length_append, List.length_singleton]
      omega
    · rcases List.mem_append.mp hm with hm | hm
      · exact h.2 l hm
      · cases List.mem_singleton.mp hm
        exact ⟨by decide, by decide⟩
inductive sp_terms_sum : SpP
  | mk {ts : List (Int × Int)} {p : List Int} {Q : Rt → Prop} : (∀ q ∈ ts, TOk q) → p.length = 3 → Q (.dat (.int (tsum ts p))) → sp_terms_sum [.tuple (ts.map pairLd), pointLd p] Q
inductive sp_negated_terms : SpP
  | mk {ts : List (Int × Int)} {Q : Rt → Prop} : ts.length ≤ 10 → Q (.dat (.tuple ((ngT ts).map pairLd))) → sp_negated_terms [.tuple (ts.map pairLd)] Q
inductive sp_fact_holds : SpP
  | mk {f : Fc} {p : List Int} {Q : Rt → Prop} : FOk f → p.length = 3 → Q (.dat (.bool (f.h p))) → sp_fact_holds [f.d, pointLd p] Q
inductive sp_is_contradiction : SpP
  | mk {f : Fc} {Q : Rt → Prop} : Q (.dat (.bool f.con)) → sp_is_contradiction [f.d] Q
inductive sp_as_row : SpP
  | mk {f : Fc} {Q : Rt → Prop} : Q (.dat (optD f.asRow)) → sp_as_row [f.d] Q
inductive sp_as_literal : SpP
  | mk {f : Fc} {Q : Rt → Prop} : FOk f → Q (.dat (optL f.asLit)) → sp_as_literal [f.d] Q
inductive sp_negation : SpP
  | mk {f : Fc} {Q : Rt → Prop} : FOk f → Q (.dat (optD f.neg)) → sp_negation [f.d] Q
inductive sp_literals_imply : SpP
  | mk {f g : Fc} {Q : Rt → Prop} : FOk f → FOk g → Q (.dat (.bool (litsImp f g))) → sp_literals_imply [f.d, g.d] Q
inductive sp_implies : SpP
  | mk {f g : Fc} {Q : Rt → Prop} : FOk f → FOk g → Q (.dat (.bool (impl f g))) → sp_implies [f.d, g.d] Q
def Fc.vs : Fc → List Int
  | .row ts _ => ts.map fun q => q.1
  | .any ls => ls.map fun l => l.v
inductive sp_unknowns_in : SpP
  | mk {f : Fc} {Q : Rt → Prop} : FOk f → (∀ ns : List Int, ns.Pairwise (· < ·) → (∀ k : Int, k ∈ ns ↔ k ∈ f.vs) → Q (.dat (.list (ns.map .int)))) → sp_unknowns_in [f.d] Q
inductive sp_law_sum : SpP
  | mk {ts : List (Int × Int)} {p : List Int} {Q : Rt → Prop} : ts.length ≤ 10 → (∀ q ∈ ts, TOk q) → p.length = 3 → Q (.dat (.int (tsum ts p))) → sp_law_sum [.tuple (ts.map pairLd), pointLd p] Q
inductive sp_law_some_terms : SpM
  | mk {many : Int} {o : Ob} {Q : Rt → Ob → Prop} : 0 ≤ many → many ≤ 3 → Stt o → (∀ (ts : List (Int × Int)) o', ts.length ≤ 3 → (∀ q ∈ ts, TOk q) → Stt o' → Q (.dat (.tuple (ts.map pairLd))) o') → sp_law_some_terms [.int many] o Q
inductive sp_law_literal : SpM
  | mk {v : Int} {o : Ob} {Q : Rt → Ob → Prop} : 0 ≤ v → v < 3 → Stt o → (∀ (l : Lt) o', LOk l → Stt o' → Q (.dat l.d) o') → sp_law_literal [.list ([(-2, 3), (-2, 3), (-2, 3)].map pairLd), .int v] o Q
inductive sp_law_fact : SpM
  | mk {o : Ob} {Q : Rt → Ob → Prop} : Stt o → (∀ f o', FOk f → FOk (weak f) → Stt o' → Q (.dat f.d) o') → sp_law_fact [] o Q
inductive sp_law_fact_stands : SpP
  | mk {f : Fc} {p : List Int} {Q : Rt → Prop} : FOk f → p.length = 3 → Q (.dat (.bool (f.h p))) → sp_law_fact_stands [f.d, pointLd p] Q
theorem hl_relation_holds : ∀ ds Q, sp_relation_holds ds Q → ds.length = 3 := fun ds Q h => by cases h; rfl
theorem hl_literal_holds : ∀ ds Q, sp_literal_holds ds Q → ds.length = 2 := fun ds Q h => by cases h; rfl
theorem hl_negated : ∀ ds Q, sp_negated ds Q → ds.length = 1 := fun ds Q h => by cases h; rfl
theorem hl_literal_implies : ∀ ds Q, sp_literal_implies ds Q → ds.length = 2 := fun ds Q h => by cases h; rfl
theorem hl_law_stands : ∀ ds Q, sp_law_stands ds Q → ds.length = 3 := fun ds Q h => by cases h; rfl
theorem hl_terms_sum : ∀ ds Q, sp_terms_sum ds Q → ds.length = 2 := fun ds Q h => by cases h; rfl
theorem hl_negated_terms : ∀ ds Q, sp_negated_terms ds Q → ds.length = 1 := fun ds Q h => by cases h; rfl
theorem hl_fact_holds : ∀ ds Q, sp_fact_holds ds Q → ds.length = 2 := fun ds Q h => by cases h; rfl
theorem hl_is_contradiction : ∀ ds Q, sp_is_contradiction ds Q → ds.length = 1 := fun ds Q h => by cases h; rfl
theorem hl_as_row : ∀ ds Q, sp_as_row ds Q → ds.length = 1 := fun ds Q h => by cases h; rfl
theorem hl_as_literal : ∀ ds Q, sp_as_literal ds Q → ds.length = 1 := fun ds Q h => by cases h; rfl
theorem hl_negation : ∀ ds Q, sp_negation ds Q → ds.length = 1 := fun ds Q h => by cases h; rfl
theorem hl_literals_imply : ∀ ds Q, sp_literals_imply ds Q → ds.length = 2 := fun ds Q h => by cases h; rfl
theorem hl_implies : ∀ ds Q, sp_implies ds Q → ds.length = 2 := fun ds Q h => by cases h; rfl
theorem hl_unknowns_in : ∀ ds Q, sp_unknowns_in ds Q → ds.length = 1 := fun ds Q h => by cases h; rfl
theorem hl_law_sum : ∀ ds Q, sp_law_sum ds Q → ds.length = 2 := fun ds Q h => by cases h; rfl
theorem hl_law_fact_stands : ∀ ds Q, sp_law_fact_stands ds Q → ds.length = 2 := fun ds Q h => by cases h; rfl
theorem hl_law_some_terms : ∀ ds o Q, sp_law_some_terms ds o Q → ds.length + 1 = 2 := fun ds o Q h => by cases h; rfl
theorem hl_law_literal : ∀ ds o Q, sp_law_literal ds o Q → ds.length + 1 = 3 := fun ds o Q h => by cases h; rfl
theorem hl_law_fact : ∀ ds o Q, sp_law_fact ds o Q → ds.length + 1 = 1 := fun ds o Q h => by cases h; rfl
def t_relation_holds : TSd := (dSeq (dIf (dTst (dBin fEq (dVar 0) (dC (.str "<=")))) (dRet (dBin (fB0 gLe) (dVar 1) (dVar 2))) dNext)
  (dSeq (dIf (dTst (dBin fEq (dVar 0) (dC (.str ">=")))) (dRet (dBin (fB0 gGe) (dVar 1) (dVar 2))) dNext)
  (dSeq (dIf (dTst (dBin fEq (dVar 0) (dC (.str "=")))) (dRet (dBin fEq (dVar 1) (dVar 2))) dNext)
  (dRet (dBin fNe (dVar 1) (dVar 2))))))
def t_literal_holds : TSd := (dRet (dCallP sp_relation_holds (dCons (dBin fIx (dVar 0) (dC (.int 1))) (dCons (dVar 1) (dCons (dBin fIx (dVar 0) (dC (.int 2))) dNil)))))
def t_negated : TSd := (dSeq (dAsgG (dVar 0) (gdTup 3 (gdCons (gdName 1) (gdCons (gdName 2) (gdCons (gdName 3) gdNil)))))
  (dSeq (dIf (dTst (dBin fEq (dVar 2) (dC (.str "<=")))) (dRet (dTup (dCons (dVar 1) (dCons (dC (.str ">=")) (dCons (dBin fAdd (dVar 3) (dC (.int 1))) dNil))))) dNext)
  (dSeq (dIf (dTst (dBin fEq (dVar 2) (dC (.str ">=")))) (dRet (dTup (dCons (dVar 1) (dCons (dC (.str "<=")) (dCons (dBin (fI0 fun i j => i - j) (dVar 3) (dC (.int 1))) dNil))))) dNext)
  (dSeq (dIf (dTst (dBin fEq (dVar 2) (dC (.str "=")))) (dRet (dTup (dCons (dVar 1) (dCons (dC (.str "!=")) (dCons (dVar 3) dNil))))) dNext)
  (dRet (dTup (dCons (dVar 1) (dCons (dC (.str "=")) (dCons (dVar 3) dNil)))))))))
def t_literal_implies : TSd := (dSeq (dIf (dTst (dBin fNe (dBin fIx (dVar 0) (dC (.int 0))) (dBin fIx (dVar 1) (dC (.int 0))))) (dRet (dC (.bool false))) dNext)
  (dSeq (dAsg 2 (dBin fIx (dVar 0) (dC (.int 1))))
  (dSeq (dAsg 3 (dBin fIx (dVar 0) (dC (.int 2))))
  (dSeq (dAsg 4 (dBin fIx (dVar 1) (dC (.int 1))))
  (dSeq (dAsg 5 (dBin fIx (dVar 1) (dC (.int 2))))
  (dSeq (dIf (dTst (dBin fEq (dVar 2) (dC (.str "=")))) (dRet (dCallP sp_relation_holds (dCons (dVar 4) (dCons (dVar 3) (dCons (dVar 5) dNil))))) dNext)
  (dSeq (dIf (dTst (dBin fEq (dVar 2) (dC (.str "!=")))) (dRet (dAndV (dBin fEq (dVar 4) (dC (.str "!="))) (dBin fEq (dVar 3) (dVar 5)))) dNext)
  (dSeq (dIf (dTst (dBin fEq (dVar 4) (dVar 2))) (dRet (dCallP sp_relation_holds (dCons (dVar 2) (dCons (dVar 3) (dCons (dVar 5) dNil))))) dNext)
  (dSeq (dIf (dTst (dBin fEq (dVar 4) (dC (.str "!=")))) (dRet (dNotV (dCallP sp_relation_holds (dCons (dVar 2) (dCons (dVar 5) (dCons (dVar 3) dNil)))))) dNext)
  (dRet (dC (.bool false))))))))))))
def t_terms_sum : TSd := (dSeq (dAsg 2 (dC (.int 0)))
  (dSeq (dFor (idSeq (dVar 0)) (gdTup 2 (gdCons (gdName 3) (gdCons (gdName 4) gdNil))) (dAug 2 (fI0 fun i j => i + j) (dBin fMul (dVar 4) (dBin fIx (dVar 1) (dVar 3)))))
  (dRet (dVar 2))))
def t_negated_terms : TSd := (dRet (dCall fTupOf (dCons (dFrz (dComp (idSeq (dVar 0)) (gdTup 2 (gdCons (gdName 1) (gdCons (gdName 2) gdNil))) dYes (dTup (dCons (dVar 1) (dCons (dNeg (dVar 2)) dNil))) [1, 2])) dNil)))
def t_fact_holds : TSd := (dSeq (dIf (dTst (dBin fEq (dBin fIx (dVar 0) (dC (.int 0))) (dC (.str "row")))) (dRet (dBin (fB0 gLe) (dCallP sp_terms_sum (dCons (dBin fIx (dVar 0) (dC (.int 1))) (dCons (dVar 1) dNil))) (dBin fIx (dVar 0) (dC (.int 2))))) dNext)
  (dRet (dCall fAny (dCons (dFrz (dComp (idSeq (dBin fIx (dVar 0) (dC (.int 1)))) (gdName 2) dYes (dCallP sp_literal_holds (dCons (dVar 2) (dCons (dBin fIx (dVar 1) (dBin fIx (dVar 2) (dC (.int 0)))) dNil))) [2])) dNil))))
def t_is_contradiction : TSd := (dSeq (dIf (dTst (dBin fEq (dBin fIx (dVar 0) (dC (.int 0))) (dC (.str "row")))) (dRet (dAndV (dBin fEq (dCall fLen (dCons (dBin fIx (dVar 0) (dC (.int 1))) dNil)) (dC (.int 0))) (dBin (fB0 gLt) (dBin fIx (dVar 0) (dC (.int 2))) (dC (.int 0))))) dNext)
  (dRet (dBin fEq (dCall fLen (dCons (dBin fIx (dVar 0) (dC (.int 1))) dNil)) (dC (.int 0)))))
def t_as_row : TSd := (dSeq (dIf (dTst (dBin fEq (dBin fIx (dVar 0) (dC (.int 0))) (dC (.str "row")))) (dRet (dVar 0)) dNext)
  (dSeq (dIf (dTst (dBin fNe (dCall fLen (dCons (dBin fIx (dVar 0) (dC (.int 1))) dNil)) (dC (.int 1)))) (dRet (dC .none)) dNext)
  (dSeq (dAsgG (dBin fIx (dBin fIx (dVar 0) (dC (.int 1))) (dC (.int 0))) (gdTup 3 (gdCons (gdName 1) (gdCons (gdName 2) (gdCons (gdName 3) gdNil)))))
  (dSeq (dIf (dTst (dBin fEq (dVar 2) (dC (.str "<=")))) (dRet (dTup (dCons (dC (.str "row")) (dCons (dTup (dCons (dTup (dCons (dVar 1) (dCons (dC (.int 1)) dNil))) dNil)) (dCons (dVar 3) dNil))))) dNext)
  (dSeq (dIf (dTst (dBin fEq (dVar 2) (dC (.str ">=")))) (dRet (dTup (dCons (dC (.str "row")) (dCons (dTup (dCons (dTup (dCons (dVar 1) (dCons (dNeg (dC (.int 1))) dNil))) dNil)) (dCons (dNeg (dVar 3)) dNil))))) dNext)
  (dRet (dC .none)))))))
def t_as_literal : TSd := (dSeq (dIf (dTst (dBin fNe (dCall fLen (dCons (dBin fIx (dVar 0) (dC (.int 1))) dNil)) (dC (.int 1)))) (dRet (dC .none)) dNext)
  (dSeq (dIf (dTst (dBin fEq (dBin fIx (dVar 0) (dC (.int 0))) (dC (.str "any")))) (dRet (dBin fIx (dBin fIx (dVar 0) (dC (.int 1))) (dC (.int 0)))) dNext)
  (dSeq (dAsgG (dBin fIx (dBin fIx (dVar 0) (dC (.int 1))) (dC (.int 0))) (gdTup 2 (gdCons (gdName 1) (gdCons (gdName 2) gdNil))))
  (dSeq (dIf (dTst (dBin (fB0 gGt) (dVar 2) (dC (.int 0)))) (dRet (dTup (dCons (dVar 1) (dCons (dC (.str "<=")) (dCons (dBin (fI DivOk fun i j => i.fdiv j) (dBin fIx (dVar 0) (dC (.int 2))) (dVar 2)) dNil))))) dNext)
  (dRet (dTup (dCons (dVar 1) (dCons (dC (.str ">=")) (dCons (dNeg (dBin (fI DivOk fun i j => i.fdiv j) (dBin fIx (dVar 0) (dC (.int 2))) (dNeg (dVar 2)))) dNil)))))))))
def t_negation : TSd := (dSeq (dIf (dTst (dBin fEq (dBin fIx (dVar 0) (dC (.int 0))) (dC (.str "row")))) (dRet (dTup (dCons (dC (.str "row")) (dCons (dCallP sp_negated_terms (dCons (dBin fIx (dVar 0) (dC (.int 1))) dNil)) (dCons (dBin (fI0 fun i j => i - j) (dNeg (dBin fIx (dVar 0) (dC (.int 2)))) (dC (.int 1))) dNil))))) dNext)
  (dSeq (dIf (dTst (dBin fNe (dCall fLen (dCons (dBin fIx (dVar 0) (dC (.int 1))) dNil)) (dC (.int 1)))) (dRet (dC .none)) dNext)
  (dRet (dTup (dCons (dC (.str "any")) (dCons (dTup (dCons (dCallP sp_negated (dCons (dBin fIx (dBin fIx (dVar 0) (dC (.int 1))) (dC (.int 0))) dNil)) dNil)) dNil))))))
def t_literals_imply : TSd := (dSeq (dAsg 2 (dCallP sp_as_literal (dCons (dVar 0) dNil)))
  (dSeq (dIf (dTst (dBin fIsN (dVar 2) (dC .none))) (dRet (dC (.bool false))) dNext)
  (dSeq (dIf (dTst (dBin fEq (dBin fIx (dVar 1) (dC (.int 0))) (dC (.str "any")))) (dRet (dCall fAny (dCons (dFrz (dComp (idSeq (dBin fIx (dVar 1) (dC (.int 1)))) (gdName 3) dYes (dCallP sp_literal_implies (dCons (dVar 2) (dCons (dVar 3) dNil))) [3])) dNil))) dNext)
  (dSeq (dAsg 3 (dCallP sp_as_literal (dCons (dVar 1) dNil)))
  (dRet (dAndV (dBin fNoN (dVar 3) (dC .none)) (dCallP sp_literal_implies (dCons (dVar 2) (dCons (dVar 3) dNil)))))))))
def t_implies : TSd := (dSeq (dIf (dTst (dCallP sp_is_contradiction (dCons (dVar 0) dNil))) (dRet (dC (.bool true))) dNext)
  (dSeq (dIf (dTst (dBin fEq (dBin fIx (dVar 1) (dC (.int 0))) (dC (.str "row")))) (dSeq (dAsg 2 (dCallP sp_as_row (dCons (dVar 0) dNil)))
  (dIf (dAndT (dTst (dBin fNoN (dVar 2) (dC .none))) (dAndT (dTst (dBin fEq (dBin fIx (dVar 2) (dC (.int 1))) (dBin fIx (dVar 1) (dC (.int 1))))) (dTst (dBin (fB0 gLe) (dBin fIx (dVar 2) (dC (.int 2))) (dBin fIx (dVar 1) (dC (.int 2))))))) (dRet (dC (.bool true))) dNext)) (dIf (dAndT (dTst (dBin fEq (dBin fIx (dVar 0) (dC (.int 0))) (dC (.str "any")))) (dTst (dCall fAll (dCons (dFrz (dComp (idSeq (dBin fIx (dVar 0) (dC (.int 1)))) (gdName 3) dYes (dBin (fIn false) (dVar 3) (dBin fIx (dVar 1) (dC (.int 1)))) [3])) dNil)))) (dRet (dC (.bool true))) dNext))
  (dRet (dCallP sp_literals_imply (dCons (dVar 0) (dCons (dVar 1) dNil))))))
def t_unknowns_in : TSd := (dRet (dFrz (dSortedSet (dCons (dFrz (dComp (idSeq (dBin fIx (dVar 0) (dC (.int 1)))) (gdName 1) dYes (dBin fIx (dVar 1) (dC (.int 0))) [1])) dNil))))
def t_law_stands : TSd := (dSeq (dIf (dTst (dBin fEq (dVar 0) (dC (.str "<=")))) (dRet (dBin (fB0 gLe) (dVar 1) (dVar 2))) dNext)
  (dSeq (dIf (dTst (dBin fEq (dVar 0) (dC (.str ">=")))) (dRet (dBin (fB0 gGe) (dVar 1) (dVar 2))) dNext)
  (dRet (dBin fEq (dBin fEq (dVar 1) (dVar 2)) (dBin fEq (dVar 0) (dC (.str "=")))))))
def t_law_sum : TSd := (dRet (dCall fSum (dCons (dFrz (dComp (idSeq (dVar 0)) (gdTup 2 (gdCons (gdName 2) (gdCons (gdName 3) gdNil))) dYes (dBin fMul (dVar 3) (dBin fIx (dVar 1) (dVar 2))) [2, 3])) dNil)))
def t_law_some_terms : TSd := (dSeq (dAsgO 2 (dLst dNil))
  (dSeq (dFor (idRng1 (dCons (dVar 1) dNil)) (gdName 3) (dIf (dTst (dBin (fB0 gGt) (dCallM sp_law_draw (dCons (dVar 0) (dCons (dC (.int 3)) dNil))) (dC (.int 0)))) (dDrop (dMt 2 fmAppend (dCons (dTup (dCons (dVar 3) (dCons (dBin fIx (dFrz (dLst (dCons (dNeg (dC (.int 3))) (dCons (dNeg (dC (.int 2))) (dCons (dNeg (dC (.int 1))) (dCons (dC (.int 1)) (dCons (dC (.int 2)) (dCons (dC (.int 3)) dNil)))))))) (dCallM sp_law_draw (dCons (dVar 0) (dCons (dC (.int 6)) dNil)))) dNil))) dNil))) dNext))
  (dRet (dCall fTupOf (dCons (dVar 2) dNil)))))
def t_law_literal : TSd := (dSeq (dAsgG (dBin fIx (dVar 1) (dVar 2)) (gdTup 2 (gdCons (gdName 3) (gdCons (gdName 4) gdNil))))
  (dRet (dTup (dCons (dVar 2) (dCons (dBin fIx (dFrz (dLst (dCons (dC (.str "<=")) (dCons (dC (.str ">=")) (dCons (dC (.str "=")) (dCons (dC (.str "!=")) dNil)))))) (dCallM sp_law_draw (dCons (dVar 0) (dCons (dC (.int 4)) dNil)))) (dCons (dBin fAdd (dVar 3) (dCallM sp_law_draw (dCons (dVar 0) (dCons (dBin fAdd (dBin (fI0 fun i j => i - j) (dVar 4) (dVar 3)) (dC (.int 1))) dNil)))) dNil))))))
def t_law_fact : TSd := (dSeq (dIf (dTst (dBin fEq (dCallM sp_law_draw (dCons (dVar 0) (dCons (dC (.int 2)) dNil))) (dC (.int 0)))) (dRet (dTup (dCons (dC (.str "row")) (dCons (dCallM sp_law_some_terms (dCons (dVar 0) (dCons (dBin fAdd (dC (.int 1)) (dCallM sp_law_draw (dCons (dVar 0) (dCons (dC (.int 3)) dNil)))) dNil))) (dCons (dBin (fI0 fun i j => i - j) (dCallM sp_law_draw (dCons (dVar 0) (dCons (dC (.int 15)) dNil))) (dC (.int 7))) dNil))))) dNext)
  (dRet (dTup (dCons (dC (.str "any")) (dCons (dCall fTupOf (dCons (dFrz (dComp (idRng1 (dCons (dCallM sp_law_draw (dCons (dVar 0) (dCons (dC (.int 4)) dNil))) dNil)) (gdName 1) dYes (dCallM sp_law_literal (dCons (dVar 0) (dCons (dFrz (dRep (dLst (dCons (dTup (dCons (dNeg (dC (.int 2))) (dCons (dC (.int 3)) dNil))) dNil)) (dC (.int 3)))) (dCons (dCallM sp_law_draw (dCons (dVar 0) (dCons (dC (.int 3)) dNil))) dNil)))) [1])) dNil)) dNil)))))
def t_law_fact_stands : TSd := (dSeq (dIf (dTst (dBin fEq (dBin fIx (dVar 0) (dC (.int 0))) (dC (.str "row")))) (dRet (dBin (fB0 gLe) (dCallP sp_law_sum (dCons (dBin fIx (dVar 0) (dC (.int 1))) (dCons (dVar 1) dNil))) (dBin fIx (dVar 0) (dC (.int 2))))) dNext)
  (dRet (dBin (fIn false) (dC (.bool true)) (dFrz (dComp (idSeq (dBin fIx (dVar 0) (dC (.int 1)))) (gdTup 3 (gdCons (gdName 2) (gdCons (gdName 3) (gdCons (gdName 4) gdNil)))) dYes (dCallP sp_law_stands (dCons (dVar 3) (dCons (dBin fIx (dVar 1) (dVar 2)) (dCons (dVar 4) dNil)))) [2, 3, 4])))))
def t_law : TSd := (dSeq (dAsg 1 (dCallP sp_law_points (dCons (dFrz (dRep (dLst (dCons (dTup (dCons (dNeg (dC (.int 2))) (dCons (dC (.int 3)) dNil))) dNil)) (dC (.int 3)))) dNil)))
  (dSeq (dFor (idRng1 (dCons (dCall (fInt2 gMin) (dCons (dC (.int 6)) (dCons (dBin fAdd (dC (.int 1)) (dCall fLen (dCons (dVar 0) dNil))) dNil))) dNil)) (gdName 2) (dSeq (dAsgO 3 (dCallPO sp_law_state (dCons (dVar 0) (dCons (dVar 2) (dCons (dC (.int 2)) dNil)))))
  (dSeq (dAsgO 4 (dComp (idRng1 (dCons (dC (.int 4)) dNil)) (gdName 12) dYes (dCallM sp_law_fact (dCons (dVar 3) dNil)) [12]))
  (dSeq (dAsg 4 (dBin fAdd (dVar 4) (dFrz (dComp (idSeq (dVar 4)) (gdName 7) dYes (dIfE (dTst (dBin fEq (dBin fIx (dVar 7) (dC (.int 0))) (dC (.str "row")))) (dTup (dCons (dC (.str "row")) (dCons (dBin fIx (dVar 7) (dC (.int 1))) (dCons (dBin fAdd (dBin fIx (dVar 7) (dC (.int 2))) (dC (.int 1))) dNil)))) (dTup (dCons (dC (.str "any")) (dCons (dBin fAdd (dBin fIx (dVar 7) (dC (.int 1))) (dTup (dCons (dTup (dCons (dC (.int 2)) (dCons (dC (.str ">=")) (dCons (dC (.int 1)) dNil)))) dNil))) dNil)))) [7]))))
  (dSeq (dAsgO 5 (dComp (idSeq (dVar 4)) (gdName 7) dYes (dFrz (dComp (idSeq (dVar 1)) (gdName 13) dYes (dCallP sp_law_fact_stands (dCons (dVar 7) (dCons (dVar 13) dNil))) [13])) [7]))
  (dFor (idRng1 (dCons (dCall fLen (dCons (dVar 4) dNil)) dNil)) (gdName 6) (dSeq (dAsg 7 (dBin fIx (dVar 4) (dVar 6)))
  (dSeq (dIf (dOrT (dTst (dBin fNe (dFrz (dComp (idSeq (dVar 1)) (gdName 13) dYes (dCallP sp_fact_holds (dCons (dVar 7) (dCons (dVar 13) dNil))) [13])) (dBin fIx (dVar 5) (dVar 6)))) (dTst (dBin fNoB (dCallP sp_implies (dCons (dVar 7) (dCons (dVar 7) dNil))) (dC (.bool true))))) (dRet (dC (.bool false))) dNext)
  (dSeq (dIf (dTst (dBin fNe (dCallP sp_unknowns_in (dCons (dVar 7) dNil)) (dFrz (dComp (idRng1 (dCons (dC (.int 3)) dNil)) (gdName 14) (dTst (dBin (fIn false) (dVar 14) (dFrz (dComp (idSeq (dBin fIx (dVar 7) (dC (.int 1)))) (gdName 17) dYes (dBin fIx (dVar 17) (dC (.int 0))) [17])))) (dVar 14) [14])))) (dRet (dC (.bool false))) dNext)
  (dSeq (dIf (dTst (dBin fNe (dCallP sp_is_contradiction (dCons (dVar 7) dNil)) (dAndV (dBin fEq (dCall fLen (dCons (dBin fIx (dVar 7) (dC (.int 1))) dNil)) (dC (.int 0))) (dBin (fIn true) (dC (.bool true)) (dBin fIx (dVar 5) (dVar 6)))))) (dRet (dC (.bool false))) dNext)
  (dSeq (dAsg 8 (dCallP sp_negation (dCons (dVar 7) dNil)))
  (dSeq (dIf (dTst (dBin fNe (dBin fIsN (dVar 8) (dC .none)) (dAndV (dBin fEq (dBin fIx (dVar 7) (dC (.int 0))) (dC (.str "any"))) (dBin fNe (dCall fLen (dCons (dBin fIx (dVar 7) (dC (.int 1))) dNil)) (dC (.int 1)))))) (dRet (dC (.bool false))) dNext)
  (dSeq (dIf (dAndT (dTst (dBin fNoN (dVar 8) (dC .none))) (dOrT (dTst (dBin fNe (dCallP sp_negation (dCons (dVar 8) dNil)) (dVar 7))) (dTst (dBin fNe (dFrz (dComp (idSeq (dVar 1)) (gdName 13) dYes (dCallP sp_fact_holds (dCons (dVar 8) (dCons (dVar 13) dNil))) [13])) (dFrz (dComp (idSeq (dBin fIx (dVar 5) (dVar 6))) (gdName 15) dYes (dNotV (dVar 15)) [15])))))) (dRet (dC (.bool false))) dNext)
  (dSeq (dAsgG (dTup (dCons (dCallP sp_as_row (dCons (dVar 7) dNil)) (dCons (dCallP sp_as_literal (dCons (dVar 7) dNil)) dNil))) (gdTup 2 (gdCons (gdName 9) (gdCons (gdName 10) gdNil))))
  (dSeq (dIf (dAndT (dTst (dBin fNoN (dVar 9) (dC .none))) (dTst (dBin fNe (dFrz (dComp (idSeq (dVar 1)) (gdName 13) dYes (dCallP sp_fact_holds (dCons (dVar 9) (dCons (dVar 13) dNil))) [13])) (dBin fIx (dVar 5) (dVar 6))))) (dRet (dC (.bool false))) dNext)
  (dSeq (dIf (dAndT (dTst (dBin fNoN (dVar 10) (dC .none))) (dTst (dBin fNe (dFrz (dComp (idSeq (dVar 1)) (gdName 13) dYes (dCallP sp_literal_holds (dCons (dVar 10) (dCons (dBin fIx (dVar 13) (dBin fIx (dVar 10) (dC (.int 0)))) dNil))) [13])) (dBin fIx (dVar 5) (dVar 6))))) (dRet (dC (.bool false))) dNext)
  (dSeq (dIf (dOrT (dTst (dBin fNe (dBin fIsN (dVar 10) (dC .none)) (dBin fNe (dCall fLen (dCons (dBin fIx (dVar 7) (dC (.int 1))) dNil)) (dC (.int 1))))) (dAndT (dTst (dBin fEq (dBin fIx (dVar 7) (dC (.int 0))) (dC (.str "row")))) (dTst (dBin fNe (dVar 9) (dVar 7))))) (dRet (dC (.bool false))) dNext)
  (dSeq (dIf (dAndT (dTst (dBin (fB0 gLt) (dVar 6) (dC (.int 4)))) (dTst (dBin fNoB (dCallP sp_implies (dCons (dVar 7) (dCons (dBin fIx (dVar 4) (dBin fAdd (dVar 6) (dC (.int 4)))) dNil))) (dC (.bool true))))) (dRet (dC (.bool false))) dNext)
  (dFor (idRng1 (dCons (dCall fLen (dCons (dVar 4) dNil)) dNil)) (gdName 11) (dIf (dAndT (dTst (dCallP sp_implies (dCons (dVar 7) (dCons (dBin fIx (dVar 4) (dVar 11)) dNil)))) (dTst (dBin (fIn false) (dC (.bool true)) (dFrz (dComp (idRng1 (dCons (dCall fLen (dCons (dVar 1) dNil)) dNil)) (gdName 16) dYes (dAndV (dBin fIx (dBin fIx (dVar 5) (dVar 6)) (dVar 16)) (dNotV (dBin fIx (dBin fIx (dVar 5) (dVar 11)) (dVar 16)))) [16]))))) (dRet (dC (.bool false))) dNext))))))))))))))))))))
  (dRet (dC (.bool true)))))
theorem sm_relation_holds : ∀ ds Q, sp_relation_holds ds Q → t_relation_holds { nx := fun _ => Q (.dat .none), rt := fun r _ => Q r } (startE ["relation", "left", "right"] ds) := by
  rintro _ Q (@⟨r, x, y, _, k⟩)
  show t_relation_holds _ [.dat (.str r.s), .dat (.int x), .dat (.int y)]
  unfold t_relation_holds
  cases r <;> walk_at "w" <;> exact k
theorem sm_literal_holds : ∀ ds Q, sp_literal_holds ds Q → t_literal_holds { nx := fun _ => Q (.dat .none), rt := fun r _ => Q r } (startE ["literal", "worth"] ds) := by
  rintro _ Q (@⟨r, v, x, y, _, k⟩)
  show t_literal_holds _ [.dat (.tuple [.int v, .str r.s, .int y]), .dat (.int x)]
  unfold t_literal_holds
  walk_at "d"
  walk_at "dl"
  refine .mk ?_
  simp only [rtD_d]
  exact k
theorem sm_negated : ∀ ds Q, sp_negated ds Q → t_negated { nx := fun _ => Q (.dat .none), rt := fun r _ => Q r } (startE ["literal", "v", "relation", "a"] ds) := by
  rintro _ Q (@⟨r, v, y, _, k⟩)
  show t_negated _ [.dat (.tuple [.int v, .str r.s, .int y]), .no, .no, .no]
  unfold t_negated
  cases r <;> walk_at "w" <;> exact k
theorem sm_literal_implies : ∀ ds Q, sp_literal_implies ds Q → t_literal_implies { nx := fun _ => Q (.dat .none), rt := fun r _ => Q r } (startE ["first", "second", "relation", "a", "wanted", "b"] ds) := by
  rintro _ Q (@⟨r, q, v, w, a, b, _, k⟩)
  show t_literal_implies _ [.dat (.tuple [.int v, .str r.s, .int a]), .dat (.tuple [.int w, .str q.s, .int b]), .no, .no, .no, .no]
  unfold t_literal_implies
  unfold imp at k
  walk_at "d"
  walk_at "dl"
  cases hvw : v == w
  · simp only [Bool.not_false, thenB_t]
    rw [hvw] at k
    exact k
  · rw [hvw] at k
    simp only [Bool.not_true, thenB_f]
    simp only [if_true] at k
    cases r <;> cases q <;> walk_at "w" <;> first
      | exact k
      | (refine .mk (r := .le) ?_; walk_at "d"; exact k)
      | (refine .mk (r := .ge) ?_; walk_at "d"; exact k)
      | (refine .mk (r := .eq) ?_; walk_at "d"; exact k)
      | (refine .mk (r := .ne) ?_; walk_at "d"; exact k)
theorem sm_law_stands : ∀ ds Q, sp_law_stands ds Q → t_law_stands { nx := fun _ => Q (.dat .none), rt := fun r _ => Q r } (startE ["relation", "left", "right"] ds) := by
  rintro _ Q (@⟨r, x, y, _, k⟩)
  show t_law_stands _ [.dat (.str r.s), .dat (.int x), .dat (.int y)]
  unfold t_law_stands
  unfold Rl.h at k
  cases r <;> walk_at "w"
  · exact k
  · exact k
  · rw [show ((x == y) == true) = (x == y) by cases (x == y) <;> rfl]
    exact k
  · rw [show ((x == y) == false) = !(x == y) by cases (x == y) <;> rfl]
    exact k
theorem atI_pt {p : List Int} (h : p.length = 3) {v : Int} (h0 : 0 ≤ v) (h1 : v < 3) : atI (p.map PyData.int) v = some (.int (ptg p v)) := by
  rw [atI_some h0 (by rw [List.length_map]; omega), List.getElem?_map]
  unfold ptg
  rw [List.getElem?_eq_getElem (by omega), List.getD_eq_getElem?_getD, List.getElem?_eq_getElem (by omega)]
  rfl
theorem fIx_pt {p : List Int} (h : p.length = 3) {v : Int} (h0 : 0 ≤ v) (h1 : v < 3) {Q : D → Prop} : fIx (pointLd p) (.int v) Q = Q (.int (ptg p v)) := by
  unfold pointLd
  rw [fIx_t, atI_pt h h0 h1, onD_s]
theorem sm_terms_sum : ∀ ds Q, sp_terms_sum ds Q → t_terms_sum { nx := fun _ => Q (.dat .none), rt := fun r _ => Q r } (startE ["terms", "point", "total", "v", "c"] ds) := by
  rintro _ Q (@⟨ts, p, _, ht, hp, k⟩)
  generalize hs : PyData.tuple (ts.map pairLd) = sc
  show t_terms_sum _ [.dat sc, .dat (pointLd p), .no, .no, .no]
  subst hs
  unfold t_terms_sum
  walk_at "d"
  refine forD_map pairLd (fun pre r e => ∃ x3 x4, e = [.dat (.tuple (ts.map pairLd)), .dat (pointLd p), .dat (.int (tsum pre p)), x3, x4]) ⟨_, _, rfl⟩ ?_ ?_
  · rintro pre q r _ ⟨x3, x4, rfl⟩ hall N hN
    have hq := ht q (by rw [hall]; simp)
    simp only [gd_pair, List.set_cons_succ, List.set_cons_zero]
    walk_at "d"
    rw [fIx_pt hp hq.v0 hq.v1]
    walk_at "d"
    refine ⟨mul_okL (by have := hq.c1; omega) (by have := hq.c2; omega), ?_⟩
    have e : tsum (pre ++ [q]) p = tsum pre p + q.2 * ptg p q.1 := by
      unfold tsum
      rw [List.map_append, List.sum_append]
      simp
    rw [← e]
    exact hN _ ⟨_, _, rfl⟩
  · rintro _ ⟨x3, x4, rfl⟩
    walk_at "d"
    exact k
theorem sm_negated_terms : ∀ ds Q, sp_negated_terms ds Q → t_negated_terms { nx := fun _ => Q (.dat .none), rt := fun r _ => Q r } (startE ["terms", "v", "c"] ds) := by
  rintro _ Q (@⟨ts, _, ht, k⟩)
  generalize hs : PyData.tuple (ts.map pairLd) = sc
  show t_negated_terms _ [.dat sc, .no, .no]
  subst hs
  unfold t_negated_terms
  walk_at "d"
  refine compD_fm (f := pairLd) (h := pairLd) (p := fun q => some (q.1, -q.2)) (sh := fun x : En × En => [.dat (.tuple (ts.map pairLd)), x.1, x.2]) (.no, .no) (by omega) (fun q hq x N hN => ?_) (fun x => ?_)
  · simp only [wipeE_c, wipeE_n, gd_pair, List.set_cons_succ, List.set_cons_zero]
    walk_at "w"
    exact hN (.no, .no)
  · walk_at "d"
    rw [show ts.filterMap (fun q => some (q.1, -q.2)) = ngT ts from congrFun List.filterMap_eq_map' ts]
    exact k
theorem sm_fact_holds : ∀ ds Q, sp_fact_holds ds Q → t_fact_holds { nx := fun _ => Q (.dat .none), rt := fun r _ => Q r } (startE ["fact", "point", "literal"] ds) := by
  rintro _ Q (@⟨f, p, _, hf, hp, k⟩)
  show t_fact_holds _ [.dat f.d, .dat (pointLd p), .no]
  unfold t_fact_holds
  cases f with
  | row ts b =>
    unfold Fc.d
    walk_at "w"
    refine .mk hf.2 hp ?_
    walk_at "w"
    exact k
  | any ls =>
    unfold Fc.d
    walk_at "w"
    refine compD_fm (f := Lt.d) (h := .bool) (p := fun l => some (l.h p)) (sh := fun x : En => [.dat (.tuple [.str "any", .tuple (ls.map Lt.d)]), .dat (pointLd p), x]) .no (by have := hf.1; omega) (fun l hl x N hN => ?_) (fun x => ?_)
    · simp only [Lt.d, lit]
      walk_at "w"
      rw [fIx_pt hp (hf.2 l hl).v0 (hf.2 l hl).v1]
      refine .mk ?_
      walk_at "w"
      exact hN .no
    · walk_at "w"
      rw [bools_map]
      walk_at "w"
      rw [show ls.filterMap (fun l => some (l.h p)) = ls.map (fun l => l.h p) from congrFun List.filterMap_eq_map' ls, List.any_map]
      exact k
end Cf
end SK01S
section SK01S2
set_option maxHeartbeats 4000000
/-! Facts: the rest of the defs. -/
namespace Cf
open PySem PySem.Spec PyProof.Rows L2 DL
local macro_rules | `(tactic| walk_at "d") => `(tactic| simp only [dSeq, dAsg, dAsgO, dAsgG, dCall, dCallO, dCallP_eq, dCallPO_eq, dCallM_eq, dCallMO_eq, dCons, dNil, dVar_eq, dC, dBin, dTst_eq, dIf_eq, dNext, dNever, dRet, dRetO, dRetV_eq, dTup, dLst, dFrz_eq, dNeg_eq, dAndT_eq, dOrT_eq, dNotT, dAndV_eq, dOrV_eq, dNotV_eq, dIfE_eq, dChain_eq, dDrop, dMt_eq, dMt0_eq, fmAppend_d, dAug_eq, dPar_eq, two_d, dParO, dParOD, dParDO, gdName, gdTup_t, gdTup_l, gdCons_c, gdNil_n, gdSub_eq, dFor, idSeq, seqD_l, seqD_t, idRng1_eq, idRng2_eq, rng1_i, rng2_i, fI_i, fI0_i, fB0_i, fAdd_i, fAdd_s, fAdd_t, fAdd_l, fMul_i, fInt1_i, fInt1_b, fInt2_i, fAbs_i, fLen_l, fLen_t, fSum_l, fAny_l, fAll_l, fListOf_l, fListOf_t, fTupOf_l, fTupOf_t, fEq, fNe, fIsN_n, fNoN_n, isN_n, isN_i, isN_t, isN_l, isN_s, fIn_l, fIn_t, fIx_l, fIx_t, fSl_l, fSl_t, dSl, dPart_eq, dPartN, negD_i, see_d, see_s, seeE_o, seeE_d, seeL_n, seeL_c, consO_s, onD_s, dListRange1_eq, dListRange2_eq, lrg1_i, lrg2_i, wipeE_n, wipeE_c, dSortedSet_eq, sset_l, intsD_map, fIsB_b, fNoB_b, dRep, repK_i, varE_d, varE_o, frzR_d, frzR_s, frzE_d, frzE_o, frzL_n, frzL_c, lstO_l, lstE_o, ownE_o, slotR_s, datE_d, rtD_d, rtO_o, tstB_b, thenB_t, thenB_f, chainB_b, outM, dComp, dYes, List.getElem?_cons_zero, List.getElem?_cons_succ, List.set_cons_zero, List.set_cons_succ, gLt, gLe, gGt, gGe, gGcd, gMax, gMin])
local macro_rules | `(tactic| walk_at "dl") => `(tactic| simp only [List.length_cons, List.length_nil, Nat.zero_add, Nat.reduceAdd, true_and, few0, few1, few2, few3, few4, few5, atI_0, atI_1, atI_2, atI_3, atI_4, onD_s, ixN_0, ixN_1, sh_int, sh_bool, eqv_int, eqv_bool])
theorem ln2 (n : Nat) : (((n + 1 + 1 : Nat) : Int) == 1) = false := by
  rw [Bool.eq_false_iff]
  intro h
  have := of_decide_eq_true h
  omega
theorem ln1 : (((1 : Nat) : Int) == 1) = true := rfl
theorem ln0 : (((0 : Nat) : Int) == 1) = false := rfl
local macro_rules | `(tactic| walk_at "s") => `(tactic| simp only [ln0, ln1, ln2, q00, q01, q02, q03, q10, q11, q12, q13, q20, q21, q22, q23, q30, q31, q32, q33, u00, u01, u10, u11, sh0, sh1, sh2, sh3, sh4, sh5, cl0, cl1, List.nil_append, List.cons_append, Rl.s, and_true, Bool.not_true, Bool.not_false, thenB_t, thenB_f, List.any_cons, List.any_nil, Bool.or_false, Bool.or_true, Bool.false_or, Bool.true_or, if_true, if_false, Bool.false_eq_true, ite_true, ite_false])
local macro_rules | `(tactic| walk_at "w") => `(tactic| repeat (first | walk_at "d" | walk_at "dl" | walk_at "s"))

theorem fm_some {α β : Type} (g : α → β) (xs : List α) : xs.filterMap (fun a => some (g a)) = xs.map g := congrFun List.filterMap_eq_map' xs
theorem sm_is_contradiction : ∀ ds Q, sp_is_contradiction ds Q → t_is_contradiction { nx := fun _ => Q (.dat .none), rt := fun r _ => Q r } (startE ["fact"] ds) := by
  rintro _ Q (@⟨f, _, k⟩)
  show t_is_contradiction _ [.dat f.d]
  unfold t_is_contradiction
  cases f with
  | row ts b =>
    unfold Fc.d
    simp only [Fc.con] at k
    walk_at "w"
    rw [List.length_map]
    rw [show ((ts.length : Int) == 0) = (ts.length == 0) by rw [Bool.eq_iff_iff]; simp]
    cases h : ts.length == 0
    · rw [h, Bool.false_and] at k
      walk_at "s"
      exact k
    · rw [h, Bool.true_and] at k
      walk_at "s"
      exact k
  | any ls =>
    unfold Fc.d
    simp only [Fc.con] at k
    walk_at "w"
    rw [List.length_map]
    rw [show ((ls.length : Int) == 0) = (ls.length == 0) by rw [Bool.eq_iff_iff]; simp]
    exact k
theorem sm_as_row : ∀ ds Q, sp_as_row ds Q → t_as_row { nx := fun _ => Q (.dat .none), rt := fun r _ => Q r } (startE ["fact", "v", "relation", "a"] ds) := by
  rintro _ Q (@⟨f, _, k⟩)
  show t_as_row _ [.dat f.d, .no, .no, .no]
  unfold t_as_row
  match f, k with
  | .row ts b, k =>
    unfold Fc.d
    walk_at "w"
    exact k
  | .any [], k =>
    unfold Fc.d
    walk_at "w"
    exact k
  | .any [⟨v, .le, a⟩], k =>
    simp only [Fc.d, List.map_cons, List.map_nil, Lt.d, lit]
    walk_at "w"
    exact k
  | .any [⟨v, .ge, a⟩], k =>
    simp only [Fc.d, List.map_cons, List.map_nil, Lt.d, lit]
    walk_at "w"
    exact k
  | .any [⟨v, .eq, a⟩], k =>
    simp only [Fc.d, List.map_cons, List.map_nil, Lt.d, lit]
    walk_at "w"
    exact k
  | .any [⟨v, .ne, a⟩], k =>
    simp only [Fc.d, List.map_cons, List.map_nil, Lt.d, lit]
    walk_at "w"
    exact k
  | .any (l :: m :: ls), k =>
    simp only [Fc.d, List.map_cons, List.map_nil]
    walk_at "w"
    obtain ⟨v, r, a⟩ := l
    cases r <;> exact k
theorem sm_as_literal : ∀ ds Q, sp_as_literal ds Q → t_as_literal { nx := fun _ => Q (.dat .none), rt := fun r _ => Q r } (startE ["fact", "v", "c"] ds) := by
  rintro _ Q (@⟨f, _, hf, k⟩)
  show t_as_literal _ [.dat f.d, .no, .no]
  unfold t_as_literal
  match f, hf, k with
  | .row [] b, hf, k =>
    simp only [Fc.d, List.map_cons, List.map_nil, pairLd]
    walk_at "w"
    exact k
  | .row [(v, c)] b, hf, k =>
    have hq := hf.2 (v, c) (by simp)
    have c0 := hq.c0
    have c1 := hq.c1
    have c2 := hq.c2
    simp only at c0 c1 c2
    simp only [Fc.d, List.map_cons, List.map_nil, pairLd]
    walk_at "w"
    simp only [Fc.asLit] at k
    refine thenB_of (fun h => ?_) (fun h => ?_)
    · have h' := of_decide_eq_true h
      refine ⟨div_okS (by omega) (by omega), ?_⟩
      rw [if_pos h'] at k
      exact k
    · have h' := of_decide_eq_false h
      refine ⟨div_okS (by omega) (by omega), ?_⟩
      rw [if_neg h'] at k
      exact k
  | .row (q :: q' :: ts) b, hf, k =>
    simp only [Fc.d, List.map_cons, List.map_nil]
    walk_at "w"
    exact k
  | .any [], hf, k =>
    simp only [Fc.d, List.map_cons, List.map_nil]
    walk_at "w"
    exact k
  | .any [l], hf, k =>
    simp only [Fc.d, List.map_cons, List.map_nil]
    walk_at "w"
    exact k
  | .any (l :: m :: ls), hf, k =>
    simp only [Fc.d, List.map_cons, List.map_nil]
    walk_at "w"
    exact k
theorem Fc_ix0r {ts : List (Int × Int)} {b : Int} {Q : D → Prop} : fIx (Fc.row ts b).d (.int 0) Q = Q (.str "row") := by
  simp only [Fc.d, fIx_t, atI_0, onD_s]
theorem Fc_ix0a {ls : List Lt} {Q : D → Prop} : fIx (Fc.any ls).d (.int 0) Q = Q (.str "any") := by
  simp only [Fc.d, fIx_t, atI_0, onD_s]
theorem Fc_ix1r {ts : List (Int × Int)} {b : Int} {Q : D → Prop} : fIx (Fc.row ts b).d (.int 1) Q = Q (.tuple (ts.map pairLd)) := by
  simp only [Fc.d, fIx_t, atI_1, onD_s]
theorem Fc_ix1a {ls : List Lt} {Q : D → Prop} : fIx (Fc.any ls).d (.int 1) Q = Q (.tuple (ls.map Lt.d)) := by
  simp only [Fc.d, fIx_t, atI_1, onD_s]
theorem Fc_ix2r {ts : List (Int × Int)} {b : Int} {Q : D → Prop} : fIx (Fc.row ts b).d (.int 2) Q = Q (.int b) := by
  simp only [Fc.d, fIx_t, atI_2, onD_s]
theorem Fc_isN {f : Fc} : isN f.d = false := by cases f <;> rfl
theorem Lt_isN {f : Lt} : isN f.d = false := rfl
local macro_rules | `(tactic| walk_at "f") => `(tactic| simp only [Fc_ix0r, Fc_ix0a, Fc_ix1r, Fc_ix1a, Fc_ix2r, Fc_isN, Lt_isN])
local macro_rules | `(tactic| walk_at "wf") => `(tactic| repeat (first | walk_at "f" | walk_at "d" | walk_at "dl" | walk_at "s"))
theorem sm_negation : ∀ ds Q, sp_negation ds Q → t_negation { nx := fun _ => Q (.dat .none), rt := fun r _ => Q r } (startE ["fact"] ds) := by
  rintro _ Q (@⟨f, _, hf, k⟩)
  show t_negation _ [.dat f.d]
  unfold t_negation
  match f, hf, k with
  | .row ts b, hf, k =>
    walk_at "wf"
    refine .mk hf.1 ?_
    walk_at "wf"
    exact k
  | .any [], hf, k =>
    walk_at "wf"
    exact k
  | .any [l], hf, k =>
    walk_at "wf"
    simp only [List.map_cons, List.map_nil]
    walk_at "wf"
    refine .mk ?_
    walk_at "wf"
    exact k
  | .any (l :: m :: ls), hf, k =>
    walk_at "wf"
    simp only [List.map_cons, List.map_nil]
    walk_at "wf"
    exact k
theorem sm_literals_imply : ∀ ds Q, sp_literals_imply ds Q → t_literals_imply { nx := fun _ => Q (.dat .none), rt := fun r _ => Q r } (startE ["first", "second", "literal", "other"] ds) := by
  rintro _ Q (@⟨f, g, _, hf, hg, k⟩)
  show t_literals_imply _ [.dat f.d, .dat g.d, .no, .no]
  unfold t_literals_imply
  unfold litsImp at k
  refine seq_i (fun _ : Unit => [.dat f.d, .dat g.d, .dat (optL f.asLit), .no]) (fun _ => True) (fun _ _ => ?_) (fun N hN => ?_)
  case refine_2 =>
    walk_at "d"
    refine .mk hf ?_
    walk_at "d"
    exact hN () trivial
  generalize f.asLit = lf at k ⊢
  cases lf with
  | none =>
    simp only [optL]
    walk_at "wf"
    exact k
  | some l =>
    simp only [optL] at k ⊢
    refine seq_i (fun _ : Unit => [.dat f.d, .dat g.d, .dat l.d, .no]) (fun _ => True) (fun _ _ => ?_) (fun N hN => ?_)
    case refine_2 =>
      walk_at "wf"
      exact hN () trivial
    cases g with
    | any ms =>
      simp only at k
      walk_at "wf"
      refine compD_fm (f := Lt.d) (h := .bool) (p := fun m => some (l.imp m)) (sh := fun x : En => [.dat f.d, .dat (Fc.any ms).d, .dat l.d, x]) .no (by have := hg.1; omega) (fun m hm x N hN => ?_) (fun x => ?_)
      · walk_at "w"
        refine .mk ?_
        walk_at "w"
        exact hN _
      · walk_at "w"
        rw [bools_map]
        walk_at "w"
        rw [fm_some, List.any_map]
        exact k
    | row ts b =>
      simp only at k
      walk_at "wf"
      refine .mk hg ?_
      walk_at "wf"
      cases hl : Fc.asLit (.row ts b) with
      | none =>
        rw [hl] at k
        simp only [optL]
        walk_at "wf"
        exact k
      | some m =>
        rw [hl] at k
        simp only [optL]
        walk_at "wf"
        refine .mk ?_
        walk_at "wf"
        exact k
end Cf
end SK01S2
section SK01S3
set_option maxHeartbeats 4000000
/-! Facts: what implies what; the law's own defs. -/
namespace Cf
open PySem PySem.Spec PyProof.Rows L2 DL
local macro_rules | `(tactic| walk_at "d") => `(tactic| simp only [dSeq, dAsg, dAsgO, dAsgG, dCall, dCallO, dCallP_eq, dCallPO_eq, dCallM_eq, dCallMO_eq, dCons, dNil, dVar_eq, dC, dBin, dTst_eq, dIf_eq, dNext, dNever, dRet, dRetO, dRetV_eq, dTup, dLst, dFrz_eq, dNeg_eq, dAndT_eq, dOrT_eq, dNotT, dAndV_eq, dOrV_eq, dNotV_eq, dIfE_eq, dChain_eq, dDrop, dMt_eq, dMt0_eq, fmAppend_d, dAug_eq, dPar_eq, two_d, dParO, dParOD, dParDO, gdName, gdTup_t, gdTup_l, gdCons_c, gdNil_n, gdSub_eq, dFor, idSeq, seqD_l, seqD_t, idRng1_eq, idRng2_eq, rng1_i, rng2_i, fI_i, fI0_i, fB0_i, fAdd_i, fAdd_s, fAdd_t, fAdd_l, fMul_i, fInt1_i, fInt1_b, fInt2_i, fAbs_i, fLen_l, fLen_t, fSum_l, fAny_l, fAll_l, fListOf_l, fListOf_t, fTupOf_l, fTupOf_t, fEq, fNe, fIsN_n, fNoN_n, isN_n, isN_i, isN_t, isN_l, isN_s, fIn_l, fIn_t, fIx_l, fIx_t, fSl_l, fSl_t, dSl, dPart_eq, dPartN, negD_i, see_d, see_s, seeE_o, seeE_d, seeL_n, seeL_c, consO_s, onD_s, dListRange1_eq, dListRange2_eq, lrg1_i, lrg2_i, wipeE_n, wipeE_c, dSortedSet_eq, sset_l, intsD_map, fIsB_b, fNoB_b, dRep, repK_i, varE_d, varE_o, frzR_d, frzR_s, frzE_d, frzE_o, frzL_n, frzL_c, lstO_l, lstE_o, ownE_o, slotR_s, datE_d, rtD_d, rtO_o, tstB_b, thenB_t, thenB_f, chainB_b, outM, dComp, dYes, List.getElem?_cons_zero, List.getElem?_cons_succ, List.set_cons_zero, List.set_cons_succ, gLt, gLe, gGt, gGe, gGcd, gMax, gMin])
local macro_rules | `(tactic| walk_at "dl") => `(tactic| simp only [List.length_cons, List.length_nil, Nat.zero_add, Nat.reduceAdd, true_and, few0, few1, few2, few3, few4, few5, atI_0, atI_1, atI_2, atI_3, atI_4, onD_s, ixN_0, ixN_1, sh_int, sh_bool, eqv_int, eqv_bool])
local macro_rules | `(tactic| walk_at "s") => `(tactic| simp only [ln0, ln1, ln2, q00, q01, q02, q03, q10, q11, q12, q13, q20, q21, q22, q23, q30, q31, q32, q33, u00, u01, u10, u11, sh0, sh1, sh2, sh3, sh4, sh5, cl0, cl1, List.nil_append, List.cons_append, Rl.s, and_true, Bool.not_true, Bool.not_false, thenB_t, thenB_f, List.any_cons, List.any_nil, Bool.or_false, Bool.or_true, Bool.false_or, Bool.true_or, if_true, if_false, Bool.false_eq_true, ite_true, ite_false])
local macro_rules | `(tactic| walk_at "w") => `(tactic| repeat (first | walk_at "d" | walk_at "dl" | walk_at "s"))

local macro_rules | `(tactic| walk_at "f") => `(tactic| simp only [Fc_ix0r, Fc_ix0a, Fc_ix1r, Fc_ix1a, Fc_ix2r, Fc_isN, Lt_isN])
local macro_rules | `(tactic| walk_at "wf") => `(tactic| repeat (first | walk_at "f" | walk_at "d" | walk_at "dl" | walk_at "s"))

theorem lit_sh {v a : Int} {r : Rl} : PyData.canLay0 (lit v r a) = true := by
  cases r <;> simp [lit, Rl.s, PyData.canLay0, PyData.canLayAll0, ok0, ok1, ok2, ok3]
theorem embLt : Emb Lt.d 1 := by
  refine ⟨fun a b => ?_, fun a => lit_sh, fun a => ?_⟩
  · obtain ⟨v, r, x⟩ := a
    obtain ⟨w, q, y⟩ := b
    simp only [Lt.d, lit, eqv_tup, eqvAll_cc, eqvAll_nn, eqv_int, Bool.and_true]
    have e : PyData.eqv (.str r.s) (.str q.s) = decide (r = q) := by
      cases r <;> cases q <;> simp only [Rl.s, q00, q01, q02, q03, q10, q11, q12, q13, q20, q21, q22, q23, q30, q31, q32, q33] <;> decide
    rw [e]
    rw [Bool.eq_iff_iff]
    simp
  · obtain ⟨v, r, x⟩ := a
    simp only [Lt.d, lit, depth_tup, depthAll_cons, depthAll_nil, PyData.depth]
    decide
theorem embPr : Emb pairLd 1 := Emb.int.pair Emb.int
theorem Fc_lay (f : Fc) : PyData.canLay0 f.d = true := by
  cases f with
  | row ts b => simp [Fc.d, lay_tup, layAll_c, layAll_n, lay_int, embPr.layAll, PyData.canLay0, ok4]
  | any ls => simp [Fc.d, lay_tup, layAll_c, layAll_n, lay_int, embLt.layAll, PyData.canLay0, ok5]
theorem Fc_sh (f : Fc) : SeqAt.shaped f.d = true := by
  unfold SeqAt.shaped
  rw [Fc_lay, Bool.true_and]
  refine decide_eq_true ?_
  cases f with
  | row ts b =>
    have := embPr.depAll ts
    simp only [Fc.d, depth_tup, depthAll_cons, depthAll_nil, PyData.depth]
    omega
  | any ls =>
    have := embLt.depAll ls
    simp only [Fc.d, depth_tup, depthAll_cons, depthAll_nil, PyData.depth]
    omega
theorem Fc_eq (f : Fc) : PyData.eqv f.d f.d = true := eqv_self _ (Fc_lay f)
theorem sm_implies : ∀ ds Q, sp_implies ds Q → t_implies { nx := fun _ => Q (.dat .none), rt := fun r _ => Q r } (startE ["first", "second", "row", "literal"] ds) := by
  rintro _ Q (@⟨f, g, _, hf, hg, k⟩)
  show t_implies _ [.dat f.d, .dat g.d, .no, .no]
  unfold t_implies
  unfold impl at k
  refine seq_i (fun _ : Unit => [.dat f.d, .dat g.d, .no, .no]) (fun _ => f.con = false) (fun _ hc => ?_) (fun N hN => ?_)
  case refine_2 =>
    walk_at "d"
    refine .mk ?_
    walk_at "d"
    refine thenB_of (fun h => ?_) (fun h => hN () h)
    rw [h] at k
    simpa using k
  rw [hc, Bool.false_or] at k
  refine seq_i (fun x : En × En => [.dat f.d, .dat g.d, x.1, x.2]) (fun _ => Q (.dat (.bool (litsImp f g)))) (fun x kk => ?_) (fun N hN => ?_)
  case refine_1 =>
    walk_at "d"
    refine .mk hf hg ?_
    walk_at "d"
    exact kk
  have fin : ∀ x : En × En, rowImp f.asRow g = false → anyImp f g = false → N [.dat f.d, .dat g.d, x.1, x.2] := fun x h1 h2 => hN x (by
    rw [h1, h2, Bool.false_or, Bool.false_or] at k
    exact k)
  have yes : (rowImp f.asRow g || anyImp f g) = true → Q (.dat (.bool true)) := fun h => by
    rw [← Bool.or_assoc, h, Bool.true_or] at k
    exact k
  cases g with
  | row us c =>
    walk_at "wf"
    refine .mk ?_
    walk_at "wf"
    have e2 : anyImp f (.row us c) = false := by cases f <;> rfl
    cases hr : f.asRow with
    | none =>
      simp only [optD]
      walk_at "wf"
      exact fin (_, _) (by rw [hr]; rfl) e2
    | some r =>
      simp only [optD]
      cases r with
      | any ls =>
        exfalso
        match f, hr with
        | .any [⟨v, .le, a⟩], hr => cases hr
        | .any [⟨v, .ge, a⟩], hr => cases hr
        | .any [⟨v, .eq, a⟩], hr => cases hr
        | .any [⟨v, .ne, a⟩], hr => cases hr
      | row ts b =>
        have e3 : rowImp f.asRow (.row us c) = (ts == us && decide (b ≤ c)) := by rw [hr]; rfl
        walk_at "wf"
        rw [embPr.tup.sh ts, embPr.tup.sh us, embPr.tup.eq ts us]
        refine ⟨⟨rfl, rfl⟩, ?_⟩
        refine thenB_of (fun h => ?_) (fun h => ?_)
        · have h1 : (ts == us) = true := by simpa using h
          refine thenB_of (fun h' => ?_) (fun h' => ?_)
          · exact yes (by rw [e3, h1, h']; rfl)
          · exact fin (_, _) (by rw [e3, h1, h']; rfl) e2
        · have h1 : (ts == us) = false := by simpa using h
          exact fin (_, _) (by rw [e3, h1]; rfl) e2
  | any ms =>
    have e1 : rowImp f.asRow (.any ms) = false := by
      cases f.asRow with
      | none => rfl
      | some r => cases r <;> rfl
    cases f with
    | row ts b =>
      walk_at "wf"
      exact fin (_, _) e1 rfl
    | any ls =>
      walk_at "wf"
      refine compD_fm (f := Lt.d) (h := .bool) (p := fun l => some (decide (l ∈ ms))) (sh := fun x : En => [.dat (Fc.any ls).d, .dat (Fc.any ms).d, .no, x]) .no (by have := hf.1; omega) (fun l hl x N2 hN2 => ?_) (fun x => ?_)
      · walk_at "wf"
        rw [embLt.sh l, embLt.layAll ms, embLt.any l ms]
        exact ⟨⟨rfl, rfl⟩, hN2 _⟩
      · walk_at "wf"
        rw [bools_map]
        walk_at "wf"
        rw [fm_some, List.all_map]
        refine thenB_of (fun h => yes (by rw [e1, Bool.false_or]; exact h)) (fun h => fin (_, _) e1 h)
theorem sm_unknowns_in : ∀ ds Q, sp_unknowns_in ds Q → t_unknowns_in { nx := fun _ => Q (.dat .none), rt := fun r _ => Q r } (startE ["fact", "part"] ds) := by
  rintro _ Q (@⟨f, _, hf, k⟩)
  show t_unknowns_in _ [.dat f.d, .no]
  unfold t_unknowns_in
  cases f with
  | row ts b =>
    walk_at "wf"
    refine compD_fm (f := pairLd) (h := .int) (p := fun q => some q.1) (sh := fun x : En => [.dat (Fc.row ts b).d, x]) .no (by have := hf.1; omega) (fun q hq x N hN => ?_) (fun x => ?_)
    · simp only [pairLd]
      walk_at "wf"
      exact hN _
    · walk_at "wf"
      rw [fm_some]
      walk_at "wf"
      refine ⟨⟨by have := hf.1; rw [List.length_map]; omega⟩, fun ns h1 h2 => k ns h1 h2⟩
  | any ls =>
    walk_at "wf"
    refine compD_fm (f := Lt.d) (h := .int) (p := fun q => some q.v) (sh := fun x : En => [.dat (Fc.any ls).d, x]) .no (by have := hf.1; omega) (fun q hq x N hN => ?_) (fun x => ?_)
    · simp only [Lt.d, lit]
      walk_at "wf"
      exact hN _
    · walk_at "wf"
      rw [fm_some]
      walk_at "wf"
      refine ⟨⟨by have := hf.1; rw [List.length_map]; omega⟩, fun ns h1 h2 => k ns h1 h2⟩
theorem sm_law_sum : ∀ ds Q, sp_law_sum ds Q → t_law_sum { nx := fun _ => Q (.dat .none), rt := fun r _ => Q r } (startE ["terms", "point", "v", "c"] ds) := by
  rintro _ Q (@⟨ts, p, _, hl, ht, hp, k⟩)
  generalize hs : PyData.tuple (ts.map pairLd) = sc
  show t_law_sum _ [.dat sc, .dat (pointLd p), .no, .no]
  subst hs
  unfold t_law_sum
  walk_at "d"
  refine compD_fm (f := pairLd) (h := .int) (p := fun q => some (q.2 * ptg p q.1)) (sh := fun x : En × En => [.dat (.tuple (ts.map pairLd)), .dat (pointLd p), x.1, x.2]) (.no, .no) (by omega) (fun q hq x N hN => ?_) (fun x => ?_)
  · have hq := ht q hq
    simp only [wipeE_c, wipeE_n, gd_pair, List.set_cons_succ, List.set_cons_zero]
    walk_at "d"
    rw [fIx_pt hp hq.v0 hq.v1]
    walk_at "d"
    exact ⟨mul_okL (by have := hq.c1; omega) (by have := hq.c2; omega), hN (.no, .no)⟩
  · walk_at "d"
    rw [DL.ints_map]
    walk_at "w"
    rw [fm_some]
    exact k
theorem sm_law_fact_stands : ∀ ds Q, sp_law_fact_stands ds Q → t_law_fact_stands { nx := fun _ => Q (.dat .none), rt := fun r _ => Q r } (startE ["fact", "point", "v", "relation", "a"] ds) := by
  rintro _ Q (@⟨f, p, _, hf, hp, k⟩)
  show t_law_fact_stands _ [.dat f.d, .dat (pointLd p), .no, .no, .no]
  unfold t_law_fact_stands
  cases f with
  | row ts b =>
    walk_at "wf"
    refine .mk hf.1 hf.2 hp ?_
    walk_at "wf"
    exact k
  | any ls =>
    walk_at "wf"
    refine compD_fm (f := Lt.d) (h := .bool) (p := fun l => some (l.h p)) (sh := fun x : En × En × En => [.dat (Fc.any ls).d, .dat (pointLd p), x.1, x.2.1, x.2.2]) (.no, .no, .no) (by have := hf.1; omega) (fun l hl x N hN => ?_) (fun x => ?_)
    · simp only [Lt.d, lit]
      walk_at "wf"
      rw [fIx_pt hp (hf.2 l hl).v0 (hf.2 l hl).v1]
      refine .mk ?_
      walk_at "wf"
      exact hN (.no, .no, .no)
    · walk_at "wf"
      rw [fm_some]
      have h1 := Emb.bool.layAll (ls.map fun l => l.h p)
      have h2 := Emb.bool.any true (ls.map fun l => l.h p)
      rw [h1]
      refine ⟨rfl, ?_⟩
      rw [show (((ls.map fun l => l.h p).map PyData.bool).any fun z => PyData.eqv z (.bool true)) = (Fc.any ls).h p from ?_]
      · exact k
      · rw [h2]
        show _ = ls.any fun l => l.h p
        rw [Bool.eq_iff_iff, decide_eq_true_iff, List.mem_map, List.any_eq_true]
end Cf
end SK01S3
section SK01S4
set_option maxHeartbeats 4000000
/-! Facts: what the law draws. -/
namespace Cf
open PySem PySem.Spec PyProof.Rows L2 DL
local macro_rules | `(tactic| walk_at "d") => `(tactic| simp only [dSeq, dAsg, dAsgO, dAsgG, dCall, dCallO, dCallP_eq, dCallPO_eq, dCallM_eq, dCallMO_eq, dCons, dNil, dVar_eq, dC, dBin, dTst_eq, dIf_eq, dNext, dNever, dRet, dRetO, dRetV_eq, dTup, dLst, dFrz_eq, dNeg_eq, dAndT_eq, dOrT_eq, dNotT, dAndV_eq, dOrV_eq, dNotV_eq, dIfE_eq, dChain_eq, dDrop, dMt_eq, dMt0_eq, fmAppend_d, dAug_eq, dPar_eq, two_d, dParO, dParOD, dParDO, gdName, gdTup_t, gdTup_l, gdCons_c, gdNil_n, gdSub_eq, dFor, idSeq, seqD_l, seqD_t, idRng1_eq, idRng2_eq, rng1_i, rng2_i, fI_i, fI0_i, fB0_i, fAdd_i, fAdd_s, fAdd_t, fAdd_l, fMul_i, fInt1_i, fInt1_b, fInt2_i, fAbs_i, fLen_l, fLen_t, fSum_l, fAny_l, fAll_l, fListOf_l, fListOf_t, fTupOf_l, fTupOf_t, fEq, fNe, fIsN_n, fNoN_n, isN_n, isN_i, isN_t, isN_l, isN_s, fIn_l, fIn_t, fIx_l, fIx_t, fSl_l, fSl_t, dSl, dPart_eq, dPartN, negD_i, see_d, see_s, seeE_o, seeE_d, seeL_n, seeL_c, consO_s, onD_s, dListRange1_eq, dListRange2_eq, lrg1_i, lrg2_i, wipeE_n, wipeE_c, dSortedSet_eq, sset_l, intsD_map, fIsB_b, fNoB_b, dRep, repK_i, varE_d, varE_o, frzR_d, frzR_s, frzE_d, frzE_o, frzL_n, frzL_c, lstO_l, lstE_o, ownE_o, slotR_s, datE_d, rtD_d, rtO_o, tstB_b, thenB_t, thenB_f, chainB_b, outM, dComp, dYes, List.getElem?_cons_zero, List.getElem?_cons_succ, List.set_cons_zero, List.set_cons_succ, gLt, gLe, gGt, gGe, gGcd, gMax, gMin])
local macro_rules | `(tactic| walk_at "dl") => `(tactic| simp only [List.length_cons, List.length_nil, Nat.zero_add, Nat.reduceAdd, true_and, few0, few1, few2, few3, few4, few5, atI_0, atI_1, atI_2, atI_3, atI_4, onD_s, ixN_0, ixN_1, sh_int, sh_bool, eqv_int, eqv_bool])
local macro_rules | `(tactic| walk_at "s") => `(tactic| simp only [ln0, ln1, ln2, q00, q01, q02, q03, q10, q11, q12, q13, q20, q21, q22, q23, q30, q31, q32, q33, u00, u01, u10, u11, sh0, sh1, sh2, sh3, sh4, sh5, cl0, cl1, List.nil_append, List.cons_append, Rl.s, and_true, Bool.not_true, Bool.not_false, thenB_t, thenB_f, List.any_cons, List.any_nil, Bool.or_false, Bool.or_true, Bool.false_or, Bool.true_or, if_true, if_false, Bool.false_eq_true, ite_true, ite_false])
local macro_rules | `(tactic| walk_at "w") => `(tactic| repeat (first | walk_at "d" | walk_at "dl" | walk_at "s"))

local macro_rules | `(tactic| walk_at "f") => `(tactic| simp only [Fc_ix0r, Fc_ix0a, Fc_ix1r, Fc_ix1a, Fc_ix2r, Fc_isN, Lt_isN])
local macro_rules | `(tactic| walk_at "wf") => `(tactic| repeat (first | walk_at "f" | walk_at "d" | walk_at "dl" | walk_at "s"))


theorem sm_law_some_terms : ∀ ds o Q, sp_law_some_terms ds o Q → t_law_some_terms { nx := outM Q (.dat .none), rt := outM Q } (startM0 ["state", "many", "found", "v"] ds o) := by
  rintro _ o Q (@⟨many, _, _, h0, h1, ho, k⟩)
  show t_law_some_terms _ [.ob true o, .dat (.int many), .no, .no]
  unfold t_law_some_terms
  refine seq_i (fun _ : Unit => [.ob true o, .dat (.int many), .ob false (.lst []), .no]) (fun _ => True) (fun _ _ => ?_) (fun N hN => ?_)
  case refine_2 =>
    walk_at "w"
    exact hN () trivial
  refine seq_i (fun x : Ob × List (Int × Int) × En => [.ob true x.1, .dat (.int many), .ob false (.lst (x.2.1.map pairLd)), x.2.2]) (fun x => Stt x.1 ∧ x.2.1.length ≤ 3 ∧ ∀ q ∈ x.2.1, TOk q) (fun x hx => ?_) (fun N hN => ?_)
  case refine_1 =>
    obtain ⟨o1, ts, e⟩ := x
    walk_at "w"
    exact k ts o1 hx.2.1 hx.2.2 hx.1
  walk_at "w"
  refine ⟨inRg_of (by omega) (by omega), ?_⟩
  refine forD_rest (fun r E => ∃ (o : Ob) (ts : List (Int × Int)) (e : En), Stt o ∧ (∀ q ∈ ts, TOk q) ∧ ts.length + r.length ≤ 3 ∧ (∀ d ∈ r, ∃ i : Int, d = .int i ∧ 0 ≤ i ∧ i < 3) ∧ E = [.ob true o, .dat (.int many), .ob false (.lst (ts.map pairLd)), e]) ⟨o, [], _, ho, (fun _ h => by cases h), (by rw [rng_len]; simp; omega), fun d hd => ?_, rfl⟩ ?_ ?_
  · obtain ⟨i, e, a, b⟩ := mem_rng hd
    exact ⟨i, e, a, by omega⟩
  · rintro d r E ⟨o, ts, e, ho, ht, hlen, hr, rfl⟩ N3 hN3
    obtain ⟨v, rfl, v0, v1⟩ := hr d List.mem_cons_self
    rw [List.length_cons] at hlen
    walk_at "w"
    refine .mk (by decide) (by decide) ho fun d1 o2 a1 b1 ho2 => ?_
    walk_at "w"
    refine thenB_of (fun h => ?_) (fun h => ?_)
    · refine ⟨few (by decide), .mk (by decide) (by decide) ho2 fun d2 o3 a2 b2 ho3 => ?_⟩
      walk_at "w"
      have hd2 : ∃ c : Int, atI [PyData.int (-3), PyData.int (-2), PyData.int (-1), PyData.int 1, PyData.int 2, PyData.int 3] d2 = some (.int c) ∧ c ≠ 0 ∧ -3 ≤ c ∧ c ≤ 3 := by
        rcases (show d2 = 0 ∨ d2 = 1 ∨ d2 = 2 ∨ d2 = 3 ∨ d2 = 4 ∨ d2 = 5 by omega) with z | z | z | z | z | z <;> subst z
        · exact ⟨-3, rfl, by decide, by decide, by decide⟩
        · exact ⟨-2, rfl, by decide, by decide, by decide⟩
        · exact ⟨-1, rfl, by decide, by decide, by decide⟩
        · exact ⟨1, rfl, by decide, by decide, by decide⟩
        · exact ⟨2, rfl, by decide, by decide, by decide⟩
        · exact ⟨3, rfl, by decide, by decide, by decide⟩
      obtain ⟨c, hc, c0, c1, c2⟩ := hd2
      rw [hc]
      walk_at "w"
      refine ⟨few (by rw [List.length_map]; omega), hN3 _ ⟨o3, ts ++ [(v, c)], .dat (.int v), ho3, ?_, ?_, fun d hd => hr d (List.mem_cons_of_mem _ hd), ?_⟩⟩
      · intro q hq
        rcases List.mem_append.mp hq with hq | hq
        · exact ht q hq
        · cases List.mem_singleton.mp hq
          exact ⟨v0, v1, c0, c1, c2⟩
      · rw [List.length_append, List.length_singleton]
        omega
      · rw [List.map_append]
        rfl
    · exact hN3 _ ⟨o2, ts, _, ho2, ht, by omega, fun d hd => hr d (List.mem_cons_of_mem _ hd), rfl⟩
  · rintro E ⟨o, ts, e, ho, ht, hlen, hr, rfl⟩
    exact hN (o, ts, e) ⟨ho, by simpa using hlen, ht⟩
theorem sm_law_literal : ∀ ds o Q, sp_law_literal ds o Q → t_law_literal { nx := outM Q (.dat .none), rt := outM Q } (startM0 ["state", "ranges", "v", "low", "high"] ds o) := by
  rintro _ o Q (@⟨v, _, _, h0, h1, ho, k⟩)
  show t_law_literal _ [.ob true o, .dat (.list [.tuple [.int (-2), .int 3], .tuple [.int (-2), .int 3], .tuple [.int (-2), .int 3]]), .dat (.int v), .no, .no]
  unfold t_law_literal
  refine seq_i (fun _ : Unit => [.ob true o, .dat (.list [.tuple [.int (-2), .int 3], .tuple [.int (-2), .int 3], .tuple [.int (-2), .int 3]]), .dat (.int v), .dat (.int (-2)), .dat (.int 3)]) (fun _ => True) (fun _ _ => ?_) (fun N hN => ?_)
  case refine_2 =>
    rcases (show v = 0 ∨ v = 1 ∨ v = 2 by omega) with z | z | z <;> subst z <;> walk_at "w" <;> exact hN () trivial
  walk_at "w"
  refine .mk (by decide) (by decide) ho fun d2 o3 a2 b2 ho3 => ?_
  walk_at "w"
  have hd2 : ∃ rr : Rl, atI [PyData.str "<=", PyData.str ">=", PyData.str "=", PyData.str "!="] d2 = some (.str rr.s) := by
    rcases (show d2 = 0 ∨ d2 = 1 ∨ d2 = 2 ∨ d2 = 3 by omega) with z | z | z | z <;> subst z
    · exact ⟨.le, atI_0 _ _⟩
    · exact ⟨.ge, atI_1 _ _ _⟩
    · exact ⟨.eq, atI_2 _ _ _ _⟩
    · exact ⟨.ne, atI_3 _ _ _ _ _⟩
  obtain ⟨rr, hrr⟩ := hd2
  rw [hrr]
  walk_at "w"
  refine .mk (by decide) (by decide) ho3 fun d3 o4 a3 b3 ho4 => ?_
  walk_at "w"
  exact k ⟨v, rr, -2 + d3⟩ o4 ⟨h0, h1⟩ ho4
theorem sm_law_fact : ∀ ds o Q, sp_law_fact ds o Q → t_law_fact { nx := outM Q (.dat .none), rt := outM Q } (startM0 ["state", "turn"] ds o) := by
  rintro _ o Q (@⟨_, _, ho, k⟩)
  show t_law_fact _ [.ob true o, .no]
  unfold t_law_fact
  refine seq_i (fun o : Ob => [.ob true o, .no]) Stt (fun o ho => ?_) (fun N hN => ?_)
  case refine_2 =>
    walk_at "w"
    refine .mk (by decide) (by decide) ho fun d1 o2 a1 b1 ho2 => ?_
    walk_at "w"
    refine thenB_of (fun h => ?_) (fun h => hN o2 ho2)
    refine .mk (by decide) (by decide) ho2 fun d2 o3 a2 b2 ho3 => ?_
    walk_at "w"
    refine .mk (by omega) (by omega) ho3 fun ts o4 l4 t4 ho4 => ?_
    walk_at "w"
    refine .mk (by decide) (by decide) ho4 fun d3 o5 a3 b3 ho5 => ?_
    walk_at "w"
    exact k (.row ts (d3 - 7)) o5 ⟨by omega, t4⟩ (weak_ok (f := .row ts (d3 - 7)) ⟨by omega, t4⟩ (by simp only; omega)) ho5
  walk_at "w"
  refine .mk (by decide) (by decide) ho fun d1 o2 a1 b1 ho2 => ?_
  walk_at "w"
  refine ⟨inRg_of (by omega) (by omega), ?_⟩
  refine compD_rest (fun ds acc e => ∃ (o : Ob) (ls : List Lt) (x : En), Stt o ∧ (∀ l ∈ ls, LOk l) ∧ ls.length + ds.length ≤ 4 ∧ acc = ls.map Lt.d ∧ e = [.ob true o, x]) ⟨o2, [], _, ho2, (fun _ h => by cases h), (by rw [rng_len]; simp; omega), rfl, rfl⟩ ?_ ?_
  · rintro d ds acc _ ⟨o, ls, x, ho, hl, hlen, rfl, rfl⟩ N hN
    rw [List.length_cons] at hlen
    walk_at "w"
    refine ⟨⟨by decide, by decide, by decide⟩, .mk (by decide) (by decide) ho fun d1 o3 a3 b3 ho3 => ?_⟩
    simp only [rtD_d]
    refine .mk (v := d1) a3 b3 ho3 fun l o4 l4 ho4 => ?_
    simp only [rtD_d]
    refine ⟨few (by rw [List.length_map]; omega), hN _ _ ⟨o4, ls ++ [l], .no, ho4, ?_, ?_, ?_, rfl⟩⟩
    · intro m hm
      rcases List.mem_append.mp hm with hm | hm
      · exact hl m hm
      · cases List.mem_singleton.mp hm
        exact l4
    · rw [List.length_append, List.length_singleton]
      omega
    · rw [List.map_append]
      rfl
  · rintro acc _ ⟨o, ls, x, ho, hl, hlen, rfl, rfl⟩
    walk_at "w"
    exact k (.any ls) o ⟨by omega, hl⟩ (weak_ok (f := .any ls) ⟨by omega, hl⟩ (by simp only; simpa using hlen)) ho
end Cf
end SK01S4
section SK01M
set_option maxHeartbeats 4000000
/-! Facts: the plain law. -/
namespace Cf
open PySem PySem.Spec PyProof.Rows L2 DL
theorem ng_h {r : Rl} {a c : Int} : r.ng.h c (r.na a) = !r.h c a := by
  cases r <;> simp only [Rl.ng, Rl.na, Rl.h, Bool.not_not]
  · rw [Bool.eq_iff_iff]; simp; omega
  · rw [Bool.eq_iff_iff]; simp; omega
theorem ng_ng (l : Lt) : l.neg.neg = l := by
  obtain ⟨v, r, a⟩ := l
  cases r <;> simp only [Lt.neg, Rl.ng, Rl.na]
  · rw [show a + 1 - 1 = a by omega]
  · rw [show a - 1 + 1 = a by omega]
theorem neg_h (l : Lt) (p : List Int) : l.neg.h p = !l.h p := ng_h
theorem ngT_ngT (ts : List (Int × Int)) : ngT (ngT ts) = ts := by
  unfold ngT
  rw [List.map_map]
  conv => rhs; rw [← List.map_id ts]
  refine List.map_congr_left fun q _ => ?_
  simp
theorem tsum_ng (ts : List (Int × Int)) (p : List Int) : tsum (ngT ts) p = -tsum ts p := by
  unfold tsum ngT
  induction ts with
  | nil => rfl
  | cons q ts ih =>
    simp only [List.map_cons, List.sum_cons] at ih ⊢
    rw [ih, Int.neg_mul, Int.neg_add]
theorem neg_neg {f g : Fc} (h : f.neg = some g) : g.neg = some f := by
  match f, h with
  | .row ts b, h =>
    cases h
    simp only [Fc.neg, ngT_ngT]
    rw [show -(-b - 1) - 1 = b by omega]
  | .any [l], h =>
    cases h
    simp only [Fc.neg, ng_ng]
theorem neg_holds {f g : Fc} (h : f.neg = some g) (p : List Int) : g.h p = !f.h p := by
  match f, h with
  | .row ts b, h =>
    cases h
    simp only [Fc.h, tsum_ng]
    rw [Bool.eq_iff_iff]
    simp
    omega
  | .any [l], h =>
    cases h
    simp only [Fc.h, List.any_cons, List.any_nil, Bool.or_false, neg_h]
theorem neg_ok {f g : Fc} (hf : FOk f) (h : f.neg = some g) : FOk g := by
  match f, h with
  | .row ts b, h =>
    cases h
    refine ⟨by unfold ngT; rw [List.length_map]; exact hf.1, fun q hq => ?_⟩
    obtain ⟨q', hq', rfl⟩ := List.mem_map.mp hq
    obtain ⟨a, b, c, d, e⟩ := hf.2 q' hq'
    exact ⟨a, b, by simp only; omega, by simp only; omega, by simp only; omega⟩
  | .any [l], h =>
    cases h
    refine ⟨by simp, fun m hm => ?_⟩
    cases List.mem_singleton.mp hm
    exact ⟨(hf.2 l (by simp)).v0, (hf.2 l (by simp)).v1⟩
theorem row_holds {f g : Fc} (h : f.asRow = some g) (p : List Int) : g.h p = f.h p := by
  match f, h with
  | .row ts b, h => cases h; rfl
  | .any [⟨v, .le, a⟩], h =>
    cases h
    simp [Fc.h, tsum, Lt.h, Rl.h]
  | .any [⟨v, .ge, a⟩], h =>
    cases h
    simp [Fc.h, tsum, Lt.h, Rl.h]
  | .any [⟨v, .eq, a⟩], h => cases h
  | .any [⟨v, .ne, a⟩], h => cases h
  | .any [], h => cases h
  | .any (⟨v, .le, a⟩ :: m :: ls), h => cases h
  | .any (⟨v, .ge, a⟩ :: m :: ls), h => cases h
  | .any (⟨v, .eq, a⟩ :: m :: ls), h => cases h
  | .any (⟨v, .ne, a⟩ :: m :: ls), h => cases h
theorem row_ok {f g : Fc} (hf : FOk f) (h : f.asRow = some g) : FOk g := by
  match f, h with
  | .row ts b, h => cases h; exact hf
  | .any [⟨v, .le, a⟩], h =>
    cases h
    refine ⟨by simp, fun m hm => ?_⟩
    cases List.mem_singleton.mp hm
    have := hf.2 ⟨v, .le, a⟩ (by simp)
    exact ⟨this.v0, this.v1, by simp, by simp, by simp⟩
  | .any [⟨v, .ge, a⟩], h =>
    cases h
    refine ⟨by simp, fun m hm => ?_⟩
    cases List.mem_singleton.mp hm
    have := hf.2 ⟨v, .ge, a⟩ (by simp)
    exact ⟨this.v0, this.v1, by simp, by simp, by simp⟩
  | .any [⟨v, .eq, a⟩], h => cases h
  | .any [⟨v, .ne, a⟩], h => cases h
  | .any [], h => cases h
  | .any (⟨v, .le, a⟩ :: m :: ls), h => cases h
  | .any (⟨v, .ge, a⟩ :: m :: ls), h => cases h
  | .any (⟨v, .eq, a⟩ :: m :: ls), h => cases h
  | .any (⟨v, .ne, a⟩ :: m :: ls), h => cases h
theorem div_le {b c x : Int} (h : 0 < c) : x ≤ b.fdiv c ↔ c * x ≤ b := by
  rw [Int.fdiv_eq_ediv_of_nonneg _ (by omega), Int.le_ediv_iff_mul_le h, Int.mul_comm]
theorem lit_holds {f : Fc} {l : Lt} (hf : FOk f) (h : f.asLit = some l) (p : List Int) : l.h p = f.h p := by
  match f, hf, h with
  | .row [(v, c)] b, hf, h =>
    have c0 : c ≠ 0 := (hf.2 (v, c) (by simp)).c0
    simp only [Fc.asLit, Option.some.injEq] at h
    simp only [Fc.h, tsum, List.map_cons, List.map_nil, List.sum_cons, List.sum_nil, Int.add_zero]
    split at h
    · subst h
      simp only [Lt.h, Rl.h]
      rw [Bool.eq_iff_iff, decide_eq_true_iff, decide_eq_true_iff]
      exact div_le (by omega)
    · subst h
      simp only [Lt.h, Rl.h]
      rw [Bool.eq_iff_iff, decide_eq_true_iff, decide_eq_true_iff]
      have := div_le (b := b) (c := -c) (x := -ptg p v) (by omega)
      rw [Int.neg_mul_neg] at this
      rw [← this]
      omega
  | .any [l'], hf, h =>
    cases h
    simp [Fc.h]
theorem lit_ok {f : Fc} {l : Lt} (hf : FOk f) (h : f.asLit = some l) : LOk l := by
  match f, hf, h with
  | .row [(v, c)] b, hf, h =>
    have hq := hf.2 (v, c) (by simp)
    simp only [Fc.asLit, Option.some.injEq] at h
    split at h
    · subst h
      exact ⟨hq.v0, hq.v1⟩
    · subst h
      exact ⟨hq.v0, hq.v1⟩
  | .any [l'], hf, h =>
    cases h
    exact hf.2 _ (by simp)
theorem impR {r q : Rl} {v w a b : Int} (h : imp v r a w q b = true) : v = w ∧ ∀ x, r.h x a = true → q.h x b = true := by
  unfold imp at h
  split at h
  · rename_i hv
    refine ⟨by simpa using hv, fun x hx => ?_⟩
    cases r <;> cases q <;> simp [Rl.h] at h hx ⊢ <;> omega
  · cases h
theorem imp_sound {l m : Lt} (h : l.imp m = true) (p : List Int) (hl : l.h p = true) : m.h p = true := by
  obtain ⟨e, k⟩ := impR h
  unfold Lt.h at hl ⊢
  rw [← e]
  exact k _ hl
theorem litsImp_sound {f g : Fc} (hf : FOk f) (hg : FOk g) (h : litsImp f g = true) (p : List Int) (hp : f.h p = true) : g.h p = true := by
  unfold litsImp at h
  cases hl : f.asLit with
  | none => rw [hl] at h; cases h
  | some l =>
    rw [hl] at h
    have hlp : l.h p = true := by rw [lit_holds hf hl]; exact hp
    cases g with
    | any ms =>
      simp only at h
      obtain ⟨m, hm, hi⟩ := List.any_eq_true.mp h
      exact List.any_eq_true.mpr ⟨m, hm, imp_sound hi p hlp⟩
    | row ts b =>
      simp only at h
      cases hm : Fc.asLit (.row ts b) with
      | none => rw [hm] at h; cases h
      | some m =>
        rw [hm] at h
        rw [← lit_holds hg hm]
        exact imp_sound h p hlp
theorem con_holds {f : Fc} (h : f.con = true) (p : List Int) : f.h p = false := by
  cases f with
  | row ts b =>
    simp only [Fc.con, Bool.and_eq_true, beq_iff_eq, decide_eq_true_eq, List.length_eq_zero_iff] at h
    rw [h.1]
    simp [Fc.h, tsum]
    omega
  | any ls =>
    simp only [Fc.con, beq_iff_eq, List.length_eq_zero_iff] at h
    rw [h]
    rfl
theorem impl_sound {f g : Fc} (hf : FOk f) (hg : FOk g) (h : impl f g = true) (p : List Int) (hp : f.h p = true) : g.h p = true := by
  unfold impl at h
  rw [Bool.or_eq_true, Bool.or_eq_true, Bool.or_eq_true] at h
  rcases h with h | h | h | h
  · rw [con_holds h] at hp
    cases hp
  · cases hr : f.asRow with
    | none => rw [hr] at h; cases h
    | some r =>
      rw [hr] at h
      cases r with
      | any ls => cases h
      | row ts b =>
        cases g with
        | any ms => cases h
        | row us c =>
          simp only [rowImp, Bool.and_eq_true, beq_iff_eq, decide_eq_true_eq] at h
          have := row_holds hr p
          rw [hp] at this
          simp only [Fc.h, decide_eq_true_eq] at this ⊢
          rw [← h.1]
          omega
  · cases f with
    | row ts b => cases h
    | any ls =>
      cases g with
      | row us c => cases h
      | any ms =>
        simp only [anyImp, List.all_eq_true, decide_eq_true_eq] at h
        obtain ⟨l, hl, hi⟩ := List.any_eq_true.mp hp
        exact List.any_eq_true.mpr ⟨l, h l hl, hi⟩
  · exact litsImp_sound hf hg h p hp
theorem impl_self (f : Fc) : impl f f = true := by
  unfold impl
  cases f with
  | row ts b => simp [Fc.asRow, rowImp]
  | any ls => simp [anyImp]
theorem impl_weak (f : Fc) : impl f (weak f) = true := by
  unfold impl
  cases f with
  | row ts b => simp [Fc.asRow, rowImp, weak]; omega
  | any ls =>
    have : anyImp (.any ls) (weak (.any ls)) = true := by
      simp only [weak, anyImp, List.all_eq_true, decide_eq_true_eq]
      exact fun l hl => List.mem_append_left _ hl
    rw [this]
    simp
def Fc.len : Fc → Nat
  | .row ts _ => ts.length
  | .any ls => ls.length
theorem con_iff (f : Fc) {ps : List (List Int)} (hne : ps ≠ []) : f.con = ((((f.len : Nat) : Int) == 0) && !decide (true ∈ ps.map f.h)) := by
  obtain ⟨p, ps', rfl⟩ : ∃ p ps', ps = p :: ps' := by
    cases ps with
    | nil => exact absurd rfl hne
    | cons p ps => exact ⟨p, ps, rfl⟩
  cases f with
  | row ts b =>
    cases ts with
    | nil =>
      simp only [Fc.con, Fc.len]
      have hh : ∀ x, (Fc.row [] b).h x = decide (0 ≤ b) := fun x => by simp [Fc.h, tsum]
      by_cases hb : b < 0
      · have h2 : ¬ (0 ≤ b) := by omega
        simp [hh, hb, h2]
      · have h2 : 0 ≤ b := by omega
        simp [hh, hb, h2]
    | cons q ts =>
      have : (((Fc.row (q :: ts) b).len : Int) == 0) = false := by
        rw [Bool.eq_false_iff]
        intro h
        have := of_decide_eq_true h
        simp only [Fc.len, List.length_cons] at this
        omega
      rw [this]
      rfl
  | any ls =>
    cases ls with
    | nil => simp [Fc.con, Fc.len, Fc.h]
    | cons l ls =>
      have : (((Fc.any (l :: ls)).len : Int) == 0) = false := by
        rw [Bool.eq_false_iff]
        intro h
        have := of_decide_eq_true h
        simp only [Fc.len, List.length_cons] at this
        omega
      rw [this]
      rfl
/-- strictly ascending lists of the same numbers are the same -/
theorem asc_ext : ∀ {xs ys : List Int}, xs.Pairwise (· < ·) → ys.Pairwise (· < ·) → (∀ k, k ∈ xs ↔ k ∈ ys) → xs = ys
  | [], [], _, _, _ => rfl
  | [], y :: ys, _, _, h => absurd ((h y).mpr List.mem_cons_self) (by simp)
  | x :: xs, [], _, _, h => absurd ((h x).mp List.mem_cons_self) (by simp)
  | x :: xs, y :: ys, hx, hy, h => by
    have hx' := List.pairwise_cons.mp hx
    have hy' := List.pairwise_cons.mp hy
    have e : x = y := by
      rcases List.mem_cons.mp ((h x).mp List.mem_cons_self) with e | e
      · exact e
      · rcases List.mem_cons.mp ((h y).mpr List.mem_cons_self) with e2 | e2
        · exact e2.symm
        · have := hy'.1 x e
          have := hx'.1 y e2
          omega
    subst e
    rw [asc_ext hx'.2 hy'.2 fun k => ?_]
    constructor
    · intro hk
      rcases List.mem_cons.mp ((h k).mp (List.mem_cons_of_mem _ hk)) with e | e
      · have := hx'.1 k hk
        omega
      · exact e
    · intro hk
      rcases List.mem_cons.mp ((h k).mpr (List.mem_cons_of_mem _ hk)) with e | e
      · have := hy'.1 k hk
        omega
      · exact e
theorem vs_lt {f : Fc} (hf : FOk f) {k : Int} (h : k ∈ f.vs) : 0 ≤ k ∧ k < 3 := by
  cases f with
  | row ts b =>
    obtain ⟨q, hq, rfl⟩ := List.mem_map.mp h
    exact ⟨(hf.2 q hq).v0, (hf.2 q hq).v1⟩
  | any ls =>
    obtain ⟨q, hq, rfl⟩ := List.mem_map.mp h
    exact ⟨(hf.2 q hq).v0, (hf.2 q hq).v1⟩
theorem vs_eq {f : Fc} (hf : FOk f) {ns : List Int} (h1 : ns.Pairwise (· < ·)) (h2 : ∀ k : Int, k ∈ ns ↔ k ∈ f.vs) : ns = (rngI 0 3).filterMap (fun v => if decide (v ∈ f.vs) then some v else none) := by
  refine asc_ext h1 ?_ fun k => ?_
  · refine List.Pairwise.filterMap _ (S := fun x y => x < y) (R := fun x y => x < y) ?_ (by decide)
    intro a a' h b hb b' hb'
    split at hb <;> cases hb
    split at hb' <;> cases hb'
    exact h
  · rw [h2, List.mem_filterMap]
    constructor
    · intro h
      exact ⟨k, mem_rngI.mpr (vs_lt hf h), by rw [if_pos (decide_eq_true h)]⟩
    · rintro ⟨a, _, e⟩
      split at e
      · rename_i h
        cases e
        exact of_decide_eq_true h
      · cases e
end Cf
end SK01M
section SK01L
set_option maxHeartbeats 4000000
/-! The law's reading. -/
namespace Cf
open PySem PySem.Spec PyProof.Rows L2 DL
local macro_rules | `(tactic| walk_at "d") => `(tactic| simp only [dSeq, dAsg, dAsgO, dAsgG, dCall, dCallO, dCallP_eq, dCallPO_eq, dCallM_eq, dCallMO_eq, dCons, dNil, dVar_eq, dC, dBin, dTst_eq, dIf_eq, dNext, dNever, dRet, dRetO, dRetV_eq, dTup, dLst, dFrz_eq, dNeg_eq, dAndT_eq, dOrT_eq, dNotT, dAndV_eq, dOrV_eq, dNotV_eq, dIfE_eq, dChain_eq, dDrop, dMt_eq, dMt0_eq, fmAppend_d, dAug_eq, dPar_eq, two_d, dParO, dParOD, dParDO, gdName, gdTup_t, gdTup_l, gdCons_c, gdNil_n, gdSub_eq, dFor, idSeq, seqD_l, seqD_t, idRng1_eq, idRng2_eq, rng1_i, rng2_i, fI_i, fI0_i, fB0_i, fAdd_i, fAdd_s, fAdd_t, fAdd_l, fMul_i, fInt1_i, fInt1_b, fInt2_i, fAbs_i, fLen_l, fLen_t, fSum_l, fAny_l, fAll_l, fListOf_l, fListOf_t, fTupOf_l, fTupOf_t, fEq, fNe, fIsN_n, fNoN_n, isN_n, isN_i, isN_t, isN_l, isN_s, fIn_l, fIn_t, fIx_l, fIx_t, fSl_l, fSl_t, dSl, dPart_eq, dPartN, negD_i, see_d, see_s, seeE_o, seeE_d, seeL_n, seeL_c, consO_s, onD_s, dListRange1_eq, dListRange2_eq, lrg1_i, lrg2_i, wipeE_n, wipeE_c, dSortedSet_eq, sset_l, intsD_map, fIsB_b, fNoB_b, dRep, repK_i, varE_d, varE_o, frzR_d, frzR_s, frzE_d, frzE_o, frzL_n, frzL_c, lstO_l, lstE_o, ownE_o, slotR_s, datE_d, rtD_d, rtO_o, tstB_b, thenB_t, thenB_f, chainB_b, outM, dComp, dYes, List.getElem?_cons_zero, List.getElem?_cons_succ, List.set_cons_zero, List.set_cons_succ, gLt, gLe, gGt, gGe, gGcd, gMax, gMin])
local macro_rules | `(tactic| walk_at "dl") => `(tactic| simp only [List.length_cons, List.length_nil, Nat.zero_add, Nat.reduceAdd, true_and, few0, few1, few2, few3, few4, few5, atI_0, atI_1, atI_2, atI_3, atI_4, onD_s, ixN_0, ixN_1, sh_int, sh_bool, eqv_int, eqv_bool])
local macro_rules | `(tactic| walk_at "s") => `(tactic| simp only [ln0, ln1, ln2, q00, q01, q02, q03, q10, q11, q12, q13, q20, q21, q22, q23, q30, q31, q32, q33, u00, u01, u10, u11, sh0, sh1, sh2, sh3, sh4, sh5, cl0, cl1, List.nil_append, List.cons_append, Rl.s, and_true, Bool.not_true, Bool.not_false, thenB_t, thenB_f, List.any_cons, List.any_nil, Bool.or_false, Bool.or_true, Bool.false_or, Bool.true_or, if_true, if_false, Bool.false_eq_true, ite_true, ite_false])
local macro_rules | `(tactic| walk_at "w") => `(tactic| repeat (first | walk_at "d" | walk_at "dl" | walk_at "s"))

local macro_rules | `(tactic| walk_at "f") => `(tactic| simp only [Fc_ix0r, Fc_ix0a, Fc_ix1r, Fc_ix1a, Fc_ix2r, Fc_isN, Lt_isN])
local macro_rules | `(tactic| walk_at "wf") => `(tactic| repeat (first | walk_at "f" | walk_at "d" | walk_at "dl" | walk_at "s"))



abbrev NL : List Str := ["script", "points", "k", "state", "facts", "held", "at", "fact", "other", "row", "literal", "to", "turn", "point", "v", "one", "place", "part"]
def heldD (pts : List (List Int)) (f : Fc) : D := .list ((pts.map f.h).map .bool)
theorem atI_map {α : Type} {F : List α} {i : Int} (h0 : 0 ≤ i) (h1 : i < F.length) : ∃ f ∈ F, F[i.toNat]? = some f ∧ ∀ g : α → D, atI (F.map g) i = some (g f) := by
  have lt : i.toNat < F.length := by omega
  refine ⟨F[i.toNat], List.getElem_mem lt, List.getElem?_eq_getElem lt, fun g => ?_⟩
  rw [atI_some h0 (by rw [List.length_map]; exact h1), List.getElem?_map, List.getElem?_eq_getElem lt]
  rfl
theorem fIx_map {α : Type} {F : List α} {i : Int} {f : α} {g : α → D} (h : ∀ g : α → D, atI (F.map g) i = some (g f)) {Q : D → Prop} : fIx (.list (F.map g)) (.int i) Q = Q (g f) := by
  rw [fIx_l, h, onD_s]
def Fc.tag : Fc → Str
  | .row _ _ => "row"
  | .any _ => "any"
def Fc.body : Fc → D
  | .row ts _ => .tuple (ts.map pairLd)
  | .any ls => .tuple (ls.map Lt.d)
def Fc.isAny : Fc → Bool
  | .row _ _ => false
  | .any _ => true
theorem Fc_ix0 {f : Fc} {Q : D → Prop} : fIx f.d (.int 0) Q = Q (.str f.tag) := by
  cases f <;> simp only [Fc.d, Fc.tag, fIx_t, atI_0, onD_s]
theorem Fc_ix1 {f : Fc} {Q : D → Prop} : fIx f.d (.int 1) Q = Q f.body := by
  cases f <;> simp only [Fc.d, Fc.body, fIx_t, atI_1, onD_s]
theorem Fc_len {f : Fc} {Q : D → Prop} : fLen [f.body] Q = Q (.int (f.len : Nat)) := by
  cases f <;> simp only [Fc.body, Fc.len, fLen_t, List.length_map]
theorem Fc_tag {f : Fc} : PyData.eqv (.str f.tag) (.str "any") = f.isAny := by
  cases f <;> simp only [Fc.tag, Fc.isAny, u01, u11]
theorem Fc_tagR {f : Fc} : PyData.eqv (.str f.tag) (.str "row") = !f.isAny := by
  cases f <;> simp only [Fc.tag, Fc.isAny, u00, u10, Bool.not_true, Bool.not_false]
theorem Fc_tsh {f : Fc} : SeqAt.shaped (.str f.tag) = true := by
  cases f <;> simp only [Fc.tag, sh4, sh5]
theorem isN_optD {o : Option Fc} : isN (optD o) = o.isNone := by
  cases o with
  | none => rfl
  | some f => cases f <;> rfl
theorem isN_optL {o : Option Lt} : isN (optL o) = o.isNone := by
  cases o <;> rfl
theorem Lt_ix0 {l : Lt} {Q : D → Prop} : fIx l.d (.int 0) Q = Q (.int l.v) := by
  simp only [Lt.d, lit, fIx_t, atI_0, onD_s]
local macro_rules | `(tactic| walk_at "g") => `(tactic| simp only [Fc_ix0, Fc_ix1, Fc_len, Fc_tag, Fc_tagR, Fc_tsh, isN_optD, isN_optL, Fc_isN, Lt_isN])
local macro_rules | `(tactic| walk_at "b") => `(tactic| repeat (first | walk_at "g" | walk_at "d" | walk_at "dl" | walk_at "s"))
theorem neg_none (f : Fc) : f.neg.isNone = (f.isAny && !(((f.len : Nat) : Int) == 1)) := by
  match f with
  | .row ts b => rfl
  | .any [] => rfl
  | .any [l] => rfl
  | .any (l :: m :: ls) =>
    simp only [Fc.neg, Fc.isAny, Fc.len, List.length_cons, ln2]
    rfl
theorem lit_none (f : Fc) : f.asLit.isNone = !(((f.len : Nat) : Int) == 1) := by
  match f with
  | .row [] b => rfl
  | .row [(v, c)] b => rfl
  | .row (q :: q' :: ts) b =>
    simp only [Fc.asLit, Fc.len, List.length_cons, ln2]
    rfl
  | .any [] => rfl
  | .any [l] => rfl
  | .any (l :: m :: ls) =>
    simp only [Fc.asLit, Fc.len, List.length_cons, ln2]
    rfl
theorem sm_law : ∀ ds Q, sp_law ds Q → t_law { nx := fun _ => Q (.dat .none), rt := fun r _ => Q r } (startE NL ds) := by
  rintro ds Q ⟨ns, rfl, hl, hb, kQ⟩
  generalize hs : PyData.list (ns.map PyData.int) = sc
  show t_law _ [.dat sc, .no, .no, .no, .no, .no, .no, .no, .no, .no, .no, .no, .no, .no, .no, .no, .no, .no]
  unfold t_law
  have hmin : (ns.map PyData.int).length = ns.length := by simp
  subst hs
  obtain ⟨pts, hpts⟩ : ∃ pts, pts = ptsOf [(-2, 3), (-2, 3), (-2, 3)] := ⟨_, rfl⟩
  have plen : pts.length = 216 := by rw [hpts]; decide +kernel
  have p3 : ∀ p ∈ pts, p.length = 3 := fun p hp => by rw [hpts] at hp; exact pts_len hp
  have pne : pts ≠ [] := fun z => by rw [z] at plen; cases plen
  refine seq_i (fun _ : Unit => [.dat (.list (ns.map .int)), .dat (.list (pts.map pointLd)), .no, .no, .no, .no, .no, .no, .no, .no, .no, .no, .no, .no, .no, .no, .no, .no]) (fun _ => True) (fun _ _ => ?_) (fun N hN => ?_)
  case refine_2 =>
    walk_at "w"
    refine ⟨⟨by decide, by decide, by decide⟩, ?_⟩
    refine .mk (rs := [(-2, 3), (-2, 3), (-2, 3)]) (by decide) (fun p hp => ?_) ?_
    · have : p = (-2, 3) := by simpa using hp
      subst this
      exact ⟨by decide, by decide, by decide, by decide⟩
    · walk_at "d"
      rw [← hpts]
      exact hN () trivial
  refine seq_i (fun E : Ev => E) (fun _ => True) (fun E _ => kQ) (fun N hN => ?_)
  show dFor _ _ _ _ _
  walk_at "w"
  refine ⟨inRg_of (by split <;> omega) (by split <;> omega), ?_⟩
  refine forD_inv (fun E => ∃ e2 e3 e4 e5 e6 e7 e8 e9 e10 e11 e12 e13 e14 e15 e16 e17, E = [.dat (.list (ns.map .int)), .dat (.list (pts.map pointLd)), e2, e3, e4, e5, e6, e7, e8, e9, e10, e11, e12, e13, e14, e15, e16, e17]) ⟨_, _, _, _, _, _, _, _, _, _, _, _, _, _, _, _, rfl⟩ ?_ (fun E _ => hN _ trivial)
  rintro d hd E ⟨e2, e3, e4, e5, e6, e7, e8, e9, e10, e11, e12, e13, e14, e15, e16, e17, rfl⟩ N hN2
  obtain ⟨k, rfl, k0, k1⟩ := mem_rng hd
  have k2 : k ≤ 6 := by
    split at k1 <;> omega
  clear hd k1
  simp only [gdName, List.set_cons_succ, List.set_cons_zero]
  refine seq_i (fun o : Ob => [.dat (.list (ns.map .int)), .dat (.list (pts.map pointLd)), .dat (.int k), .ob false o, e4, e5, e6, e7, e8, e9, e10, e11, e12, e13, e14, e15, e16, e17]) Stt (fun o ho => ?_) (fun N' hN' => ?_)
  case refine_2 =>
    walk_at "d"
    exact .mk k0 (by omega) (by decide) (by decide) hl hb fun o ho => hN' o ho
  -- four facts
  refine seq_i (fun x : Ob × List Fc × En => [.dat (.list (ns.map .int)), .dat (.list (pts.map pointLd)), .dat (.int k), .ob false x.1, .ob false (.lst (x.2.1.map Fc.d)), e5, e6, e7, e8, e9, e10, e11, x.2.2, e13, e14, e15, e16, e17]) (fun x => Stt x.1 ∧ x.2.1.length = 4 ∧ ∀ f ∈ x.2.1, FOk f ∧ FOk (weak f)) (fun x hx => ?_) (fun N' hN' => ?_)
  case refine_2 =>
    walk_at "w"
    refine ⟨inRg_of (by decide) (by decide), ?_⟩
    refine compD_rest (fun ds acc e => ∃ (o : Ob) (fs : List Fc) (x : En), Stt o ∧ (∀ f ∈ fs, FOk f ∧ FOk (weak f)) ∧ fs.length + ds.length = 4 ∧ acc = fs.map Fc.d ∧ e = [.dat (.list (ns.map .int)), .dat (.list (pts.map pointLd)), .dat (.int k), .ob false o, e4, e5, e6, e7, e8, e9, e10, e11, x, e13, e14, e15, e16, e17]) ⟨o, [], _, ho, (fun _ h => by cases h), (by rw [rng_len]; rfl), rfl, rfl⟩ ?_ ?_
    · rintro d ds acc _ ⟨o, fs, x, ho, hf, hlen, rfl, rfl⟩ N3 hN3
      rw [List.length_cons] at hlen
      walk_at "w"
      refine .mk ho fun f o2 f2 g2 ho2 => ?_
      walk_at "w"
      refine ⟨few (by rw [List.length_map]; omega), hN3 _ _ ⟨o2, fs ++ [f], .no, ho2, ?_, ?_, ?_, rfl⟩⟩
      · intro m hm
        rcases List.mem_append.mp hm with hm | hm
        · exact hf m hm
        · cases List.mem_singleton.mp hm
          exact ⟨f2, g2⟩
      · rw [List.length_append, List.length_singleton]
        omega
      · rw [List.map_append]
        rfl
    · rintro acc _ ⟨o, fs, x, ho, hf, hlen, rfl, rfl⟩
      exact hN' (o, fs, x) ⟨ho, hlen, hf⟩
  obtain ⟨o, fs, e12⟩ := x
  obtain ⟨ho, fl, hf⟩ := hx
  simp only at ho fl hf ⊢
  -- and four weaker
  obtain ⟨F, hF⟩ : ∃ F, F = fs ++ fs.map weak := ⟨_, rfl⟩
  have Fl : F.length = 8 := by rw [hF, List.length_append, List.length_map, fl]
  have Fok : ∀ f ∈ F, FOk f := fun f hm => by
    rw [hF] at hm
    rcases List.mem_append.mp hm with hm | hm
    · exact (hf f hm).1
    · obtain ⟨g, hg, rfl⟩ := List.mem_map.mp hm
      exact (hf g hg).2
  refine seq_i (fun e7 : En => [.dat (.list (ns.map .int)), .dat (.list (pts.map pointLd)), .dat (.int k), .ob false o, .dat (.list (F.map Fc.d)), e5, e6, e7, e8, e9, e10, e11, e12, e13, e14, e15, e16, e17]) (fun _ => True) (fun e7 _ => ?_) (fun N' hN' => ?_)
  case refine_2 =>
    walk_at "w"
    refine compD_fm (f := Fc.d) (h := Fc.d) (p := fun f => some (weak f)) (sh := fun e7 : En => [.dat (.list (ns.map .int)), .dat (.list (pts.map pointLd)), .dat (.int k), .ob false o, .dat (.list (fs.map Fc.d)), e5, e6, e7, e8, e9, e10, e11, e12, e13, e14, e15, e16, e17]) e7 (by omega) (fun f hm e7 N3 hN3 => ?_) (fun e7 => ?_)
    · cases f with
      | row ts b =>
        walk_at "wf"
        exact hN3 _
      | any ls =>
        walk_at "wf"
        refine ⟨fit ?_, ?_⟩
        · have := (hf _ hm).1.1
          rw [List.length_map]
          omega
        · have := hN3 .no
          simp only [Option.map_some, weak, Fc.d, List.map_append, List.map_cons, List.map_nil, Lt.d, lit, Rl.s] at this
          exact this
    · walk_at "w"
      rw [fm_some]
      refine ⟨fit (by rw [List.length_map, List.length_map, List.length_map]; omega), ?_⟩
      have := hN' e7 trivial
      rw [hF, List.map_append] at this
      exact this
  -- the loop
  refine seq_i (fun x : En × En => [.dat (.list (ns.map .int)), .dat (.list (pts.map pointLd)), .dat (.int k), .ob false o, .dat (.list (F.map Fc.d)), .ob false (.lst (F.map (heldD pts))), e6, x.1, e8, e9, e10, e11, e12, x.2, e14, e15, e16, e17]) (fun _ => True) (fun x _ => ?_) (fun N' hN' => ?_)
  case refine_2 =>
    walk_at "w"
    refine compD_fm (f := Fc.d) (h := heldD pts) (p := fun f => some f) (sh := fun x : En × En => [.dat (.list (ns.map .int)), .dat (.list (pts.map pointLd)), .dat (.int k), .ob false o, .dat (.list (F.map Fc.d)), e5, e6, x.1, e8, e9, e10, e11, e12, x.2, e14, e15, e16, e17]) (e7, e13) (by omega) (fun f hm x N3 hN3 => ?_) (fun x => ?_)
    · walk_at "w"
      refine compD_fm (f := pointLd) (h := .bool) (p := fun p => some (f.h p)) (sh := fun e13 : En => [.dat (.list (ns.map .int)), .dat (.list (pts.map pointLd)), .dat (.int k), .ob false o, .dat (.list (F.map Fc.d)), e5, e6, .dat f.d, e8, e9, e10, e11, e12, e13, e14, e15, e16, e17]) x.2 (by omega) (fun p hp e13 N5 hN5 => ?_) (fun e13 => ?_)
      · walk_at "w"
        refine .mk (Fok f hm) (p3 p hp) ?_
        walk_at "w"
        exact hN5 _
      · walk_at "w"
        rw [fm_some]
        exact hN3 (.no, e13)
    · walk_at "w"
      rw [show F.filterMap (fun f => some f) = F from List.filterMap_some]
      exact hN' x trivial
  obtain ⟨e7, e13⟩ := x
  simp only
  have hsh : ∀ g : Fc, SeqAt.shaped (heldD pts g) = true := fun g => Emb.bool.lst.sh _
  have hself : ∀ g : Fc, PyData.eqv (heldD pts g) (heldD pts g) = true := fun g => by
    unfold heldD
    rw [Emb.bool.lst.eq]
    exact decide_eq_true rfl
  have hlay : ∀ g : Fc, PyData.canLayAll0 ((pts.map g.h).map .bool) = true := fun g => Emb.bool.layAll _
  walk_at "w"
  rw [List.length_map]
  refine ⟨inRg_of (by omega) (by omega), ?_⟩
  refine forD_inv (fun E => ∃ e6 e7 e8 e9 e10 e11 e13 e14 e15 e16 e17, E = [.dat (.list (ns.map .int)), .dat (.list (pts.map pointLd)), .dat (.int k), .ob false o, .dat (.list (F.map Fc.d)), .ob false (.lst (F.map (heldD pts))), e6, e7, e8, e9, e10, e11, e12, e13, e14, e15, e16, e17]) ⟨_, _, _, _, _, _, _, _, _, _, _, rfl⟩ ?_ (fun E hE => ?_)
  case refine_2 =>
    obtain ⟨e6, e7, e8, e9, e10, e11, e13, e14, e15, e16, e17, rfl⟩ := hE
    exact hN2 _ ⟨_, _, _, _, _, _, _, _, _, _, _, _, _, _, _, _, rfl⟩
  clear e6 e7 e8 e9 e10 e11 e13 e14 e15 e16 e17
  rintro d hd E ⟨e6, e7, e8, e9, e10, e11, e13, e14, e15, e16, e17, rfl⟩ N2 hN3
  obtain ⟨at', rfl, a0, a1⟩ := mem_rng hd
  have a2 : at' < F.length := by omega
  clear hd a1
  simp only [gdName, List.set_cons_succ, List.set_cons_zero]
  obtain ⟨f, hfm, hget, hat⟩ := atI_map (F := F) a0 a2
  have ff := Fok f hfm
  refine seq_i (fun x : En × En × En × En × En => [.dat (.list (ns.map .int)), .dat (.list (pts.map pointLd)), .dat (.int k), .ob false o, .dat (.list (F.map Fc.d)), .ob false (.lst (F.map (heldD pts))), .dat (.int at'), .dat f.d, e8, e9, e10, e11, e12, x.1, x.2.1, x.2.2.1, x.2.2.2.1, x.2.2.2.2]) (fun _ => True) (fun x _ => ?_) (fun N' hN' => ?_)
  case refine_2 =>
    walk_at "d"
    rw [hat, onD_s]
    exact hN' (e13, e14, e15, e16, e17) trivial
  obtain ⟨e13, e14, e15, e16, e17⟩ := x
  simp only
  refine seq_i (fun x : En × En × En × En × En => [.dat (.list (ns.map .int)), .dat (.list (pts.map pointLd)), .dat (.int k), .ob false o, .dat (.list (F.map Fc.d)), .ob false (.lst (F.map (heldD pts))), .dat (.int at'), .dat f.d, e8, e9, e10, e11, e12, x.1, x.2.1, x.2.2.1, x.2.2.2.1, x.2.2.2.2]) (fun _ => True) (fun x _ => ?_) (fun N' hN' => ?_)
  case refine_2 =>
    walk_at "w"
    refine compD_fm (f := pointLd) (h := .bool) (p := fun p => some (f.h p)) (sh := fun e13 : En => [.dat (.list (ns.map .int)), .dat (.list (pts.map pointLd)), .dat (.int k), .ob false o, .dat (.list (F.map Fc.d)), .ob false (.lst (F.map (heldD pts))), .dat (.int at'), .dat f.d, e8, e9, e10, e11, e12, e13, e14, e15, e16, e17]) e13 (by omega) (fun p hp e13 N5 hN5 => ?_) (fun e13 => ?_)
    · walk_at "wf"
      refine .mk ff (p3 p hp) ?_
      walk_at "wf"
      exact hN5 _
    · walk_at "wf"
      rw [hat, onD_s, fm_some]
      rw [show PyData.list ((pts.map f.h).map .bool) = heldD pts f from rfl, hsh, hself]
      refine ⟨⟨rfl, rfl⟩, ?_⟩
      simp only [Bool.not_true, thenB_f]
      refine .mk ff ff ?_
      walk_at "wf"
      rw [impl_self]
      simp only [decide_true, Bool.not_true, thenB_f]
      exact hN' (e13, e14, e15, e16, e17) trivial
  obtain ⟨e13, e14, e15, e16, e17⟩ := x
  simp only
  refine seq_i (fun x : En × En × En × En × En => [.dat (.list (ns.map .int)), .dat (.list (pts.map pointLd)), .dat (.int k), .ob false o, .dat (.list (F.map Fc.d)), .ob false (.lst (F.map (heldD pts))), .dat (.int at'), .dat f.d, e8, e9, e10, e11, e12, x.1, x.2.1, x.2.2.1, x.2.2.2.1, x.2.2.2.2]) (fun _ => True) (fun x _ => ?_) (fun N' hN' => ?_)
  case refine_2 =>
    walk_at "w"
    refine .mk ff fun us h1 h2 => ?_
    walk_at "w"
    refine ⟨inRg_of (by decide) (by decide), ?_⟩
    rw [rngD_I]
    refine compD_fm (f := .int) (h := .int) (p := fun v => if decide (v ∈ f.vs) then some v else none) (sh := fun x : En × En => [.dat (.list (ns.map .int)), .dat (.list (pts.map pointLd)), .dat (.int k), .ob false o, .dat (.list (F.map Fc.d)), .ob false (.lst (F.map (heldD pts))), .dat (.int at'), .dat f.d, e8, e9, e10, e11, e12, e13, x.1, e15, e16, x.2]) (e14, e17) (by decide) (fun v hv x N5 hN5 => ?_) (fun x => ?_)
    · have inn : ∀ (R : Ob → Ev → Prop) (e14 e17 : En), (∀ e17, R (.lst (f.vs.map .int)) [.dat (.list (ns.map .int)), .dat (.list (pts.map pointLd)), .dat (.int k), .ob false o, .dat (.list (F.map Fc.d)), .ob false (.lst (F.map (heldD pts))), .dat (.int at'), .dat f.d, e8, e9, e10, e11, e12, e13, e14, e15, e16, e17]) → dComp (idSeq (dBin fIx (dVar 7) (dC (.int 1)))) (gdName 17) dYes (dBin fIx (dVar 17) (dC (.int 0))) [17] [.dat (.list (ns.map .int)), .dat (.list (pts.map pointLd)), .dat (.int k), .ob false o, .dat (.list (F.map Fc.d)), .ob false (.lst (F.map (heldD pts))), .dat (.int at'), .dat f.d, e8, e9, e10, e11, e12, e13, e14, e15, e16, e17] R := by
        intro R e14 e17 hR
        cases f with
        | row ts b =>
          walk_at "wf"
          refine compD_fm (f := pairLd) (h := .int) (p := fun q => some q.1) (sh := fun e17 : En => [.dat (.list (ns.map .int)), .dat (.list (pts.map pointLd)), .dat (.int k), .ob false o, .dat (.list (F.map Fc.d)), .ob false (.lst (F.map (heldD pts))), .dat (.int at'), .dat (Fc.row ts b).d, e8, e9, e10, e11, e12, e13, e14, e15, e16, e17]) e17 (by have := ff.1; omega) (fun q hq e17 N6 hN6 => ?_) (fun e17 => ?_)
          · simp only [pairLd]
            walk_at "wf"
            exact hN6 _
          · rw [fm_some]
            exact hR e17
        | any ls =>
          walk_at "wf"
          refine compD_fm (f := Lt.d) (h := .int) (p := fun q => some q.v) (sh := fun e17 : En => [.dat (.list (ns.map .int)), .dat (.list (pts.map pointLd)), .dat (.int k), .ob false o, .dat (.list (F.map Fc.d)), .ob false (.lst (F.map (heldD pts))), .dat (.int at'), .dat (Fc.any ls).d, e8, e9, e10, e11, e12, e13, e14, e15, e16, e17]) e17 (by have := ff.1; omega) (fun q hq e17 N6 hN6 => ?_) (fun e17 => ?_)
          · simp only [Lt.d, lit]
            walk_at "wf"
            exact hN6 _
          · rw [fm_some]
            exact hR e17
      simp only [wipeE_c, wipeE_n, gdName, List.set_cons_succ, List.set_cons_zero, dTst_eq, dBin, dFrz_eq, dVar_eq, List.getElem?_cons_zero, List.getElem?_cons_succ, varE_d]
      refine inn _ _ _ fun e17 => ?_
      walk_at "w"
      rw [Emb.int.layAll f.vs, Emb.int.any v f.vs]
      refine ⟨rfl, ?_⟩
      refine thenB_of (fun h => ?_) (fun h => ?_)
      · rw [h] at hN5; exact hN5 (_, _)
      · rw [h] at hN5; exact hN5 (_, _)
    · walk_at "w"
      rw [show Int.toNat 3 = 3 from rfl, ← vs_eq ff h1 h2, Emb.int.lst.sh us, Emb.int.lst.eq us us, decide_eq_true rfl]
      refine ⟨⟨rfl, rfl⟩, ?_⟩
      simp only [Bool.not_true, thenB_f]
      exact hN' (e13, x.1, e15, e16, x.2) trivial
  obtain ⟨e13, e14, e15, e16, e17⟩ := x
  simp only
  refine seq_i (fun x : En × En × En × En × En => [.dat (.list (ns.map .int)), .dat (.list (pts.map pointLd)), .dat (.int k), .ob false o, .dat (.list (F.map Fc.d)), .ob false (.lst (F.map (heldD pts))), .dat (.int at'), .dat f.d, e8, e9, e10, e11, e12, x.1, x.2.1, x.2.2.1, x.2.2.2.1, x.2.2.2.2]) (fun _ => True) (fun x _ => ?_) (fun N' hN' => ?_)
  case refine_2 =>
    walk_at "w"
    refine .mk ?_
    walk_at "b"
    rw [con_iff f pne]
    refine thenB_of (fun h => ?_) (fun h => ?_)
    · walk_at "b"
      rw [hat, onD_s]
      unfold heldD
      walk_at "b"
      rw [hlay f, Emb.bool.any true (pts.map f.h), h]
      refine ⟨rfl, ?_⟩
      walk_at "b"
      simp only [Bool.true_and, beq_self_eq_true, Bool.not_true, thenB_f]
      exact hN' (e13, e14, e15, e16, e17) trivial
    · rw [h]
      walk_at "b"
      simp only [Bool.false_and, beq_self_eq_true, Bool.not_true, thenB_f]
      exact hN' (e13, e14, e15, e16, e17) trivial
  obtain ⟨e13, e14, e15, e16, e17⟩ := x
  simp only
  refine seq_i (fun x : En × En × En × En × En => [.dat (.list (ns.map .int)), .dat (.list (pts.map pointLd)), .dat (.int k), .ob false o, .dat (.list (F.map Fc.d)), .ob false (.lst (F.map (heldD pts))), .dat (.int at'), .dat f.d, .dat (optD f.neg), e9, e10, e11, e12, x.1, x.2.1, x.2.2.1, x.2.2.2.1, x.2.2.2.2]) (fun _ => True) (fun x _ => ?_) (fun N' hN' => ?_)
  case refine_2 =>
    walk_at "w"
    refine .mk ff ?_
    walk_at "w"
    exact hN' (e13, e14, e15, e16, e17) trivial
  obtain ⟨e13, e14, e15, e16, e17⟩ := x
  simp only
  refine seq_i (fun x : En × En × En × En × En => [.dat (.list (ns.map .int)), .dat (.list (pts.map pointLd)), .dat (.int k), .ob false o, .dat (.list (F.map Fc.d)), .ob false (.lst (F.map (heldD pts))), .dat (.int at'), .dat f.d, .dat (optD f.neg), e9, e10, e11, e12, x.1, x.2.1, x.2.2.1, x.2.2.2.1, x.2.2.2.2]) (fun _ => True) (fun x _ => ?_) (fun N' hN' => ?_)
  case refine_2 =>
    walk_at "b"
    rw [neg_none f]
    refine thenB_of (fun h => ?_) (fun h => ?_)
    · walk_at "b"
      rw [h]
      simp only [Bool.true_and, beq_self_eq_true, Bool.not_true, thenB_f]
      exact hN' (e13, e14, e15, e16, e17) trivial
    · rw [h]
      walk_at "b"
      simp only [Bool.false_and, beq_self_eq_true, Bool.not_true, thenB_f]
      exact hN' (e13, e14, e15, e16, e17) trivial
  obtain ⟨e13, e14, e15, e16, e17⟩ := x
  simp only
  refine seq_i (fun x : En × En × En × En × En => [.dat (.list (ns.map .int)), .dat (.list (pts.map pointLd)), .dat (.int k), .ob false o, .dat (.list (F.map Fc.d)), .ob false (.lst (F.map (heldD pts))), .dat (.int at'), .dat f.d, .dat (optD f.neg), e9, e10, e11, e12, x.1, x.2.1, x.2.2.1, x.2.2.2.1, x.2.2.2.2]) (fun _ => True) (fun x _ => ?_) (fun N' hN' => ?_)
  case refine_2 =>
    cases hg : f.neg with
    | none =>
      rw [hg] at hN'
      simp only [optD] at hN' ⊢
      walk_at "b"
      exact hN' (e13, e14, e15, e16, e17) trivial
    | some g =>
      have fg := neg_ok ff hg
      rw [hg] at hN'
      simp only [optD] at hN' ⊢
      walk_at "b"
      refine .mk fg ?_
      rw [neg_neg hg]
      simp only [optD]
      walk_at "b"
      rw [Fc_sh, Fc_eq]
      refine ⟨⟨rfl, rfl⟩, ?_⟩
      walk_at "b"
      refine compD_fm (f := pointLd) (h := .bool) (p := fun p => some (g.h p)) (sh := fun e13 : En => [.dat (.list (ns.map .int)), .dat (.list (pts.map pointLd)), .dat (.int k), .ob false o, .dat (.list (F.map Fc.d)), .ob false (.lst (F.map (heldD pts))), .dat (.int at'), .dat f.d, .dat g.d, e9, e10, e11, e12, e13, e14, e15, e16, e17]) e13 (by omega) (fun p hp e13 N5 hN5 => ?_) (fun e13 => ?_)
      · walk_at "b"
        refine .mk fg (p3 p hp) ?_
        walk_at "b"
        exact hN5 _
      · walk_at "b"
        rw [hat, onD_s]
        unfold heldD
        walk_at "b"
        refine compD_fm (f := .bool) (h := .bool) (p := fun b => some (!b)) (sh := fun e15 : En => [.dat (.list (ns.map .int)), .dat (.list (pts.map pointLd)), .dat (.int k), .ob false o, .dat (.list (F.map Fc.d)), .ob false (.lst (F.map (heldD pts))), .dat (.int at'), .dat f.d, .dat g.d, e9, e10, e11, e12, e13, e14, e15, e16, e17]) e15 (by rw [List.length_map]; omega) (fun b hb e15 N5 hN5 => ?_) (fun e15 => ?_)
        · walk_at "b"
          exact hN5 _
        · walk_at "b"
          rw [fm_some, fm_some, Emb.bool.lst.sh (pts.map fun p => g.h p), Emb.bool.lst.sh ((pts.map f.h).map fun b => !b), Emb.bool.lst.eq, show (pts.map fun p => g.h p) = (pts.map f.h).map (fun b => !b) by rw [List.map_map]; exact List.map_congr_left fun p _ => neg_holds hg p, decide_eq_true rfl]
          refine ⟨⟨rfl, rfl⟩, ?_⟩
          walk_at "b"
          exact hN' (e13, e14, e15, e16, e17) trivial
  obtain ⟨e13, e14, e15, e16, e17⟩ := x
  simp only
  refine seq_i (fun x : En × En × En × En × En => [.dat (.list (ns.map .int)), .dat (.list (pts.map pointLd)), .dat (.int k), .ob false o, .dat (.list (F.map Fc.d)), .ob false (.lst (F.map (heldD pts))), .dat (.int at'), .dat f.d, .dat (optD f.neg), .dat (optD f.asRow), .dat (optL f.asLit), e11, e12, x.1, x.2.1, x.2.2.1, x.2.2.2.1, x.2.2.2.2]) (fun _ => True) (fun x _ => ?_) (fun N' hN' => ?_)
  case refine_2 =>
    walk_at "b"
    refine .mk ?_
    walk_at "b"
    refine .mk ff ?_
    walk_at "b"
    exact hN' (e13, e14, e15, e16, e17) trivial
  obtain ⟨e13, e14, e15, e16, e17⟩ := x
  simp only
  refine seq_i (fun x : En × En × En × En × En => [.dat (.list (ns.map .int)), .dat (.list (pts.map pointLd)), .dat (.int k), .ob false o, .dat (.list (F.map Fc.d)), .ob false (.lst (F.map (heldD pts))), .dat (.int at'), .dat f.d, .dat (optD f.neg), .dat (optD f.asRow), .dat (optL f.asLit), e11, e12, x.1, x.2.1, x.2.2.1, x.2.2.2.1, x.2.2.2.2]) (fun _ => True) (fun x _ => ?_) (fun N' hN' => ?_)
  case refine_2 =>
    cases hg : f.asRow with
    | none =>
      rw [hg] at hN'
      simp only [optD] at hN' ⊢
      walk_at "b"
      exact hN' (e13, e14, e15, e16, e17) trivial
    | some g =>
      have fg := row_ok ff hg
      rw [hg] at hN'
      simp only [optD] at hN' ⊢
      walk_at "b"
      refine compD_fm (f := pointLd) (h := .bool) (p := fun p => some (g.h p)) (sh := fun e13 : En => [.dat (.list (ns.map .int)), .dat (.list (pts.map pointLd)), .dat (.int k), .ob false o, .dat (.list (F.map Fc.d)), .ob false (.lst (F.map (heldD pts))), .dat (.int at'), .dat f.d, .dat (optD f.neg), .dat g.d, .dat (optL f.asLit), e11, e12, e13, e14, e15, e16, e17]) e13 (by omega) (fun p hp e13 N5 hN5 => ?_) (fun e13 => ?_)
      · walk_at "b"
        refine .mk fg (p3 p hp) ?_
        walk_at "b"
        exact hN5 _
      · walk_at "b"
        rw [hat, onD_s, fm_some, show (pts.map fun p => g.h p) = pts.map f.h from List.map_congr_left fun p _ => row_holds hg p, show PyData.list ((pts.map f.h).map .bool) = heldD pts f from rfl, hsh, hself]
        refine ⟨⟨rfl, rfl⟩, ?_⟩
        walk_at "b"
        exact hN' (e13, e14, e15, e16, e17) trivial
  obtain ⟨e13, e14, e15, e16, e17⟩ := x
  simp only
  refine seq_i (fun x : En × En × En × En × En => [.dat (.list (ns.map .int)), .dat (.list (pts.map pointLd)), .dat (.int k), .ob false o, .dat (.list (F.map Fc.d)), .ob false (.lst (F.map (heldD pts))), .dat (.int at'), .dat f.d, .dat (optD f.neg), .dat (optD f.asRow), .dat (optL f.asLit), e11, e12, x.1, x.2.1, x.2.2.1, x.2.2.2.1, x.2.2.2.2]) (fun _ => True) (fun x _ => ?_) (fun N' hN' => ?_)
  case refine_2 =>
    cases hg : f.asLit with
    | none =>
      rw [hg] at hN'
      simp only [optL] at hN' ⊢
      walk_at "b"
      exact hN' (e13, e14, e15, e16, e17) trivial
    | some g =>
      have fg := lit_ok ff hg
      rw [hg] at hN'
      simp only [optL] at hN' ⊢
      walk_at "b"
      refine compD_fm (f := pointLd) (h := .bool) (p := fun p => some (g.h p)) (sh := fun e13 : En => [.dat (.list (ns.map .int)), .dat (.list (pts.map pointLd)), .dat (.int k), .ob false o, .dat (.list (F.map Fc.d)), .ob false (.lst (F.map (heldD pts))), .dat (.int at'), .dat f.d, .dat (optD f.neg), .dat (optD f.asRow), .dat g.d, e11, e12, e13, e14, e15, e16, e17]) e13 (by omega) (fun p hp e13 N5 hN5 => ?_) (fun e13 => ?_)
      · walk_at "b"
        rw [Lt_ix0, fIx_pt (p3 p hp) fg.v0 fg.v1]
        refine .mk ?_
        walk_at "b"
        exact hN5 _
      · walk_at "b"
        rw [hat, onD_s, fm_some, show pts.map g.h = pts.map f.h from List.map_congr_left fun p _ => lit_holds ff hg p, show PyData.list ((pts.map f.h).map .bool) = heldD pts f from rfl, hsh, hself]
        refine ⟨⟨rfl, rfl⟩, ?_⟩
        walk_at "b"
        exact hN' (e13, e14, e15, e16, e17) trivial
  obtain ⟨e13, e14, e15, e16, e17⟩ := x
  simp only
  refine seq_i (fun x : En × En × En × En × En => [.dat (.list (ns.map .int)), .dat (.list (pts.map pointLd)), .dat (.int k), .ob false o, .dat (.list (F.map Fc.d)), .ob false (.lst (F.map (heldD pts))), .dat (.int at'), .dat f.d, .dat (optD f.neg), .dat (optD f.asRow), .dat (optL f.asLit), e11, e12, x.1, x.2.1, x.2.2.1, x.2.2.2.1, x.2.2.2.2]) (fun _ => True) (fun x _ => ?_) (fun N' hN' => ?_)
  case refine_2 =>
    walk_at "b"
    rw [lit_none f]
    simp only [beq_self_eq_true, Bool.not_true, thenB_f]
    cases f with
    | any ls =>
      walk_at "wf"
      exact hN' (e13, e14, e15, e16, e17) trivial
    | row ts b =>
      simp only [Fc.asRow, optD] at hN' ⊢
      walk_at "wf"
      rw [Fc_sh, Fc_eq]
      refine ⟨⟨rfl, rfl⟩, ?_⟩
      walk_at "wf"
      exact hN' (e13, e14, e15, e16, e17) trivial
  obtain ⟨e13, e14, e15, e16, e17⟩ := x
  simp only
  refine seq_i (fun x : En × En × En × En × En => [.dat (.list (ns.map .int)), .dat (.list (pts.map pointLd)), .dat (.int k), .ob false o, .dat (.list (F.map Fc.d)), .ob false (.lst (F.map (heldD pts))), .dat (.int at'), .dat f.d, .dat (optD f.neg), .dat (optD f.asRow), .dat (optL f.asLit), e11, e12, x.1, x.2.1, x.2.2.1, x.2.2.2.1, x.2.2.2.2]) (fun _ => True) (fun x _ => ?_) (fun N' hN' => ?_)
  case refine_2 =>
    walk_at "w"
    refine thenB_of (fun h => ?_) (fun h => ?_)
    · have h4 := of_decide_eq_true h
      have hw : atI (F.map Fc.d) (at' + 4) = some (weak f).d := by
        rw [atI_some (by omega) (by rw [List.length_map]; omega), List.getElem?_map, hF, List.getElem?_append_right (by rw [fl]; omega), fl, show (at' + 4).toNat - 4 = at'.toNat by omega, List.getElem?_map]
        rw [hF, List.getElem?_append_left (by rw [fl]; omega)] at hget
        rw [hget]
        rfl
      have hwm : weak f ∈ F := by
        rw [hF, List.getElem?_append_left (by rw [fl]; omega)] at hget
        rw [hF]
        exact List.mem_append_right _ (List.mem_map.mpr ⟨f, List.mem_of_getElem? hget, rfl⟩)
      rw [hw]
      walk_at "w"
      refine .mk ff (Fok _ hwm) ?_
      walk_at "w"
      rw [impl_weak]
      simp only [decide_true, Bool.not_true, thenB_f]
      exact hN' (e13, e14, e15, e16, e17) trivial
    · exact hN' (e13, e14, e15, e16, e17) trivial
  obtain ⟨e13, e14, e15, e16, e17⟩ := x
  simp only
  walk_at "w"
  rw [List.length_map]
  refine ⟨inRg_of (by omega) (by omega), ?_⟩
  refine forD_inv (fun E => ∃ e11 e13 e14 e15 e16 e17, E = [.dat (.list (ns.map .int)), .dat (.list (pts.map pointLd)), .dat (.int k), .ob false o, .dat (.list (F.map Fc.d)), .ob false (.lst (F.map (heldD pts))), .dat (.int at'), .dat f.d, .dat (optD f.neg), .dat (optD f.asRow), .dat (optL f.asLit), e11, e12, e13, e14, e15, e16, e17]) ⟨_, _, _, _, _, _, rfl⟩ ?_ (fun E hE => ?_)
  case refine_2 =>
    obtain ⟨e11, e13, e14, e15, e16, e17, rfl⟩ := hE
    exact hN3 _ ⟨_, _, _, _, _, _, _, _, _, _, _, rfl⟩
  clear e11 e13 e14 e15 e16 e17
  rintro d hd E ⟨e11, e13, e14, e15, e16, e17, rfl⟩ N4 hN4
  obtain ⟨to', rfl, b0, b1⟩ := mem_rng hd
  have b2 : to' < F.length := by omega
  clear hd b1
  obtain ⟨g, hgm, hget2, hat2⟩ := atI_map (F := F) b0 b2
  have fg := Fok g hgm
  walk_at "w"
  rw [hat2, onD_s]
  refine .mk ff fg ?_
  walk_at "w"
  refine thenB_of (fun h => ?_) (fun h => hN4 _ ⟨_, _, _, _, _, _, rfl⟩)
  rw [List.length_map]
  refine ⟨inRg_of (by omega) (by omega), ?_⟩
  rw [rngD_I]
  refine compD_fm (f := .int) (h := .bool) (p := fun _ => some false) (sh := fun e16 : En => [.dat (.list (ns.map .int)), .dat (.list (pts.map pointLd)), .dat (.int k), .ob false o, .dat (.list (F.map Fc.d)), .ob false (.lst (F.map (heldD pts))), .dat (.int at'), .dat f.d, .dat (optD f.neg), .dat (optD f.asRow), .dat (optL f.asLit), .dat (.int to'), e12, e13, e14, e15, e16, e17]) e16 (by rw [rngI_len]; omega) (fun i hi e16 N5 hN5 => ?_) (fun e16 => ?_)
  · have hi2 := mem_rngI.mp hi
    obtain ⟨p, hp, _, hpi⟩ := atI_map (F := pts) (i := i) hi2.1 (by omega)
    walk_at "w"
    rw [hat, onD_s]
    unfold heldD
    walk_at "w"
    rw [List.map_map, hpi, onD_s]
    simp only [Function.comp]
    walk_at "w"
    cases hfp : f.h p with
    | false =>
      walk_at "w"
      exact hN5 _
    | true =>
      walk_at "w"
      rw [hat2, onD_s]
      walk_at "w"
      rw [List.map_map, hpi, onD_s]
      simp only [Function.comp]
      walk_at "w"
      rw [impl_sound ff fg h p hfp]
      exact hN5 _
  · walk_at "w"
    rw [fm_some, Emb.bool.layAll, Emb.bool.any true]
    refine ⟨rfl, ?_⟩
    rw [show decide (true ∈ List.map (fun _ => false) (rngI 0 (pts.length : Int).toNat)) = false from decide_eq_false (by simp)]
    walk_at "w"
    exact hN4 _ ⟨_, _, _, _, _, _, rfl⟩
end Cf
end SK01L
section Sdrv
set_option maxHeartbeats 4000000
namespace Cf
open PySem PySem.Spec PyProof.Rows L2 DL
abbrev topS (i : Nat) : Stmt := PySem.Challenge.pw_commonfront_k01_whole_facts_and_what_den.main.body.getD i (.Pass ⟨0, 0, 0, 0⟩)
abbrev s_relation_holds : Stmt := topS 1
abbrev N_relation_holds : List Str := ["relation", "left", "right"]
theorem sc_relation_holds : FnScope N_relation_holds ["relation", "left", "right"] (defScope s_relation_holds) := ⟨rfl, rfl, rfl, by decide +kernel, rfl, by decide +kernel, by decide +kernel⟩
abbrev s_literal_holds : Stmt := topS 2
abbrev N_literal_holds : List Str := ["literal", "worth"]
theorem sc_literal_holds : FnScope N_literal_holds ["literal", "worth"] (defScope s_literal_holds) := ⟨rfl, rfl, rfl, by decide +kernel, rfl, by decide +kernel, by decide +kernel⟩
abbrev s_negated : Stmt := topS 3
abbrev N_negated : List Str := ["literal", "v", "relation", "a"]
theorem sc_negated : FnScope N_negated ["literal"] (defScope s_negated) := ⟨rfl, rfl, rfl, by decide +kernel, rfl, by decide +kernel, by decide +kernel⟩
abbrev s_literal_implies : Stmt := topS 4
abbrev N_literal_implies : List Str := ["first", "second", "relation", "a", "wanted", "b"]
theorem sc_literal_implies : FnScope N_literal_implies ["first", "second"] (defScope s_literal_implies) := ⟨rfl, rfl, rfl, by decide +kernel, rfl, by decide +kernel, by decide +kernel⟩
abbrev s_terms_sum : Stmt := topS 5
abbrev N_terms_sum : List Str := ["terms", "point", "total", "v", "c"]
theorem sc_terms_sum : FnScope N_terms_sum ["terms", "point"] (defScope s_terms_sum) := ⟨rfl, rfl, rfl, by decide +kernel, rfl, by decide +kernel, by decide +kernel⟩
abbrev s_negated_terms : Stmt := topS 6
abbrev N_negated_terms : List Str := ["terms", "v", "c"]
theorem sc_negated_terms : FnScope N_negated_terms ["terms"] (defScope s_negated_terms) := ⟨rfl, rfl, rfl, by decide +kernel, rfl, by decide +kernel, by decide +kernel⟩
abbrev s_fact_holds : Stmt := topS 8
abbrev N_fact_holds : List Str := ["fact", "point", "literal"]
theorem sc_fact_holds : FnScope N_fact_holds ["fact", "point"] (defScope s_fact_holds) := ⟨rfl, rfl, rfl, by decide +kernel, rfl, by decide +kernel, by decide +kernel⟩
abbrev s_is_contradiction : Stmt := topS 9
abbrev N_is_contradiction : List Str := ["fact"]
theorem sc_is_contradiction : FnScope N_is_contradiction ["fact"] (defScope s_is_contradiction) := ⟨rfl, rfl, rfl, by decide +kernel, rfl, by decide +kernel, by decide +kernel⟩
abbrev s_as_row : Stmt := topS 10
abbrev N_as_row : List Str := ["fact", "v", "relation", "a"]
theorem sc_as_row : FnScope N_as_row ["fact"] (defScope s_as_row) := ⟨rfl, rfl, rfl, by decide +kernel, rfl, by decide +kernel, by decide +kernel⟩
abbrev s_as_literal : Stmt := topS 11
abbrev N_as_literal : List Str := ["fact", "v", "c"]
theorem sc_as_literal : FnScope N_as_literal ["fact"] (defScope s_as_literal) := ⟨rfl, rfl, rfl, by decide +kernel, rfl, by decide +kernel, by decide +kernel⟩
abbrev s_negation : Stmt := topS 12
abbrev N_negation : List Str := ["fact"]
theorem sc_negation : FnScope N_negation ["fact"] (defScope s_negation) := ⟨rfl, rfl, rfl, by decide +kernel, rfl, by decide +kernel, by decide +kernel⟩
abbrev s_literals_imply : Stmt := topS 13
abbrev N_literals_imply : List Str := ["first", "second", "literal", "other"]
theorem sc_literals_imply : FnScope N_literals_imply ["first", "second"] (defScope s_literals_imply) := ⟨rfl, rfl, rfl, by decide +kernel, rfl, by decide +kernel, by decide +kernel⟩
abbrev s_implies : Stmt := topS 14
abbrev N_implies : List Str := ["first", "second", "row", "literal"]
theorem sc_implies : FnScope N_implies ["first", "second"] (defScope s_implies) := ⟨rfl, rfl, rfl, by decide +kernel, rfl, by decide +kernel, by decide +kernel⟩
abbrev s_unknowns_in : Stmt := topS 15
abbrev N_unknowns_in : List Str := ["fact", "part"]
theorem sc_unknowns_in : FnScope N_unknowns_in ["fact"] (defScope s_unknowns_in) := ⟨rfl, rfl, rfl, by decide +kernel, rfl, by decide +kernel, by decide +kernel⟩
abbrev s_law_state : Stmt := topS 17
abbrev N_law_state : List Str := ["script", "k", "salt", "cell"]
theorem sc_law_state : FnScope N_law_state ["script", "k", "salt"] (defScope s_law_state) := ⟨rfl, rfl, rfl, by decide +kernel, rfl, by decide +kernel, by decide +kernel⟩
abbrev s_law_draw : Stmt := topS 18
abbrev N_law_draw : List Str := ["state", "many", "one", "two", "digit"]
theorem sc_law_draw : FnScope N_law_draw ["state", "many"] (defScope s_law_draw) := ⟨rfl, rfl, rfl, by decide +kernel, rfl, by decide +kernel, by decide +kernel⟩
abbrev s_law_points : Stmt := topS 19
abbrev N_law_points : List Str := ["ranges", "found", "low", "high", "longer", "point", "a"]
theorem sc_law_points : FnScope N_law_points ["ranges"] (defScope s_law_points) := ⟨rfl, rfl, rfl, by decide +kernel, rfl, by decide +kernel, by decide +kernel⟩
abbrev s_law_stands : Stmt := topS 20
abbrev N_law_stands : List Str := ["relation", "left", "right"]
theorem sc_law_stands : FnScope N_law_stands ["relation", "left", "right"] (defScope s_law_stands) := ⟨rfl, rfl, rfl, by decide +kernel, rfl, by decide +kernel, by decide +kernel⟩
abbrev s_law_sum : Stmt := topS 21
abbrev N_law_sum : List Str := ["terms", "point", "v", "c"]
theorem sc_law_sum : FnScope N_law_sum ["terms", "point"] (defScope s_law_sum) := ⟨rfl, rfl, rfl, by decide +kernel, rfl, by decide +kernel, by decide +kernel⟩
abbrev s_law_some_terms : Stmt := topS 22
abbrev N_law_some_terms : List Str := ["state", "many", "found", "v"]
theorem sc_law_some_terms : FnScope N_law_some_terms ["state", "many"] (defScope s_law_some_terms) := ⟨rfl, rfl, rfl, by decide +kernel, rfl, by decide +kernel, by decide +kernel⟩
abbrev s_law_literal : Stmt := topS 23
abbrev N_law_literal : List Str := ["state", "ranges", "v", "low", "high"]
theorem sc_law_literal : FnScope N_law_literal ["state", "ranges", "v"] (defScope s_law_literal) := ⟨rfl, rfl, rfl, by decide +kernel, rfl, by decide +kernel, by decide +kernel⟩
abbrev s_law_fact : Stmt := topS 24
abbrev N_law_fact : List Str := ["state", "turn"]
theorem sc_law_fact : FnScope N_law_fact ["state"] (defScope s_law_fact) := ⟨rfl, rfl, rfl, by decide +kernel, rfl, by decide +kernel, by decide +kernel⟩
abbrev s_law_fact_stands : Stmt := topS 25
abbrev N_law_fact_stands : List Str := ["fact", "point", "v", "relation", "a"]
theorem sc_law_fact_stands : FnScope N_law_fact_stands ["fact", "point"] (defScope s_law_fact_stands) := ⟨rfl, rfl, rfl, by decide +kernel, rfl, by decide +kernel, by decide +kernel⟩
abbrev s_law : Stmt := topS 26
abbrev N_law : List Str := ["script", "points", "k", "state", "facts", "held", "at", "fact", "other", "row", "literal", "to", "turn", "point", "v", "one", "place", "part"]
theorem sc_law : FnScope N_law ["script"] (defScope s_law) := ⟨rfl, rfl, rfl, by decide +kernel, rfl, by decide +kernel, by decide +kernel⟩
structure Ad where
  a_relation_holds : Addr
  d_relation_holds : FuncData
  a_literal_holds : Addr
  d_literal_holds : FuncData
  a_negated : Addr
  d_negated : FuncData
  a_literal_implies : Addr
  d_literal_implies : FuncData
  a_terms_sum : Addr
  d_terms_sum : FuncData
  a_negated_terms : Addr
  d_negated_terms : FuncData
  a_fact_holds : Addr
  d_fact_holds : FuncData
  a_is_contradiction : Addr
  d_is_contradiction : FuncData
  a_as_row : Addr
  d_as_row : FuncData
  a_as_literal : Addr
  d_as_literal : FuncData
  a_negation : Addr
  d_negation : FuncData
  a_literals_imply : Addr
  d_literals_imply : FuncData
  a_implies : Addr
  d_implies : FuncData
  a_unknowns_in : Addr
  d_unknowns_in : FuncData
  a_law_state : Addr
  d_law_state : FuncData
  a_law_draw : Addr
  d_law_draw : FuncData
  a_law_points : Addr
  d_law_points : FuncData
  a_law_stands : Addr
  d_law_stands : FuncData
  a_law_sum : Addr
  d_law_sum : FuncData
  a_law_some_terms : Addr
  d_law_some_terms : FuncData
  a_law_literal : Addr
  d_law_literal : FuncData
  a_law_fact : Addr
  d_law_fact : FuncData
  a_law_fact_stands : Addr
  d_law_fact_stands : FuncData
  a_law : Addr
  d_law : FuncData
structure FnAt (K : PySem.W.Frag) (mg : Str → Option Value) (x : Str) (st : Stmt) (ps : List Str) (a : Addr) (fd : FuncData) : Prop where
  F : Fun K x x st a fd
  m : mg x = some (.ref a)
  b : Binds K fd ps []
structure Txt (K : PySem.W.Frag) (mg : Str → Option Value) (Z : Ad) : Prop where
  b_all : mg "all" = none
  b_any : mg "any" = none
  b_int : mg "int" = none
  b_len : mg "len" = none
  b_min : mg "min" = none
  b_range : mg "range" = none
  b_set : mg "set" = none
  b_sorted : mg "sorted" = none
  b_sum : mg "sum" = none
  b_tuple : mg "tuple" = none
  f_relation_holds : FnAt K mg "relation_holds" s_relation_holds ["relation", "left", "right"] Z.a_relation_holds Z.d_relation_holds
  f_literal_holds : FnAt K mg "literal_holds" s_literal_holds ["literal", "worth"] Z.a_literal_holds Z.d_literal_holds
  f_negated : FnAt K mg "negated" s_negated ["literal"] Z.a_negated Z.d_negated
  f_literal_implies : FnAt K mg "literal_implies" s_literal_implies ["first", "second"] Z.a_literal_implies Z.d_literal_implies
  f_terms_sum : FnAt K mg "terms_sum" s_terms_sum ["terms", "point"] Z.a_terms_sum Z.d_terms_sum
  f_negated_terms : FnAt K mg "negated_terms" s_negated_terms ["terms"] Z.a_negated_terms Z.d_negated_terms
  f_fact_holds : FnAt K mg "fact_holds" s_fact_holds ["fact", "point"] Z.a_fact_holds Z.d_fact_holds
  f_is_contradiction : FnAt K mg "is_contradiction" s_is_contradiction ["fact"] Z.a_is_contradiction Z.d_is_contradiction
  f_as_row : FnAt K mg "as_row" s_as_row ["fact"] Z.a_as_row Z.d_as_row
  f_as_literal : FnAt K mg "as_literal" s_as_literal ["fact"] Z.a_as_literal Z.d_as_literal
  f_negation : FnAt K mg "negation" s_negation ["fact"] Z.a_negation Z.d_negation
  f_literals_imply : FnAt K mg "literals_imply" s_literals_imply ["first", "second"] Z.a_literals_imply Z.d_literals_imply
  f_implies : FnAt K mg "implies" s_implies ["first", "second"] Z.a_implies Z.d_implies
  f_unknowns_in : FnAt K mg "unknowns_in" s_unknowns_in ["fact"] Z.a_unknowns_in Z.d_unknowns_in
  f_law_state : FnAt K mg "_law_state" s_law_state ["script", "k", "salt"] Z.a_law_state Z.d_law_state
  f_law_draw : FnAt K mg "_law_draw" s_law_draw ["state", "many"] Z.a_law_draw Z.d_law_draw
  f_law_points : FnAt K mg "_law_points" s_law_points ["ranges"] Z.a_law_points Z.d_law_points
  f_law_stands : FnAt K mg "_law_stands" s_law_stands ["relation", "left", "right"] Z.a_law_stands Z.d_law_stands
  f_law_sum : FnAt K mg "_law_sum" s_law_sum ["terms", "point"] Z.a_law_sum Z.d_law_sum
  f_law_some_terms : FnAt K mg "_law_some_terms" s_law_some_terms ["state", "many"] Z.a_law_some_terms Z.d_law_some_terms
  f_law_literal : FnAt K mg "_law_literal" s_law_literal ["state", "ranges", "v"] Z.a_law_literal Z.d_law_literal
  f_law_fact : FnAt K mg "_law_fact" s_law_fact ["state"] Z.a_law_fact Z.d_law_fact
  f_law_fact_stands : FnAt K mg "_law_fact_stands" s_law_fact_stands ["fact", "point"] Z.a_law_fact_stands Z.d_law_fact_stands
  f_law : FnAt K mg "law" s_law ["script"] Z.a_law Z.d_law
section
variable {P : Program} {w : World} {K : PySem.W.Frag} {mg : Str → Option Value} {base : Heap} {Z : Ad}
set_option maxHeartbeats 0 in
theorem d_relation_holds (T : Txt K mg Z)  (cdv : Value) (A : Around) (outer : List Env) (s : Shared) (H : Hp) (E : XK) (hr : Room 0 (A.deeper (envOfC "relation_holds" (defScope s_relation_holds) s.heap.objs.size Z.a_relation_holds cdv))) :
    PBd (cxOf CX0 P w K mg base N_relation_holds "relation_holds" (defScope s_relation_holds) Z.a_relation_holds cdv A outer s H E).nox (defBody s_relation_holds) t_relation_holds :=
  have hu4 := hr.units
  have hu5 := room65 hr
  (bd_cons (sd_if (td_eq hu4 (pd_var 0) pd_str) (bd_one (sd_ret (pd_le (pd_var 1) (pd_var 2)))) bd_nil)
    (bd_cons (sd_if (td_eq hu4 (pd_var 0) pd_str) (bd_one (sd_ret (pd_ge (pd_var 1) (pd_var 2)))) bd_nil)
    (bd_cons (sd_if (td_eq hu4 (pd_var 0) pd_str) (bd_one (sd_ret (pd_eq hu4 (pd_var 1) (pd_var 2)))) bd_nil)
    (bd_one (sd_ret (pd_ne hu4 (pd_var 1) (pd_var 2)))))))
theorem ok_relation_holds (T : Txt K mg Z)  : FnOk P w K mg base CX0 1 Z.a_relation_holds Z.d_relation_holds ["relation", "left", "right"] (spP K sp_relation_holds) :=
  fnP T.f_relation_holds.F sc_relation_holds hl_relation_holds (d_relation_holds T ) sm_relation_holds
set_option maxHeartbeats 0 in
theorem d_literal_holds (T : Txt K mg Z) (G_relation_holds : FnOk P w K mg base CX0 1 Z.a_relation_holds Z.d_relation_holds ["relation", "left", "right"] (spP K sp_relation_holds)) (cdv : Value) (A : Around) (outer : List Env) (s : Shared) (H : Hp) (E : XK) (hr : Room 1 (A.deeper (envOfC "literal_holds" (defScope s_literal_holds) s.heap.objs.size Z.a_literal_holds cdv))) :
    PBd (cxOf CX0 P w K mg base N_literal_holds "literal_holds" (defScope s_literal_holds) Z.a_literal_holds cdv A outer s H E).nox (defBody s_literal_holds) t_literal_holds :=
  have hu4 := hr.units
  have hu5 := room65 hr
  (bd_one (sd_ret (pd_callP G_relation_holds (hr.mono (by decide)) (by rfl) T.f_relation_holds.m T.f_relation_holds.F.kp T.f_relation_holds.b (ad_cons (pd_ix (pd_var 0) pd_int) (ad_cons (pd_var 1) (ad_cons (pd_ix (pd_var 0) pd_int) ad_nil))))))
theorem ok_literal_holds (T : Txt K mg Z) (G_relation_holds : FnOk P w K mg base CX0 1 Z.a_relation_holds Z.d_relation_holds ["relation", "left", "right"] (spP K sp_relation_holds)) : FnOk P w K mg base CX0 2 Z.a_literal_holds Z.d_literal_holds ["literal", "worth"] (spP K sp_literal_holds) :=
  fnP T.f_literal_holds.F sc_literal_holds hl_literal_holds (d_literal_holds T G_relation_holds) sm_literal_holds
set_option maxHeartbeats 0 in
theorem d_negated (T : Txt K mg Z)  (cdv : Value) (A : Around) (outer : List Env) (s : Shared) (H : Hp) (E : XK) (hr : Room 0 (A.deeper (envOfC "negated" (defScope s_negated) s.heap.objs.size Z.a_negated cdv))) :
    PBd (cxOf CX0 P w K mg base N_negated "negated" (defScope s_negated) Z.a_negated cdv A outer s H E).nox (defBody s_negated) t_negated :=
  have hu4 := hr.units
  have hu5 := room65 hr
  (bd_cons (sd_asgG (pd_var 0) (gd_tup rfl (gsd_cons (gd_name 1 sc_negated.nd) (gsd_cons (gd_name 2 sc_negated.nd) (gsd_cons (gd_name 3 sc_negated.nd) gsd_nil)))))
    (bd_cons (sd_if (td_eq hu4 (pd_var 2) pd_str) (bd_one (sd_ret (pd_tup (ad_cons (pd_var 1) (ad_cons pd_str (ad_cons (pd_add (pd_var 3) pd_int) ad_nil)))))) bd_nil)
    (bd_cons (sd_if (td_eq hu4 (pd_var 2) pd_str) (bd_one (sd_ret (pd_tup (ad_cons (pd_var 1) (ad_cons pd_str (ad_cons (pd_sub (pd_var 3) pd_int) ad_nil)))))) bd_nil)
    (bd_cons (sd_if (td_eq hu4 (pd_var 2) pd_str) (bd_one (sd_ret (pd_tup (ad_cons (pd_var 1) (ad_cons pd_str (ad_cons (pd_var 3) ad_nil)))))) bd_nil)
    (bd_one (sd_ret (pd_tup (ad_cons (pd_var 1) (ad_cons pd_str (ad_cons (pd_var 3) ad_nil))))))))))
theorem ok_negated (T : Txt K mg Z)  : FnOk P w K mg base CX0 1 Z.a_negated Z.d_negated ["literal"] (spP K sp_negated) :=
  fnP T.f_negated.F sc_negated hl_negated (d_negated T ) sm_negated
set_option maxHeartbeats 0 in
theorem d_literal_implies (T : Txt K mg Z) (G_relation_holds : FnOk P w K mg base CX0 1 Z.a_relation_holds Z.d_relation_holds ["relation", "left", "right"] (spP K sp_relation_holds)) (cdv : Value) (A : Around) (outer : List Env) (s : Shared) (H : Hp) (E : XK) (hr : Room 1 (A.deeper (envOfC "literal_implies" (defScope s_literal_implies) s.heap.objs.size Z.a_literal_implies cdv))) :
    PBd (cxOf CX0 P w K mg base N_literal_implies "literal_implies" (defScope s_literal_implies) Z.a_literal_implies cdv A outer s H E).nox (defBody s_literal_implies) t_literal_implies :=
  have hu4 := hr.units
  have hu5 := room65 hr
  (bd_cons (sd_if (td_ne hu4 (pd_ix (pd_var 0) pd_int) (pd_ix (pd_var 1) pd_int)) (bd_one (sd_ret pd_bl)) bd_nil)
    (bd_cons (sd_asg 2 sc_literal_implies.nd (pd_ix (pd_var 0) pd_int))
    (bd_cons (sd_asg 3 sc_literal_implies.nd (pd_ix (pd_var 0) pd_int))
    (bd_cons (sd_asg 4 sc_literal_implies.nd (pd_ix (pd_var 1) pd_int))
    (bd_cons (sd_asg 5 sc_literal_implies.nd (pd_ix (pd_var 1) pd_int))
    (bd_cons (sd_if (td_eq hu4 (pd_var 2) pd_str) (bd_one (sd_ret (pd_callP G_relation_holds (hr.mono (by decide)) (by rfl) T.f_relation_holds.m T.f_relation_holds.F.kp T.f_relation_holds.b (ad_cons (pd_var 4) (ad_cons (pd_var 3) (ad_cons (pd_var 5) ad_nil)))))) bd_nil)
    (bd_cons (sd_if (td_eq hu4 (pd_var 2) pd_str) (bd_one (sd_ret (pd_and (pd_eq hu4 (pd_var 4) pd_str) (pd_one (pd_eq hu4 (pd_var 3) (pd_var 5)))))) bd_nil)
    (bd_cons (sd_if (td_eq hu4 (pd_var 4) (pd_var 2)) (bd_one (sd_ret (pd_callP G_relation_holds (hr.mono (by decide)) (by rfl) T.f_relation_holds.m T.f_relation_holds.F.kp T.f_relation_holds.b (ad_cons (pd_var 2) (ad_cons (pd_var 3) (ad_cons (pd_var 5) ad_nil)))))) bd_nil)
    (bd_cons (sd_if (td_eq hu4 (pd_var 4) pd_str) (bd_one (sd_ret (pd_not (pd_callP G_relation_holds (hr.mono (by decide)) (by rfl) T.f_relation_holds.m T.f_relation_holds.F.kp T.f_relation_holds.b (ad_cons (pd_var 2) (ad_cons (pd_var 5) (ad_cons (pd_var 3) ad_nil))))))) bd_nil)
    (bd_one (sd_ret pd_bl)))))))))))
theorem ok_literal_implies (T : Txt K mg Z) (G_relation_holds : FnOk P w K mg base CX0 1 Z.a_relation_holds Z.d_relation_holds ["relation", "left", "right"] (spP K sp_relation_holds)) : FnOk P w K mg base CX0 2 Z.a_literal_implies Z.d_literal_implies ["first", "second"] (spP K sp_literal_implies) :=
  fnP T.f_literal_implies.F sc_literal_implies hl_literal_implies (d_literal_implies T G_relation_holds) sm_literal_implies
set_option maxHeartbeats 0 in
theorem d_terms_sum (T : Txt K mg Z)  (cdv : Value) (A : Around) (outer : List Env) (s : Shared) (H : Hp) (E : XK) (hr : Room 0 (A.deeper (envOfC "terms_sum" (defScope s_terms_sum) s.heap.objs.size Z.a_terms_sum cdv))) :
    PBd (cxOf CX0 P w K mg base N_terms_sum "terms_sum" (defScope s_terms_sum) Z.a_terms_sum cdv A outer s H E).nox (defBody s_terms_sum) t_terms_sum :=
  have hu4 := hr.units
  have hu5 := room65 hr
  (bd_cons (sd_asg 2 sc_terms_sum.nd pd_int)
    (bd_cons (sd_for PassesOwn.never rfl (id_seq (pd_var 0)) (gd_tup rfl (gsd_cons (gd_name 3 sc_terms_sum.nd) (gsd_cons (gd_name 4 sc_terms_sum.nd) gsd_nil))) (bd_one (sd_addA 2 sc_terms_sum.nd (pd_mul (pd_var 4) (pd_ix (pd_var 1) (pd_var 3))))))
    (bd_one (sd_ret (pd_var 2)))))
theorem ok_terms_sum (T : Txt K mg Z)  : FnOk P w K mg base CX0 1 Z.a_terms_sum Z.d_terms_sum ["terms", "point"] (spP K sp_terms_sum) :=
  fnP T.f_terms_sum.F sc_terms_sum hl_terms_sum (d_terms_sum T ) sm_terms_sum
set_option maxHeartbeats 0 in
theorem d_negated_terms (T : Txt K mg Z)  (cdv : Value) (A : Around) (outer : List Env) (s : Shared) (H : Hp) (E : XK) (hr : Room 0 (A.deeper (envOfC "negated_terms" (defScope s_negated_terms) s.heap.objs.size Z.a_negated_terms cdv))) :
    PBd (cxOf CX0 P w K mg base N_negated_terms "negated_terms" (defScope s_negated_terms) Z.a_negated_terms cdv A outer s H E).nox (defBody s_negated_terms) t_negated_terms :=
  have hu4 := hr.units
  have hu5 := room65 hr
  (bd_one (sd_ret (pd_callTy call_tuple_of ca_tup (by rfl) T.b_tuple DL.B.tuple (ad_cons (pd_of (od_comp (own := [("v", 1), ("c", 2)]) rfl sc_negated_terms.nd (id_seq (pd_var 0)) (blkOk_by (by kernel_rfl)) (fun _ _ _ _ _ => (gd_tup rfl (gsd_cons (gd_name 1 sc_negated_terms.nd) (gsd_cons (gd_name 2 sc_negated_terms.nd) gsd_nil)))) (fun _ _ _ _ _ => tsd_nil) (fun _ _ _ _ _ => (pd_tup (ad_cons (pd_var 1) (ad_cons (pd_neg (pd_var 2)) ad_nil)))))) ad_nil))))
theorem ok_negated_terms (T : Txt K mg Z)  : FnOk P w K mg base CX0 1 Z.a_negated_terms Z.d_negated_terms ["terms"] (spP K sp_negated_terms) :=
  fnP T.f_negated_terms.F sc_negated_terms hl_negated_terms (d_negated_terms T ) sm_negated_terms
set_option maxHeartbeats 0 in
theorem d_fact_holds (T : Txt K mg Z) (G_literal_holds : FnOk P w K mg base CX0 2 Z.a_literal_holds Z.d_literal_holds ["literal", "worth"] (spP K sp_literal_holds)) (G_terms_sum : FnOk P w K mg base CX0 1 Z.a_terms_sum Z.d_terms_sum ["terms", "point"] (spP K sp_terms_sum)) (cdv : Value) (A : Around) (outer : List Env) (s : Shared) (H : Hp) (E : XK) (hr : Room 2 (A.deeper (envOfC "fact_holds" (defScope s_fact_holds) s.heap.objs.size Z.a_fact_holds cdv))) :
    PBd (cxOf CX0 P w K mg base N_fact_holds "fact_holds" (defScope s_fact_holds) Z.a_fact_holds cdv A outer s H E).nox (defBody s_fact_holds) t_fact_holds :=
  have hu4 := hr.units
  have hu5 := room65 hr
  (bd_cons (sd_if (td_eq hu4 (pd_ix (pd_var 0) pd_int) pd_str) (bd_one (sd_ret (pd_le (pd_callP G_terms_sum (hr.mono (by decide)) (by rfl) T.f_terms_sum.m T.f_terms_sum.F.kp T.f_terms_sum.b (ad_cons (pd_ix (pd_var 0) pd_int) (ad_cons (pd_var 1) ad_nil))) (pd_ix (pd_var 0) pd_int)))) bd_nil)
    (bd_one (sd_ret (pd_callB (cr_any rfl) ca_any (by rfl) T.b_any DL.B.any (ad_cons (pd_of (od_comp (own := [("literal", 2)]) rfl sc_fact_holds.nd (id_seq (pd_ix (pd_var 0) pd_int)) (blkOk_by (by kernel_rfl)) (fun _ _ _ _ _ => (gd_name 2 sc_fact_holds.nd)) (fun _ _ _ _ _ => tsd_nil) (fun _ _ _ _ _ => (pd_callP G_literal_holds (hr.mono (by decide)) (by rfl) T.f_literal_holds.m T.f_literal_holds.F.kp T.f_literal_holds.b (ad_cons (pd_var 2) (ad_cons (pd_ix (pd_var 1) (pd_ix (pd_var 2) pd_int)) ad_nil)))))) ad_nil)))))
theorem ok_fact_holds (T : Txt K mg Z) (G_literal_holds : FnOk P w K mg base CX0 2 Z.a_literal_holds Z.d_literal_holds ["literal", "worth"] (spP K sp_literal_holds)) (G_terms_sum : FnOk P w K mg base CX0 1 Z.a_terms_sum Z.d_terms_sum ["terms", "point"] (spP K sp_terms_sum)) : FnOk P w K mg base CX0 3 Z.a_fact_holds Z.d_fact_holds ["fact", "point"] (spP K sp_fact_holds) :=
  fnP T.f_fact_holds.F sc_fact_holds hl_fact_holds (d_fact_holds T G_literal_holds G_terms_sum) sm_fact_holds
set_option maxHeartbeats 0 in
theorem d_is_contradiction (T : Txt K mg Z)  (cdv : Value) (A : Around) (outer : List Env) (s : Shared) (H : Hp) (E : XK) (hr : Room 0 (A.deeper (envOfC "is_contradiction" (defScope s_is_contradiction) s.heap.objs.size Z.a_is_contradiction cdv))) :
    PBd (cxOf CX0 P w K mg base N_is_contradiction "is_contradiction" (defScope s_is_contradiction) Z.a_is_contradiction cdv A outer s H E).nox (defBody s_is_contradiction) t_is_contradiction :=
  have hu4 := hr.units
  have hu5 := room65 hr
  (bd_cons (sd_if (td_eq hu4 (pd_ix (pd_var 0) pd_int) pd_str) (bd_one (sd_ret (pd_and (pd_eq hu4 (pd_callB cr_lenA ca_len (by rfl) T.b_len DL.B.len (ad_cons (pd_ix (pd_var 0) pd_int) ad_nil)) pd_int) (pd_one (pd_lt (pd_ix (pd_var 0) pd_int) pd_int))))) bd_nil)
    (bd_one (sd_ret (pd_eq hu4 (pd_callB cr_lenA ca_len (by rfl) T.b_len DL.B.len (ad_cons (pd_ix (pd_var 0) pd_int) ad_nil)) pd_int))))
theorem ok_is_contradiction (T : Txt K mg Z)  : FnOk P w K mg base CX0 1 Z.a_is_contradiction Z.d_is_contradiction ["fact"] (spP K sp_is_contradiction) :=
  fnP T.f_is_contradiction.F sc_is_contradiction hl_is_contradiction (d_is_contradiction T ) sm_is_contradiction
set_option maxHeartbeats 0 in
theorem d_as_row (T : Txt K mg Z)  (cdv : Value) (A : Around) (outer : List Env) (s : Shared) (H : Hp) (E : XK) (hr : Room 0 (A.deeper (envOfC "as_row" (defScope s_as_row) s.heap.objs.size Z.a_as_row cdv))) :
    PBd (cxOf CX0 P w K mg base N_as_row "as_row" (defScope s_as_row) Z.a_as_row cdv A outer s H E).nox (defBody s_as_row) t_as_row :=
  have hu4 := hr.units
  have hu5 := room65 hr
  (bd_cons (sd_if (td_eq hu4 (pd_ix (pd_var 0) pd_int) pd_str) (bd_one (sd_ret (pd_var 0))) bd_nil)
    (bd_cons (sd_if (td_ne hu4 (pd_callB cr_lenA ca_len (by rfl) T.b_len DL.B.len (ad_cons (pd_ix (pd_var 0) pd_int) ad_nil)) pd_int) (bd_one (sd_ret pd_non)) bd_nil)
    (bd_cons (sd_asgG (pd_ix (pd_ix (pd_var 0) pd_int) pd_int) (gd_tup rfl (gsd_cons (gd_name 1 sc_as_row.nd) (gsd_cons (gd_name 2 sc_as_row.nd) (gsd_cons (gd_name 3 sc_as_row.nd) gsd_nil)))))
    (bd_cons (sd_if (td_eq hu4 (pd_var 2) pd_str) (bd_one (sd_ret (pd_tup (ad_cons pd_str (ad_cons (pd_tup (ad_cons (pd_tup (ad_cons (pd_var 1) (ad_cons pd_int ad_nil))) ad_nil)) (ad_cons (pd_var 3) ad_nil)))))) bd_nil)
    (bd_cons (sd_if (td_eq hu4 (pd_var 2) pd_str) (bd_one (sd_ret (pd_tup (ad_cons pd_str (ad_cons (pd_tup (ad_cons (pd_tup (ad_cons (pd_var 1) (ad_cons (pd_neg pd_int) ad_nil))) ad_nil)) (ad_cons (pd_neg (pd_var 3)) ad_nil)))))) bd_nil)
    (bd_one (sd_ret pd_non)))))))
theorem ok_as_row (T : Txt K mg Z)  : FnOk P w K mg base CX0 1 Z.a_as_row Z.d_as_row ["fact"] (spP K sp_as_row) :=
  fnP T.f_as_row.F sc_as_row hl_as_row (d_as_row T ) sm_as_row
set_option maxHeartbeats 0 in
theorem d_as_literal (T : Txt K mg Z)  (cdv : Value) (A : Around) (outer : List Env) (s : Shared) (H : Hp) (E : XK) (hr : Room 0 (A.deeper (envOfC "as_literal" (defScope s_as_literal) s.heap.objs.size Z.a_as_literal cdv))) :
    PBd (cxOf CX0 P w K mg base N_as_literal "as_literal" (defScope s_as_literal) Z.a_as_literal cdv A outer s H E).nox (defBody s_as_literal) t_as_literal :=
  have hu4 := hr.units
  have hu5 := room65 hr
  (bd_cons (sd_if (td_ne hu4 (pd_callB cr_lenA ca_len (by rfl) T.b_len DL.B.len (ad_cons (pd_ix (pd_var 0) pd_int) ad_nil)) pd_int) (bd_one (sd_ret pd_non)) bd_nil)
    (bd_cons (sd_if (td_eq hu4 (pd_ix (pd_var 0) pd_int) pd_str) (bd_one (sd_ret (pd_ix (pd_ix (pd_var 0) pd_int) pd_int))) bd_nil)
    (bd_cons (sd_asgG (pd_ix (pd_ix (pd_var 0) pd_int) pd_int) (gd_tup rfl (gsd_cons (gd_name 1 sc_as_literal.nd) (gsd_cons (gd_name 2 sc_as_literal.nd) gsd_nil))))
    (bd_cons (sd_if (td_gt (pd_var 2) pd_int) (bd_one (sd_ret (pd_tup (ad_cons (pd_var 1) (ad_cons pd_str (ad_cons (pd_fdiv (pd_ix (pd_var 0) pd_int) (pd_var 2)) ad_nil)))))) bd_nil)
    (bd_one (sd_ret (pd_tup (ad_cons (pd_var 1) (ad_cons pd_str (ad_cons (pd_neg (pd_fdiv (pd_ix (pd_var 0) pd_int) (pd_neg (pd_var 2)))) ad_nil))))))))))
theorem ok_as_literal (T : Txt K mg Z)  : FnOk P w K mg base CX0 1 Z.a_as_literal Z.d_as_literal ["fact"] (spP K sp_as_literal) :=
  fnP T.f_as_literal.F sc_as_literal hl_as_literal (d_as_literal T ) sm_as_literal
set_option maxHeartbeats 0 in
theorem d_negation (T : Txt K mg Z) (G_negated : FnOk P w K mg base CX0 1 Z.a_negated Z.d_negated ["literal"] (spP K sp_negated)) (G_negated_terms : FnOk P w K mg base CX0 1 Z.a_negated_terms Z.d_negated_terms ["terms"] (spP K sp_negated_terms)) (cdv : Value) (A : Around) (outer : List Env) (s : Shared) (H : Hp) (E : XK) (hr : Room 1 (A.deeper (envOfC "negation" (defScope s_negation) s.heap.objs.size Z.a_negation cdv))) :
    PBd (cxOf CX0 P w K mg base N_negation "negation" (defScope s_negation) Z.a_negation cdv A outer s H E).nox (defBody s_negation) t_negation :=
  have hu4 := hr.units
  have hu5 := room65 hr
  (bd_cons (sd_if (td_eq hu4 (pd_ix (pd_var 0) pd_int) pd_str) (bd_one (sd_ret (pd_tup (ad_cons pd_str (ad_cons (pd_callP G_negated_terms (hr.mono (by decide)) (by rfl) T.f_negated_terms.m T.f_negated_terms.F.kp T.f_negated_terms.b (ad_cons (pd_ix (pd_var 0) pd_int) ad_nil)) (ad_cons (pd_sub (pd_neg (pd_ix (pd_var 0) pd_int)) pd_int) ad_nil)))))) bd_nil)
    (bd_cons (sd_if (td_ne hu4 (pd_callB cr_lenA ca_len (by rfl) T.b_len DL.B.len (ad_cons (pd_ix (pd_var 0) pd_int) ad_nil)) pd_int) (bd_one (sd_ret pd_non)) bd_nil)
    (bd_one (sd_ret (pd_tup (ad_cons pd_str (ad_cons (pd_tup (ad_cons (pd_callP G_negated (hr.mono (by decide)) (by rfl) T.f_negated.m T.f_negated.F.kp T.f_negated.b (ad_cons (pd_ix (pd_ix (pd_var 0) pd_int) pd_int) ad_nil)) ad_nil)) ad_nil)))))))
theorem ok_negation (T : Txt K mg Z) (G_negated : FnOk P w K mg base CX0 1 Z.a_negated Z.d_negated ["literal"] (spP K sp_negated)) (G_negated_terms : FnOk P w K mg base CX0 1 Z.a_negated_terms Z.d_negated_terms ["terms"] (spP K sp_negated_terms)) : FnOk P w K mg base CX0 2 Z.a_negation Z.d_negation ["fact"] (spP K sp_negation) :=
  fnP T.f_negation.F sc_negation hl_negation (d_negation T G_negated G_negated_terms) sm_negation
set_option maxHeartbeats 0 in
theorem d_literals_imply (T : Txt K mg Z) (G_literal_implies : FnOk P w K mg base CX0 2 Z.a_literal_implies Z.d_literal_implies ["first", "second"] (spP K sp_literal_implies)) (G_as_literal : FnOk P w K mg base CX0 1 Z.a_as_literal Z.d_as_literal ["fact"] (spP K sp_as_literal)) (cdv : Value) (A : Around) (outer : List Env) (s : Shared) (H : Hp) (E : XK) (hr : Room 2 (A.deeper (envOfC "literals_imply" (defScope s_literals_imply) s.heap.objs.size Z.a_literals_imply cdv))) :
    PBd (cxOf CX0 P w K mg base N_literals_imply "literals_imply" (defScope s_literals_imply) Z.a_literals_imply cdv A outer s H E).nox (defBody s_literals_imply) t_literals_imply :=
  have hu4 := hr.units
  have hu5 := room65 hr
  (bd_cons (sd_asg 2 sc_literals_imply.nd (pd_callP G_as_literal (hr.mono (by decide)) (by rfl) T.f_as_literal.m T.f_as_literal.F.kp T.f_as_literal.b (ad_cons (pd_var 0) ad_nil)))
    (bd_cons (sd_if (td_is (pd_var 2) pd_non) (bd_one (sd_ret pd_bl)) bd_nil)
    (bd_cons (sd_if (td_eq hu4 (pd_ix (pd_var 1) pd_int) pd_str) (bd_one (sd_ret (pd_callB (cr_any rfl) ca_any (by rfl) T.b_any DL.B.any (ad_cons (pd_of (od_comp (own := [("other", 3)]) rfl sc_literals_imply.nd (id_seq (pd_ix (pd_var 1) pd_int)) (blkOk_by (by kernel_rfl)) (fun _ _ _ _ _ => (gd_name 3 sc_literals_imply.nd)) (fun _ _ _ _ _ => tsd_nil) (fun _ _ _ _ _ => (pd_callP G_literal_implies (hr.mono (by decide)) (by rfl) T.f_literal_implies.m T.f_literal_implies.F.kp T.f_literal_implies.b (ad_cons (pd_var 2) (ad_cons (pd_var 3) ad_nil)))))) ad_nil)))) bd_nil)
    (bd_cons (sd_asg 3 sc_literals_imply.nd (pd_callP G_as_literal (hr.mono (by decide)) (by rfl) T.f_as_literal.m T.f_as_literal.F.kp T.f_as_literal.b (ad_cons (pd_var 1) ad_nil)))
    (bd_one (sd_ret (pd_and (pd_isnot (pd_var 3) pd_non) (pd_one (pd_callP G_literal_implies (hr.mono (by decide)) (by rfl) T.f_literal_implies.m T.f_literal_implies.F.kp T.f_literal_implies.b (ad_cons (pd_var 2) (ad_cons (pd_var 3) ad_nil)))))))))))
theorem ok_literals_imply (T : Txt K mg Z) (G_literal_implies : FnOk P w K mg base CX0 2 Z.a_literal_implies Z.d_literal_implies ["first", "second"] (spP K sp_literal_implies)) (G_as_literal : FnOk P w K mg base CX0 1 Z.a_as_literal Z.d_as_literal ["fact"] (spP K sp_as_literal)) : FnOk P w K mg base CX0 3 Z.a_literals_imply Z.d_literals_imply ["first", "second"] (spP K sp_literals_imply) :=
  fnP T.f_literals_imply.F sc_literals_imply hl_literals_imply (d_literals_imply T G_literal_implies G_as_literal) sm_literals_imply
set_option maxHeartbeats 0 in
theorem d_implies (T : Txt K mg Z) (G_is_contradiction : FnOk P w K mg base CX0 1 Z.a_is_contradiction Z.d_is_contradiction ["fact"] (spP K sp_is_contradiction)) (G_as_row : FnOk P w K mg base CX0 1 Z.a_as_row Z.d_as_row ["fact"] (spP K sp_as_row)) (G_literals_imply : FnOk P w K mg base CX0 3 Z.a_literals_imply Z.d_literals_imply ["first", "second"] (spP K sp_literals_imply)) (cdv : Value) (A : Around) (outer : List Env) (s : Shared) (H : Hp) (E : XK) (hr : Room 3 (A.deeper (envOfC "implies" (defScope s_implies) s.heap.objs.size Z.a_implies cdv))) :
    PBd (cxOf CX0 P w K mg base N_implies "implies" (defScope s_implies) Z.a_implies cdv A outer s H E).nox (defBody s_implies) t_implies :=
  have hu4 := hr.units
  have hu5 := room65 hr
  (bd_cons (sd_if (td_val (pd_callP G_is_contradiction (hr.mono (by decide)) (by rfl) T.f_is_contradiction.m T.f_is_contradiction.F.kp T.f_is_contradiction.b (ad_cons (pd_var 0) ad_nil))) (bd_one (sd_ret pd_bl)) bd_nil)
    (bd_cons (sd_if (td_eq hu4 (pd_ix (pd_var 1) pd_int) pd_str) (bd_cons (sd_asg 2 sc_implies.nd (pd_callP G_as_row (hr.mono (by decide)) (by rfl) T.f_as_row.m T.f_as_row.F.kp T.f_as_row.b (ad_cons (pd_var 0) ad_nil)))
    (bd_one (sd_if (td_w (wd_and (td_isnot (pd_var 2) pd_non) (wd_and (td_eq hu4 (pd_ix (pd_var 2) pd_int) (pd_ix (pd_var 1) pd_int)) (wd_and1 (td_le (pd_ix (pd_var 2) pd_int) (pd_ix (pd_var 1) pd_int)))))) (bd_one (sd_ret pd_bl)) bd_nil))) (bd_one (sd_if (td_w (wd_and (td_eq hu4 (pd_ix (pd_var 0) pd_int) pd_str) (wd_and1 (td_val (pd_callB (cr_all rfl) ca_all (by rfl) T.b_all DL.B.all (ad_cons (pd_of (od_comp (own := [("literal", 3)]) rfl sc_implies.nd (id_seq (pd_ix (pd_var 0) pd_int)) (blkOk_by (by kernel_rfl)) (fun _ _ _ _ _ => (gd_name 3 sc_implies.nd)) (fun _ _ _ _ _ => tsd_nil) (fun _ _ _ _ _ => (pd_in hu5 (pd_var 3) (pd_ix (pd_var 1) pd_int))))) ad_nil)))))) (bd_one (sd_ret pd_bl)) bd_nil)))
    (bd_one (sd_ret (pd_callP G_literals_imply (hr.mono (by decide)) (by rfl) T.f_literals_imply.m T.f_literals_imply.F.kp T.f_literals_imply.b (ad_cons (pd_var 0) (ad_cons (pd_var 1) ad_nil)))))))
theorem ok_implies (T : Txt K mg Z) (G_is_contradiction : FnOk P w K mg base CX0 1 Z.a_is_contradiction Z.d_is_contradiction ["fact"] (spP K sp_is_contradiction)) (G_as_row : FnOk P w K mg base CX0 1 Z.a_as_row Z.d_as_row ["fact"] (spP K sp_as_row)) (G_literals_imply : FnOk P w K mg base CX0 3 Z.a_literals_imply Z.d_literals_imply ["first", "second"] (spP K sp_literals_imply)) : FnOk P w K mg base CX0 4 Z.a_implies Z.d_implies ["first", "second"] (spP K sp_implies) :=
  fnP T.f_implies.F sc_implies hl_implies (d_implies T G_is_contradiction G_as_row G_literals_imply) sm_implies
set_option maxHeartbeats 0 in
theorem d_unknowns_in (T : Txt K mg Z)  (cdv : Value) (A : Around) (outer : List Env) (s : Shared) (H : Hp) (E : XK) (hr : Room 0 (A.deeper (envOfC "unknowns_in" (defScope s_unknowns_in) s.heap.objs.size Z.a_unknowns_in cdv))) :
    PBd (cxOf CX0 P w K mg base N_unknowns_in "unknowns_in" (defScope s_unknowns_in) Z.a_unknowns_in cdv A outer s H E).nox (defBody s_unknowns_in) t_unknowns_in :=
  have hu4 := hr.units
  have hu5 := room65 hr
  (bd_one (sd_ret (pd_of (od_sortedSet (by rfl) (by rfl) T.b_sorted (by rfl) T.b_set (ad_cons (pd_of (od_comp (own := [("part", 1)]) rfl sc_unknowns_in.nd (id_seq (pd_ix (pd_var 0) pd_int)) (blkOk_by (by kernel_rfl)) (fun _ _ _ _ _ => (gd_name 1 sc_unknowns_in.nd)) (fun _ _ _ _ _ => tsd_nil) (fun _ _ _ _ _ => (pd_ix (pd_var 1) pd_int)))) ad_nil)))))
theorem ok_unknowns_in (T : Txt K mg Z)  : FnOk P w K mg base CX0 1 Z.a_unknowns_in Z.d_unknowns_in ["fact"] (spP K sp_unknowns_in) :=
  fnP T.f_unknowns_in.F sc_unknowns_in hl_unknowns_in (d_unknowns_in T ) sm_unknowns_in
set_option maxHeartbeats 0 in
theorem d_law_state (T : Txt K mg Z)  (cdv : Value) (A : Around) (outer : List Env) (s : Shared) (H : Hp) (E : XK) (hr : Room 0 (A.deeper (envOfC "_law_state" (defScope s_law_state) s.heap.objs.size Z.a_law_state cdv))) :
    PBd (cxOf CX0 P w K mg base N_law_state "_law_state" (defScope s_law_state) Z.a_law_state cdv A outer s H E).nox (defBody s_law_state) t_law_state :=
  have hu4 := hr.units
  have hu5 := room65 hr
  (bd_cons (sd_asg 3 sc_law_state.nd pd_int)
    (bd_cons (sd_if (td_gt (pd_callB cr_lenA ca_len (by rfl) T.b_len DL.B.len (ad_cons (pd_var 0) ad_nil)) pd_int) (bd_one (sd_asg 3 sc_law_state.nd (pd_callTy call_int1 ca_int1 (by rfl) T.b_int DL.B.int (ad_cons (pd_ix (pd_var 0) (pd_mod (pd_callTy call_int1 ca_int1 (by rfl) T.b_int DL.B.int (ad_cons (pd_var 1) ad_nil)) (pd_callB cr_lenA ca_len (by rfl) T.b_len DL.B.len (ad_cons (pd_var 0) ad_nil)))) ad_nil)))) bd_nil)
    (bd_cons (sd_if (td_lt (pd_var 3) pd_int) (bd_one (sd_asg 3 sc_law_state.nd (pd_sub pd_int (pd_mul pd_int (pd_var 3))))) bd_nil)
    (bd_cons (sd_if (td_w (wd_and (td_lt (pd_var 1) (pd_callB cr_lenA ca_len (by rfl) T.b_len DL.B.len (ad_cons (pd_var 0) ad_nil))) (wd_and1 (td_ge (pd_var 3) (pd_pow pd_int pd_int))))) (bd_one (sd_retO (od_lst (ad_cons (pd_var 3) (ad_cons (pd_add (pd_var 2) pd_int) ad_nil))))) bd_nil)
    (bd_one (sd_retO (od_lst (ad_cons pd_int (ad_cons (pd_add (pd_add (pd_add (pd_mul (pd_var 3) pd_int) (pd_mul pd_int (pd_var 1))) (pd_mul pd_int (pd_var 2))) pd_int) ad_nil)))))))))
theorem ok_law_state (T : Txt K mg Z)  : FnOk P w K mg base CX0 1 Z.a_law_state Z.d_law_state ["script", "k", "salt"] (spP K sp_law_state) :=
  fnP T.f_law_state.F sc_law_state hl_law_state (d_law_state T ) sm_law_state
set_option maxHeartbeats 0 in
theorem d_law_draw (T : Txt K mg Z)  (cdv : Value) (A : Around) (outer : List Env) (s : Shared) (H : Hp) (E : XK) (hr : Room 0 (A.deeper (envOfC "_law_draw" (defScope s_law_draw) s.heap.objs.size Z.a_law_draw cdv))) :
    PBd (cxOf CX0 P w K mg base N_law_draw "_law_draw" (defScope s_law_draw) Z.a_law_draw cdv A outer s H E).nox (defBody s_law_draw) t_law_draw :=
  have hu4 := hr.units
  have hu5 := room65 hr
  (bd_cons (sd_if (td_lt (pd_ix (pd_var 0) pd_int) (pd_var 1)) (bd_cons (sd_asg 2 sc_law_draw.nd (pd_mod (pd_callTy call_int1 ca_int1 (by rfl) T.b_int DL.B.int (ad_cons (pd_add (pd_add (pd_mul (pd_ix (pd_var 0) pd_int) (pd_ix (pd_var 0) pd_int)) (pd_mul pd_int (pd_ix (pd_var 0) pd_int))) pd_int) ad_nil)) pd_int))
    (bd_cons (sd_asg 3 sc_law_draw.nd (pd_mod (pd_callTy call_int1 ca_int1 (by rfl) T.b_int DL.B.int (ad_cons (pd_add (pd_add (pd_mul (pd_var 2) (pd_var 2)) (pd_mul pd_int (pd_var 2))) pd_int) ad_nil)) pd_int))
    (bd_cons (sd_asgG (pd_var 3) (gd_sub (pd_var 0) pd_int))
    (bd_one (sd_asgG (pd_add (pd_var 1) (pd_mod (pd_callTy call_int1 ca_int1 (by rfl) T.b_int DL.B.int (ad_cons (pd_add (pd_mul (pd_var 3) (pd_var 3)) (pd_var 2)) ad_nil)) pd_int)) (gd_sub (pd_var 0) pd_int)))))) bd_nil)
    (bd_cons (sd_asg 4 sc_law_draw.nd (pd_mod (pd_callTy call_int1 ca_int1 (by rfl) T.b_int DL.B.int (ad_cons (pd_ix (pd_var 0) pd_int) ad_nil)) (pd_var 1)))
    (bd_cons (sd_asgG (pd_fdiv (pd_ix (pd_var 0) pd_int) (pd_var 1)) (gd_sub (pd_var 0) pd_int))
    (bd_one (sd_ret (pd_var 4))))))
theorem ok_law_draw (T : Txt K mg Z)  : FnOk P w K mg base CX0 1 Z.a_law_draw Z.d_law_draw ["state", "many"] (spM K 0 sp_law_draw) :=
  fnM T.f_law_draw.F sc_law_draw hl_law_draw (by decide) (d_law_draw T ) sm_law_draw
set_option maxHeartbeats 0 in
theorem d_law_points (T : Txt K mg Z)  (cdv : Value) (A : Around) (outer : List Env) (s : Shared) (H : Hp) (E : XK) (hr : Room 0 (A.deeper (envOfC "_law_points" (defScope s_law_points) s.heap.objs.size Z.a_law_points cdv))) :
    PBd (cxOf CX0 P w K mg base N_law_points "_law_points" (defScope s_law_points) Z.a_law_points cdv A outer s H E).nox (defBody s_law_points) t_law_points :=
  have hu4 := hr.units
  have hu5 := room65 hr
  (bd_cons (sd_asgO 1 sc_law_points.nd (od_lst (ad_cons (pd_tup ad_nil) ad_nil)))
    (bd_cons (sd_for PassesOwn.never rfl (id_seq (pd_var 0)) (gd_tup rfl (gsd_cons (gd_name 2 sc_law_points.nd) (gsd_cons (gd_name 3 sc_law_points.nd) gsd_nil))) (bd_cons (sd_asgO 4 sc_law_points.nd (od_lst ad_nil))
    (bd_cons (sd_for PassesOwn.never rfl (id_seq (pd_var 1)) (gd_name 5 sc_law_points.nd) (bd_one (sd_asg 4 sc_law_points.nd (pd_add (pd_var 4) (pd_of (od_comp (own := [("a", 6)]) rfl sc_law_points.nd (id_rng2 (by rfl) T.b_range (ad_cons (pd_var 2) (ad_cons (pd_add (pd_var 3) pd_int) ad_nil))) (blkOk_by (by kernel_rfl)) (fun _ _ _ _ _ => (gd_name 6 sc_law_points.nd)) (fun _ _ _ _ _ => tsd_nil) (fun _ _ _ _ _ => (pd_add (pd_var 5) (pd_tup (ad_cons (pd_var 6) ad_nil))))))))))
    (bd_one (sd_asg 1 sc_law_points.nd (pd_var 4))))))
    (bd_one (sd_ret (pd_var 1)))))
theorem ok_law_points (T : Txt K mg Z)  : FnOk P w K mg base CX0 1 Z.a_law_points Z.d_law_points ["ranges"] (spP K sp_law_points) :=
  fnP T.f_law_points.F sc_law_points hl_law_points (d_law_points T ) sm_law_points
set_option maxHeartbeats 0 in
theorem d_law_stands (T : Txt K mg Z)  (cdv : Value) (A : Around) (outer : List Env) (s : Shared) (H : Hp) (E : XK) (hr : Room 0 (A.deeper (envOfC "_law_stands" (defScope s_law_stands) s.heap.objs.size Z.a_law_stands cdv))) :
    PBd (cxOf CX0 P w K mg base N_law_stands "_law_stands" (defScope s_law_stands) Z.a_law_stands cdv A outer s H E).nox (defBody s_law_stands) t_law_stands :=
  have hu4 := hr.units
  have hu5 := room65 hr
  (bd_cons (sd_if (td_eq hu4 (pd_var 0) pd_str) (bd_one (sd_ret (pd_le (pd_var 1) (pd_var 2)))) bd_nil)
    (bd_cons (sd_if (td_eq hu4 (pd_var 0) pd_str) (bd_one (sd_ret (pd_ge (pd_var 1) (pd_var 2)))) bd_nil)
    (bd_one (sd_ret (pd_eq hu4 (pd_eq hu4 (pd_var 1) (pd_var 2)) (pd_eq hu4 (pd_var 0) pd_str))))))
theorem ok_law_stands (T : Txt K mg Z)  : FnOk P w K mg base CX0 1 Z.a_law_stands Z.d_law_stands ["relation", "left", "right"] (spP K sp_law_stands) :=
  fnP T.f_law_stands.F sc_law_stands hl_law_stands (d_law_stands T ) sm_law_stands
set_option maxHeartbeats 0 in
theorem d_law_sum (T : Txt K mg Z)  (cdv : Value) (A : Around) (outer : List Env) (s : Shared) (H : Hp) (E : XK) (hr : Room 0 (A.deeper (envOfC "_law_sum" (defScope s_law_sum) s.heap.objs.size Z.a_law_sum cdv))) :
    PBd (cxOf CX0 P w K mg base N_law_sum "_law_sum" (defScope s_law_sum) Z.a_law_sum cdv A outer s H E).nox (defBody s_law_sum) t_law_sum :=
  have hu4 := hr.units
  have hu5 := room65 hr
  (bd_one (sd_ret (pd_callB (cr_sum rfl) ca_sum (by rfl) T.b_sum DL.B.sum (ad_cons (pd_of (od_comp (own := [("v", 2), ("c", 3)]) rfl sc_law_sum.nd (id_seq (pd_var 0)) (blkOk_by (by kernel_rfl)) (fun _ _ _ _ _ => (gd_tup rfl (gsd_cons (gd_name 2 sc_law_sum.nd) (gsd_cons (gd_name 3 sc_law_sum.nd) gsd_nil)))) (fun _ _ _ _ _ => tsd_nil) (fun _ _ _ _ _ => (pd_mul (pd_var 3) (pd_ix (pd_var 1) (pd_var 2)))))) ad_nil))))
theorem ok_law_sum (T : Txt K mg Z)  : FnOk P w K mg base CX0 1 Z.a_law_sum Z.d_law_sum ["terms", "point"] (spP K sp_law_sum) :=
  fnP T.f_law_sum.F sc_law_sum hl_law_sum (d_law_sum T ) sm_law_sum
set_option maxHeartbeats 0 in
theorem d_law_some_terms (T : Txt K mg Z) (G_law_draw : FnOk P w K mg base CX0 1 Z.a_law_draw Z.d_law_draw ["state", "many"] (spM K 0 sp_law_draw)) (cdv : Value) (A : Around) (outer : List Env) (s : Shared) (H : Hp) (E : XK) (hr : Room 1 (A.deeper (envOfC "_law_some_terms" (defScope s_law_some_terms) s.heap.objs.size Z.a_law_some_terms cdv))) :
    PBd (cxOf CX0 P w K mg base N_law_some_terms "_law_some_terms" (defScope s_law_some_terms) Z.a_law_some_terms cdv A outer s H E).nox (defBody s_law_some_terms) t_law_some_terms :=
  have hu4 := hr.units
  have hu5 := room65 hr
  (bd_cons (sd_asgO 2 sc_law_some_terms.nd (od_lst ad_nil))
    (bd_cons (sd_for PassesOwn.never rfl (id_rng1 (by rfl) T.b_range (ad_cons (pd_var 1) ad_nil)) (gd_name 3 sc_law_some_terms.nd) (bd_one (sd_if (td_gt (pd_callM G_law_draw (hr.mono (by decide)) (by rfl) T.f_law_draw.m T.f_law_draw.F.kp T.f_law_draw.b (ad_cons (pd_var 0) (ad_cons pd_int ad_nil))) pd_int) (bd_one (sd_expr (pd_append 2 (ad_cons (pd_tup (ad_cons (pd_var 3) (ad_cons (pd_ix (pd_of (od_lst (ad_cons (pd_neg pd_int) (ad_cons (pd_neg pd_int) (ad_cons (pd_neg pd_int) (ad_cons pd_int (ad_cons pd_int (ad_cons pd_int ad_nil)))))))) (pd_callM G_law_draw (hr.mono (by decide)) (by rfl) T.f_law_draw.m T.f_law_draw.F.kp T.f_law_draw.b (ad_cons (pd_var 0) (ad_cons pd_int ad_nil)))) ad_nil))) ad_nil)))) bd_nil)))
    (bd_one (sd_ret (pd_callTy call_tuple_of ca_tup (by rfl) T.b_tuple DL.B.tuple (ad_cons (pd_var 2) ad_nil))))))
theorem ok_law_some_terms (T : Txt K mg Z) (G_law_draw : FnOk P w K mg base CX0 1 Z.a_law_draw Z.d_law_draw ["state", "many"] (spM K 0 sp_law_draw)) : FnOk P w K mg base CX0 2 Z.a_law_some_terms Z.d_law_some_terms ["state", "many"] (spM K 0 sp_law_some_terms) :=
  fnM T.f_law_some_terms.F sc_law_some_terms hl_law_some_terms (by decide) (d_law_some_terms T G_law_draw) sm_law_some_terms
set_option maxHeartbeats 0 in
theorem d_law_literal (T : Txt K mg Z) (G_law_draw : FnOk P w K mg base CX0 1 Z.a_law_draw Z.d_law_draw ["state", "many"] (spM K 0 sp_law_draw)) (cdv : Value) (A : Around) (outer : List Env) (s : Shared) (H : Hp) (E : XK) (hr : Room 1 (A.deeper (envOfC "_law_literal" (defScope s_law_literal) s.heap.objs.size Z.a_law_literal cdv))) :
    PBd (cxOf CX0 P w K mg base N_law_literal "_law_literal" (defScope s_law_literal) Z.a_law_literal cdv A outer s H E).nox (defBody s_law_literal) t_law_literal :=
  have hu4 := hr.units
  have hu5 := room65 hr
  (bd_cons (sd_asgG (pd_ix (pd_var 1) (pd_var 2)) (gd_tup rfl (gsd_cons (gd_name 3 sc_law_literal.nd) (gsd_cons (gd_name 4 sc_law_literal.nd) gsd_nil))))
    (bd_one (sd_ret (pd_tup (ad_cons (pd_var 2) (ad_cons (pd_ix (pd_of (od_lst (ad_cons pd_str (ad_cons pd_str (ad_cons pd_str (ad_cons pd_str ad_nil)))))) (pd_callM G_law_draw (hr.mono (by decide)) (by rfl) T.f_law_draw.m T.f_law_draw.F.kp T.f_law_draw.b (ad_cons (pd_var 0) (ad_cons pd_int ad_nil)))) (ad_cons (pd_add (pd_var 3) (pd_callM G_law_draw (hr.mono (by decide)) (by rfl) T.f_law_draw.m T.f_law_draw.F.kp T.f_law_draw.b (ad_cons (pd_var 0) (ad_cons (pd_add (pd_sub (pd_var 4) (pd_var 3)) pd_int) ad_nil)))) ad_nil)))))))
theorem ok_law_literal (T : Txt K mg Z) (G_law_draw : FnOk P w K mg base CX0 1 Z.a_law_draw Z.d_law_draw ["state", "many"] (spM K 0 sp_law_draw)) : FnOk P w K mg base CX0 2 Z.a_law_literal Z.d_law_literal ["state", "ranges", "v"] (spM K 0 sp_law_literal) :=
  fnM T.f_law_literal.F sc_law_literal hl_law_literal (by decide) (d_law_literal T G_law_draw) sm_law_literal
set_option maxHeartbeats 0 in
theorem d_law_fact (T : Txt K mg Z) (G_law_draw : FnOk P w K mg base CX0 1 Z.a_law_draw Z.d_law_draw ["state", "many"] (spM K 0 sp_law_draw)) (G_law_some_terms : FnOk P w K mg base CX0 2 Z.a_law_some_terms Z.d_law_some_terms ["state", "many"] (spM K 0 sp_law_some_terms)) (G_law_literal : FnOk P w K mg base CX0 2 Z.a_law_literal Z.d_law_literal ["state", "ranges", "v"] (spM K 0 sp_law_literal)) (cdv : Value) (A : Around) (outer : List Env) (s : Shared) (H : Hp) (E : XK) (hr : Room 2 (A.deeper (envOfC "_law_fact" (defScope s_law_fact) s.heap.objs.size Z.a_law_fact cdv))) :
    PBd (cxOf CX0 P w K mg base N_law_fact "_law_fact" (defScope s_law_fact) Z.a_law_fact cdv A outer s H E).nox (defBody s_law_fact) t_law_fact :=
  have hu4 := hr.units
  have hu5 := room65 hr
  (bd_cons (sd_if (td_eq hu4 (pd_callM G_law_draw (hr.mono (by decide)) (by rfl) T.f_law_draw.m T.f_law_draw.F.kp T.f_law_draw.b (ad_cons (pd_var 0) (ad_cons pd_int ad_nil))) pd_int) (bd_one (sd_ret (pd_tup (ad_cons pd_str (ad_cons (pd_callM G_law_some_terms (hr.mono (by decide)) (by rfl) T.f_law_some_terms.m T.f_law_some_terms.F.kp T.f_law_some_terms.b (ad_cons (pd_var 0) (ad_cons (pd_add pd_int (pd_callM G_law_draw (hr.mono (by decide)) (by rfl) T.f_law_draw.m T.f_law_draw.F.kp T.f_law_draw.b (ad_cons (pd_var 0) (ad_cons pd_int ad_nil)))) ad_nil))) (ad_cons (pd_sub (pd_callM G_law_draw (hr.mono (by decide)) (by rfl) T.f_law_draw.m T.f_law_draw.F.kp T.f_law_draw.b (ad_cons (pd_var 0) (ad_cons pd_int ad_nil))) pd_int) ad_nil)))))) bd_nil)
    (bd_one (sd_ret (pd_tup (ad_cons pd_str (ad_cons (pd_callTy call_tuple_of ca_tup (by rfl) T.b_tuple DL.B.tuple (ad_cons (pd_of (od_comp (own := [("turn", 1)]) rfl sc_law_fact.nd (id_rng1 (by rfl) T.b_range (ad_cons (pd_callM G_law_draw (hr.mono (by decide)) (by rfl) T.f_law_draw.m T.f_law_draw.F.kp T.f_law_draw.b (ad_cons (pd_var 0) (ad_cons pd_int ad_nil))) ad_nil)) (blkOk_by (by kernel_rfl)) (fun _ _ _ _ _ => (gd_name 1 sc_law_fact.nd)) (fun _ _ _ _ _ => tsd_nil) (fun _ _ _ _ _ => (pd_callM G_law_literal (hr.mono (by decide)) (by rfl) T.f_law_literal.m T.f_law_literal.F.kp T.f_law_literal.b (ad_cons (pd_var 0) (ad_cons (pd_of (od_rep (od_lst (ad_cons (pd_tup (ad_cons (pd_neg pd_int) (ad_cons pd_int ad_nil))) ad_nil)) pd_int)) (ad_cons (pd_callM G_law_draw (hr.mono (by decide)) (by rfl) T.f_law_draw.m T.f_law_draw.F.kp T.f_law_draw.b (ad_cons (pd_var 0) (ad_cons pd_int ad_nil))) ad_nil))))))) ad_nil)) ad_nil))))))
theorem ok_law_fact (T : Txt K mg Z) (G_law_draw : FnOk P w K mg base CX0 1 Z.a_law_draw Z.d_law_draw ["state", "many"] (spM K 0 sp_law_draw)) (G_law_some_terms : FnOk P w K mg base CX0 2 Z.a_law_some_terms Z.d_law_some_terms ["state", "many"] (spM K 0 sp_law_some_terms)) (G_law_literal : FnOk P w K mg base CX0 2 Z.a_law_literal Z.d_law_literal ["state", "ranges", "v"] (spM K 0 sp_law_literal)) : FnOk P w K mg base CX0 3 Z.a_law_fact Z.d_law_fact ["state"] (spM K 0 sp_law_fact) :=
  fnM T.f_law_fact.F sc_law_fact hl_law_fact (by decide) (d_law_fact T G_law_draw G_law_some_terms G_law_literal) sm_law_fact
set_option maxHeartbeats 0 in
theorem d_law_fact_stands (T : Txt K mg Z) (G_law_stands : FnOk P w K mg base CX0 1 Z.a_law_stands Z.d_law_stands ["relation", "left", "right"] (spP K sp_law_stands)) (G_law_sum : FnOk P w K mg base CX0 1 Z.a_law_sum Z.d_law_sum ["terms", "point"] (spP K sp_law_sum)) (cdv : Value) (A : Around) (outer : List Env) (s : Shared) (H : Hp) (E : XK) (hr : Room 1 (A.deeper (envOfC "_law_fact_stands" (defScope s_law_fact_stands) s.heap.objs.size Z.a_law_fact_stands cdv))) :
    PBd (cxOf CX0 P w K mg base N_law_fact_stands "_law_fact_stands" (defScope s_law_fact_stands) Z.a_law_fact_stands cdv A outer s H E).nox (defBody s_law_fact_stands) t_law_fact_stands :=
  have hu4 := hr.units
  have hu5 := room65 hr
  (bd_cons (sd_if (td_eq hu4 (pd_ix (pd_var 0) pd_int) pd_str) (bd_one (sd_ret (pd_le (pd_callP G_law_sum (hr.mono (by decide)) (by rfl) T.f_law_sum.m T.f_law_sum.F.kp T.f_law_sum.b (ad_cons (pd_ix (pd_var 0) pd_int) (ad_cons (pd_var 1) ad_nil))) (pd_ix (pd_var 0) pd_int)))) bd_nil)
    (bd_one (sd_ret (pd_in hu5 pd_bl (pd_of (od_comp (own := [("v", 2), ("relation", 3), ("a", 4)]) rfl sc_law_fact_stands.nd (id_seq (pd_ix (pd_var 0) pd_int)) (blkOk_by (by kernel_rfl)) (fun _ _ _ _ _ => (gd_tup rfl (gsd_cons (gd_name 2 sc_law_fact_stands.nd) (gsd_cons (gd_name 3 sc_law_fact_stands.nd) (gsd_cons (gd_name 4 sc_law_fact_stands.nd) gsd_nil))))) (fun _ _ _ _ _ => tsd_nil) (fun _ _ _ _ _ => (pd_callP G_law_stands (hr.mono (by decide)) (by rfl) T.f_law_stands.m T.f_law_stands.F.kp T.f_law_stands.b (ad_cons (pd_var 3) (ad_cons (pd_ix (pd_var 1) (pd_var 2)) (ad_cons (pd_var 4) ad_nil)))))))))))
theorem ok_law_fact_stands (T : Txt K mg Z) (G_law_stands : FnOk P w K mg base CX0 1 Z.a_law_stands Z.d_law_stands ["relation", "left", "right"] (spP K sp_law_stands)) (G_law_sum : FnOk P w K mg base CX0 1 Z.a_law_sum Z.d_law_sum ["terms", "point"] (spP K sp_law_sum)) : FnOk P w K mg base CX0 2 Z.a_law_fact_stands Z.d_law_fact_stands ["fact", "point"] (spP K sp_law_fact_stands) :=
  fnP T.f_law_fact_stands.F sc_law_fact_stands hl_law_fact_stands (d_law_fact_stands T G_law_stands G_law_sum) sm_law_fact_stands
set_option maxHeartbeats 0 in
theorem d_law (T : Txt K mg Z) (G_literal_holds : FnOk P w K mg base CX0 2 Z.a_literal_holds Z.d_literal_holds ["literal", "worth"] (spP K sp_literal_holds)) (G_fact_holds : FnOk P w K mg base CX0 3 Z.a_fact_holds Z.d_fact_holds ["fact", "point"] (spP K sp_fact_holds)) (G_is_contradiction : FnOk P w K mg base CX0 1 Z.a_is_contradiction Z.d_is_contradiction ["fact"] (spP K sp_is_contradiction)) (G_as_row : FnOk P w K mg base CX0 1 Z.a_as_row Z.d_as_row ["fact"] (spP K sp_as_row)) (G_as_literal : FnOk P w K mg base CX0 1 Z.a_as_literal Z.d_as_literal ["fact"] (spP K sp_as_literal)) (G_negation : FnOk P w K mg base CX0 2 Z.a_negation Z.d_negation ["fact"] (spP K sp_negation)) (G_implies : FnOk P w K mg base CX0 4 Z.a_implies Z.d_implies ["first", "second"] (spP K sp_implies)) (G_unknowns_in : FnOk P w K mg base CX0 1 Z.a_unknowns_in Z.d_unknowns_in ["fact"] (spP K sp_unknowns_in)) (G_law_state : FnOk P w K mg base CX0 1 Z.a_law_state Z.d_law_state ["script", "k", "salt"] (spP K sp_law_state)) (G_law_points : FnOk P w K mg base CX0 1 Z.a_law_points Z.d_law_points ["ranges"] (spP K sp_law_points)) (G_law_fact : FnOk P w K mg base CX0 3 Z.a_law_fact Z.d_law_fact ["state"] (spM K 0 sp_law_fact)) (G_law_fact_stands : FnOk P w K mg base CX0 2 Z.a_law_fact_stands Z.d_law_fact_stands ["fact", "point"] (spP K sp_law_fact_stands)) (cdv : Value) (A : Around) (outer : List Env) (s : Shared) (H : Hp) (E : XK) (hr : Room 4 (A.deeper (envOfC "law" (defScope s_law) s.heap.objs.size Z.a_law cdv))) :
    PBd (cxOf CX0 P w K mg base N_law "law" (defScope s_law) Z.a_law cdv A outer s H E).nox (defBody s_law) t_law :=
  have hu4 := hr.units
  have hu5 := room65 hr
  (bd_cons (sd_asg 1 sc_law.nd (pd_callP G_law_points (hr.mono (by decide)) (by rfl) T.f_law_points.m T.f_law_points.F.kp T.f_law_points.b (ad_cons (pd_of (od_rep (od_lst (ad_cons (pd_tup (ad_cons (pd_neg pd_int) (ad_cons pd_int ad_nil))) ad_nil)) pd_int)) ad_nil)))
    (bd_cons (sd_for PassesOwn.never rfl (id_rng1 (by rfl) T.b_range (ad_cons (pd_callB (call_min2 rfl) ca_int2 (by rfl) T.b_min DL.B.min (ad_cons pd_int (ad_cons (pd_add pd_int (pd_callB cr_lenA ca_len (by rfl) T.b_len DL.B.len (ad_cons (pd_var 0) ad_nil))) ad_nil))) ad_nil)) (gd_name 2 sc_law.nd) (bd_cons (sd_asgO 3 sc_law.nd (od_callP G_law_state (hr.mono (by decide)) (by rfl) T.f_law_state.m T.f_law_state.F.kp T.f_law_state.b (ad_cons (pd_var 0) (ad_cons (pd_var 2) (ad_cons pd_int ad_nil)))))
    (bd_cons (sd_asgC 4 (own := [("turn", 12)]) rfl sc_law.nd (id_rng1 (by rfl) T.b_range (ad_cons pd_int ad_nil)) (blkOk_by (by kernel_rfl)) (fun _ _ _ _ _ => (gd_name 12 sc_law.nd)) (fun _ _ _ _ _ => tsd_nil) (fun _ _ _ _ _ => (pd_callM G_law_fact (hr.mono (by decide)) (by rfl) T.f_law_fact.m T.f_law_fact.F.kp T.f_law_fact.b (ad_cons (pd_var 3) ad_nil))))
    (bd_cons (sd_asg 4 sc_law.nd (pd_add (pd_var 4) (pd_of (od_comp (own := [("fact", 7)]) rfl sc_law.nd (id_seq (pd_var 4)) (blkOk_by (by kernel_rfl)) (fun _ _ _ _ _ => (gd_name 7 sc_law.nd)) (fun _ _ _ _ _ => tsd_nil) (fun _ _ _ _ _ => (pd_ifExp (td_eq hu4 (pd_ix (pd_var 7) pd_int) pd_str) (pd_tup (ad_cons pd_str (ad_cons (pd_ix (pd_var 7) pd_int) (ad_cons (pd_add (pd_ix (pd_var 7) pd_int) pd_int) ad_nil)))) (pd_tup (ad_cons pd_str (ad_cons (pd_add (pd_ix (pd_var 7) pd_int) (pd_tup (ad_cons (pd_tup (ad_cons pd_int (ad_cons pd_str (ad_cons pd_int ad_nil)))) ad_nil))) ad_nil)))))))))
    (bd_cons (sd_asgO 5 sc_law.nd (od_comp (own := [("fact", 7)]) rfl sc_law.nd (id_seq (pd_var 4)) (blkOk_by (by kernel_rfl)) (fun _ _ _ _ _ => (gd_name 7 sc_law.nd)) (fun _ _ _ _ _ => tsd_nil) (fun _ _ _ _ _ => (pd_of (od_comp (own := [("point", 13)]) rfl sc_law.nd (id_seq (pd_var 1)) (blkOk_by (by kernel_rfl)) (fun _ _ _ _ _ => (gd_name 13 sc_law.nd)) (fun _ _ _ _ _ => tsd_nil) (fun _ _ _ _ _ => (pd_callP G_law_fact_stands (hr.mono (by decide)) (by rfl) T.f_law_fact_stands.m T.f_law_fact_stands.F.kp T.f_law_fact_stands.b (ad_cons (pd_var 7) (ad_cons (pd_var 13) ad_nil)))))))))
    (bd_one (sd_for PassesOwn.never rfl (id_rng1 (by rfl) T.b_range (ad_cons (pd_callB cr_lenA ca_len (by rfl) T.b_len DL.B.len (ad_cons (pd_var 4) ad_nil)) ad_nil)) (gd_name 6 sc_law.nd) (bd_cons (sd_asg 7 sc_law.nd (pd_ix (pd_var 4) (pd_var 6)))
    (bd_cons (sd_if (td_w (wd_or (td_ne hu4 (pd_of (od_comp (own := [("point", 13)]) rfl sc_law.nd (id_seq (pd_var 1)) (blkOk_by (by kernel_rfl)) (fun _ _ _ _ _ => (gd_name 13 sc_law.nd)) (fun _ _ _ _ _ => tsd_nil) (fun _ _ _ _ _ => (pd_callP G_fact_holds (hr.mono (by decide)) (by rfl) T.f_fact_holds.m T.f_fact_holds.F.kp T.f_fact_holds.b (ad_cons (pd_var 7) (ad_cons (pd_var 13) ad_nil)))))) (pd_ix (pd_var 5) (pd_var 6))) (wd_or1 (td_isnotB (pd_callP G_implies (hr.mono (by decide)) (by rfl) T.f_implies.m T.f_implies.F.kp T.f_implies.b (ad_cons (pd_var 7) (ad_cons (pd_var 7) ad_nil))) pd_bl)))) (bd_one (sd_ret pd_bl)) bd_nil)
    (bd_cons (sd_if (td_ne hu4 (pd_callP G_unknowns_in (hr.mono (by decide)) (by rfl) T.f_unknowns_in.m T.f_unknowns_in.F.kp T.f_unknowns_in.b (ad_cons (pd_var 7) ad_nil)) (pd_of (od_comp (own := [("v", 14)]) rfl sc_law.nd (id_rng1 (by rfl) T.b_range (ad_cons pd_int ad_nil)) (blkOk_by (by kernel_rfl)) (fun _ _ _ _ _ => (gd_name 14 sc_law.nd)) (fun _ _ _ _ _ => (tsd_one (td_in hu5 (pd_var 14) (pd_of (od_comp (own := [("part", 17)]) rfl sc_law.nd (id_seq (pd_ix (pd_var 7) pd_int)) (blkOk_by (by kernel_rfl)) (fun _ _ _ _ _ => (gd_name 17 sc_law.nd)) (fun _ _ _ _ _ => tsd_nil) (fun _ _ _ _ _ => (pd_ix (pd_var 17) pd_int))))))) (fun _ _ _ _ _ => (pd_var 14))))) (bd_one (sd_ret pd_bl)) bd_nil)
    (bd_cons (sd_if (td_ne hu4 (pd_callP G_is_contradiction (hr.mono (by decide)) (by rfl) T.f_is_contradiction.m T.f_is_contradiction.F.kp T.f_is_contradiction.b (ad_cons (pd_var 7) ad_nil)) (pd_and (pd_eq hu4 (pd_callB cr_lenA ca_len (by rfl) T.b_len DL.B.len (ad_cons (pd_ix (pd_var 7) pd_int) ad_nil)) pd_int) (pd_one (pd_ni hu5 pd_bl (pd_ix (pd_var 5) (pd_var 6)))))) (bd_one (sd_ret pd_bl)) bd_nil)
    (bd_cons (sd_asg 8 sc_law.nd (pd_callP G_negation (hr.mono (by decide)) (by rfl) T.f_negation.m T.f_negation.F.kp T.f_negation.b (ad_cons (pd_var 7) ad_nil)))
    (bd_cons (sd_if (td_ne hu4 (pd_is (pd_var 8) pd_non) (pd_and (pd_eq hu4 (pd_ix (pd_var 7) pd_int) pd_str) (pd_one (pd_ne hu4 (pd_callB cr_lenA ca_len (by rfl) T.b_len DL.B.len (ad_cons (pd_ix (pd_var 7) pd_int) ad_nil)) pd_int)))) (bd_one (sd_ret pd_bl)) bd_nil)
    (bd_cons (sd_if (td_w (wd_and (td_isnot (pd_var 8) pd_non) (wd_and1 (td_w (wd_or (td_ne hu4 (pd_callP G_negation (hr.mono (by decide)) (by rfl) T.f_negation.m T.f_negation.F.kp T.f_negation.b (ad_cons (pd_var 8) ad_nil)) (pd_var 7)) (wd_or1 (td_ne hu4 (pd_of (od_comp (own := [("point", 13)]) rfl sc_law.nd (id_seq (pd_var 1)) (blkOk_by (by kernel_rfl)) (fun _ _ _ _ _ => (gd_name 13 sc_law.nd)) (fun _ _ _ _ _ => tsd_nil) (fun _ _ _ _ _ => (pd_callP G_fact_holds (hr.mono (by decide)) (by rfl) T.f_fact_holds.m T.f_fact_holds.F.kp T.f_fact_holds.b (ad_cons (pd_var 8) (ad_cons (pd_var 13) ad_nil)))))) (pd_of (od_comp (own := [("one", 15)]) rfl sc_law.nd (id_seq (pd_ix (pd_var 5) (pd_var 6))) (blkOk_by (by kernel_rfl)) (fun _ _ _ _ _ => (gd_name 15 sc_law.nd)) (fun _ _ _ _ _ => tsd_nil) (fun _ _ _ _ _ => (pd_not (pd_var 15)))))))))))) (bd_one (sd_ret pd_bl)) bd_nil)
    (bd_cons (sd_asgG (pd_tup (ad_cons (pd_callP G_as_row (hr.mono (by decide)) (by rfl) T.f_as_row.m T.f_as_row.F.kp T.f_as_row.b (ad_cons (pd_var 7) ad_nil)) (ad_cons (pd_callP G_as_literal (hr.mono (by decide)) (by rfl) T.f_as_literal.m T.f_as_literal.F.kp T.f_as_literal.b (ad_cons (pd_var 7) ad_nil)) ad_nil))) (gd_tup rfl (gsd_cons (gd_name 9 sc_law.nd) (gsd_cons (gd_name 10 sc_law.nd) gsd_nil))))
    (bd_cons (sd_if (td_w (wd_and (td_isnot (pd_var 9) pd_non) (wd_and1 (td_ne hu4 (pd_of (od_comp (own := [("point", 13)]) rfl sc_law.nd (id_seq (pd_var 1)) (blkOk_by (by kernel_rfl)) (fun _ _ _ _ _ => (gd_name 13 sc_law.nd)) (fun _ _ _ _ _ => tsd_nil) (fun _ _ _ _ _ => (pd_callP G_fact_holds (hr.mono (by decide)) (by rfl) T.f_fact_holds.m T.f_fact_holds.F.kp T.f_fact_holds.b (ad_cons (pd_var 9) (ad_cons (pd_var 13) ad_nil)))))) (pd_ix (pd_var 5) (pd_var 6)))))) (bd_one (sd_ret pd_bl)) bd_nil)
    (bd_cons (sd_if (td_w (wd_and (td_isnot (pd_var 10) pd_non) (wd_and1 (td_ne hu4 (pd_of (od_comp (own := [("point", 13)]) rfl sc_law.nd (id_seq (pd_var 1)) (blkOk_by (by kernel_rfl)) (fun _ _ _ _ _ => (gd_name 13 sc_law.nd)) (fun _ _ _ _ _ => tsd_nil) (fun _ _ _ _ _ => (pd_callP G_literal_holds (hr.mono (by decide)) (by rfl) T.f_literal_holds.m T.f_literal_holds.F.kp T.f_literal_holds.b (ad_cons (pd_var 10) (ad_cons (pd_ix (pd_var 13) (pd_ix (pd_var 10) pd_int)) ad_nil)))))) (pd_ix (pd_var 5) (pd_var 6)))))) (bd_one (sd_ret pd_bl)) bd_nil)
    (bd_cons (sd_if (td_w (wd_or (td_ne hu4 (pd_is (pd_var 10) pd_non) (pd_ne hu4 (pd_callB cr_lenA ca_len (by rfl) T.b_len DL.B.len (ad_cons (pd_ix (pd_var 7) pd_int) ad_nil)) pd_int)) (wd_or1 (td_w (wd_and (td_eq hu4 (pd_ix (pd_var 7) pd_int) pd_str) (wd_and1 (td_ne hu4 (pd_var 9) (pd_var 7)))))))) (bd_one (sd_ret pd_bl)) bd_nil)
    (bd_cons (sd_if (td_w (wd_and (td_lt (pd_var 6) pd_int) (wd_and1 (td_isnotB (pd_callP G_implies (hr.mono (by decide)) (by rfl) T.f_implies.m T.f_implies.F.kp T.f_implies.b (ad_cons (pd_var 7) (ad_cons (pd_ix (pd_var 4) (pd_add (pd_var 6) pd_int)) ad_nil))) pd_bl)))) (bd_one (sd_ret pd_bl)) bd_nil)
    (bd_one (sd_for PassesOwn.never rfl (id_rng1 (by rfl) T.b_range (ad_cons (pd_callB cr_lenA ca_len (by rfl) T.b_len DL.B.len (ad_cons (pd_var 4) ad_nil)) ad_nil)) (gd_name 11 sc_law.nd) (bd_one (sd_if (td_w (wd_and (td_val (pd_callP G_implies (hr.mono (by decide)) (by rfl) T.f_implies.m T.f_implies.F.kp T.f_implies.b (ad_cons (pd_var 7) (ad_cons (pd_ix (pd_var 4) (pd_var 11)) ad_nil)))) (wd_and1 (td_in hu5 pd_bl (pd_of (od_comp (own := [("place", 16)]) rfl sc_law.nd (id_rng1 (by rfl) T.b_range (ad_cons (pd_callB cr_lenA ca_len (by rfl) T.b_len DL.B.len (ad_cons (pd_var 1) ad_nil)) ad_nil)) (blkOk_by (by kernel_rfl)) (fun _ _ _ _ _ => (gd_name 16 sc_law.nd)) (fun _ _ _ _ _ => tsd_nil) (fun _ _ _ _ _ => (pd_and (pd_ix (pd_ix (pd_var 5) (pd_var 6)) (pd_var 16)) (pd_one (pd_not (pd_ix (pd_ix (pd_var 5) (pd_var 11)) (pd_var 16)))))))))))) (bd_one (sd_ret pd_bl)) bd_nil)))))))))))))))))))))))
    (bd_one (sd_ret pd_bl))))
theorem ok_law (T : Txt K mg Z) (G_literal_holds : FnOk P w K mg base CX0 2 Z.a_literal_holds Z.d_literal_holds ["literal", "worth"] (spP K sp_literal_holds)) (G_fact_holds : FnOk P w K mg base CX0 3 Z.a_fact_holds Z.d_fact_holds ["fact", "point"] (spP K sp_fact_holds)) (G_is_contradiction : FnOk P w K mg base CX0 1 Z.a_is_contradiction Z.d_is_contradiction ["fact"] (spP K sp_is_contradiction)) (G_as_row : FnOk P w K mg base CX0 1 Z.a_as_row Z.d_as_row ["fact"] (spP K sp_as_row)) (G_as_literal : FnOk P w K mg base CX0 1 Z.a_as_literal Z.d_as_literal ["fact"] (spP K sp_as_literal)) (G_negation : FnOk P w K mg base CX0 2 Z.a_negation Z.d_negation ["fact"] (spP K sp_negation)) (G_implies : FnOk P w K mg base CX0 4 Z.a_implies Z.d_implies ["first", "second"] (spP K sp_implies)) (G_unknowns_in : FnOk P w K mg base CX0 1 Z.a_unknowns_in Z.d_unknowns_in ["fact"] (spP K sp_unknowns_in)) (G_law_state : FnOk P w K mg base CX0 1 Z.a_law_state Z.d_law_state ["script", "k", "salt"] (spP K sp_law_state)) (G_law_points : FnOk P w K mg base CX0 1 Z.a_law_points Z.d_law_points ["ranges"] (spP K sp_law_points)) (G_law_fact : FnOk P w K mg base CX0 3 Z.a_law_fact Z.d_law_fact ["state"] (spM K 0 sp_law_fact)) (G_law_fact_stands : FnOk P w K mg base CX0 2 Z.a_law_fact_stands Z.d_law_fact_stands ["fact", "point"] (spP K sp_law_fact_stands)) : FnOk P w K mg base CX0 5 Z.a_law Z.d_law ["script"] (spP K sp_law) :=
  fnP T.f_law.F sc_law hl_law (d_law T G_literal_holds G_fact_holds G_is_contradiction G_as_row G_as_literal G_negation G_implies G_unknowns_in G_law_state G_law_points G_law_fact G_law_fact_stands) sm_law
theorem g_relation_holds (T : Txt K mg Z) : FnOk P w K mg base CX0 1 Z.a_relation_holds Z.d_relation_holds ["relation", "left", "right"] (spP K sp_relation_holds) :=
  ok_relation_holds T 
theorem g_literal_holds (T : Txt K mg Z) : FnOk P w K mg base CX0 2 Z.a_literal_holds Z.d_literal_holds ["literal", "worth"] (spP K sp_literal_holds) :=
  ok_literal_holds T (g_relation_holds T)
theorem g_negated (T : Txt K mg Z) : FnOk P w K mg base CX0 1 Z.a_negated Z.d_negated ["literal"] (spP K sp_negated) :=
  ok_negated T 
theorem g_literal_implies (T : Txt K mg Z) : FnOk P w K mg base CX0 2 Z.a_literal_implies Z.d_literal_implies ["first", "second"] (spP K sp_literal_implies) :=
  ok_literal_implies T (g_relation_holds T)
theorem g_terms_sum (T : Txt K mg Z) : FnOk P w K mg base CX0 1 Z.a_terms_sum Z.d_terms_sum ["terms", "point"] (spP K sp_terms_sum) :=
  ok_terms_sum T 
theorem g_negated_terms (T : Txt K mg Z) : FnOk P w K mg base CX0 1 Z.a_negated_terms Z.d_negated_terms ["terms"] (spP K sp_negated_terms) :=
  ok_negated_terms T 
theorem g_fact_holds (T : Txt K mg Z) : FnOk P w K mg base CX0 3 Z.a_fact_holds Z.d_fact_holds ["fact", "point"] (spP K sp_fact_holds) :=
  ok_fact_holds T (g_literal_holds T) (g_terms_sum T)
theorem g_is_contradiction (T : Txt K mg Z) : FnOk P w K mg base CX0 1 Z.a_is_contradiction Z.d_is_contradiction ["fact"] (spP K sp_is_contradiction) :=
  ok_is_contradiction T 
theorem g_as_row (T : Txt K mg Z) : FnOk P w K mg base CX0 1 Z.a_as_row Z.d_as_row ["fact"] (spP K sp_as_row) :=
  ok_as_row T 
theorem g_as_literal (T : Txt K mg Z) : FnOk P w K mg base CX0 1 Z.a_as_literal Z.d_as_literal ["fact"] (spP K sp_as_literal) :=
  ok_as_literal T 
theorem g_negation (T : Txt K mg Z) : FnOk P w K mg base CX0 2 Z.a_negation Z.d_negation ["fact"] (spP K sp_negation) :=
  ok_negation T (g_negated T) (g_negated_terms T)
theorem g_literals_imply (T : Txt K mg Z) : FnOk P w K mg base CX0 3 Z.a_literals_imply Z.d_literals_imply ["first", "second"] (spP K sp_literals_imply) :=
  ok_literals_imply T (g_literal_implies T) (g_as_literal T)
theorem g_implies (T : Txt K mg Z) : FnOk P w K mg base CX0 4 Z.a_implies Z.d_implies ["first", "second"] (spP K sp_implies) :=
  ok_implies T (g_is_contradiction T) (g_as_row T) (g_literals_imply T)
theorem g_unknowns_in (T : Txt K mg Z) : FnOk P w K mg base CX0 1 Z.a_unknowns_in Z.d_unknowns_in ["fact"] (spP K sp_unknowns_in) :=
  ok_unknowns_in T 
theorem g_law_state (T : Txt K mg Z) : FnOk P w K mg base CX0 1 Z.a_law_state Z.d_law_state ["script", "k", "salt"] (spP K sp_law_state) :=
  ok_law_state T 
theorem g_law_draw (T : Txt K mg Z) : FnOk P w K mg base CX0 1 Z.a_law_draw Z.d_law_draw ["state", "many"] (spM K 0 sp_law_draw) :=
  ok_law_draw T 
theorem g_law_points (T : Txt K mg Z) : FnOk P w K mg base CX0 1 Z.a_law_points Z.d_law_points ["ranges"] (spP K sp_law_points) :=
  ok_law_points T 
theorem g_law_stands (T : Txt K mg Z) : FnOk P w K mg base CX0 1 Z.a_law_stands Z.d_law_stands ["relation", "left", "right"] (spP K sp_law_stands) :=
  ok_law_stands T 
theorem g_law_sum (T : Txt K mg Z) : FnOk P w K mg base CX0 1 Z.a_law_sum Z.d_law_sum ["terms", "point"] (spP K sp_law_sum) :=
  ok_law_sum T 
theorem g_law_some_terms (T : Txt K mg Z) : FnOk P w K mg base CX0 2 Z.a_law_some_terms Z.d_law_some_terms ["state", "many"] (spM K 0 sp_law_some_terms) :=
  ok_law_some_terms T (g_law_draw T)
theorem g_law_literal (T : Txt K mg Z) : FnOk P w K mg base CX0 2 Z.a_law_literal Z.d_law_literal ["state", "ranges", "v"] (spM K 0 sp_law_literal) :=
  ok_law_literal T (g_law_draw T)
theorem g_law_fact (T : Txt K mg Z) : FnOk P w K mg base CX0 3 Z.a_law_fact Z.d_law_fact ["state"] (spM K 0 sp_law_fact) :=
  ok_law_fact T (g_law_draw T) (g_law_some_terms T) (g_law_literal T)
theorem g_law_fact_stands (T : Txt K mg Z) : FnOk P w K mg base CX0 2 Z.a_law_fact_stands Z.d_law_fact_stands ["fact", "point"] (spP K sp_law_fact_stands) :=
  ok_law_fact_stands T (g_law_stands T) (g_law_sum T)
theorem g_law (T : Txt K mg Z) : FnOk P w K mg base CX0 5 Z.a_law Z.d_law ["script"] (spP K sp_law) :=
  ok_law T (g_literal_holds T) (g_fact_holds T) (g_is_contradiction T) (g_as_row T) (g_as_literal T) (g_negation T) (g_implies T) (g_unknowns_in T) (g_law_state T) (g_law_points T) (g_law_fact T) (g_law_fact_stands T)
end

set_option maxHeartbeats 0 in
theorem all_mk {l : PySem.W.OpenLaw} {w : World} {K : PySem.W.Frag} {h : Heap} {mg : Str → Option Value} {fa : Addr} (X : K.In h) (G : h.Ns mainGlobals mg) (hfa : mg "law" = some (.ref fa))
    {f0 : Addr} {od0 an0 : Option Addr} {sl0 : Array (Option Value)} {oc0 kV0 dc0 pm0 cd0 ct0 : Value}
    {f1 : Addr} {od1 an1 : Option Addr} {sl1 : Array (Option Value)} {oc1 kV1 dc1 pm1 cd1 ct1 : Value}
    {f2 : Addr} {od2 an2 : Option Addr} {sl2 : Array (Option Value)} {oc2 kV2 dc2 pm2 cd2 ct2 : Value}
    {f3 : Addr} {od3 an3 : Option Addr} {sl3 : Array (Option Value)} {oc3 kV3 dc3 pm3 cd3 ct3 : Value}
    {f4 : Addr} {od4 an4 : Option Addr} {sl4 : Array (Option Value)} {oc4 kV4 dc4 pm4 cd4 ct4 : Value}
    {f5 : Addr} {od5 an5 : Option Addr} {sl5 : Array (Option Value)} {oc5 kV5 dc5 pm5 cd5 ct5 : Value}
    {f6 : Addr} {od6 an6 : Option Addr} {sl6 : Array (Option Value)} {oc6 kV6 dc6 pm6 cd6 ct6 : Value}
    {f7 : Addr} {od7 an7 : Option Addr} {sl7 : Array (Option Value)} {oc7 kV7 dc7 pm7 cd7 ct7 : Value}
    {f8 : Addr} {od8 an8 : Option Addr} {sl8 : Array (Option Value)} {oc8 kV8 dc8 pm8 cd8 ct8 : Value}
    {f9 : Addr} {od9 an9 : Option Addr} {sl9 : Array (Option Value)} {oc9 kV9 dc9 pm9 cd9 ct9 : Value}
    {f10 : Addr} {od10 an10 : Option Addr} {sl10 : Array (Option Value)} {oc10 kV10 dc10 pm10 cd10 ct10 : Value}
    {f11 : Addr} {od11 an11 : Option Addr} {sl11 : Array (Option Value)} {oc11 kV11 dc11 pm11 cd11 ct11 : Value}
    {f12 : Addr} {od12 an12 : Option Addr} {sl12 : Array (Option Value)} {oc12 kV12 dc12 pm12 cd12 ct12 : Value}
    {f13 : Addr} {od13 an13 : Option Addr} {sl13 : Array (Option Value)} {oc13 kV13 dc13 pm13 cd13 ct13 : Value}
    {f14 : Addr} {od14 an14 : Option Addr} {sl14 : Array (Option Value)} {oc14 kV14 dc14 pm14 cd14 ct14 : Value}
    {f15 : Addr} {od15 an15 : Option Addr} {sl15 : Array (Option Value)} {oc15 kV15 dc15 pm15 cd15 ct15 : Value}
    {f16 : Addr} {od16 an16 : Option Addr} {sl16 : Array (Option Value)} {oc16 kV16 dc16 pm16 cd16 ct16 : Value}
    {f17 : Addr} {od17 an17 : Option Addr} {sl17 : Array (Option Value)} {oc17 kV17 dc17 pm17 cd17 ct17 : Value}
    {f18 : Addr} {od18 an18 : Option Addr} {sl18 : Array (Option Value)} {oc18 kV18 dc18 pm18 cd18 ct18 : Value}
    {f19 : Addr} {od19 an19 : Option Addr} {sl19 : Array (Option Value)} {oc19 kV19 dc19 pm19 cd19 ct19 : Value}
    {f20 : Addr} {od20 an20 : Option Addr} {sl20 : Array (Option Value)} {oc20 kV20 dc20 pm20 cd20 ct20 : Value}
    {f21 : Addr} {od21 an21 : Option Addr} {sl21 : Array (Option Value)} {oc21 kV21 dc21 pm21 cd21 ct21 : Value}
    {f22 : Addr} {od22 an22 : Option Addr} {sl22 : Array (Option Value)} {oc22 kV22 dc22 pm22 cd22 ct22 : Value}
    {f23 : Addr} {od23 an23 : Option Addr} {sl23 : Array (Option Value)} {oc23 kV23 dc23 pm23 cd23 ct23 : Value}
    (z_all : PySem.W.nsIn K mainGlobals "all" = some none)
    (z_any : PySem.W.nsIn K mainGlobals "any" = some none)
    (z_int : PySem.W.nsIn K mainGlobals "int" = some none)
    (z_len : PySem.W.nsIn K mainGlobals "len" = some none)
    (z_min : PySem.W.nsIn K mainGlobals "min" = some none)
    (z_range : PySem.W.nsIn K mainGlobals "range" = some none)
    (z_set : PySem.W.nsIn K mainGlobals "set" = some none)
    (z_sorted : PySem.W.nsIn K mainGlobals "sorted" = some none)
    (z_sum : PySem.W.nsIn K mainGlobals "sum" = some none)
    (z_tuple : PySem.W.nsIn K mainGlobals "tuple" = some none)
    (a0 : PySem.W.nsIn K mainGlobals "relation_holds" = some (some (.ref f0))) (l0 : K.lookup f0 = some ⟨oc0, od0, .func (PySem.W.fnOf "relation_holds" "relation_holds" (defArgs s_relation_holds) (defBody s_relation_holds) (defScope s_relation_holds) .none kV0 dc0 pm0 an0 cd0 ct0), sl0⟩) (c0 : PySem.W.codeIn K cd0 "relation_holds" = true) (k0 : PySem.W.keepIn K (.ref f0) = true)
    (a1 : PySem.W.nsIn K mainGlobals "literal_holds" = some (some (.ref f1))) (l1 : K.lookup f1 = some ⟨oc1, od1, .func (PySem.W.fnOf "literal_holds" "literal_holds" (defArgs s_literal_holds) (defBody s_literal_holds) (defScope s_literal_holds) .none kV1 dc1 pm1 an1 cd1 ct1), sl1⟩) (c1 : PySem.W.codeIn K cd1 "literal_holds" = true) (k1 : PySem.W.keepIn K (.ref f1) = true)
    (a2 : PySem.W.nsIn K mainGlobals "negated" = some (some (.ref f2))) (l2 : K.lookup f2 = some ⟨oc2, od2, .func (PySem.W.fnOf "negated" "negated" (defArgs s_negated) (defBody s_negated) (defScope s_negated) .none kV2 dc2 pm2 an2 cd2 ct2), sl2⟩) (c2 : PySem.W.codeIn K cd2 "negated" = true) (k2 : PySem.W.keepIn K (.ref f2) = true)
    (a3 : PySem.W.nsIn K mainGlobals "literal_implies" = some (some (.ref f3))) (l3 : K.lookup f3 = some ⟨oc3, od3, .func (PySem.W.fnOf "literal_implies" "literal_implies" (defArgs s_literal_implies) (defBody s_literal_implies) (defScope s_literal_implies) .none kV3 dc3 pm3 an3 cd3 ct3), sl3⟩) (c3 : PySem.W.codeIn K cd3 "literal_implies" = true) (k3 : PySem.W.keepIn K (.ref f3) = true)
    (a4 : PySem.W.nsIn K mainGlobals "terms_sum" = some (some (.ref f4))) (l4 : K.lookup f4 = some ⟨oc4, od4, .func (PySem.W.fnOf "terms_sum" "terms_sum" (defArgs s_terms_sum) (defBody s_terms_sum) (defScope s_terms_sum) .none kV4 dc4 pm4 an4 cd4 ct4), sl4⟩) (c4 : PySem.W.codeIn K cd4 "terms_sum" = true) (k4 : PySem.W.keepIn K (.ref f4) = true)
    (a5 : PySem.W.nsIn K mainGlobals "negated_terms" = some (some (.ref f5))) (l5 : K.lookup f5 = some ⟨oc5, od5, .func (PySem.W.fnOf "negated_terms" "negated_terms" (defArgs s_negated_terms) (defBody s_negated_terms) (defScope s_negated_terms) .none kV5 dc5 pm5 an5 cd5 ct5), sl5⟩) (c5 : PySem.W.codeIn K cd5 "negated_terms" = true) (k5 : PySem.W.keepIn K (.ref f5) = true)
    (a6 : PySem.W.nsIn K mainGlobals "fact_holds" = some (some (.ref f6))) (l6 : K.lookup f6 = some ⟨oc6, od6, .func (PySem.W.fnOf "fact_holds" "fact_holds" (defArgs s_fact_holds) (defBody s_fact_holds) (defScope s_fact_holds) .none kV6 dc6 pm6 an6 cd6 ct6), sl6⟩) (c6 : PySem.W.codeIn K cd6 "fact_holds" = true) (k6 : PySem.W.keepIn K (.ref f6) = true)
    (a7 : PySem.W.nsIn K mainGlobals "is_contradiction" = some (some (.ref f7))) (l7 : K.lookup f7 = some ⟨oc7, od7, .func (PySem.W.fnOf "is_contradiction" "is_contradiction" (defArgs s_is_contradiction) (defBody s_is_contradiction) (defScope s_is_contradiction) .none kV7 dc7 pm7 an7 cd7 ct7), sl7⟩) (c7 : PySem.W.codeIn K cd7 "is_contradiction" = true) (k7 : PySem.W.keepIn K (.ref f7) = true)
    (a8 : PySem.W.nsIn K mainGlobals "as_row" = some (some (.ref f8))) (l8 : K.lookup f8 = some ⟨oc8, od8, .func (PySem.W.fnOf "as_row" "as_row" (defArgs s_as_row) (defBody s_as_row) (defScope s_as_row) .none kV8 dc8 pm8 an8 cd8 ct8), sl8⟩) (c8 : PySem.W.codeIn K cd8 "as_row" = true) (k8 : PySem.W.keepIn K (.ref f8) = true)
    (a9 : PySem.W.nsIn K mainGlobals "as_literal" = some (some (.ref f9))) (l9 : K.lookup f9 = some ⟨oc9, od9, .func (PySem.W.fnOf "as_literal" "as_literal" (defArgs s_as_literal) (defBody s_as_literal) (defScope s_as_literal) .none kV9 dc9 pm9 an9 cd9 ct9), sl9⟩) (c9 : PySem.W.codeIn K cd9 "as_literal" = true) (k9 : PySem.W.keepIn K (.ref f9) = true)
    (a10 : PySem.W.nsIn K mainGlobals "negation" = some (some (.ref f10))) (l10 : K.lookup f10 = some ⟨oc10, od10, .func (PySem.W.fnOf "negation" "negation" (defArgs s_negation) (defBody s_negation) (defScope s_negation) .none kV10 dc10 pm10 an10 cd10 ct10), sl10⟩) (c10 : PySem.W.codeIn K cd10 "negation" = true) (k10 : PySem.W.keepIn K (.ref f10) = true)
    (a11 : PySem.W.nsIn K mainGlobals "literals_imply" = some (some (.ref f11))) (l11 : K.lookup f11 = some ⟨oc11, od11, .func (PySem.W.fnOf "literals_imply" "literals_imply" (defArgs s_literals_imply) (defBody s_literals_imply) (defScope s_literals_imply) .none kV11 dc11 pm11 an11 cd11 ct11), sl11⟩) (c11 : PySem.W.codeIn K cd11 "literals_imply" = true) (k11 : PySem.W.keepIn K (.ref f11) = true)
    (a12 : PySem.W.nsIn K mainGlobals "implies" = some (some (.ref f12))) (l12 : K.lookup f12 = some ⟨oc12, od12, .func (PySem.W.fnOf "implies" "implies" (defArgs s_implies) (defBody s_implies) (defScope s_implies) .none kV12 dc12 pm12 an12 cd12 ct12), sl12⟩) (c12 : PySem.W.codeIn K cd12 "implies" = true) (k12 : PySem.W.keepIn K (.ref f12) = true)
    (a13 : PySem.W.nsIn K mainGlobals "unknowns_in" = some (some (.ref f13))) (l13 : K.lookup f13 = some ⟨oc13, od13, .func (PySem.W.fnOf "unknowns_in" "unknowns_in" (defArgs s_unknowns_in) (defBody s_unknowns_in) (defScope s_unknowns_in) .none kV13 dc13 pm13 an13 cd13 ct13), sl13⟩) (c13 : PySem.W.codeIn K cd13 "unknowns_in" = true) (k13 : PySem.W.keepIn K (.ref f13) = true)
    (a14 : PySem.W.nsIn K mainGlobals "_law_state" = some (some (.ref f14))) (l14 : K.lookup f14 = some ⟨oc14, od14, .func (PySem.W.fnOf "_law_state" "_law_state" (defArgs s_law_state) (defBody s_law_state) (defScope s_law_state) .none kV14 dc14 pm14 an14 cd14 ct14), sl14⟩) (c14 : PySem.W.codeIn K cd14 "_law_state" = true) (k14 : PySem.W.keepIn K (.ref f14) = true)
    (a15 : PySem.W.nsIn K mainGlobals "_law_draw" = some (some (.ref f15))) (l15 : K.lookup f15 = some ⟨oc15, od15, .func (PySem.W.fnOf "_law_draw" "_law_draw" (defArgs s_law_draw) (defBody s_law_draw) (defScope s_law_draw) .none kV15 dc15 pm15 an15 cd15 ct15), sl15⟩) (c15 : PySem.W.codeIn K cd15 "_law_draw" = true) (k15 : PySem.W.keepIn K (.ref f15) = true)
    (a16 : PySem.W.nsIn K mainGlobals "_law_points" = some (some (.ref f16))) (l16 : K.lookup f16 = some ⟨oc16, od16, .func (PySem.W.fnOf "_law_points" "_law_points" (defArgs s_law_points) (defBody s_law_points) (defScope s_law_points) .none kV16 dc16 pm16 an16 cd16 ct16), sl16⟩) (c16 : PySem.W.codeIn K cd16 "_law_points" = true) (k16 : PySem.W.keepIn K (.ref f16) = true)
    (a17 : PySem.W.nsIn K mainGlobals "_law_stands" = some (some (.ref f17))) (l17 : K.lookup f17 = some ⟨oc17, od17, .func (PySem.W.fnOf "_law_stands" "_law_stands" (defArgs s_law_stands) (defBody s_law_stands) (defScope s_law_stands) .none kV17 dc17 pm17 an17 cd17 ct17), sl17⟩) (c17 : PySem.W.codeIn K cd17 "_law_stands" = true) (k17 : PySem.W.keepIn K (.ref f17) = true)
    (a18 : PySem.W.nsIn K mainGlobals "_law_sum" = some (some (.ref f18))) (l18 : K.lookup f18 = some ⟨oc18, od18, .func (PySem.W.fnOf "_law_sum" "_law_sum" (defArgs s_law_sum) (defBody s_law_sum) (defScope s_law_sum) .none kV18 dc18 pm18 an18 cd18 ct18), sl18⟩) (c18 : PySem.W.codeIn K cd18 "_law_sum" = true) (k18 : PySem.W.keepIn K (.ref f18) = true)
    (a19 : PySem.W.nsIn K mainGlobals "_law_some_terms" = some (some (.ref f19))) (l19 : K.lookup f19 = some ⟨oc19, od19, .func (PySem.W.fnOf "_law_some_terms" "_law_some_terms" (defArgs s_law_some_terms) (defBody s_law_some_terms) (defScope s_law_some_terms) .none kV19 dc19 pm19 an19 cd19 ct19), sl19⟩) (c19 : PySem.W.codeIn K cd19 "_law_some_terms" = true) (k19 : PySem.W.keepIn K (.ref f19) = true)
    (a20 : PySem.W.nsIn K mainGlobals "_law_literal" = some (some (.ref f20))) (l20 : K.lookup f20 = some ⟨oc20, od20, .func (PySem.W.fnOf "_law_literal" "_law_literal" (defArgs s_law_literal) (defBody s_law_literal) (defScope s_law_literal) .none kV20 dc20 pm20 an20 cd20 ct20), sl20⟩) (c20 : PySem.W.codeIn K cd20 "_law_literal" = true) (k20 : PySem.W.keepIn K (.ref f20) = true)
    (a21 : PySem.W.nsIn K mainGlobals "_law_fact" = some (some (.ref f21))) (l21 : K.lookup f21 = some ⟨oc21, od21, .func (PySem.W.fnOf "_law_fact" "_law_fact" (defArgs s_law_fact) (defBody s_law_fact) (defScope s_law_fact) .none kV21 dc21 pm21 an21 cd21 ct21), sl21⟩) (c21 : PySem.W.codeIn K cd21 "_law_fact" = true) (k21 : PySem.W.keepIn K (.ref f21) = true)
    (a22 : PySem.W.nsIn K mainGlobals "_law_fact_stands" = some (some (.ref f22))) (l22 : K.lookup f22 = some ⟨oc22, od22, .func (PySem.W.fnOf "_law_fact_stands" "_law_fact_stands" (defArgs s_law_fact_stands) (defBody s_law_fact_stands) (defScope s_law_fact_stands) .none kV22 dc22 pm22 an22 cd22 ct22), sl22⟩) (c22 : PySem.W.codeIn K cd22 "_law_fact_stands" = true) (k22 : PySem.W.keepIn K (.ref f22) = true)
    (a23 : PySem.W.nsIn K mainGlobals "law" = some (some (.ref f23))) (l23 : K.lookup f23 = some ⟨oc23, od23, .func (PySem.W.fnOf "law" "law" (defArgs s_law) (defBody s_law) (defScope s_law) .none kV23 dc23 pm23 an23 cd23 ct23), sl23⟩) (c23 : PySem.W.codeIn K cd23 "law" = true) (k23 : PySem.W.keepIn K (.ref f23) = true) :
    ∃ fd : FuncData, (∀ (s : Shared) (v : Value), BindsTo s fd ⟨[v], []⟩ [("script", v)]) ∧ ∀ base : Heap, K.In base → base.Ns mainGlobals mg → FnOk l.prog w K mg base CX0 5 fa fd ["script"] (spP K sp_law) := by
  have e := hfa.symm.trans (PySem.W.mg_of X G a23)
  cases e
  have F0 := fun_mk (st := s_relation_holds) l0 c0 k0
  have F1 := fun_mk (st := s_literal_holds) l1 c1 k1
  have F2 := fun_mk (st := s_negated) l2 c2 k2
  have F3 := fun_mk (st := s_literal_implies) l3 c3 k3
  have F4 := fun_mk (st := s_terms_sum) l4 c4 k4
  have F5 := fun_mk (st := s_negated_terms) l5 c5 k5
  have F6 := fun_mk (st := s_fact_holds) l6 c6 k6
  have F7 := fun_mk (st := s_is_contradiction) l7 c7 k7
  have F8 := fun_mk (st := s_as_row) l8 c8 k8
  have F9 := fun_mk (st := s_as_literal) l9 c9 k9
  have F10 := fun_mk (st := s_negation) l10 c10 k10
  have F11 := fun_mk (st := s_literals_imply) l11 c11 k11
  have F12 := fun_mk (st := s_implies) l12 c12 k12
  have F13 := fun_mk (st := s_unknowns_in) l13 c13 k13
  have F14 := fun_mk (st := s_law_state) l14 c14 k14
  have F15 := fun_mk (st := s_law_draw) l15 c15 k15
  have F16 := fun_mk (st := s_law_points) l16 c16 k16
  have F17 := fun_mk (st := s_law_stands) l17 c17 k17
  have F18 := fun_mk (st := s_law_sum) l18 c18 k18
  have F19 := fun_mk (st := s_law_some_terms) l19 c19 k19
  have F20 := fun_mk (st := s_law_literal) l20 c20 k20
  have F21 := fun_mk (st := s_law_fact) l21 c21 k21
  have F22 := fun_mk (st := s_law_fact_stands) l22 c22 k22
  have F23 := fun_mk (st := s_law) l23 c23 k23
  have T : Txt K mg ⟨f0, (PySem.W.fnOf "relation_holds" "relation_holds" (defArgs s_relation_holds) (defBody s_relation_holds) (defScope s_relation_holds) .none kV0 dc0 pm0 an0 cd0 ct0), f1, (PySem.W.fnOf "literal_holds" "literal_holds" (defArgs s_literal_holds) (defBody s_literal_holds) (defScope s_literal_holds) .none kV1 dc1 pm1 an1 cd1 ct1), f2, (PySem.W.fnOf "negated" "negated" (defArgs s_negated) (defBody s_negated) (defScope s_negated) .none kV2 dc2 pm2 an2 cd2 ct2), f3, (PySem.W.fnOf "literal_implies" "literal_implies" (defArgs s_literal_implies) (defBody s_literal_implies) (defScope s_literal_implies) .none kV3 dc3 pm3 an3 cd3 ct3), f4, (PySem.W.fnOf "terms_sum" "terms_sum" (defArgs s_terms_sum) (defBody s_terms_sum) (defScope s_terms_sum) .none kV4 dc4 pm4 an4 cd4 ct4), f5, (PySem.W.fnOf "negated_terms" "negated_terms" (defArgs s_negated_terms) (defBody s_negated_terms) (defScope s_negated_terms) .none kV5 dc5 pm5 an5 cd5 ct5), f6, (PySem.W.fnOf "fact_holds" "fact_holds" (defArgs s_fact_holds) (defBody s_fact_holds) (defScope s_fact_holds) .none kV6 dc6 pm6 an6 cd6 ct6), f7, (PySem.W.fnOf "is_contradiction" "is_contradiction" (defArgs s_is_contradiction) (defBody s_is_contradiction) (defScope s_is_contradiction) .none kV7 dc7 pm7 an7 cd7 ct7), f8, (PySem.W.fnOf "as_row" "as_row" (defArgs s_as_row) (defBody s_as_row) (defScope s_as_row) .none kV8 dc8 pm8 an8 cd8 ct8), f9, (PySem.W.fnOf "as_literal" "as_literal" (defArgs s_as_literal) (defBody s_as_literal) (defScope s_as_literal) .none kV9 dc9 pm9 an9 cd9 ct9), f10, (PySem.W.fnOf "negation" "negation" (defArgs s_negation) (defBody s_negation) (defScope s_negation) .none kV10 dc10 pm10 an10 cd10 ct10), f11, (PySem.W.fnOf "literals_imply" "literals_imply" (defArgs s_literals_imply) (defBody s_literals_imply) (defScope s_literals_imply) .none kV11 dc11 pm11 an11 cd11 ct11), f12, (PySem.W.fnOf "implies" "implies" (defArgs s_implies) (defBody s_implies) (defScope s_implies) .none kV12 dc12 pm12 an12 cd12 ct12), f13, (PySem.W.fnOf "unknowns_in" "unknowns_in" (defArgs s_unknowns_in) (defBody s_unknowns_in) (defScope s_unknowns_in) .none kV13 dc13 pm13 an13 cd13 ct13), f14, (PySem.W.fnOf "_law_state" "_law_state" (defArgs s_law_state) (defBody s_law_state) (defScope s_law_state) .none kV14 dc14 pm14 an14 cd14 ct14), f15, (PySem.W.fnOf "_law_draw" "_law_draw" (defArgs s_law_draw) (defBody s_law_draw) (defScope s_law_draw) .none kV15 dc15 pm15 an15 cd15 ct15), f16, (PySem.W.fnOf "_law_points" "_law_points" (defArgs s_law_points) (defBody s_law_points) (defScope s_law_points) .none kV16 dc16 pm16 an16 cd16 ct16), f17, (PySem.W.fnOf "_law_stands" "_law_stands" (defArgs s_law_stands) (defBody s_law_stands) (defScope s_law_stands) .none kV17 dc17 pm17 an17 cd17 ct17), f18, (PySem.W.fnOf "_law_sum" "_law_sum" (defArgs s_law_sum) (defBody s_law_sum) (defScope s_law_sum) .none kV18 dc18 pm18 an18 cd18 ct18), f19, (PySem.W.fnOf "_law_some_terms" "_law_some_terms" (defArgs s_law_some_terms) (defBody s_law_some_terms) (defScope s_law_some_terms) .none kV19 dc19 pm19 an19 cd19 ct19), f20, (PySem.W.fnOf "_law_literal" "_law_literal" (defArgs s_law_literal) (defBody s_law_literal) (defScope s_law_literal) .none kV20 dc20 pm20 an20 cd20 ct20), f21, (PySem.W.fnOf "_law_fact" "_law_fact" (defArgs s_law_fact) (defBody s_law_fact) (defScope s_law_fact) .none kV21 dc21 pm21 an21 cd21 ct21), f22, (PySem.W.fnOf "_law_fact_stands" "_law_fact_stands" (defArgs s_law_fact_stands) (defBody s_law_fact_stands) (defScope s_law_fact_stands) .none kV22 dc22 pm22 an22 cd22 ct22), fa, (PySem.W.fnOf "law" "law" (defArgs s_law) (defBody s_law) (defScope s_law) .none kV23 dc23 pm23 an23 cd23 ct23)⟩ := ⟨PySem.W.mg_none_of X G z_all,
    PySem.W.mg_none_of X G z_any,
    PySem.W.mg_none_of X G z_int,
    PySem.W.mg_none_of X G z_len,
    PySem.W.mg_none_of X G z_min,
    PySem.W.mg_none_of X G z_range,
    PySem.W.mg_none_of X G z_set,
    PySem.W.mg_none_of X G z_sorted,
    PySem.W.mg_none_of X G z_sum,
    PySem.W.mg_none_of X G z_tuple,
    ⟨F0, PySem.W.mg_of X G a0, F0.binds (ps := ["relation", "left", "right"]) fun _ _ _ _ _ _ us hl => match us, hl with | [_, _, _], _ => rfl⟩,
    ⟨F1, PySem.W.mg_of X G a1, F1.binds (ps := ["literal", "worth"]) fun _ _ _ _ _ _ us hl => match us, hl with | [_, _], _ => rfl⟩,
    ⟨F2, PySem.W.mg_of X G a2, F2.binds (ps := ["literal"]) fun _ _ _ _ _ _ us hl => match us, hl with | [_], _ => rfl⟩,
    ⟨F3, PySem.W.mg_of X G a3, F3.binds (ps := ["first", "second"]) fun _ _ _ _ _ _ us hl => match us, hl with | [_, _], _ => rfl⟩,
    ⟨F4, PySem.W.mg_of X G a4, F4.binds (ps := ["terms", "point"]) fun _ _ _ _ _ _ us hl => match us, hl with | [_, _], _ => rfl⟩,
    ⟨F5, PySem.W.mg_of X G a5, F5.binds (ps := ["terms"]) fun _ _ _ _ _ _ us hl => match us, hl with | [_], _ => rfl⟩,
    ⟨F6, PySem.W.mg_of X G a6, F6.binds (ps := ["fact", "point"]) fun _ _ _ _ _ _ us hl => match us, hl with | [_, _], _ => rfl⟩,
    ⟨F7, PySem.W.mg_of X G a7, F7.binds (ps := ["fact"]) fun _ _ _ _ _ _ us hl => match us, hl with | [_], _ => rfl⟩,
    ⟨F8, PySem.W.mg_of X G a8, F8.binds (ps := ["fact"]) fun _ _ _ _ _ _ us hl => match us, hl with | [_], _ => rfl⟩,
    ⟨F9, PySem.W.mg_of X G a9, F9.binds (ps := ["fact"]) fun _ _ _ _ _ _ us hl => match us, hl with | [_], _ => rfl⟩,
    ⟨F10, PySem.W.mg_of X G a10, F10.binds (ps := ["fact"]) fun _ _ _ _ _ _ us hl => match us, hl with | [_], _ => rfl⟩,
    ⟨F11, PySem.W.mg_of X G a11, F11.binds (ps := ["first", "second"]) fun _ _ _ _ _ _ us hl => match us, hl with | [_, _], _ => rfl⟩,
    ⟨F12, PySem.W.mg_of X G a12, F12.binds (ps := ["first", "second"]) fun _ _ _ _ _ _ us hl => match us, hl with | [_, _], _ => rfl⟩,
    ⟨F13, PySem.W.mg_of X G a13, F13.binds (ps := ["fact"]) fun _ _ _ _ _ _ us hl => match us, hl with | [_], _ => rfl⟩,
    ⟨F14, PySem.W.mg_of X G a14, F14.binds (ps := ["script", "k", "salt"]) fun _ _ _ _ _ _ us hl => match us, hl with | [_, _, _], _ => rfl⟩,
    ⟨F15, PySem.W.mg_of X G a15, F15.binds (ps := ["state", "many"]) fun _ _ _ _ _ _ us hl => match us, hl with | [_, _], _ => rfl⟩,
    ⟨F16, PySem.W.mg_of X G a16, F16.binds (ps := ["ranges"]) fun _ _ _ _ _ _ us hl => match us, hl with | [_], _ => rfl⟩,
    ⟨F17, PySem.W.mg_of X G a17, F17.binds (ps := ["relation", "left", "right"]) fun _ _ _ _ _ _ us hl => match us, hl with | [_, _, _], _ => rfl⟩,
    ⟨F18, PySem.W.mg_of X G a18, F18.binds (ps := ["terms", "point"]) fun _ _ _ _ _ _ us hl => match us, hl with | [_, _], _ => rfl⟩,
    ⟨F19, PySem.W.mg_of X G a19, F19.binds (ps := ["state", "many"]) fun _ _ _ _ _ _ us hl => match us, hl with | [_, _], _ => rfl⟩,
    ⟨F20, PySem.W.mg_of X G a20, F20.binds (ps := ["state", "ranges", "v"]) fun _ _ _ _ _ _ us hl => match us, hl with | [_, _, _], _ => rfl⟩,
    ⟨F21, PySem.W.mg_of X G a21, F21.binds (ps := ["state"]) fun _ _ _ _ _ _ us hl => match us, hl with | [_], _ => rfl⟩,
    ⟨F22, PySem.W.mg_of X G a22, F22.binds (ps := ["fact", "point"]) fun _ _ _ _ _ _ us hl => match us, hl with | [_, _], _ => rfl⟩,
    ⟨F23, PySem.W.mg_of X G a23, F23.binds (ps := ["script"]) fun _ _ _ _ _ _ us hl => match us, hl with | [_], _ => rfl⟩⟩
  exact ⟨(PySem.W.fnOf "law" "law" (defArgs s_law) (defBody s_law) (defScope s_law) .none kV23 dc23 pm23 an23 cd23 ct23), fun s v => .of_eq rfl, fun base _ _ => g_law T⟩
theorem walk {l : PySem.W.OpenLaw} {q : Program} {loose : List Str} {XP : (Str → Option Value) → Heap → Prop} {YP : World → Heap → Prop} {d : DefRec} {K : Params → PySem.W.Frag} (hn : l.most = some 63) (hdf : d.params.defaults = [])
    (hY : ∀ (w : World) (h : Heap), YP w h → (K w.params).In h)
    (F : ∀ (w : World) (mg : Str → Option Value) (fa : Addr) (h : Heap), (K w.params).In h → h.Ns mainGlobals mg → mg d.name = some (.ref fa) →
      ∃ fd : FuncData, (∀ (s : Shared) (u : Value), BindsTo s fd ⟨[u], []⟩ [("script", u)]) ∧ ∀ base : Heap, (K w.params).In base → base.Ns mainGlobals mg → FnOk l.prog w (K w.params) mg base CX0 5 fa fd ["script"] (spP (K w.params) sp_law)) :
    PySem.W.WalkO q loose XP YP l.row.toRowW d [] (fun f vs => PySem.call f vs) :=
  walk_data hn hdf ⟨rfl, by decide, by decide⟩ hY F

end Cf
end Sdrv
open PySem PySem.W PyProof.Rows in
set_option maxHeartbeats 0 in
theorem PySem.Challenge.cw_commonfront_k01_whole_facts_and_what_den_holds : PySem.Challenge.rw_commonfront_k01_whole_facts_and_what_den.Holds := by
  w_on; o_law; k_head; (case hw => w_witness2)
  k_fill
  refine Cf.walk (l := PySem.Challenge.rw_commonfront_k01_whole_facts_and_what_den) rfl rfl (fun w h Y => PySem.W.kIn_of Y) ?F
  case F =>
    intro w mg fa h KX G hmg
    refine' Cf.all_mk KX G hmg ?z_all ?z_any ?z_int ?z_len ?z_min ?z_range ?z_set ?z_sorted ?z_sum ?z_tuple ?a0 ?l0 ?c0 ?k0 ?a1 ?l1 ?c1 ?k1 ?a2 ?l2 ?c2 ?k2 ?a3 ?l3 ?c3 ?k3 ?a4 ?l4 ?c4 ?k4 ?a5 ?l5 ?c5 ?k5 ?a6 ?l6 ?c6 ?k6 ?a7 ?l7 ?c7 ?k7 ?a8 ?l8 ?c8 ?k8 ?a9 ?l9 ?c9 ?k9 ?a10 ?l10 ?c10 ?k10 ?a11 ?l11 ?c11 ?k11 ?a12 ?l12 ?c12 ?k12 ?a13 ?l13 ?c13 ?k13 ?a14 ?l14 ?c14 ?k14 ?a15 ?l15 ?c15 ?k15 ?a16 ?l16 ?c16 ?k16 ?a17 ?l17 ?c17 ?k17 ?a18 ?l18 ?c18 ?k18 ?a19 ?l19 ?c19 ?k19 ?a20 ?l20 ?c20 ?k20 ?a21 ?l21 ?c21 ?k21 ?a22 ?l22 ?c22 ?k22 ?a23 ?l23 ?c23 ?k23
    (case z_all => k_is)
    (case z_any => k_is)
    (case z_int => k_is)
    (case z_len => k_is)
    (case z_min => k_is)
    (case z_range => k_is)
    (case z_set => k_is)
    (case z_sorted => k_is)
    (case z_sum => k_is)
    (case z_tuple => k_is)
    (case a0 => k_is)
    (case l0 => k_is)
    (case c0 => k_is)
    (case k0 => k_is)
    (case a1 => k_is)
    (case l1 => k_is)
    (case c1 => k_is)
    (case k1 => k_is)
    (case a2 => k_is)
    (case l2 => k_is)
    (case c2 => k_is)
    (case k2 => k_is)
    (case a3 => k_is)
    (case l3 => k_is)
    (case c3 => k_is)
    (case k3 => k_is)
    (case a4 => k_is)
    (case l4 => k_is)
    (case c4 => k_is)
    (case k4 => k_is)
    (case a5 => k_is)
    (case l5 => k_is)
    (case c5 => k_is)
    (case k5 => k_is)
    (case a6 => k_is)
    (case l6 => k_is)
    (case c6 => k_is)
    (case k6 => k_is)
    (case a7 => k_is)
    (case l7 => k_is)
    (case c7 => k_is)
    (case k7 => k_is)
    (case a8 => k_is)
    (case l8 => k_is)
    (case c8 => k_is)
    (case k8 => k_is)
    (case a9 => k_is)
    (case l9 => k_is)
    (case c9 => k_is)
    (case k9 => k_is)
    (case a10 => k_is)
    (case l10 => k_is)
    (case c10 => k_is)
    (case k10 => k_is)
    (case a11 => k_is)
    (case l11 => k_is)
    (case c11 => k_is)
    (case k11 => k_is)
    (case a12 => k_is)
    (case l12 => k_is)
    (case c12 => k_is)
    (case k12 => k_is)
    (case a13 => k_is)
    (case l13 => k_is)
    (case c13 => k_is)
    (case k13 => k_is)
    (case a14 => k_is)
    (case l14 => k_is)
    (case c14 => k_is)
    (case k14 => k_is)
    (case a15 => k_is)
    (case l15 => k_is)
    (case c15 => k_is)
    (case k15 => k_is)
    (case a16 => k_is)
    (case l16 => k_is)
    (case c16 => k_is)
    (case k16 => k_is)
    (case a17 => k_is)
    (case l17 => k_is)
    (case c17 => k_is)
    (case k17 => k_is)
    (case a18 => k_is)
    (case l18 => k_is)
    (case c18 => k_is)
    (case k18 => k_is)
    (case a19 => k_is)
    (case l19 => k_is)
    (case c19 => k_is)
    (case k19 => k_is)
    (case a20 => k_is)
    (case l20 => k_is)
    (case c20 => k_is)
    (case k20 => k_is)
    (case a21 => k_is)
    (case l21 => k_is)
    (case c21 => k_is)
    (case k21 => k_is)
    (case a22 => k_is)
    (case l22 => k_is)
    (case c22 => k_is)
    (case k22 => k_is)
    (case a23 => k_is)
    (case l23 => k_is)
    (case c23 => k_is)
    (case k23 => k_is)
