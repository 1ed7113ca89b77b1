import PyProof.Rows.All
import Wide.All
import OpenK.AllK
import Wide.FinOn
import PySem.Challenge.RW_gradewish_k01_shares
import HandS.ForMost
import HandS.ForExc
import HandS.Wide
import HandS.Style
import HandS.IsInst
import HandS.TupAny
import HandS.TupMul
set_option Elab.async false
set_option linter.all false
set_option maxRecDepth 100000
set_option maxHeartbeats 4000000
set_option exponentiation.threshold 20000
namespace GW
open PySem PySem.Spec PyProof.Rows L2

abbrev D := PyData
variable {K : PySem.W.Frag}

theorem rd_same {H H' : Hp} {a : Addr} {u : HO} (e : Same H H') (h : Rd H a u) : Rd H' a u := by
  rcases h with h | ⟨o, h⟩
  · exact .inl (e _ _ h)
  · exact .inr ⟨o, e _ _ h⟩
theorem sql_same {H H' : Hp} {a : Addr} {xs : List V} (e : Same H H') (h : SqL K H a xs) : SqL K H' a xs := by
  rcases h with h | h
  · exact .inl (rd_same e h)
  · exact .inr h
theorem sqt_same {H H' : Hp} {a : Addr} {xs : List V} (e : Same H H') (h : SqT K H a xs) : SqT K H' a xs := by
  rcases h with h | h
  · exact .inl (rd_same e h)
  · exact .inr h
mutual
theorem dp_same {H H' : Hp} (e : Same H H') : ∀ {d : D} {v : V}, Dp K H v d → Dp K H' v d
  | .none, _, h => by cases h; exact .non
  | .bool b, _, h => by cases h; exact .bl b
  | .int i, _, h => by cases h; exact .int i
  | .str x, _, h => by cases h; exact .str x
  | .list ds, _, h => by cases h with | lst hs ha => exact .lst (sql_same e hs) (dps_same e ha)
  | .tuple ds, _, h => by cases h with | tup hs ha => exact .tup (sqt_same e hs) (dps_same e ha)
  | .dict _, _, h => by cases h
theorem dps_same {H H' : Hp} (e : Same H H') : ∀ {ds : List D} {vs : List V}, DpAll K H vs ds → DpAll K H' vs ds
  | [], _, h => by cases h; exact .nil
  | d :: ds, _, h => by cases h with | cons h1 h2 => exact .cons (dp_same e h1) (dps_same e h2)
end
theorem dps_len {H : Hp} : ∀ {vs : List V} {ds : List D}, DpAll K H vs ds → vs.length = ds.length
  | _, _, .nil => rfl
  | _, _, .cons _ t => by rw [List.length_cons, List.length_cons, dps_len t]
theorem dps_get {H : Hp} : ∀ {vs : List V} {ds : List D} {i : Nat} {d : D}, DpAll K H vs ds → ds[i]? = some d → ∃ v, vs[i]? = some v ∧ Dp K H v d
  | _, _, _, _, .nil, e => by simp at e
  | _, _, 0, _, .cons r _, e => by simp at e; subst e; exact ⟨_, rfl, r⟩
  | _, _, i + 1, d, .cons _ t, e => by
    obtain ⟨v, h1, h2⟩ := dps_get (i := i) (d := d) t (by simpa using e)
    exact ⟨v, by simpa using h1, h2⟩
theorem dps_get' {H : Hp} : ∀ {vs : List V} {ds : List D} {i : Nat} {v : V}, DpAll K H vs ds → vs[i]? = some v → ∃ d, ds[i]? = some d ∧ Dp K H v d
  | _, _, _, _, .nil, e => by simp at e
  | _, _, 0, _, .cons r _, e => by simp at e; subst e; exact ⟨_, rfl, r⟩
  | _, _, i + 1, d, .cons _ t, e => by
    obtain ⟨v, h1, h2⟩ := dps_get' (i := i) (v := d) t (by simpa using e)
    exact ⟨v, by simpa using h1, h2⟩
theorem dps_app {H : Hp} : ∀ {vs ws : List V} {ds es : List D}, DpAll K H vs ds → DpAll K H ws es → DpAll K H (vs ++ ws) (ds ++ es)
  | _, _, _, _, .nil, s => s
  | _, _, _, _, .cons r t, s => .cons r (dps_app t s)
theorem dps_set {H : Hp} : ∀ {vs : List V} {ds : List D} (i : Nat) {v : V} {d : D}, Dp K H v d → DpAll K H vs ds → DpAll K H (vs.set i v) (ds.set i d)
  | _, _, _, _, _, _, .nil => .nil
  | _, _, 0, _, _, r, .cons _ t => .cons r t
  | _, _, i + 1, _, _, r, .cons q t => .cons q (dps_set i r t)
theorem dps_take {H : Hp} : ∀ {vs : List V} {ds : List D} (n : Nat), DpAll K H vs ds → DpAll K H (vs.take n) (ds.take n)
  | _, _, 0, _ => .nil
  | _, _, _ + 1, .nil => .nil
  | _, _, n + 1, .cons r t => .cons r (dps_take n t)
theorem dps_drop {H : Hp} : ∀ {vs : List V} {ds : List D} (n : Nat), DpAll K H vs ds → DpAll K H (vs.drop n) (ds.drop n)
  | _, _, 0, r => r
  | _, _, _ + 1, .nil => .nil
  | _, _, n + 1, .cons _ t => dps_drop n t
theorem dp_int {H : Hp} {v : V} {i : Int} (h : Dp K H v (.int i)) : v = .int i := by cases h; rfl
theorem dp_bl {H : Hp} {v : V} {b : Bool} (h : Dp K H v (.bool b)) : v = .bl b := by cases h; rfl
theorem dp_str {H : Hp} {v : V} {x : Str} (h : Dp K H v (.str x)) : v = .str x := by cases h; rfl
theorem dp_non {H : Hp} {v : V} (h : Dp K H v .none) : v = .non := by cases h; rfl
theorem dp_tup {H : Hp} {v : V} {ds : List D} (h : Dp K H v (.tuple ds)) : ∃ a xs, v = .ref a ∧ SqT K H a xs ∧ DpAll K H xs ds := by cases h with | tup hs ha => exact ⟨_, _, rfl, hs, ha⟩
theorem dp_lst {H : Hp} {v : V} {ds : List D} (h : Dp K H v (.list ds)) : ∃ a xs, v = .ref a ∧ SqL K H a xs ∧ DpAll K H xs ds := by cases h with | lst hs ha => exact ⟨_, _, rfl, hs, ha⟩
theorem dps1 {H : Hp} {vs : List V} {d : D} (h : DpAll K H vs [d]) : ∃ v, vs = [v] ∧ Dp K H v d := by
  cases h with | cons r t => cases t; exact ⟨_, rfl, r⟩
theorem dps2 {H : Hp} {vs : List V} {d e : D} (h : DpAll K H vs [d, e]) : ∃ v w, vs = [v, w] ∧ Dp K H v d ∧ Dp K H w e := by
  cases h with | cons r t => cases t with | cons r2 t => cases t; exact ⟨_, _, rfl, r, r2⟩
theorem dps_ints {H : Hp} : ∀ {vs : List V} {ns : List Int}, DpAll K H vs (ns.map PyData.int) → vs = ns.map V.int
  | _, [], h => by cases h; rfl
  | _, n :: ns, h => by
    cases h with
    | cons r t =>
      rw [dp_int r, dps_ints t]
      rfl
theorem ints_dps {H : Hp} : ∀ (ns : List Int), DpAll K H (ns.map V.int) (ns.map PyData.int)
  | [] => .nil
  | n :: ns => .cons (.int n) (ints_dps ns)

def del (O : List Addr) (H : Hp) : Hp := fun a => if a ∈ O then none else H a
theorem del_in {O : List Addr} {H : Hp} {a : Addr} (h : a ∈ O) : del O H a = none := if_pos h
theorem del_out {O : List Addr} {H : Hp} {a : Addr} (h : a ∉ O) : del O H a = H a := if_neg h
theorem del_same {O : List Addr} {H : Hp} : Same (del O H) H := fun a o e => by
  by_cases h : a ∈ O
  · rw [del_in h] at e; cases e
  · rw [del_out h] at e; exact e
theorem del_sub {O O' : List Addr} {H : Hp} (s : ∀ a, a ∈ O' → a ∈ O) : Same (del O H) (del O' H) := fun a o e => by
  by_cases h : a ∈ O
  · rw [del_in h] at e; cases e
  · rw [del_out h] at e; rw [del_out (fun z => h (s a z))]; exact e
theorem del_grow {O : List Addr} {H H' : Hp} (e : Same H H') : Same (del O H) (del O H') := fun a o q => by
  by_cases h : a ∈ O
  · rw [del_in h] at q; cases q
  · rw [del_out h] at q ⊢; exact e a o q
theorem del_nil {H : Hp} : del [] H = H := funext fun a => del_out (by simp)
theorem del_upd_in {O : List Addr} {H : Hp} {a : Addr} {o : HO} (h : a ∈ O) : del O (upd H a o) = del O H := funext fun b => by
  by_cases hb : b ∈ O
  · rw [del_in hb, del_in hb]
  · rw [del_out hb, del_out hb, upd_ne (fun z => hb (by rw [z]; exact h))]
theorem same_upd {H : Hp} {p : Addr} {o : HO} (h : H p = none) : Same H (upd H p o) := fun b x e => by
  rw [upd_ne (ne_of_none e h)]
  exact e

inductive Sl where
  | un
  | im (d : D)
  | ow (p : Addr) (ds : List D)
def owns : List Sl → List Addr
  | [] => []
  | .un :: r => owns r
  | .im _ :: r => owns r
  | .ow p _ :: r => p :: owns r
def SlOk (K : PySem.W.Frag) (O : List Addr) (H : Hp) (s : Option V) : Sl → Prop
  | .un => True
  | .im d => ∃ v, s = some v ∧ Dp K (del O H) v d
  | .ow p ds => s = some (.ref p) ∧ ∃ vs, H p = some (.lst vs) ∧ DpAll K (del O H) vs ds
inductive SlsOk (K : PySem.W.Frag) (O : List Addr) (H : Hp) : L2.St → List Sl → Prop
  | nil : SlsOk K O H [] []
  | cons {s : Option V} {σ : L2.St} {t : Sl} {τ : List Sl} : SlOk K O H s t → SlsOk K O H σ τ → SlsOk K O H (s :: σ) (t :: τ)
structure SokE (K : PySem.W.Frag) (O : List Addr) (H : Hp) (σ : L2.St) (τ : List Sl) : Prop where
  dom : ∀ a ∈ O, H a ≠ none
  sub : ∀ a ∈ owns τ, a ∈ O
  sl : SlsOk K O H σ τ
theorem slok_grow {O : List Addr} {H H' : Hp} (e : Same H H') {s : Option V} : ∀ {t : Sl}, SlOk K O H s t → SlOk K O H' s t
  | .un, _ => trivial
  | .im _, ⟨v, h1, h2⟩ => ⟨v, h1, dp_same (del_grow e) h2⟩
  | .ow _ _, ⟨h1, vs, h2, h3⟩ => ⟨h1, vs, e _ _ h2, dps_same (del_grow e) h3⟩
theorem slsok_grow {O : List Addr} {H H' : Hp} (e : Same H H') : ∀ {σ : L2.St} {τ : List Sl}, SlsOk K O H σ τ → SlsOk K O H' σ τ
  | _, _, .nil => .nil
  | _, _, .cons r t => .cons (slok_grow e r) (slsok_grow e t)
theorem SokE.grow {O : List Addr} {H H' : Hp} {σ : L2.St} {τ : List Sl} (h : SokE K O H σ τ) (e : Same H H') : SokE K O H' σ τ :=
  ⟨fun a ha z => (by
    cases q : H a with
    | none => exact h.dom a ha q
    | some o => rw [e a o q] at z; exact nomatch z), h.sub, slsok_grow e h.sl⟩
theorem slsok_get {O : List Addr} {H : Hp} : ∀ {σ : L2.St} {τ : List Sl} {i : Nat} {t : Sl}, SlsOk K O H σ τ → τ[i]? = some t → ∃ s, σ[i]? = some s ∧ SlOk K O H s t
  | _, _, _, _, .nil, e => by simp at e
  | _, _, 0, _, .cons r _, e => by simp at e; subst e; exact ⟨_, rfl, r⟩
  | _, _, i + 1, t, .cons _ r, e => by
    obtain ⟨s, h1, h2⟩ := slsok_get (i := i) (t := t) r (by simpa using e)
    exact ⟨s, by simpa using h1, h2⟩
theorem slsok_set {O : List Addr} {H : Hp} {s : Option V} {t : Sl} (r : SlOk K O H s t) : ∀ {σ : L2.St} {τ : List Sl} (i : Nat), SlsOk K O H σ τ → SlsOk K O H (σ.set i s) (τ.set i t)
  | _, _, _, .nil => .nil
  | _, _, 0, .cons _ q => .cons r q
  | _, _, i + 1, .cons q p => .cons q (slsok_set r i p)
theorem slok_sub {O O' : List Addr} {H : Hp} (e : ∀ a, a ∈ O' → a ∈ O) {s : Option V} : ∀ {t : Sl}, SlOk K O H s t → SlOk K O' H s t
  | .un, _ => trivial
  | .im _, ⟨v, h1, h2⟩ => ⟨v, h1, dp_same (del_sub e) h2⟩
  | .ow _ _, ⟨h1, vs, h2, h3⟩ => ⟨h1, vs, h2, dps_same (del_sub e) h3⟩
theorem slsok_sub {O O' : List Addr} {H : Hp} (e : ∀ a, a ∈ O' → a ∈ O) : ∀ {σ : L2.St} {τ : List Sl}, SlsOk K O H σ τ → SlsOk K O' H σ τ
  | _, _, .nil => .nil
  | _, _, .cons r t => .cons (slok_sub e r) (slsok_sub e t)
theorem owns_mem : ∀ {τ : List Sl} {p : Addr}, p ∈ owns τ ↔ ∃ (i : Nat) (ds : List D), τ[i]? = some (.ow p ds)
  | [], p => by simp [owns]
  | .un :: r, p => by
    rw [show owns (.un :: r) = owns r from rfl, owns_mem (τ := r)]
    constructor
    · rintro ⟨i, ds, h⟩; exact ⟨i + 1, ds, by simpa using h⟩
    · rintro ⟨i, ds, h⟩
      cases i with
      | zero => simp at h
      | succ i => exact ⟨i, ds, by simpa using h⟩
  | .im _ :: r, p => by
    rw [show owns (.im _ :: r) = owns r from rfl, owns_mem (τ := r)]
    constructor
    · rintro ⟨i, ds, h⟩; exact ⟨i + 1, ds, by simpa using h⟩
    · rintro ⟨i, ds, h⟩
      cases i with
      | zero => simp at h
      | succ i => exact ⟨i, ds, by simpa using h⟩
  | .ow q es :: r, p => by
    rw [show owns (.ow q es :: r) = q :: owns r from rfl, List.mem_cons, owns_mem (τ := r)]
    constructor
    · rintro (rfl | ⟨i, ds, h⟩)
      · exact ⟨0, es, rfl⟩
      · exact ⟨i + 1, ds, by simpa using h⟩
    · rintro ⟨i, ds, h⟩
      cases i with
      | zero =>
        simp at h
        exact .inl h.1.symm
      | succ i => exact .inr ⟨i, ds, by simpa using h⟩
/-- a slot that owns nothing new is put: what is owned shrinks -/
def plain : Sl → Bool
  | .ow _ _ => false
  | _ => true
theorem owns_set_sub {t : Sl} (ht : plain t = true) : ∀ {τ : List Sl} {i : Nat}, (owns (τ.set i t)).Sublist (owns τ)
  | [], _ => by simp [owns]
  | a :: r, 0 => by
    rw [List.set_cons_zero]
    have : owns (t :: r) = owns r := by cases t <;> first | rfl | cases ht
    rw [this]
    cases a with
    | un => exact List.Sublist.refl _
    | im _ => exact List.Sublist.refl _
    | ow _ _ => exact List.sublist_cons_self _ _
  | a :: r, i + 1 => by
    rw [List.set_cons_succ]
    cases a with
    | un => exact owns_set_sub ht
    | im _ => exact owns_set_sub ht
    | ow p ds => exact (owns_set_sub ht).cons₂ p
theorem owns_set_ow {p : Addr} {ds es : List D} : ∀ {τ : List Sl} {i : Nat}, τ[i]? = some (.ow p ds) → owns (τ.set i (.ow p es)) = owns τ
  | [], _, h => by simp at h
  | a :: r, 0, h => by
    simp at h
    subst h
    rfl
  | a :: r, i + 1, h => by
    have ih := owns_set_ow (es := es) (τ := r) (i := i) (by simpa using h)
    rw [List.set_cons_succ]
    cases a with
    | un => exact ih
    | im _ => exact ih
    | ow q _ => exact congrArg (q :: ·) ih
theorem owns_set_new {p : Addr} {ds : List D} : ∀ {τ : List Sl} {i : Nat} {q : Addr}, q ∈ owns (τ.set i (.ow p ds)) → q = p ∨ q ∈ owns τ := fun {τ i q} h => by
  obtain ⟨j, es, e⟩ := owns_mem.mp h
  by_cases hj : i = j
  · subst hj
    by_cases hl : i < τ.length
    · rw [List.getElem?_set_self hl] at e
      cases e
      exact .inl rfl
    · rw [List.getElem?_eq_none (by simpa using hl)] at e
      cases e
  · rw [List.getElem?_set_ne hj] at e
    exact .inr (owns_mem.mpr ⟨j, es, e⟩)
theorem nodup_set_new {p : Addr} {ds : List D} : ∀ {τ : List Sl} {i : Nat}, (owns τ).Nodup → p ∉ owns τ → (owns (τ.set i (.ow p ds))).Nodup
  | [], _, _, _ => by simp [owns]
  | a :: r, 0, h, hp => by
    rw [List.set_cons_zero]
    cases a with
    | un => exact List.nodup_cons.mpr ⟨hp, h⟩
    | im _ => exact List.nodup_cons.mpr ⟨hp, h⟩
    | ow q es =>
      have h' := List.nodup_cons.mp h
      exact List.nodup_cons.mpr ⟨fun z => hp (List.mem_cons_of_mem _ z), h'.2⟩
  | a :: r, i + 1, h, hp => by
    rw [List.set_cons_succ]
    cases a with
    | un => exact nodup_set_new (τ := r) h hp
    | im _ => exact nodup_set_new (τ := r) h hp
    | ow q es =>
      have h' := List.nodup_cons.mp h
      refine List.nodup_cons.mpr ⟨fun z => ?_, nodup_set_new h'.2 fun z => hp (List.mem_cons_of_mem _ z)⟩
      rcases owns_set_new z with e | e
      · exact hp (e ▸ List.mem_cons_self)
      · exact h'.1 e
theorem nodup_at {p : Addr} {ds es : List D} : ∀ {τ : List Sl} {i j : Nat}, (owns τ).Nodup → τ[i]? = some (.ow p ds) → τ[j]? = some (.ow p es) → i = j
  | [], _, _, _, h, _ => by simp at h
  | a :: r, 0, 0, _, _, _ => rfl
  | a :: r, 0, j + 1, hn, h1, h2 => by
    simp at h1
    subst h1
    exact absurd (owns_mem.mpr ⟨j, es, by simpa using h2⟩) (List.nodup_cons.mp hn).1
  | a :: r, i + 1, 0, hn, h1, h2 => by
    simp at h2
    subst h2
    exact absurd (owns_mem.mpr ⟨i, ds, by simpa using h1⟩) (List.nodup_cons.mp hn).1
  | a :: r, i + 1, j + 1, hn, h1, h2 => by
    have hn' : (owns r).Nodup := by
      cases a with
      | un => exact hn
      | im _ => exact hn
      | ow _ _ => exact (List.nodup_cons.mp hn).2
    rw [nodup_at (τ := r) (i := i) (j := j) hn' (by simpa using h1) (by simpa using h2)]

def Ev (K : PySem.W.Frag) (te : TE) (τ : List Sl) (d : D) : Prop := ∀ (O : List Addr) (H : Hp) (σ : L2.St), SokE K O H σ τ → ∀ Q : VK, (∀ v H', Same H H' → Dp K (del O H') v d → Q v H') → te σ H Q
/-- a new list -/
def EvN (K : PySem.W.Frag) (te : TE) (τ : List Sl) (ds : List D) : Prop := ∀ (O : List Addr) (H : Hp) (σ : L2.St), SokE K O H σ τ → ∀ Q : VK, (∀ p vs H', H p = none → Same H H' → H' p = some (.lst vs) → DpAll K (del (p :: O) H') vs ds → Q (.ref p) H') → te σ H Q
def EvT (K : PySem.W.Frag) (tt : TT) (τ : List Sl) (b : Bool) : Prop := ∀ (O : List Addr) (H : Hp) (σ : L2.St), SokE K O H σ τ → ∀ Q : Bool → Hp → Prop, (∀ H', Same H H' → Q b H') → tt σ H Q
def EvA (K : PySem.W.Frag) (ta : TA) (τ : List Sl) (ds : List D) : Prop := ∀ (O : List Addr) (H : Hp) (σ : L2.St), SokE K O H σ τ → ∀ Q : List V → Hp → Prop, (∀ vs H', Same H H' → DpAll K (del O H') vs ds → Q vs H') → ta σ H Q
def EvO (K : PySem.W.Frag) (to : TO) (τ : List Sl) (o : Option Int) : Prop := ∀ (O : List Addr) (H : Hp) (σ : L2.St), SokE K O H σ τ → ∀ Q : Option Int → Hp → Prop, (∀ H', Same H H' → Q o H') → to σ H Q
/-- operations on values -/
def Rv (K : PySem.W.Frag) (r : R2) (a b d : D) : Prop := ∀ (O : List Addr) (H : Hp) (x y : V), (∀ a ∈ O, H a ≠ none) → Dp K (del O H) x a → Dp K (del O H) y b → ∀ Q : VK, (∀ v H', Same H H' → Dp K (del O H') v d → Q v H') → r x y H Q
def RvN (K : PySem.W.Frag) (r : R2) (a b : D) (ds : List D) : Prop := ∀ (O : List Addr) (H : Hp) (x y : V), (∀ a ∈ O, H a ≠ none) → Dp K (del O H) x a → Dp K (del O H) y b → ∀ Q : VK, (∀ p vs H', H p = none → Same H H' → H' p = some (.lst vs) → DpAll K (del (p :: O) H') vs ds → Q (.ref p) H') → r x y H Q
def Rc (K : PySem.W.Frag) (r : List V → Hp → VK → Prop) (as : List D) (d : D) : Prop := ∀ (O : List Addr) (H : Hp) (xs : List V), (∀ a ∈ O, H a ≠ none) → DpAll K (del O H) xs as → ∀ Q : VK, (∀ v H', Same H H' → Dp K (del O H') v d → Q v H') → r xs H Q
def RcN (K : PySem.W.Frag) (r : List V → Hp → VK → Prop) (as ds : List D) : Prop := ∀ (O : List Addr) (H : Hp) (xs : List V), (∀ a ∈ O, H a ≠ none) → DpAll K (del O H) xs as → ∀ Q : VK, (∀ p vs H', H p = none → Same H H' → H' p = some (.lst vs) → DpAll K (del (p :: O) H') vs ds → Q (.ref p) H') → r xs H Q

theorem fresh_out {O : List Addr} {H : Hp} (h : ∀ a ∈ O, H a ≠ none) {p : Addr} (hp : H p = none) : p ∉ O := fun z => h p z hp
/-- a new list is data -/
theorem dp_of_new {O : List Addr} {H H' : Hp} {p : Addr} {vs : List V} {ds : List D} (hd : ∀ a ∈ O, H a ≠ none) (hp : H p = none) (h : H' p = some (.lst vs)) (r : DpAll K (del (p :: O) H') vs ds) : Dp K (del O H') (.ref p) (.list ds) :=
  .lst (.inl (.inl (by rw [del_out (fresh_out hd hp)]; exact h))) (dps_same (del_sub fun a ha => List.mem_cons_of_mem _ ha) r)
theorem EvN.ev {te : TE} {τ : List Sl} {ds : List D} (h : EvN K te τ ds) : Ev K te τ (.list ds) := fun O H σ s Q q =>
  h O H σ s Q fun p vs H' hp e h1 r => q _ H' e (dp_of_new s.dom hp h1 r)
theorem dp_newtup {O : List Addr} {H : Hp} {p : Addr} {vs : List V} {ds : List D} (hd : ∀ a ∈ O, H a ≠ none) (hp : H p = none) (r : DpAll K (del O H) vs ds) : Dp K (del O (upd H p (.tup vs))) (.ref p) (.tuple ds) :=
  .tup (.inl (.inl (by rw [del_out (fresh_out hd hp)]; exact upd_same))) (dps_same (del_grow (same_upd hp)) r)
theorem dps_newlst {O : List Addr} {H : Hp} {p : Addr} {vs : List V} {ds : List D} (hp : H p = none) (r : DpAll K (del O H) vs ds) : DpAll K (del (p :: O) (upd H p (.lst vs))) vs ds := by
  refine dps_same (fun a o e => ?_) r
  by_cases ha : a ∈ O
  · rw [del_in ha] at e; cases e
  · rw [del_out ha] at e
    have hne : a ≠ p := ne_of_none e hp
    rw [del_out (by simp [ha, hne]), upd_ne hne]
    exact e
section
variable {τ : List Sl} {ta tb tc te : TE} {a b c d : D} {r r' : R2} {t u : TT}
theorem ev_var {i : Nat} (h : τ[i]? = some (.im d)) : Ev K (tVar i) τ d := fun O H σ s Q q => by
  obtain ⟨sv, h1, v, h2, h3⟩ := slsok_get s.sl h
  exact ⟨v, by rw [h1, h2], q v H (Same.refl H) h3⟩
theorem ev_int {i : Int} : Ev K (tC (.int i)) τ (.int i) := fun O H σ s Q q => q _ H (Same.refl H) (.int i)
theorem ev_bl {i : Bool} : Ev K (tC (.bl i)) τ (.bool i) := fun O H σ s Q q => q _ H (Same.refl H) (.bl i)
theorem ev_str {i : Str} : Ev K (tC (.str i)) τ (.str i) := fun O H σ s Q q => q _ H (Same.refl H) (.str i)
theorem ev_non : Ev K (tC .non) τ .none := fun O H σ s Q q => q _ H (Same.refl H) .non
theorem ev_op (ha : Ev K ta τ a) (hb : Ev K tb τ b) (hr : Rv K r a b d) : Ev K (tOp r ta tb) τ d := fun O H σ s Q q =>
  ha O H σ s _ fun v H1 e1 h1 => hb O H1 σ (s.grow e1) _ fun w H2 e2 h2 => hr O H2 v w ((s.grow e1).grow e2).dom (dp_same (del_grow e2) h1) h2 Q fun z H3 e3 h3 => q z H3 ((e1.trans e2).trans e3) h3
theorem en_op {ds : List D} (ha : Ev K ta τ a) (hb : Ev K tb τ b) (hr : RvN K r a b ds) : EvN K (tOp r ta tb) τ ds := fun O H σ s Q q =>
  ha O H σ s _ fun v H1 e1 h1 => hb O H1 σ (s.grow e1) _ fun w H2 e2 h2 => hr O H2 v w ((s.grow e1).grow e2).dom (dp_same (del_grow e2) h1) h2 Q fun p vs H3 hp e3 h3 h4 => q p vs H3 ((e1.trans e2).free hp) ((e1.trans e2).trans e3) h3 h4
theorem ev_un {r : V → Hp → VK → Prop} (ha : Ev K ta τ a) (hr : ∀ (H : Hp) (x : V) (O : List Addr), Dp K (del O H) x a → ∀ Q : VK, (∀ v, Dp K (del O H) v d → Q v H) → r x H Q) : Ev K (tUn r ta) τ d := fun O H σ s Q q =>
  ha O H σ s _ fun v H1 e1 h1 => hr H1 v O h1 Q fun w hw => q w H1 e1 hw
theorem ea_nil : EvA K tNil τ [] := fun O H σ s Q q => q [] H (Same.refl H) .nil
theorem ea_cons {tr : TA} {ds : List D} (h : Ev K ta τ a) (hr : EvA K tr τ ds) : EvA K (tCons ta tr) τ (a :: ds) := fun O H σ s Q q =>
  h O H σ s _ fun v H1 e1 h1 => hr O H1 σ (s.grow e1) _ fun vs H2 e2 h2 => q _ H2 (e1.trans e2) (.cons (dp_same (del_grow e2) h1) h2)
theorem ev_tup {tr : TA} {ds : List D} (h : EvA K tr τ ds) (hl : ds.length ≤ 100000) : Ev K (tTup tr) τ (.tuple ds) := fun O H σ s Q q =>
  h O H σ s _ fun vs H1 e1 h1 => ⟨by rw [dps_len h1]; exact Nat.le_trans hl (by decide), fun p hp => q _ _ (e1.trans (same_upd hp)) (dp_newtup (s.grow e1).dom hp h1)⟩
theorem en_lst {tr : TA} {ds : List D} (h : EvA K tr τ ds) (hl : ds.length ≤ 100000) : EvN K (tLst tr) τ ds := fun O H σ s Q q =>
  h O H σ s _ fun vs H1 e1 h1 => ⟨by rw [dps_len h1]; exact Nat.le_trans hl (by decide), fun p hp => q p vs _ (e1.free hp) (e1.trans (same_upd hp)) upd_same (dps_newlst hp h1)⟩
theorem ev_cb {r : List V → Hp → VK → Prop} {tr : TA} {ds : List D} (h : EvA K tr τ ds) (hr : Rc K r ds d) : Ev K (tCB r tr) τ d := fun O H σ s Q q =>
  h O H σ s _ fun vs H1 e1 h1 => hr O H1 vs (s.grow e1).dom h1 Q fun z H3 e3 h3 => q z H3 (e1.trans e3) h3
theorem en_cb {r : List V → Hp → VK → Prop} {tr : TA} {ds es : List D} (h : EvA K tr τ ds) (hr : RcN K r ds es) : EvN K (tCB r tr) τ es := fun O H σ s Q q =>
  h O H σ s _ fun vs H1 e1 h1 => hr O H1 vs (s.grow e1).dom h1 Q fun p vs H3 hp e3 h3 h4 => q p vs H3 (e1.free hp) (e1.trans e3) h3 h4
theorem ev_to {e : D} (h : Ev K ta τ a) (q : a = e) : Ev K ta τ e := q ▸ h
theorem et_test {b : Bool} (h : Ev K ta τ (.bool b)) : EvT K (tTest ta) τ b := fun O H σ s Q q =>
  h O H σ s _ fun v H1 e1 h1 => ⟨b, dp_bl h1, q H1 e1⟩
theorem et_B {b : Bool} (h : Ev K ta τ (.bool b)) : EvT K (tB ta) τ b := fun O H σ s Q q =>
  h O H σ s _ fun v H1 e1 h1 => ⟨b, dp_bl h1, q H1 e1⟩
theorem et_and {x y : Bool} (h1 : EvT K t τ x) (h2 : x = true → EvT K u τ y) : EvT K (tAnd t u) τ (x && y) := fun O H σ s Q q => h1 O H σ s _ fun H1 e1 => by
  cases x with
  | true => exact h2 rfl O H1 σ (s.grow e1) Q fun H2 e2 => q H2 (e1.trans e2)
  | false => exact q H1 e1
theorem et_or {x y : Bool} (h1 : EvT K t τ x) (h2 : x = false → EvT K u τ y) : EvT K (tOr t u) τ (x || y) := fun O H σ s Q q => h1 O H σ s _ fun H1 e1 => by
  cases x with
  | true => exact q H1 e1
  | false => exact h2 rfl O H1 σ (s.grow e1) Q fun H2 e2 => q H2 (e1.trans e2)
theorem et_not {x : Bool} (h1 : EvT K t τ x) : EvT K (tNot t) τ (!x) := fun O H σ s Q q => h1 O H σ s _ fun H1 e1 => q H1 e1
theorem et_to {x y : Bool} (h : EvT K t τ x) (q : x = y) : EvT K t τ y := q ▸ h
theorem ev_andV {x y : Bool} (h1 : Ev K ta τ (.bool x)) (h2 : x = true → Ev K tb τ (.bool y)) : Ev K (tAndV ta tb) τ (.bool (x && y)) := fun O H σ s Q q => h1 O H σ s _ fun v H1 e1 r1 => ⟨x, dp_bl r1, by
  cases x with
  | true => exact h2 rfl O H1 σ (s.grow e1) Q fun v H2 e2 => q v H2 (e1.trans e2)
  | false => exact q _ H1 e1 (.bl false)⟩
theorem ev_orV {x y : Bool} (h1 : Ev K ta τ (.bool x)) (h2 : x = false → Ev K tb τ (.bool y)) : Ev K (tOrV ta tb) τ (.bool (x || y)) := fun O H σ s Q q => h1 O H σ s _ fun v H1 e1 r1 => ⟨x, dp_bl r1, by
  cases x with
  | true => exact q _ H1 e1 (.bl true)
  | false => exact h2 rfl O H1 σ (s.grow e1) Q fun v H2 e2 => q v H2 (e1.trans e2)⟩
theorem ev_notV {x : Bool} (h1 : Ev K ta τ (.bool x)) : Ev K (tNotV ta) τ (.bool (!x)) := fun O H σ s Q q => h1 O H σ s _ fun v H1 e1 r1 => ⟨x, dp_bl r1, q _ H1 e1 (.bl _)⟩
theorem ev_if {x : Bool} (h : EvT K t τ x) (h1 : x = true → Ev K ta τ d) (h2 : x = false → Ev K tb τ d) : Ev K (tIf t ta tb) τ d := fun O H σ s Q q => h O H σ s _ fun H1 e1 => by
  cases x with
  | true => exact h1 rfl O H1 σ (s.grow e1) Q fun v H2 e2 => q v H2 (e1.trans e2)
  | false => exact h2 rfl O H1 σ (s.grow e1) Q fun v H2 e2 => q v H2 (e1.trans e2)
theorem ev_chain {x y : Bool} (ha : Ev K ta τ a) (hb : Ev K tb τ b) (hr : Rv K r a b (.bool x)) (hc : x = true → Ev K tc τ c) (hr' : x = true → Rv K r' b c (.bool y)) : Ev K (tChain r r' ta tb tc) τ (.bool (x && y)) := fun O H σ s Q q =>
  ha O H σ s _ fun v H1 e1 h1 => hb O H1 σ (s.grow e1) _ fun w H2 e2 h2 => hr O H2 v w ((s.grow e1).grow e2).dom (dp_same (del_grow e2) h1) h2 _ fun z H3 e3 h3 => ⟨x, dp_bl h3, by
    cases x with
    | true =>
      refine iteT ?_
      exact hc rfl O H3 σ (((s.grow e1).grow e2).grow e3) _ fun w' H4 e4 h4 => hr' rfl O H4 w w' ((((s.grow e1).grow e2).grow e3).grow e4).dom (dp_same (del_grow (e3.trans e4)) h2) h4 Q fun z H5 e5 h5 => q z H5 ((((e1.trans e2).trans e3).trans e4).trans e5) h5
    | false =>
      refine iteF ?_
      exact q _ H3 ((e1.trans e2).trans e3) (.bl false)⟩
theorem eo_none : EvO K tNoPart τ none := fun O H σ s Q q => q H (Same.refl H)
theorem eo_some {i : Int} (h : Ev K te τ (.int i)) : EvO K (tPart te) τ (some i) := fun O H σ s Q q => h O H σ s _ fun v H1 e1 h1 => ⟨i, dp_int h1, q H1 e1⟩
end
end GW

namespace GW
open PySem PySem.Spec PyProof.Rows L2
variable {K : PySem.W.Frag}

theorem set_self {α : Type} : ∀ {l : List α} {i : Nat} {x : α}, l[i]? = some x → l.set i x = l
  | [], _, _, h => by simp at h
  | a :: l, 0, x, h => by
    have e : a = x := Option.some.inj h
    rw [List.set_cons_zero, e]
  | a :: l, i + 1, x, h => by
    rw [List.set_cons_succ, set_self (l := l) (i := i) (by simpa using h)]

structure Sok (K : PySem.W.Frag) (O0 : List Addr) (F H : Hp) (σ : L2.St) (τ : List Sl) : Prop where
  e : SokE K (owns τ ++ O0) H σ τ
  base : Same F (del (owns τ) H)
  amb : ∀ a ∈ O0, F a ≠ none
  nd : (owns τ).Nodup
def Run (K : PySem.W.Frag) (O0 : List Addr) (F : Hp) (t : TS) (Dn : Ends) (τ : List Sl) : Prop := ∀ (H : Hp) (σ : L2.St), Sok K O0 F H σ τ → t Dn σ H

theorem del_app {A B : List Addr} {H : Hp} : del (A ++ B) H = del B (del A H) := funext fun a => by
  by_cases hb : a ∈ B
  · rw [del_in hb, del_in (List.mem_append_right _ hb)]
  · rw [del_out hb]
    by_cases ha : a ∈ A
    · rw [del_in ha, del_in (List.mem_append_left _ ha)]
    · rw [del_out ha, del_out (by simp [ha, hb])]
section
variable {O0 : List Addr} {F G H H' : Hp} {σ : L2.St} {τ : List Sl}
theorem Sok.same (s : Sok K O0 F H σ τ) : Same F H := s.base.trans del_same
theorem Sok.grow (s : Sok K O0 F H σ τ) (e : Same H H') : Sok K O0 F H' σ τ := ⟨s.e.grow e, s.base.trans (del_grow e), s.amb, s.nd⟩
theorem Sok.down (s : Sok K O0 G H σ τ) (e : Same F G) (a : ∀ a ∈ O0, F a ≠ none) : Sok K O0 F H σ τ := ⟨s.e, e.trans s.base, a, s.nd⟩
theorem amb_up (a : ∀ a ∈ O0, F a ≠ none) (e : Same F G) : ∀ a ∈ O0, G a ≠ none := fun b hb z => by
  cases q : F b with
  | none => exact a b hb q
  | some o => rw [e b o q] at z; cases z
/-- the heap as it stands becomes what is to be kept -/
theorem Sok.rebase (s : Sok K O0 F H σ τ) : Sok K O0 (del (owns τ) H) H σ τ := ⟨s.e, Same.refl _, amb_up s.amb s.base, s.nd⟩
theorem Sok.not_own (s : Sok K O0 F H σ τ) {p : Addr} (h : p ∈ owns τ) : F p = none := by
  cases q : F p with
  | none => rfl
  | some o =>
    have z := s.base p o q
    rw [del_in h] at z
    cases z
theorem sok_shrink {t : Sl} {s : Option V} {i : Nat} (S : Sok K O0 F H σ τ) (ht : plain t = true) (r : SlOk K (owns τ ++ O0) H s t) : Sok K O0 F H (σ.set i s) (τ.set i t) := by
  have sub : ∀ a, a ∈ owns (τ.set i t) → a ∈ owns τ := fun a ha => (owns_set_sub ht).subset ha
  have sub2 : ∀ a, a ∈ owns (τ.set i t) ++ O0 → a ∈ owns τ ++ O0 := fun a ha => by
    rcases List.mem_append.mp ha with h | h
    · exact List.mem_append_left _ (sub a h)
    · exact List.mem_append_right _ h
  exact ⟨⟨fun a ha => S.e.dom a (sub2 a ha), fun a ha => List.mem_append_left _ ha, slsok_sub sub2 (slsok_set r i S.e.sl)⟩, S.base.trans (del_sub sub), S.amb, (owns_set_sub ht).nodup S.nd⟩
theorem sok_put {v : V} {d : D} {i : Nat} (S : Sok K O0 F H σ τ) (r : Dp K (del (owns τ ++ O0) H) v d) : Sok K O0 F H (σ.set i (some v)) (τ.set i (.im d)) :=
  sok_shrink S rfl ⟨v, rfl, r⟩
/-- slots forgotten; the frame's own slots stay as they are -/
def forget (js : List Nat) (τ : List Sl) : List Sl := js.foldl (fun τ j => τ.set j .un) τ
theorem slsok_un {O : List Addr} : ∀ {σ : L2.St} {τ : List Sl} (i : Nat), SlsOk K O H σ τ → SlsOk K O H σ (τ.set i .un)
  | _, _, _, .nil => .nil
  | _, _, 0, .cons _ q => .cons trivial q
  | _, _, i + 1, .cons q p => .cons q (slsok_un i p)
theorem sok_un {i : Nat} (S : Sok K O0 F H σ τ) : Sok K O0 F H σ (τ.set i .un) := by
  have sub : ∀ a, a ∈ owns (τ.set i .un) → a ∈ owns τ := fun a ha => (owns_set_sub rfl).subset ha
  have sub2 : ∀ a, a ∈ owns (τ.set i .un) ++ O0 → a ∈ owns τ ++ O0 := fun a ha => by
    rcases List.mem_append.mp ha with h | h
    · exact List.mem_append_left _ (sub a h)
    · exact List.mem_append_right _ h
  exact ⟨⟨fun a ha => S.e.dom a (sub2 a ha), fun a ha => List.mem_append_left _ ha, slsok_sub sub2 (slsok_un i S.e.sl)⟩, S.base.trans (del_sub sub), S.amb, (owns_set_sub rfl).nodup S.nd⟩
theorem sok_forget : ∀ (js : List Nat) {τ : List Sl}, Sok K O0 F H σ τ → Sok K O0 F H σ (forget js τ)
  | [], _, S => S
  | j :: js, _, S => sok_forget js (sok_un (i := j) S)
theorem slok_up {O : List Addr} {p : Addr} (hp : H p = none) (e : Same H H') {s : Option V} : ∀ {t : Sl}, SlOk K O H s t → SlOk K (p :: O) H' s t := by
  have g : Same (del O H) (del (p :: O) H') := fun a o q => by
    by_cases ha : a ∈ O
    · rw [del_in ha] at q; cases q
    · rw [del_out ha] at q
      rw [del_out (by simp [ha, ne_of_none q hp])]
      exact e a o q
  intro t h
  cases t with
  | un => trivial
  | im d => obtain ⟨v, h1, h2⟩ := h; exact ⟨v, h1, dp_same g h2⟩
  | ow q ds => obtain ⟨h1, vs, h2, h3⟩ := h; exact ⟨h1, vs, e _ _ h2, dps_same g h3⟩
theorem slsok_up {O : List Addr} {p : Addr} (hp : H p = none) (e : Same H H') : ∀ {σ : L2.St} {τ : List Sl}, SlsOk K O H σ τ → SlsOk K (p :: O) H' σ τ
  | _, _, .nil => .nil
  | _, _, .cons r t => .cons (slok_up hp e r) (slsok_up hp e t)
/-- a new list comes into a slot -/
theorem sok_new {p : Addr} {vs : List V} {ds : List D} {i : Nat} (S : Sok K O0 F H σ τ) (hp : H p = none) (e : Same H H') (h : H' p = some (.lst vs)) (r : DpAll K (del (p :: (owns τ ++ O0)) H') vs ds) :
    Sok K O0 F H' (σ.set i (some (.ref p))) (τ.set i (.ow p ds)) := by
  have hpo : p ∉ owns τ ++ O0 := fresh_out S.e.dom hp
  have sub : ∀ a, a ∈ owns (τ.set i (.ow p ds)) → a ∈ p :: owns τ := fun a ha => by
    rcases owns_set_new ha with z | z
    · rw [z]; exact List.mem_cons_self
    · exact List.mem_cons_of_mem _ z
  have sub2 : ∀ a, a ∈ owns (τ.set i (.ow p ds)) ++ O0 → a ∈ p :: (owns τ ++ O0) := fun a ha => by
    rcases List.mem_append.mp ha with z | z
    · rcases List.mem_cons.mp (sub a z) with z | z
      · rw [z]; exact List.mem_cons_self
      · exact List.mem_cons_of_mem _ (List.mem_append_left _ z)
    · exact List.mem_cons_of_mem _ (List.mem_append_right _ z)
  have dom : ∀ a ∈ p :: (owns τ ++ O0), H' a ≠ none := fun a ha => by
    rcases List.mem_cons.mp ha with z | z
    · rw [z, h]; exact fun z => nomatch z
    · exact (S.e.grow e).dom a z
  refine ⟨⟨fun a ha => dom a (sub2 a ha), fun a ha => List.mem_append_left _ ha, slsok_sub sub2 (slsok_set (show SlOk K _ H' (some (.ref p)) (.ow p ds) from ⟨rfl, vs, h, r⟩) i (slsok_up hp e S.e.sl))⟩, fun a o q => ?_, S.amb, nodup_set_new S.nd fun z => hpo (List.mem_append_left _ z)⟩
  have q1 := S.base a o q
  have hne : a ∉ owns τ := fun z => by rw [del_in z] at q1; cases q1
  rw [del_out hne] at q1
  have hap : a ≠ p := ne_of_none q1 hp
  rw [del_out (fun z => by
    rcases List.mem_cons.mp (sub a z) with z | z
    · exact hap z
    · exact hne z)]
  exact e a o q1
theorem slsok_of {O : List Addr} : ∀ {σ : L2.St} {τ : List Sl}, σ.length = τ.length → (∀ (i : Nat) (s : Option V) (t : Sl), σ[i]? = some s → τ[i]? = some t → SlOk K O H s t) → SlsOk K O H σ τ
  | [], [], _, _ => .nil
  | [], _ :: _, h, _ => by simp at h
  | _ :: _, [], h, _ => by simp at h
  | s :: σ, t :: τ, h, f => .cons (f 0 s t rfl rfl) (slsok_of (by simpa using h) fun i s t h1 h2 => f (i + 1) s t (by simpa using h1) (by simpa using h2))
theorem slsok_len {O : List Addr} : ∀ {σ : L2.St} {τ : List Sl}, SlsOk K O H σ τ → σ.length = τ.length
  | _, _, .nil => rfl
  | _, _, .cons _ t => by rw [List.length_cons, List.length_cons, slsok_len t]
theorem slsok_both {O : List Addr} : ∀ {σ : L2.St} {τ : List Sl} {i : Nat} {s : Option V} {t : Sl}, SlsOk K O H σ τ → σ[i]? = some s → τ[i]? = some t → SlOk K O H s t := fun {σ τ i s t} h h1 h2 => by
  obtain ⟨s', e, r⟩ := slsok_get h h2
  rw [h1] at e
  cases e
  exact r
/-- an owned list is changed -/
theorem sok_upd {p : Addr} {vs : List V} {ds es : List D} {j : Nat} (S : Sok K O0 F H σ τ) (hj : τ[j]? = some (.ow p ds)) (r : DpAll K (del (owns τ ++ O0) H) vs es) :
    Sok K O0 F (upd H p (.lst vs)) σ (τ.set j (.ow p es)) := by
  have hpo : p ∈ owns τ := owns_mem.mpr ⟨j, ds, hj⟩
  have hpo2 : p ∈ owns τ ++ O0 := List.mem_append_left _ hpo
  have eo := owns_set_ow (es := es) hj
  refine ⟨⟨fun a ha => ?_, fun a ha => List.mem_append_left _ ha, slsok_of (by rw [List.length_set]; exact slsok_len S.e.sl) fun i s t h1 h2 => ?_⟩, ?_, S.amb, by rw [eo]; exact S.nd⟩
  · rw [eo] at ha
    by_cases hap : a = p
    · rw [hap, upd_same]; exact fun z => nomatch z
    · rw [upd_ne hap]; exact S.e.dom a ha
  · rw [eo]
    by_cases hij : j = i
    · subst hij
      have hl : j < τ.length := (List.getElem?_eq_some_iff.mp hj).1
      rw [List.getElem?_set_self hl] at h2
      cases h2
      obtain ⟨h3, _⟩ := slsok_both S.e.sl h1 hj
      refine ⟨h3, vs, upd_same, ?_⟩
      rw [del_upd_in hpo2]
      exact r
    · rw [List.getElem?_set_ne hij] at h2
      have q := slsok_both S.e.sl h1 h2
      cases t with
      | un => trivial
      | im d =>
        obtain ⟨v, q1, q2⟩ := q
        refine ⟨v, q1, ?_⟩
        rw [del_upd_in hpo2]
        exact q2
      | ow a fs =>
        obtain ⟨q1, ws, q2, q3⟩ := q
        refine ⟨q1, ws, ?_, ?_⟩
        · rw [upd_ne (fun z => hij (nodup_at S.nd hj (z ▸ h2)))]
          exact q2
        · rw [del_upd_in hpo2]
          exact q3
  · rw [eo, del_upd_in hpo]
    exact S.base
theorem own_gone {p : Addr} {ds : List D} {j : Nat} {t : Sl} (hn : (owns τ).Nodup) (hj : τ[j]? = some (.ow p ds)) (ht : plain t = true) : p ∉ owns (τ.set j t) := fun z => by
  obtain ⟨i, es, e⟩ := owns_mem.mp z
  by_cases hij : j = i
  · subst hij
    rw [List.getElem?_set_self (List.getElem?_eq_some_iff.mp hj).1] at e
    cases e
    cases ht
  · rw [List.getElem?_set_ne hij] at e
    exact hij (nodup_at hn hj e)
/-- an owned list becomes data -/
theorem sok_freeze {p : Addr} {ds : List D} {j : Nat} (S : Sok K O0 F H σ τ) (hj : τ[j]? = some (.ow p ds)) : Sok K O0 F H σ (τ.set j (.im (.list ds))) := by
  obtain ⟨s, h1, h2, vs, h3, h4⟩ := slsok_get S.e.sl hj
  have sub : ∀ a, a ∈ owns (τ.set j (.im (.list ds))) → a ∈ owns τ := fun a ha => (owns_set_sub rfl).subset ha
  have sub2 : ∀ a, a ∈ owns (τ.set j (.im (.list ds))) ++ O0 → a ∈ owns τ ++ O0 := fun a ha => by
    rcases List.mem_append.mp ha with h | h
    · exact List.mem_append_left _ (sub a h)
    · exact List.mem_append_right _ h
  have hpn : p ∉ owns (τ.set j (.im (.list ds))) ++ O0 := fun z => by
    rcases List.mem_append.mp z with z | z
    · exact own_gone S.nd hj rfl z
    · exact S.amb p z (S.not_own (owns_mem.mpr ⟨j, ds, hj⟩))
  have e : σ = σ.set j s := (set_self h1).symm
  have q : SlOk K (owns (τ.set j (.im (.list ds))) ++ O0) H s (.im (.list ds)) := ⟨.ref p, h2, .lst (.inl (.inl (by rw [del_out hpn]; exact h3))) (dps_same (del_sub sub2) h4)⟩
  refine ⟨⟨fun a ha => S.e.dom a (sub2 a ha), fun a ha => List.mem_append_left _ ha, ?_⟩, S.base.trans (del_sub sub), S.amb, (owns_set_sub rfl).nodup S.nd⟩
  rw [e]
  exact slsok_set q j (slsok_sub sub2 S.e.sl)
end

def Ret (K : PySem.W.Frag) (O0 : List Addr) (F : Hp) (rt : VK) (d : D) : Prop := ∀ v H', Same F H' → Dp K (del O0 H') v d → rt v H'
def RetN (K : PySem.W.Frag) (O0 : List Addr) (F : Hp) (rt : VK) (ds : List D) : Prop := ∀ p vs H', F p = none → Same F H' → H' p = some (.lst vs) → DpAll K (del (p :: O0) H') vs ds → rt (.ref p) H'
section
variable {O0 : List Addr} {F G H H' : Hp} {τ : List Sl} {Dn : Ends} {te : TE} {t u tz tu tw : TS} {tt : TT} {d : D} {ds : List D}
theorem Ret.up {rt : VK} (h : Ret K O0 F rt d) (e : Same F G) : Ret K O0 G rt d := fun v H' e' r => h v H' (e.trans e') r
theorem RetN.up {rt : VK} (h : RetN K O0 F rt ds) (e : Same F G) : RetN K O0 G rt ds := fun p vs H' hp e' h1 r => h p vs H' (e.free hp) (e.trans e') h1 r

theorem run_freeze {p : Addr} {j : Nat} {τ' : List Sl} (hj : τ[j]? = some (.ow p ds)) (k : Run K O0 F t Dn τ') (hτ : τ.set j (.im (.list ds)) = τ' := by first | (dsimp only [List.set]; done) | (dsimp only [List.set]; rfl) | rfl) : Run K O0 F t Dn τ := fun H σ S => by
  subst hτ
  exact k H σ (sok_freeze S hj)
theorem run_forget {js : List Nat} {τ' : List Sl} (k : Run K O0 F t Dn τ') (hτ : forget js τ = τ' := by rfl) : Run K O0 F t Dn τ := fun H σ S => by
  subst hτ
  exact k H σ (sok_forget js S)
theorem run_asg {i : Nat} {τ' : List Sl} (h : Ev K te τ d) (k : Run K O0 F tz Dn τ') (hτ : τ.set i (.im d) = τ' := by first | (dsimp only [List.set]; done) | (dsimp only [List.set]; rfl) | rfl) : Run K O0 F (tSeq (tAsg te (gName i)) tz) Dn τ := fun H σ S => by
  subst hτ
  exact h _ H σ S.e _ fun v H1 e1 r => k H1 _ (sok_put (S.grow e1) r)
theorem run_asgN {i : Nat} (h : EvN K te τ ds) (k : ∀ p, Run K O0 F tz Dn (τ.set i (.ow p ds))) : Run K O0 F (tSeq (tAsg te (gName i)) tz) Dn τ := fun H σ S =>
  h _ H σ S.e _ fun p vs H1 hp e1 h1 r => k p H1 _ (sok_new S hp e1 h1 r)
theorem run_ret (h : Ev K te τ d) (k : Ret K O0 F Dn.rt d) : Run K O0 F (tSeq (tRet te) tz) Dn τ := fun H σ S =>
  h _ H σ S.e _ fun v H1 e1 r => k v H1 (S.grow e1).same (dp_same (del_sub fun a ha => List.mem_append_right _ ha) r)
theorem run_retN (h : EvN K te τ ds) (k : RetN K O0 F Dn.rt ds) : Run K O0 F (tSeq (tRet te) tz) Dn τ := fun H σ S =>
  h _ H σ S.e _ fun p vs H1 hp e1 h1 r => k p vs H1 (S.same.free hp) (S.grow e1).same h1 (dps_same (del_sub fun a ha => by
    rcases List.mem_cons.mp ha with z | z
    · rw [z]; exact List.mem_cons_self
    · exact List.mem_cons_of_mem _ (List.mem_append_right _ z)) r)
/-- return of an owned list -/
theorem run_retO {p : Addr} {j : Nat} (hj : τ[j]? = some (.ow p ds)) (k : RetN K O0 F Dn.rt ds) : Run K O0 F (tSeq (tRet (tVar j)) tz) Dn τ := fun H σ S => by
  obtain ⟨s, h1, h2, vs, h3, h4⟩ := slsok_get S.e.sl hj
  have hp : p ∈ owns τ := owns_mem.mpr ⟨j, ds, hj⟩
  refine ⟨.ref p, by rw [h1, h2], k p vs H (S.not_own hp) S.same h3 (dps_same (del_sub fun a ha => ?_) h4)⟩
  rcases List.mem_cons.mp ha with z | z
  · rw [z]; exact List.mem_append_left _ hp
  · exact List.mem_append_right _ z
theorem run_retNone (k : Ret K O0 F Dn.rt .none) : Run K O0 F (tSeq tRetN tz) Dn τ := fun H σ S => k .non H S.same .non
theorem run_drop (h : Ev K te τ d) (k : Run K O0 F tz Dn τ) : Run K O0 F (tSeq (tDrop te) tz) Dn τ := fun H σ S =>
  h _ H σ S.e _ fun v H1 e1 r => k H1 _ (S.grow e1)
/-- y = x, x an owned list: it goes over -/
theorem run_move {p : Addr} {i j : Nat} {τ' : List Sl} (hj : τ[j]? = some (.ow p ds)) (k : Run K O0 F tz Dn τ') (hτ : (τ.set j .un).set i (.ow p ds) = τ' := by first | (dsimp only [List.set]; done) | (dsimp only [List.set]; rfl) | rfl) : Run K O0 F (tSeq (tAsg (tVar j) (gName i)) tz) Dn τ := fun H σ S => by
  subst hτ
  obtain ⟨s, h1, h2, vs, h3, h4⟩ := slsok_get S.e.sl hj
  refine ⟨.ref p, by rw [h1, h2], k H _ ?_⟩
  have hp : p ∈ owns τ := owns_mem.mpr ⟨j, ds, hj⟩
  have S1 := sok_un (i := j) S
  have sub : ∀ a, a ∈ owns ((τ.set j .un).set i (.ow p ds)) → a ∈ owns τ := fun a ha => by
    rcases owns_set_new ha with z | z
    · rw [z]; exact hp
    · exact (owns_set_sub rfl).subset z
  have sub2 : ∀ a, a ∈ owns ((τ.set j .un).set i (.ow p ds)) ++ O0 → a ∈ owns τ ++ O0 := fun a ha => by
    rcases List.mem_append.mp ha with z | z
    · exact List.mem_append_left _ (sub a z)
    · exact List.mem_append_right _ z
  exact ⟨⟨fun a ha => S.e.dom a (sub2 a ha), fun a ha => List.mem_append_left _ ha, slsok_sub sub2 (slsok_set (show SlOk K _ H (some (.ref p)) (.ow p ds) from ⟨rfl, vs, h3, h4⟩) i (slsok_un j S.e.sl))⟩, S.base.trans (del_sub sub), S.amb, nodup_set_new S1.nd (own_gone S.nd hj rfl)⟩
/-- xs.append(e) -/
theorem run_app {p : Addr} {j : Nat} {τ' : List Sl} (hj : τ[j]? = some (.ow p ds)) (h : Ev K te τ d) (hz : ds.length < 100000) (k : Run K O0 F tz Dn τ') (hτ : τ.set j (.ow p (ds ++ [d])) = τ' := by first | (dsimp only [List.set]; done) | (dsimp only [List.set]; rfl) | rfl) :
    Run K O0 F (tSeq (tDrop (tBM K "list" rAppend (tVar j) (tCons te tNil))) tz) Dn τ := fun H σ S => by
  subst hτ
  obtain ⟨s, h1, h2, vs, h3, h4⟩ := slsok_get S.e.sl hj
  refine ⟨.ref p, by rw [h1, h2], .inl ⟨rfl, vs, .inl (.inl h3)⟩, h _ H σ S.e _ fun v H1 e1 r => ⟨p, vs, v, rfl, rfl, e1 _ _ h3, ?_, k _ σ (sok_upd (S.grow e1) hj (dps_app (dps_same (del_grow e1) h4) (.cons r .nil)))⟩⟩
  rw [dps_len h4]
  exact Nat.lt_of_lt_of_le hz (by decide)
/-- xs[k] = e -/
theorem run_setI {p : Addr} {j k : Nat} {ti : TE} {τ' : List Sl} (hj : τ[j]? = some (.ow p ds)) (h : Ev K te τ d) (hi : Ev K ti (τ.set j .un) (.int (k : Int))) (hk : k < ds.length) (kk : Run K O0 F tz Dn τ') (hτ : τ.set j (.ow p (ds.set k d)) = τ' := by first | (dsimp only [List.set]; done) | (dsimp only [List.set]; rfl) | rfl) :
    Run K O0 F (tSeq (tAsg te (gSub (tVar j) ti rSetL)) tz) Dn τ := fun H σ S => by
  subst hτ
  refine h _ H σ S.e _ fun v H1 e1 r => ?_
  have S1 := S.grow e1
  obtain ⟨s, h1, h2, vs, h3, h4⟩ := slsok_get S1.e.sl hj
  have SE : SokE K (owns τ ++ O0) H1 σ (τ.set j .un) := ⟨S1.e.dom, fun a ha => List.mem_append_left _ ((owns_set_sub rfl).subset ha), slsok_un j S1.e.sl⟩
  refine ⟨.ref p, by rw [h1, h2], hi _ H1 σ SE _ fun w H2 e2 r2 => ?_⟩
  have S2 := S1.grow e2
  refine ⟨p, vs, (k : Int), k, rfl, dp_int r2, e2 _ _ h3, ?_, kk _ σ (sok_upd S2 hj (dps_set k (dp_same (del_grow e2) r) (dps_same (del_grow e2) h4)))⟩
  unfold ixN
  rw [if_pos (by omega), if_pos (by rw [dps_len h4]; omega)]
  simp
theorem run_if {b : Bool} (h : EvT K tt τ b) (h1 : b = true → Run K O0 F tu { Dn with nx := tz Dn } τ) (h2 : b = false → Run K O0 F tw { Dn with nx := tz Dn } τ) : Run K O0 F (tSeq (tIfS tt tu tw) tz) Dn τ := fun H σ S =>
  h _ H σ S.e _ fun H1 e1 => by
    cases b with
    | true => exact h1 rfl H1 σ (S.grow e1)
    | false => exact h2 rfl H1 σ (S.grow e1)
/-- the end of an if's branch -/
theorem run_nx (k : Run K O0 F tz Dn τ) : Run K O0 F tNext { Dn with nx := tz Dn } τ := fun H σ S => k H σ S
/-- if c: x = e -/
theorem run_ifAsg {b : Bool} {i : Nat} {d0 : D} {τ' : List Sl} (h : EvT K tt τ b) (h0 : τ[i]? = some (.im d0)) (h1 : b = true → Ev K te τ d) (k : Run K O0 F tz Dn τ') (hτ : τ.set i (.im (if b = true then d else d0)) = τ' := by first | (dsimp only [List.set]; done) | (dsimp only [List.set]; rfl) | rfl) :
    Run K O0 F (tSeq (tIfS tt (tSeq (tAsg te (gName i)) tNext) tNext) tz) Dn τ := by
  subst hτ
  refine run_if h (fun hb => ?_) (fun hb => ?_)
  · refine run_asg (h1 hb) (run_nx ?_) rfl
    rw [if_pos hb] at k
    exact k
  · refine run_nx ?_
    rw [if_neg (by rw [hb]; decide)] at k
    have e : τ.set i (.im d0) = τ := set_self h0
    rw [e] at k
    exact k

/-- what stands between two turns -/
def NX (K : PySem.W.Frag) (O0 : List Addr) (G : Hp) (P : List Sl → Prop) : L2.St → Hp → Prop := fun σ H => ∃ τ, P τ ∧ Sok K O0 G H σ τ
theorem run_end {P : List Sl → Prop} {js : List Nat} {n c b rt} (h : P (forget js τ)) (hn : n = NX K O0 F P) : Run K O0 F tNext { nx := n, rt := rt, bk := b, ct := c } τ := fun H σ S => by
  subst hn
  exact ⟨_, h, sok_forget js S⟩
theorem run_seq {v : V} {js : List Nat} {j : Nat} {wi : TI} {g : TG} {Inv : Nat → List Sl → Prop} {xs : List V} {J : It} {σ : L2.St} {a : Addr} (S : Sok K O0 F H σ τ) (h0 : Inv 0 (forget js τ)) (ha : DpAll K (del (owns τ ++ O0) H) xs ds)
    (hs : ∀ G, Same F G → ∀ i d τ', ds[i]? = some d → Inv i τ' → Run K O0 G tu { Dn with nx := NX K O0 G (Inv (i + 1)), ct := NX K O0 G (Inv (i + 1)), bk := Dn.nx } (τ'.set j (.im d)))
    (hd : ∀ τ', Inv ds.length τ' → Run K O0 F (fun D σ H => D.nx σ H) Dn τ') :
    NX K O0 (del (owns τ) H) (Inv 0) σ H ∧ (∀ i x σ' H', xs[i]? = some x → NX K O0 (del (owns τ) H) (Inv i) σ' H' → gName j x σ' H' fun σ2 H2 => tu { Dn with nx := NX K O0 (del (owns τ) H) (Inv (i + 1)), ct := NX K O0 (del (owns τ) H) (Inv (i + 1)), bk := Dn.nx } σ2 H2) ∧
    (∀ σ' H', NX K O0 (del (owns τ) H) (Inv xs.length) σ' H' → Dn.nx σ' H') := by
  refine ⟨⟨_, h0, sok_forget js S.rebase⟩, fun i x σ' H' hx hn => ?_, fun σ' H' hn => ?_⟩
  · obtain ⟨τ', hi, S'⟩ := hn
    obtain ⟨d, hd', r⟩ := dps_get' ha hx
    refine hs _ S.base i d τ' hd' hi H' _ (sok_put S' (dp_same ?_ r))
    rw [del_app, del_app]
    exact del_grow S'.base
  · obtain ⟨τ', hi, S'⟩ := hn
    rw [dps_len ha] at hi
    exact hd τ' hi H' σ' (S'.down S.base S.amb)
theorem run_forL {tl : TE} {j : Nat} (js : List Nat) (Inv : Nat → List Sl → Prop) (h : Ev K tl τ (.list ds)) (h0 : Inv 0 (forget js τ))
    (hs : ∀ G, Same F G → ∀ i d τ', ds[i]? = some d → Inv i τ' → Run K O0 G tu { Dn with nx := NX K O0 G (Inv (i + 1)), ct := NX K O0 G (Inv (i + 1)), bk := tz Dn } (τ'.set j (.im d)))
    (hd : ∀ τ', Inv ds.length τ' → Run K O0 F tz Dn τ') : Run K O0 F (tSeq (tFor (iList K tl) (gName j) tu) tz) Dn τ := fun H σ S => by
  refine h _ H σ S.e _ fun v H1 e1 r => ?_
  obtain ⟨a, xs, rfl, hq, ha⟩ := dp_lst r
  have S1 := S.grow e1
  obtain ⟨p0, p1, p2⟩ := run_seq (v := .ref a) (wi := iList K tl) (g := gName j) (J := Itl K a) (a := a) (tu := tu) (j := j) (Dn := { Dn with nx := tz Dn }) S1 h0 ha hs fun τ' hi => hd τ' hi
  refine ⟨a, rfl, ⟨xs, sql_same del_same hq⟩, for_list (xs := xs) (fun i => NX K O0 (del (owns τ) H1) (Inv i)) p0 (fun i σ' H' _ hn => ?_) p1 p2⟩
  obtain ⟨τ', _, S'⟩ := hn
  rw [del_app] at hq
  exact sql_same ((del_same (O := O0)).trans S'.same) hq
theorem run_forT {tl : TE} {j : Nat} (js : List Nat) (Inv : Nat → List Sl → Prop) (h : Ev K tl τ (.tuple ds)) (h0 : Inv 0 (forget js τ))
    (hs : ∀ G, Same F G → ∀ i d τ', ds[i]? = some d → Inv i τ' → Run K O0 G tu { Dn with nx := NX K O0 G (Inv (i + 1)), ct := NX K O0 G (Inv (i + 1)), bk := tz Dn } (τ'.set j (.im d)))
    (hd : ∀ τ', Inv ds.length τ' → Run K O0 F tz Dn τ') : Run K O0 F (tSeq (tFor (iTup K tl) (gName j) tu) tz) Dn τ := fun H σ S => by
  refine h _ H σ S.e _ fun v H1 e1 r => ?_
  obtain ⟨a, xs, rfl, hq, ha⟩ := dp_tup r
  have S1 := S.grow e1
  obtain ⟨p0, p1, p2⟩ := run_seq (v := .ref a) (wi := iTup K tl) (g := gName j) (J := Itt K a) (a := a) (tu := tu) (j := j) (Dn := { Dn with nx := tz Dn }) S1 h0 ha hs fun τ' hi => hd τ' hi
  refine ⟨a, rfl, ⟨xs, sqt_same del_same hq⟩, for_tup (xs := xs) (fun i => NX K O0 (del (owns τ) H1) (Inv i)) p0 (fun i σ' H' _ hn => ?_) p1 p2⟩
  obtain ⟨τ', _, S'⟩ := hn
  rw [del_app] at hq
  exact sqt_same ((del_same (O := O0)).trans S'.same) hq
theorem run_forR {ta : TA} {j : Nat} {n : Int} (js : List Nat) (Inv : Nat → List Sl → Prop) (h : EvA K ta τ [.int n]) (hn : -100000 ≤ n ∧ n ≤ 100000) (h0 : Inv 0 (forget js τ))
    (hs : ∀ G, Same F G → ∀ (i : Nat) τ', (i : Int) < n → Inv i τ' → Run K O0 G tu { Dn with nx := NX K O0 G (Inv (i + 1)), ct := NX K O0 G (Inv (i + 1)), bk := tz Dn } (τ'.set j (.im (.int (i : Int)))))
    (hd : ∀ τ', Inv n.toNat τ' → Run K O0 F tz Dn τ') : Run K O0 F (tSeq (tFor (iRng1 ta) (gName j) tu) tz) Dn τ := fun H σ S => by
  refine h _ H σ S.e _ fun vs H1 e1 r => ?_
  obtain ⟨v, rfl, r1⟩ := dps1 r
  rw [dp_int r1]
  have S1 := S.grow e1
  refine ⟨n, rfl, by omega, by omega, for_range (lo := 0) (n := n.toNat) (fun i => NX K O0 (del (owns τ) H1) (Inv i)) ⟨_, h0, sok_forget js S1.rebase⟩ (fun i σ' H' hi hx => ?_) (fun σ' H' hx => ?_)⟩
  · obtain ⟨τ', hv, S'⟩ := hx
    have e0 : (0 : Int) + (i : Int) = (i : Int) := Int.zero_add _
    show tu _ (σ'.set j (some (.int ((0 : Int) + (i : Int))))) H'
    rw [e0]
    exact hs _ S1.base i τ' (by omega) hv H' _ (sok_put S' (.int _))
  · obtain ⟨τ', hv, S'⟩ := hx
    exact hd τ' hv H' σ' (S'.down S1.base S.amb)
theorem run_while {W : Nat → List Sl → Prop} (js : List Nat) (m0 : Nat) (h0 : W m0 (forget js τ))
    (hs : ∀ G, Same F G → ∀ m τ', W m τ' → ∃ b, EvT K tt τ' b ∧ (b = true → Run K O0 G tu { Dn with nx := NX K O0 G (fun τ2 => ∃ m', m' < m ∧ W m' τ2), ct := NX K O0 G (fun τ2 => ∃ m', m' < m ∧ W m' τ2), bk := tz Dn } τ') ∧ (b = false → Run K O0 F tz Dn τ')) :
    Run K O0 F (tSeq (tWhile tt tu) tz) Dn τ := fun H σ S => by
  refine ⟨fun m => NX K O0 (del (owns τ) H) (W m), ⟨m0, _, h0, sok_forget js S.rebase⟩, fun m σ' H' hx => ?_⟩
  obtain ⟨τ', hw, S'⟩ := hx
  obtain ⟨b, hb, h1, h2⟩ := hs _ S.base m τ' hw
  refine hb _ H' σ' S'.e _ fun H2 e2 => ?_
  cases b with
  | true =>
    refine ⟨NX K O0 (del (owns τ) H) (fun τ2 => ∃ m', m' < m ∧ W m' τ2), fun σ3 H3 hx => ?_, h1 rfl H2 σ' (S'.grow e2)⟩
    obtain ⟨τ3, ⟨m', hm, hw'⟩, S3⟩ := hx
    exact ⟨m', hm, τ3, hw', S3⟩
  | false => exact h2 rfl H2 σ' ((S'.grow e2).down S.base S.amb)
/-- x, y = a, b -/
theorem run_par {ta : TA} {i j : Nat} {d1 d2 : D} {τ' : List Sl} (h : EvA K ta τ [d1, d2]) (k : Run K O0 F tz Dn τ') (hτ : (τ.set i (.im d1)).set j (.im d2) = τ' := by first | (dsimp only [List.set]; done) | (dsimp only [List.set]; rfl) | rfl) : Run K O0 F (tSeq (tPar i j ta) tz) Dn τ := fun H σ S => by
  subst hτ
  refine h _ H σ S.e _ fun vs H1 e1 r => ?_
  obtain ⟨v, w, rfl, r1, r2⟩ := dps2 r
  refine ⟨v, w, rfl, k H1 _ ?_⟩
  have S1 := sok_put (i := i) (S.grow e1) r1
  refine sok_put S1 (dp_same (del_sub fun a ha => ?_) r2)
  rcases List.mem_append.mp ha with z | z
  · exact List.mem_append_left _ ((owns_set_sub rfl).subset z)
  · exact List.mem_append_right _ z
end

/-- of such data the answer is that datum -/
def spR (K : PySem.W.Frag) (n : Nat) (R : List D → D → Prop) : Sp := fun vs H Q _ => ∃ (O : List Addr) (ds : List D) (d : D), (∀ a ∈ O, H a ≠ none) ∧ DpAll K (del O H) vs ds ∧ (ds.length = n ∧ R ds d) ∧ ∀ v H', Same H H' → Dp K (del O H') v d → Q v H'
/-- .. a new list -/
def spN (K : PySem.W.Frag) (n : Nat) (R : List D → List D → Prop) : Sp := fun vs H Q _ => ∃ (O : List Addr) (ds es : List D), (∀ a ∈ O, H a ≠ none) ∧ DpAll K (del O H) vs ds ∧ (ds.length = n ∧ R ds es) ∧ ∀ p ws H', H p = none → Same H H' → H' p = some (.lst ws) → DpAll K (del (p :: O) H') ws es → Q (.ref p) H'
section
variable {O0 : List Addr} {F G H H' : Hp} {τ : List Sl} {ta : TA} {d : D} {as ds : List D} {E : XK}
theorem ev_call {n : Nat} {R : List D → D → Prop} (h : EvA K ta τ as) (hR : R as d) (hn : as.length = n := by rfl) : Ev K (tCall (spR K n R) [] E ta) τ d := fun O H σ s Q q =>
  h O H σ s _ fun vs H1 e1 r => ⟨O, as, d, (s.grow e1).dom, by rw [List.append_nil]; exact r, ⟨hn, hR⟩, fun v H2 e2 r2 => q v H2 (e1.trans e2) r2⟩
theorem en_call {n : Nat} {R : List D → List D → Prop} (h : EvA K ta τ as) (hR : R as ds) (hn : as.length = n := by rfl) : EvN K (tCall (spN K n R) [] E ta) τ ds := fun O H σ s Q q =>
  h O H σ s _ fun vs H1 e1 r => ⟨O, as, ds, (s.grow e1).dom, by rw [List.append_nil]; exact r, ⟨hn, hR⟩, fun p ws H2 hp e2 h2 r2 => q p ws H2 (e1.free hp) (e1.trans e2) h2 r2⟩
def init (n : Nat) (ds : List D) : List Sl := ds.map Sl.im ++ List.replicate (n - ds.length) .un
theorem owns_init {n : Nat} : ∀ {ds : List D}, owns (init n ds) = [] := fun {ds} => by
  apply List.eq_nil_iff_forall_not_mem.mpr
  intro a ha
  obtain ⟨i, es, e⟩ := owns_mem.mp ha
  unfold init at e
  have hm := List.mem_of_getElem? e
  rcases List.mem_append.mp hm with h | h
  · obtain ⟨d, _, z⟩ := List.mem_map.mp h
    cases z
  · have := List.eq_of_mem_replicate h
    cases this
theorem slsok_init {O : List Addr} {H : Hp} {N : List Str} {vs : List V} {ds : List D} (r : DpAll K (del O H) vs ds) : SlsOk K O H (L2.start N vs) (init N.length ds) := by
  unfold L2.start init
  rw [dps_len r]
  have h1 : ∀ {vs : List V} {ds : List D} {σ : L2.St} {τ : List Sl}, DpAll K (del O H) vs ds → SlsOk K O H σ τ → SlsOk K O H (vs.map some ++ σ) (ds.map Sl.im ++ τ) := by
    intro vs ds σ τ r s
    induction ds generalizing vs with
    | nil => cases r; exact s
    | cons d ds ih => cases r with | cons r1 r2 => exact .cons ⟨_, rfl, r1⟩ (ih r2)
  refine h1 r ?_
  generalize N.length - ds.length = k
  induction k with
  | zero => exact .nil
  | succ k ih => exact .cons trivial ih
theorem sok_init {O : List Addr} {H : Hp} {N : List Str} {vs : List V} {ds : List D} (dom : ∀ a ∈ O, H a ≠ none) (r : DpAll K (del O H) vs ds) : Sok K O H H (L2.start N vs) (init N.length ds) := by
  have e : owns (init N.length ds) = [] := owns_init
  refine ⟨⟨fun a ha => dom a (by rw [e] at ha; exact ha), fun a ha => (by rw [e] at ha; cases ha), (by rw [e]; exact slsok_init r)⟩, (by rw [e, del_nil]; exact Same.refl _), dom, (by rw [e]; exact List.nodup_nil)⟩
/-- a def's promise from its body -/
theorem body_R {m : Nat} {R : List D → D → Prop} {N : List Str} {n : Nat} {t : TS} (hn : N.length = n) (h : ∀ ds d, R ds d → ∀ (O : List Addr) (F : Hp) (Dn : Ends), (∀ σ H', Dn.rt .non H' → Dn.nx σ H') → Ret K O F Dn.rt d → Run K O F t Dn (init n ds)) (vs : List V) (H : Hp) (Q : VK) (E : XK) (q : spR K m R vs H Q E) :
    t { nx := fun _ H' => Q .non H', rt := Q } (L2.start N vs) H := by
  obtain ⟨O, ds, d, dom, r, ⟨_, hR⟩, k⟩ := q
  subst hn
  exact h ds d hR O H { nx := fun _ H' => Q .non H', rt := Q } (fun _ _ z => z) k H _ (sok_init dom r)
theorem body_N {m : Nat} {R : List D → List D → Prop} {N : List Str} {n : Nat} {t : TS} (hn : N.length = n) (h : ∀ ds es, R ds es → ∀ (O : List Addr) (F : Hp) (Dn : Ends), RetN K O F Dn.rt es → Run K O F t Dn (init n ds)) (vs : List V) (H : Hp) (Q : VK) (E : XK) (q : spN K m R vs H Q E) :
    t { nx := fun _ H' => Q .non H', rt := Q } (L2.start N vs) H := by
  obtain ⟨O, ds, es, dom, r, ⟨_, hR⟩, k⟩ := q
  subst hn
  exact h ds es hR O H { nx := fun _ H' => Q .non H', rt := Q } k H _ (sok_init dom r)
end
end GW

namespace GW
open PySem PySem.Spec PyProof.Rows L2
variable {K : PySem.W.Frag}

def rCatL (K : PySem.W.Frag) : R2 := fun x y H Q => ∃ l b xs zs, x = .ref l ∧ y = .ref b ∧ SqL K H l xs ∧ SqL K H b zs ∧ xs.length + zs.length ≤ sizeLine ∧ ∀ p, H p = none → Q (.ref p) (upd H p (.lst (xs ++ zs)))
theorem add_list2 {prog : Program} {w : World} {A : Around} {E : Value → Shared → Prop} {s : Shared} {l b : Addr} {items items2 : Array Value} {Q : Value → Shared → Prop} (hl : s.heap.IsList l items) (hb : s.heap.IsList b items2)
    (h : Q (.ref s.heap.objs.size) { s with heap := s.heap.push { cls := .type "list", data := .seq (items ++ items2) } }) (hsz : items.size + items2.size ≤ sizeLine) : wpAny (model prog w) A (binaryOp .Add (.ref l) (.ref b)) Q E s := by
  obtain ⟨⟨cls, dd, data, sl⟩, ho, hc, n, hd⟩ := id hl
  obtain ⟨⟨cls2, dd2, data2, sl2⟩, ho2, hc2, n2, hd2⟩ := id hb
  simp only at hc hd hc2 hd2
  subst hc hd hc2 hd2
  exact concat_meets ⟨_, ho, rfl⟩ ⟨_, ho2, rfl⟩ noFill_list_add seq_list_add PySem.F.slot_list_add PySem.F.entry_list_add (PySem.F.args_list_add_2 _ _) (list_addW l b items items2 n n2 dd dd2 sl sl2 hsz) ⟨ho, ho2, h⟩
section
variable {X : Cx}
theorem op_catL : OpR X (binaryOp .Add) (rCatL X.K) := by
  intro pins s σ H x y v u Q I rx ry h
  obtain ⟨l, b, xs, zs, rfl, rfl, hH, hB, hz, q⟩ := h
  cases rx
  cases ry
  obtain ⟨its, r, hl, _⟩ := I.list hH
  obtain ⟨its2, r2, hl2, _⟩ := I.list hB
  have e1 := r.length
  have e2 := r2.length
  refine add_list2 hl.isList hl2.isList ?_ (by rw [List.size_toArray, List.size_toArray]; omega)
  have ea : its.toArray ++ its2.toArray = (its ++ its2).toArray := by simp
  rw [ea]
  exact ⟨.ref _, _, I.lnew (t' := s.toks) (r.append r2) (by rw [List.length_append]; omega), rfl, q _ I.fresh⟩
def rAddI : R2 := rI0 fun i j => .int (i + j)
def rAdd (K : PySem.W.Frag) : R2 := fun x y H Q => rAddI x y H Q ∨ (rCatL K x y H Q ∨ rCatA K x y H Q)
theorem op_addK : OpR X (binaryOp .Add) (rAdd X.K) := op_add.or (op_catL.or op_catA)
def rSub : R2 := rI0 fun i j => .int (i - j)
theorem op_subK : OpR X (binaryOp .Sub) rSub := op_sub
def CM (i j : Int) : Prop := CMul i j ∨ CMulW i j
def rMulI : R2 := rI CM fun i j => .int (i * j)
theorem op_mulI : OpR X (binaryOp .Mult) rMulI := opI fun _ _ _ _ _ _ _ hc q => mul_int q (hc.elim CMul.ok CMulW.ok)
def rMul (K : PySem.W.Frag) : R2 := fun x y H Q => rMulI x y H Q ∨ (rRep x y H Q ∨ rRepT K x y H Q)
theorem op_mulK : OpR X (binaryOp .Mult) (rMul X.K) := op_mulI.or (op_rep.or op_repT)
def rDiv : R2 := rI CDivW fun i j => .int (i / j)
theorem op_divK : OpR X (binaryOp .FloorDiv) rDiv := op_fdivW
def rMod : R2 := rI (fun _ j => 0 < j) fun i j => .int (i % j)
theorem op_modK : OpR X (binaryOp .Mod) rMod := op_mod
def rPow : R2 := rI CPow fun i j => .int (i ^ j.toNat)
theorem op_powK : OpR X (binaryOp .Pow) rPow := op_pow
def rLt : R2 := rI0 fun i j => .bl (decide (i < j))
def rLe : R2 := rI0 fun i j => .bl (decide (i ≤ j))
def rGt : R2 := rI0 fun i j => .bl (decide (j < i))
def rGe : R2 := rI0 fun i j => .bl (decide (j ≤ i))
theorem op_ltK : OpR X (compareOp .Lt) rLt := op_lt
theorem op_leK : OpR X (compareOp .LtE) rLe := op_le
theorem op_gtK : OpR X (compareOp .Gt) rGt := op_gt
theorem op_geK : OpR X (compareOp .GtE) rGe := op_ge
/-- is: None, or two bools -/
def rIs : R2 := fun x y H Q => (y = .non ∧ Q (.bl (decide (x = .non))) H) ∨ (∃ a b : Bool, x = .bl a ∧ y = .bl b ∧ Q (.bl (decide (a = b))) H)
def rNot : R2 := fun x y H Q => (y = .non ∧ Q (.bl (!decide (x = .non))) H) ∨ (∃ a b : Bool, x = .bl a ∧ y = .bl b ∧ Q (.bl (!decide (a = b))) H)
theorem op_isK : OpR X (compareOp .Is) rIs := op_isN.or op_isBl
theorem op_notK : OpR X (compareOp .IsNot) rNot := op_notN.or op_notBl
def rSl (K : PySem.W.Frag) : V → Option Int → Option Int → Hp → VK → Prop := fun x lo hi H Q => rSlL K x lo hi H Q ∨ rSlA K x lo hi H Q
theorem sl_K : SlR X (rSl X.K) := sl_list.or sl_tupA
def rLen (K : PySem.W.Frag) : List V → Hp → VK → Prop := fun xs H Q => ∃ p ys, xs = [.ref p] ∧ (SqL K H p ys ∨ SqT K H p ys) ∧ Q (.int ys.length) H
theorem cl_len : CallR X (.builtin "len") (rLen X.K) := call_len_seq
def rAbs : List V → Hp → VK → Prop := fun xs H Q => ∃ i, xs = [.int i] ∧ Q (.int (if i < 0 then -i else i)) H
theorem cl_abs : CallR X (.builtin "abs") rAbs := call_abs
def rMax2 : List V → Hp → VK → Prop := fun xs H Q => ∃ i j, xs = [.int i, .int j] ∧ Q (.int (if j > i then j else i)) H
def rMin2 : List V → Hp → VK → Prop := fun xs H Q => ∃ i j, xs = [.int i, .int j] ∧ Q (.int (if j < i then j else i)) H
theorem cl_max2 (hc : X.calm = true) : CallR X (.builtin "max") rMax2 := call_max2 hc
theorem cl_min2 (hc : X.calm = true) : CallR X (.builtin "min") rMin2 := call_min2 hc
def rInt : List V → Hp → VK → Prop := fun xs H Q => (∃ i, xs = [.int i] ∧ Q (.int i) H) ∨ ∃ k, xs = [.bl k] ∧ Q (.int (if k then 1 else 0)) H
theorem cl_int : CallR X (.type "int") rInt := call_int1
def rList (K : PySem.W.Frag) : List V → Hp → VK → Prop := fun xs H Q => ∃ p ys, xs = [.ref p] ∧ (SqL K H p ys ∨ SqT K H p ys) ∧ ∀ l, H l = none → Q (.ref l) (upd H l (.lst ys))
theorem cl_list : CallR X (.type "list") (rList X.K) := call_list_of
def rTuple (K : PySem.W.Frag) : List V → Hp → VK → Prop := fun xs H Q => ∃ p ys, xs = [.ref p] ∧ ((SqL K H p ys ∧ ∀ l, H l = none → Q (.ref l) (upd H l (.tup ys))) ∨ (SqT K H p ys ∧ Q (.ref p) H))
theorem cl_tuple : CallR X (.type "tuple") (rTuple X.K) := call_tuple_of
end

section
variable {τ : List Sl} {ta tb te : TE} {a b d : D}
theorem rv_addI {i j : Int} : Rv K (rAdd K) (.int i) (.int j) (.int (i + j)) := fun O H x y _ hx hy Q q => .inl ⟨i, j, dp_int hx, dp_int hy, q _ H (Same.refl H) (.int _)⟩
theorem rv_sub {i j : Int} : Rv K rSub (.int i) (.int j) (.int (i - j)) := fun O H x y _ hx hy Q q => ⟨i, j, dp_int hx, dp_int hy, q _ H (Same.refl H) (.int _)⟩
theorem rv_mulI {i j : Int} (h : CM i j) : Rv K (rMul K) (.int i) (.int j) (.int (i * j)) := fun O H x y _ hx hy Q q => .inl ⟨i, j, dp_int hx, dp_int hy, h, q _ H (Same.refl H) (.int _)⟩
theorem rv_div {i j : Int} (h : CDivW i j) : Rv K rDiv (.int i) (.int j) (.int (i / j)) := fun O H x y _ hx hy Q q => ⟨i, j, dp_int hx, dp_int hy, h, q _ H (Same.refl H) (.int _)⟩
theorem rv_mod {i j : Int} (h : 0 < j) : Rv K rMod (.int i) (.int j) (.int (i % j)) := fun O H x y _ hx hy Q q => ⟨i, j, dp_int hx, dp_int hy, h, q _ H (Same.refl H) (.int _)⟩
theorem rv_pow {i j : Int} (h : CPow i j) : Rv K rPow (.int i) (.int j) (.int (i ^ j.toNat)) := fun O H x y _ hx hy Q q => ⟨i, j, dp_int hx, dp_int hy, h, q _ H (Same.refl H) (.int _)⟩
theorem rv_lt {i j : Int} : Rv K rLt (.int i) (.int j) (.bool (decide (i < j))) := fun O H x y _ hx hy Q q => ⟨i, j, dp_int hx, dp_int hy, q _ H (Same.refl H) (.bl _)⟩
theorem rv_le {i j : Int} : Rv K rLe (.int i) (.int j) (.bool (decide (i ≤ j))) := fun O H x y _ hx hy Q q => ⟨i, j, dp_int hx, dp_int hy, q _ H (Same.refl H) (.bl _)⟩
theorem rv_gt {i j : Int} : Rv K rGt (.int i) (.int j) (.bool (decide (j < i))) := fun O H x y _ hx hy Q q => ⟨i, j, dp_int hx, dp_int hy, q _ H (Same.refl H) (.bl _)⟩
theorem rv_ge {i j : Int} : Rv K rGe (.int i) (.int j) (.bool (decide (j ≤ i))) := fun O H x y _ hx hy Q q => ⟨i, j, dp_int hx, dp_int hy, q _ H (Same.refl H) (.bl _)⟩
def isNone : D → Bool
  | .none => true
  | _ => false
theorem isNone_dp {H : Hp} {v : V} {d : D} (h : Dp K H v d) : decide (v = .non) = isNone d := by cases h <;> first | rfl | exact decide_eq_false (fun z => nomatch z)
theorem rv_isN : Rv K rIs a .none (.bool (isNone a)) := fun O H x y _ hx hy Q q => .inl ⟨dp_non hy, q _ H (Same.refl H) (by rw [isNone_dp hx]; exact .bl _)⟩
theorem rv_notN : Rv K rNot a .none (.bool (!isNone a)) := fun O H x y _ hx hy Q q => .inl ⟨dp_non hy, q _ H (Same.refl H) (by rw [isNone_dp hx]; exact .bl _)⟩
theorem rv_isB {x y : Bool} : Rv K rIs (.bool x) (.bool y) (.bool (decide (x = y))) := fun O H v w _ hx hy Q q => .inr ⟨x, y, dp_bl hx, dp_bl hy, q _ H (Same.refl H) (.bl _)⟩
theorem rv_notB {x y : Bool} : Rv K rNot (.bool x) (.bool y) (.bool (!decide (x = y))) := fun O H v w _ hx hy Q q => .inr ⟨x, y, dp_bl hx, dp_bl hy, q _ H (Same.refl H) (.bl _)⟩
theorem rv_eq (ha : SeqAt.shaped a = true) (hb : SeqAt.shaped b = true) : Rv K (rEqD K) a b (.bool (PyData.eqv a b)) := fun O H x y _ hx hy Q q => ⟨a, b, dp_same del_same hx, dp_same del_same hy, ha, hb, q _ H (Same.refl H) (.bl _)⟩
theorem rv_ne (ha : SeqAt.shaped a = true) (hb : SeqAt.shaped b = true) : Rv K (rNeD K) a b (.bool (!PyData.eqv a b)) := fun O H x y _ hx hy Q q => ⟨a, b, dp_same del_same hx, dp_same del_same hy, ha, hb, q _ H (Same.refl H) (.bl _)⟩
theorem shaped_int {i : Int} : SeqAt.shaped (.int i) = true := rfl
theorem atI_dps {H : Hp} {xs : List V} {ds : List D} {i : Int} {d : D} (r : DpAll K H xs ds) (h : atI ds i = some d) : ∃ v, atI xs i = some v ∧ Dp K H v d := by
  unfold atI at h ⊢
  rw [dps_len r]
  cases e : ixN ds.length i with
  | none => rw [e] at h; cases h
  | some j =>
    rw [e] at h
    exact dps_get r h
theorem rv_ixT {ds : List D} {i : Int} (h : atI ds i = some d) : Rv K (rIx K) (.tuple ds) (.int i) d := fun O H x y _ hx hy Q q => by
  obtain ⟨p, xs, rfl, hq, r⟩ := dp_tup hx
  obtain ⟨v, hv, rd⟩ := atI_dps r h
  exact .inr (.inl ⟨p, xs, i, v, rfl, dp_int hy, sqt_same del_same hq, hv, q v H (Same.refl H) rd⟩)
theorem rv_ixL {ds : List D} {i : Int} (h : atI ds i = some d) : Rv K (rIx K) (.list ds) (.int i) d := fun O H x y _ hx hy Q q => by
  obtain ⟨p, xs, rfl, hq, r⟩ := dp_lst hx
  obtain ⟨v, hv, rd⟩ := atI_dps r h
  exact .inl ⟨p, xs, i, v, rfl, dp_int hy, sql_same del_same hq, hv, q v H (Same.refl H) rd⟩
theorem rv_catL {ds es : List D} (h : ds.length + es.length ≤ 100000) : RvN K (rAdd K) (.list ds) (.list es) (ds ++ es) := fun O H x y dom hx hy Q q => by
  obtain ⟨p, xs, rfl, hq, r⟩ := dp_lst hx
  obtain ⟨p2, ys, rfl, hq2, r2⟩ := dp_lst hy
  exact .inr (.inl ⟨p, p2, xs, ys, rfl, rfl, sql_same del_same hq, sql_same del_same hq2, by rw [dps_len r, dps_len r2]; exact Nat.le_trans h (by decide), fun l hl => q l _ _ hl (same_upd hl) upd_same (dps_newlst hl (dps_app r r2))⟩)
theorem rv_catT {ds es : List D} (h : ds.length + es.length ≤ 100000) : Rv K (rAdd K) (.tuple ds) (.tuple es) (.tuple (ds ++ es)) := fun O H x y dom hx hy Q q => by
  obtain ⟨p, xs, rfl, hq, r⟩ := dp_tup hx
  obtain ⟨p2, ys, rfl, hq2, r2⟩ := dp_tup hy
  refine .inr (.inr ⟨p, p2, xs, ys, rfl, rfl, sqt_same del_same hq, sqt_same del_same hq2, by rw [dps_len r, dps_len r2]; exact Nat.le_trans h (by decide), fun e => ?_, fun e e2 => ?_, fun e e2 l hl => ?_⟩)
  · subst e
    cases r
    exact q _ H (Same.refl H) hy
  · subst e2
    cases r2
    rw [List.append_nil] at q
    exact q _ H (Same.refl H) hx
  · exact q _ _ (same_upd hl) (dp_newtup dom hl (dps_app r r2))
def cutD (ds : List D) (lo hi : Option Int) : List D := (ds.drop (HT.sIx ds.length 0 lo)).take (HT.sIx ds.length ds.length hi - HT.sIx ds.length 0 lo)
theorem dps_cut {H : Hp} {xs : List V} {ds : List D} {lo hi : Option Int} (r : DpAll K H xs ds) : DpAll K H (cutV xs lo hi) (cutD ds lo hi) := by
  unfold cutV cutD
  rw [dps_len r]
  exact dps_take _ (dps_drop _ r)
theorem cutD_length (xs : List D) (lo hi : Option Int) : (cutD xs lo hi).length ≤ xs.length := by
  unfold cutD
  rw [List.length_take, List.length_drop]
  omega
theorem ev_slT {tl th : TO} {ds : List D} {lo hi : Option Int} (h : Ev K te τ (.tuple ds)) (hl : EvO K tl τ lo) (hh : EvO K th τ hi) : Ev K (tSl (rSl K) te tl th) τ (.tuple (cutD ds lo hi)) := fun O H σ s Q q =>
  h O H σ s _ fun v H1 e1 r1 => hl O H1 σ (s.grow e1) _ fun H2 e2 => hh O H2 σ ((s.grow e1).grow e2) _ fun H3 e3 => by
    have S := ((s.grow e1).grow e2).grow e3
    have e4 := (e1.trans e2).trans e3
    obtain ⟨p, xs, rfl, hq, r⟩ := dp_tup (dp_same (del_grow (e2.trans e3)) r1)
    refine .inr ⟨p, xs, rfl, sqt_same del_same hq, fun hw => ?_, fun hw l hl' => q _ _ (e4.trans (same_upd hl')) (dp_newtup S.dom hl' (dps_cut r))⟩
    have e : cutD ds lo hi = ds := by
      have := dps_len r
      unfold cutD
      rw [this] at hw
      rw [hw.1, hw.2, Nat.sub_zero]
      exact List.take_length
    rw [e] at q
    exact q _ H3 e4 (.tup hq r)
theorem en_slL {tl th : TO} {ds : List D} {lo hi : Option Int} (h : Ev K te τ (.list ds)) (hl : EvO K tl τ lo) (hh : EvO K th τ hi) : EvN K (tSl (rSl K) te tl th) τ (cutD ds lo hi) := fun O H σ s Q q =>
  h O H σ s _ fun v H1 e1 r1 => hl O H1 σ (s.grow e1) _ fun H2 e2 => hh O H2 σ ((s.grow e1).grow e2) _ fun H3 e3 => by
    have S := ((s.grow e1).grow e2).grow e3
    have e4 := (e1.trans e2).trans e3
    obtain ⟨p, xs, rfl, hq, r⟩ := dp_lst (dp_same (del_grow (e2.trans e3)) r1)
    exact .inl ⟨p, xs, rfl, sql_same del_same hq, fun l hl' => q l _ _ (e4.free hl') (e4.trans (same_upd hl')) upd_same (dps_newlst hl' (dps_cut r))⟩
theorem rc_lenL {ds : List D} : Rc K (rLen K) [.list ds] (.int (ds.length : Int)) := fun O H xs dom r Q q => by
  obtain ⟨v, rfl, r1⟩ := dps1 r
  obtain ⟨p, ys, rfl, hq, ra⟩ := dp_lst r1
  exact ⟨p, ys, rfl, .inl (sql_same del_same hq), by rw [dps_len ra]; exact q _ H (Same.refl H) (.int _)⟩
theorem rc_lenT {ds : List D} : Rc K (rLen K) [.tuple ds] (.int (ds.length : Int)) := fun O H xs dom r Q q => by
  obtain ⟨v, rfl, r1⟩ := dps1 r
  obtain ⟨p, ys, rfl, hq, ra⟩ := dp_tup r1
  exact ⟨p, ys, rfl, .inr (sqt_same del_same hq), by rw [dps_len ra]; exact q _ H (Same.refl H) (.int _)⟩
theorem rc_abs {i : Int} : Rc K rAbs [.int i] (.int (if i < 0 then -i else i)) := fun O H xs dom r Q q => by
  obtain ⟨v, rfl, r1⟩ := dps1 r
  exact ⟨i, by rw [dp_int r1], q _ H (Same.refl H) (.int _)⟩
theorem rc_max2 {i j : Int} : Rc K rMax2 [.int i, .int j] (.int (if j > i then j else i)) := fun O H xs dom r Q q => by
  obtain ⟨v, w, rfl, r1, r2⟩ := dps2 r
  exact ⟨i, j, by rw [dp_int r1, dp_int r2], q _ H (Same.refl H) (.int _)⟩
theorem rc_min2 {i j : Int} : Rc K rMin2 [.int i, .int j] (.int (if j < i then j else i)) := fun O H xs dom r Q q => by
  obtain ⟨v, w, rfl, r1, r2⟩ := dps2 r
  exact ⟨i, j, by rw [dp_int r1, dp_int r2], q _ H (Same.refl H) (.int _)⟩
theorem rc_intB {x : Bool} : Rc K rInt [.bool x] (.int (if x then 1 else 0)) := fun O H xs dom r Q q => by
  obtain ⟨v, rfl, r1⟩ := dps1 r
  exact .inr ⟨x, by rw [dp_bl r1], q _ H (Same.refl H) (.int _)⟩
theorem rc_listL {ds : List D} : RcN K (rList K) [.list ds] ds := fun O H xs dom r Q q => by
  obtain ⟨v, rfl, r1⟩ := dps1 r
  obtain ⟨p, ys, rfl, hq, ra⟩ := dp_lst r1
  exact ⟨p, ys, rfl, .inl (sql_same del_same hq), fun l hl => q l _ _ hl (same_upd hl) upd_same (dps_newlst hl ra)⟩
theorem rc_listT {ds : List D} : RcN K (rList K) [.tuple ds] ds := fun O H xs dom r Q q => by
  obtain ⟨v, rfl, r1⟩ := dps1 r
  obtain ⟨p, ys, rfl, hq, ra⟩ := dp_tup r1
  exact ⟨p, ys, rfl, .inr (sqt_same del_same hq), fun l hl => q l _ _ hl (same_upd hl) upd_same (dps_newlst hl ra)⟩
theorem rc_tupleL {ds : List D} : Rc K (rTuple K) [.list ds] (.tuple ds) := fun O H xs dom r Q q => by
  obtain ⟨v, rfl, r1⟩ := dps1 r
  obtain ⟨p, ys, rfl, hq, ra⟩ := dp_lst r1
  exact ⟨p, ys, rfl, .inl ⟨sql_same del_same hq, fun l hl => q _ _ (same_upd hl) (dp_newtup dom hl ra)⟩⟩
theorem rc_tupleT {ds : List D} : Rc K (rTuple K) [.tuple ds] (.tuple ds) := fun O H xs dom r Q q => by
  obtain ⟨v, rfl, r1⟩ := dps1 r
  obtain ⟨p, ys, rfl, hq, ra⟩ := dp_tup r1
  exact ⟨p, ys, rfl, .inr ⟨sqt_same del_same hq, q _ H (Same.refl H) r1⟩⟩
def rNeg : V → Hp → VK → Prop := rU fun i => .int (-i)
theorem ev_neg {i : Int} (h : Ev K te τ (.int i)) : Ev K (tUn rNeg te) τ (.int (-i)) := ev_un h fun H x O hx Q q => ⟨i, dp_int hx, q _ (.int _)⟩
def cls : D → String
  | .none => "NoneType"
  | .bool _ => "bool"
  | .int _ => "int"
  | .str _ => "str"
  | .list _ => "list"
  | .tuple _ => "tuple"
  | .dict _ => "dict"
def tyOf (n : String) : Value := .type n
theorem tyx_of {H : Hp} {v : V} {d : D} (h : Dp K H v d) (hn : cls d ≠ "NoneType") : TyX K H v (.type (cls d)) := by
  cases h with
  | non => exact absurd rfl hn
  | bl b => exact .base (.bl b)
  | int i => exact .base (.int i)
  | str x => exact .base (.str x)
  | lst hq _ =>
    rcases hq with (h | ⟨o, h⟩) | ⟨o, its, n, h, c, _⟩
    · exact .base (.lst h)
    · exact .base (.frz h)
    · exact .kList h c
  | tup hq _ =>
    rcases hq with (h | ⟨o, h⟩) | ⟨o, its, n, h, c, _⟩
    · exact .base (.tup h)
    · exact .fTuple h
    · exact .kTuple h c
theorem ev_isi {n : String} {b : Bool} (h : Ev K te τ d) (hn : cls d ≠ "NoneType") (hk : kitB (cls d) n = some b) : Ev K (tCB (rIsi K) (tCons te (tCons (tC (.ty n)) tNil))) τ (.bool b) := fun O H σ s Q q =>
  h O H σ s _ fun v H1 e1 r1 => ⟨v, .ty n, .type (cls d), .type n, b, rfl, .ty n, tyx_of (dp_same del_same r1) hn, kit_ty hk, q _ H1 e1 (.bl b)⟩
end
end GW
namespace GW
open PySem PySem.Spec PyProof.Rows L2
variable {K : PySem.W.Frag}
theorem eqv_int {i j : Int} : PyData.eqv (.int i) (.int j) = decide (i = j) := by
  unfold PyData.eqv
  rw [Bool.beq_eq_decide_eq]
theorem rv_eqI {i j : Int} : Rv K (rEqD K) (.int i) (.int j) (.bool (decide (i = j))) := by
  have h := rv_eq (K := K) (a := .int i) (b := .int j) rfl rfl
  rw [eqv_int] at h
  exact h
theorem rv_neI {i j : Int} : Rv K (rNeD K) (.int i) (.int j) (.bool (!decide (i = j))) := by
  have h := rv_ne (K := K) (a := .int i) (b := .int j) rfl rfl
  rw [eqv_int] at h
  exact h
end GW
namespace GW
open PySem PySem.Spec PyProof.Rows L2
variable {K : PySem.W.Frag} {τ : List Sl} {ta tb te : TE} {a b d : D}
theorem RvN.rv {r : R2} {ds : List D} (h : RvN K r a b ds) : Rv K r a b (.list ds) := fun O H x y dom hx hy Q q =>
  h O H x y dom hx hy Q fun p vs H' hp e h1 rr => q _ H' e (dp_of_new dom hp h1 rr)
theorem rv_catL' {ds es : List D} (h : ds.length + es.length ≤ 100000) : Rv K (rAdd K) (.list ds) (.list es) (.list (ds ++ es)) := (rv_catL h).rv
theorem RcN.rc {r : List V → Hp → VK → Prop} {as ds : List D} (h : RcN K r as ds) : Rc K r as (.list ds) := fun O H xs dom hx Q q =>
  h O H xs dom hx Q fun p vs H' hp e h1 rr => q _ H' e (dp_of_new dom hp h1 rr)
theorem rc_listL' {ds : List D} : Rc K (rList K) [.list ds] (.list ds) := rc_listL.rc
theorem rc_listT' {ds : List D} : Rc K (rList K) [.tuple ds] (.list ds) := rc_listT.rc
theorem ev_lst {tr : TA} {ds : List D} (h : EvA K tr τ ds) (hl : ds.length ≤ 100000) : Ev K (tLst tr) τ (.list ds) := (en_lst h hl).ev
theorem ev_callN {n : Nat} {R : List D → List D → Prop} {E : XK} {ta : TA} {as ds : List D} (h : EvA K ta τ as) (hR : R as ds) (hn : as.length = n := by rfl) : Ev K (tCall (spN K n R) [] E ta) τ (.list ds) := (en_call h hR hn).ev
/-- d[lo:hi] is e -/
inductive SlD : D → Option Int → Option Int → D → Prop
  | lst {ds : List D} {lo hi : Option Int} : SlD (.list ds) lo hi (.list (cutD ds lo hi))
  | tup {ds : List D} {lo hi : Option Int} : SlD (.tuple ds) lo hi (.tuple (cutD ds lo hi))
theorem ev_sl {tl th : TO} {lo hi : Option Int} {e : D} (h : Ev K te τ d) (hl : EvO K tl τ lo) (hh : EvO K th τ hi) (hs : SlD d lo hi e) : Ev K (tSl (rSl K) te tl th) τ e := by
  cases hs with
  | lst => exact (en_slL h hl hh).ev
  | tup => exact ev_slT h hl hh
end GW

namespace GW
open PySem PySem.Spec PyProof.Rows L2
variable {K : PySem.W.Frag}
structure Fn (P : Program) (w : World) (K : PySem.W.Frag) (mg : Str → Option Value) (base : Heap) (x : Str) (ps : List Str) (k : Nat) (sp : Sp) : Prop where
  ex : ∃ f fd, FnOk P w K mg base CX0 k f fd ps sp ∧ mg x = some (.ref f) ∧ PySem.W.keepIn K (.ref f) = true ∧ Binds K fd ps []
section
variable {X : Cx} {x : Str} {ps : List Str} {k : Nat} {sp : Sp} {e : Expr} {es : List Expr} {p pos : Pos} {t : TA}
theorem pe_fn (G : Fn X.prog X.w X.K X.mg X.base x ps k sp) (hr : Room k X.A) (ha : PA X (e :: es) t) (hg : Gl X x := by rfl)
    (hdb : (x == ("__debug__" : Str)) = false := by decide) (he : starEach (e :: es) X.env = (false, eval e X.env) :: starEach es X.env := by rfl) (hpl : (backTo pos (starEach es X.env)).any (·.1) = false := by rfl) :
    PE X (.Call (.Name x p) (e :: es) [] pos) (tCall sp [] E0 t) := by
  obtain ⟨f, fd, F, hm, hk, hb⟩ := G.ex
  exact pe_call F hr hg hm hk hb .nil pass0 ha hdb he hpl
/-- what a for, a comprehension walks: a list or a tuple -/
def iSeq (K : PySem.W.Frag) (tl : TE) : TI := fun σ H R => tl σ H fun x H1 => ∃ a, x = .ref a ∧ (((∃ xs, SqL K H1 a xs) ∧ R (Itl K a) H1) ∨ ((∃ xs, SqT K H1 a xs) ∧ R (Itt K a) H1))
theorem pi_seq {tg l : Expr} {tl : TE} (hl : PE X l tl) : PI X tg l (iSeq X.K tl) := by
  refine ⟨fun pins s σ H R I h => ?_⟩
  refine thn (hl.run pins s σ H _ I h) fun v s1 ⟨x, H1, I1, r1, q1⟩ => ?_
  obtain ⟨a, e, q⟩ := q1
  subst e
  cases r1
  rcases q with ⟨⟨xs, hq⟩, q⟩ | ⟨⟨xs, hq⟩, q⟩
  · obtain ⟨its, rv, p, hz⟩ := I1.list hq
    refine wpAny_pyIter_list p.isList ?_
    refine ⟨s1.heap.objs.size, [s1.heap.objs.size], _, _, H1, rfl, I1.kept (t' := s1.toks) fun b o e => Heap.get?_push_of_some _ e, turn_list a _, ⟨_, Heap.get?_push_size _ rfl, rfl, rfl⟩, fun b hb => ?_, q⟩
    have e : b = s1.heap.objs.size := by simpa using hb
    subst e
    exact I1.fpOk (Nat.le_refl _) (I1.hok.fresh (Nat.le_refl _))
  · obtain ⟨its, rv, p, hz⟩ := I1.tuple hq
    refine wpAny_pyIter_tuple (show s1.heap.IsTuple a its.toArray from p) ?_
    refine ⟨s1.heap.objs.size, [s1.heap.objs.size], _, _, H1, rfl, I1.kept (t' := s1.toks) fun b o e => Heap.get?_push_of_some _ e, turn_tuple a _, ⟨_, Heap.get?_push_size _ rfl, rfl, rfl⟩, fun b hb => ?_, q⟩
    have e : b = s1.heap.objs.size := by simpa using hb
    subst e
    exact I1.fpOk (Nat.le_refl _) (I1.hok.fresh (Nat.le_refl _))
end
/-- a list or a tuple of such data -/
def IsSeq (d : D) (ds : List D) : Prop := d = .list ds ∨ d = .tuple ds
section
variable {O0 : List Addr} {F : Hp} {τ : List Sl} {Dn : Ends} {te : TE} {t u tz tu tw : TS} {tt : TT} {d : D} {ds : List D}
/-- for x in e: the store between the turns is f of the turn -/
theorem run_for {tl : TE} {j : Nat} (js : List Nat) (Inv : Nat → List Sl → Prop) (h : Ev K tl τ d) (hd' : IsSeq d ds) (h0 : Inv 0 (forget js τ))
    (hs : ∀ G, Same F G → ∀ i d τ', ds[i]? = some d → Inv i τ' → Run K O0 G tu { Dn with nx := NX K O0 G (Inv (i + 1)), ct := NX K O0 G (Inv (i + 1)), bk := tz Dn } (τ'.set j (.im d)))
    (hd : ∀ τ', Inv ds.length τ' → Run K O0 F tz Dn τ') : Run K O0 F (tSeq (tFor (iSeq K tl) (gName j) tu) tz) Dn τ := fun H σ S => by
  refine h _ H σ S.e _ fun v H1 e1 r => ?_
  have S1 := S.grow e1
  rcases hd' with rfl | rfl
  · obtain ⟨a, xs, rfl, hq, ha⟩ := dp_lst r
    obtain ⟨p0, p1, p2⟩ := run_seq (v := .ref a) (wi := iList K tl) (g := gName j) (J := Itl K a) (a := a) (tu := tu) (j := j) (Dn := { Dn with nx := tz Dn }) S1 h0 ha hs fun τ' hi => hd τ' hi
    refine ⟨a, rfl, .inl ⟨⟨xs, sql_same del_same hq⟩, for_list (xs := xs) (fun i => NX K O0 (del (owns τ) H1) (Inv i)) p0 (fun i σ' H' _ hn => ?_) p1 p2⟩⟩
    obtain ⟨τ', _, S'⟩ := hn
    rw [del_app] at hq
    exact sql_same ((del_same (O := O0)).trans S'.same) hq
  · obtain ⟨a, xs, rfl, hq, ha⟩ := dp_tup r
    obtain ⟨p0, p1, p2⟩ := run_seq (v := .ref a) (wi := iTup K tl) (g := gName j) (J := Itt K a) (a := a) (tu := tu) (j := j) (Dn := { Dn with nx := tz Dn }) S1 h0 ha hs fun τ' hi => hd τ' hi
    refine ⟨a, rfl, .inr ⟨⟨xs, sqt_same del_same hq⟩, for_tup (xs := xs) (fun i => NX K O0 (del (owns τ) H1) (Inv i)) p0 (fun i σ' H' _ hn => ?_) p1 p2⟩⟩
    obtain ⟨τ', _, S'⟩ := hn
    rw [del_app] at hq
    exact sqt_same ((del_same (O := O0)).trans S'.same) hq
/-- return of a comparison etc. needs no more; the end of a def without return -/
theorem run_noret (h : ∀ σ H', Dn.rt .non H' → Dn.nx σ H') (k : Ret K O0 F Dn.rt .none) : Run K O0 F tNext Dn τ := fun H σ S => h σ H (k .non H S.same .non)
end
end GW

namespace GW
open PySem PySem.Spec PyProof.Rows L2
variable {K : PySem.W.Frag}
def shD (r : Rat) : D := .tuple [.int r.num, .int (r.den : Int)]
theorem gcd_step (a b : Int) (ha : 0 ≤ a) (hb : 0 ≤ b) : Int.gcd b (a % b) = Int.gcd a b := by
  obtain ⟨m, rfl⟩ := Int.eq_ofNat_of_zero_le ha
  obtain ⟨n, rfl⟩ := Int.eq_ofNat_of_zero_le hb
  rw [← Int.natCast_emod]
  show Nat.gcd n (m % n) = Nat.gcd m n
  rw [Nat.gcd_comm m n, Nat.gcd_rec n m, Nat.gcd_comm]
theorem num_fr {t b : Int} (hb : 0 < b) : (Rat.divInt t b).num = t / ((Int.gcd t b : Nat) : Int) := by
  rw [Rat.num_divInt, Int.sign_eq_one_of_pos hb, Int.one_mul, Int.gcd_comm]
theorem den_fr {t b : Int} (hb : 0 < b) : (((Rat.divInt t b).den : Nat) : Int) = b / ((Int.gcd t b : Nat) : Int) := by
  rw [Rat.den_divInt, if_neg (by omega), Int.gcd_comm, Int.natCast_ediv, Int.natAbs_of_nonneg (Int.le_of_lt hb)]
theorem gcd_pos {t b : Int} (hb : 0 < b) : 0 < ((Int.gcd t b : Nat) : Int) := by
  have := Int.gcd_pos_of_ne_zero_right t (show b ≠ 0 by omega)
  omega
theorem gcd_le {t b : Int} (hb : 0 < b) : ((Int.gcd t b : Nat) : Int) ≤ b := Int.le_of_dvd hb (Int.gcd_dvd_right t b)
theorem shD_fr {t b : Int} (hb : 0 < b) : shD (Rat.divInt t b) = .tuple [.int (t / ((Int.gcd t b : Nat) : Int)), .int (b / ((Int.gcd t b : Nat) : Int))] := by
  unfold shD
  rw [num_fr hb, den_fr hb]
theorem gcd_abs (t b : Int) : Int.gcd (if t < 0 then -t else t) b = Int.gcd t b := by
  split
  · exact Int.neg_gcd
  · rfl
/-- below 2 ^ 4000 -/
def Sm (x : Int) : Prop := x.natAbs < 2 ^ 4000
def Sz (r : Rat) : Prop := Sm r.num ∧ Sm (r.den : Int)
theorem natAbs_ediv_le (t g : Int) : (t / g).natAbs ≤ t.natAbs := by
  exact Int.natAbs_ediv_le_natAbs t g
theorem Sm.fr {t b : Int} (hb : 0 < b) (h1 : Sm t) (h2 : Sm b) : Sz (Rat.divInt t b) := by
  constructor
  · rw [num_fr hb]
    exact Nat.lt_of_le_of_lt (natAbs_ediv_le _ _) h1
  · rw [den_fr hb]
    exact Nat.lt_of_le_of_lt (natAbs_ediv_le _ _) h2
theorem Sm.of {x : Int} {n : Nat} (h : x.natAbs ≤ n) (hn : n < 2 ^ 4000) : Sm x := Nat.lt_of_le_of_lt h hn
theorem sm_small {x : Int} (h1 : -1000000000000000000 ≤ x) (h2 : x ≤ 1000000000000000000) : Sm x :=
  Nat.lt_of_le_of_lt (show x.natAbs ≤ 1000000000000000000 by omega) (Nat.lt_of_lt_of_le (show 1000000000000000000 < 2 ^ 60 by decide) (Nat.pow_le_pow_right (by decide) (by decide)))
theorem CM.sm {i j : Int} (h1 : Sm i) (h2 : Sm j) : CM i j := .inr (wide_mul h1 h2 (by decide) (by decide) (by decide))
theorem CM.left {i j : Int} (h1 : -(2 ^ 64) < i) (h2 : i < 2 ^ 64) : CM i j := .inl (.inl ⟨h1, h2⟩)
theorem CM.right {i j : Int} (h1 : -(2 ^ 64) < j) (h2 : j < 2 ^ 64) : CM i j := .inl (.inr ⟨h1, h2⟩)
theorem div_small {i j : Int} (h1 : 0 < j) (h2 : j < 2 ^ 64) : CDivW i j := wide_div (b := 64) h1 (by omega) (by decide) (by decide)
theorem div_8000 {i j : Int} (h1 : 0 < j) (h2 : j.natAbs < 2 ^ 8000) : CDivW i j := wide_div (b := 8000) h1 h2 (by decide) (by decide)
theorem Sm.mul {x y : Int} (h1 : Sm x) (h2 : Sm y) : (x * y).natAbs < 2 ^ 8000 := by
  have := wide_lt h1 h2
  exact this

abbrev sp_divisor (K : PySem.W.Frag) : Sp := spR K 2 fun ds d => ∃ a b : Int, ds = [.int a, .int b] ∧ 0 ≤ a ∧ 0 ≤ b ∧ d = .int ((Int.gcd a b : Nat) : Int)
/-- bottoms below 2 ^ 8000 -/
abbrev sp_share (K : PySem.W.Frag) : Sp := spR K 2 fun ds d => ∃ t b : Int, ds = [.int t, .int b] ∧ 0 < b ∧ b.natAbs < 2 ^ 8000 ∧ d = shD (Rat.divInt t b)
abbrev sp_plus (K : PySem.W.Frag) : Sp := spR K 2 fun ds d => ∃ r q : Rat, ds = [shD r, shD q] ∧ Sz r ∧ Sz q ∧ d = shD (r + q)
abbrev sp_times (K : PySem.W.Frag) : Sp := spR K 3 fun ds d => ∃ (r : Rat) (n o : Int), ds = [shD r, .int n, .int o] ∧ Sz r ∧ Sm n ∧ Sm o ∧ 0 < o ∧ d = shD (r * Rat.divInt n o)
abbrev sp_less (K : PySem.W.Frag) : Sp := spR K 2 fun ds d => ∃ r q : Rat, ds = [shD r, shD q] ∧ Sz r ∧ Sz q ∧ d = .bool (decide (r < q))
/-- the script's cells -/
def cell (ns : List Int) (k : Int) : Int := if ns.length = 0 then k else ns.getD (k % (ns.length : Int)).toNat 0 + 3 * (k / (ns.length : Int))
abbrev sp_l_cell_at (K : PySem.W.Frag) : Sp := spR K 2 fun ds d => ∃ (ns : List Int) (k : Int), ds = [.list (ns.map PyData.int), .int k] ∧ ns.length ≤ 63 ∧ d = .int (cell ns k)
abbrev sp_l_whole (K : PySem.W.Frag) : Sp := spR K 1 fun ds d => ∃ i : Int, ds = [.int i] ∧ d = .bool true
abbrev sp_l_share (K : PySem.W.Frag) : Sp := spR K 1 fun ds d => ∃ i j : Int, ds = [.tuple [.int i, .int j]] ∧ d = .bool true
abbrev sp_l_low (K : PySem.W.Frag) : Sp := spR K 2 fun ds d => ∃ t b : Int, ds = [.int t, .int b] ∧ 0 < b ∧ b.natAbs < 2 ^ 8000 ∧ d = shD (Rat.divInt t b)
def lnum (c lo hi : Int) : Int := if c % 3 = 0 then lo + c / 3 * 48271 % (hi * 10 ^ 9 - lo) else lo + c / 3 % (hi - lo + 1)
abbrev sp_l_number (K : PySem.W.Frag) : Sp := spR K 3 fun ds d => ∃ c lo hi : Int, ds = [.int c, .int lo, .int hi] ∧ 0 ≤ lo ∧ lo ≤ hi ∧ 1 ≤ hi ∧ hi ≤ 1000 ∧ d = .int (lnum c lo hi)
abbrev sp_l_right (K : PySem.W.Frag) : Sp := spR K 3 fun ds d => ∃ t b : Int, ds = [shD (Rat.divInt t b), .int t, .int b] ∧ 0 < b ∧ b.natAbs < 2 ^ 8000 ∧ d = .bool true
abbrev sp_law_k01 (K : PySem.W.Frag) : Sp := spR K 1 fun ds d => ∃ ns : List Int, ds = [.list (ns.map PyData.int)] ∧ ns.length ≤ 63 ∧ d = .bool true
theorem len_R {R : List D → D → Prop} {n : Nat} {vs : List V} {H : Hp} {Q : VK} {E : XK} (h : spR K n R vs H Q E) : vs.length = n := by
  obtain ⟨O, ds, d, _, r, ⟨q, _⟩, _⟩ := h
  rw [dps_len r, q]
theorem len_N {R : List D → List D → Prop} {n : Nat} {vs : List V} {H : Hp} {Q : VK} {E : XK} (h : spN K n R vs H Q E) : vs.length = n := by
  obtain ⟨O, ds, d, _, r, ⟨q, _⟩, _⟩ := h
  rw [dps_len r, q]
theorem law_pre {R : List D → D → Prop} {H : Hp} {a : Addr} {ns : List Int} {E : XK} (hl : ns.length ≤ 63) (hS : SqL K H a (ns.map V.int)) (hR : ∀ ns : List Int, ns.length ≤ 63 → R [.list (ns.map PyData.int)] (.bool true)) :
    spR K 1 R [.ref a] H (fun v _ => v = .bl true) E :=
  ⟨[], [.list (ns.map PyData.int)], .bool true, fun a ha => (by cases ha), .cons (.lst (by rw [del_nil]; exact hS) (ints_dps ns)) .nil, ⟨rfl, hR ns hl⟩, fun v H' _ r => dp_bl r⟩
end GW

namespace GW
open PySem PySem.Spec PyProof.Rows L2
variable {K : PySem.W.Frag}
/-- divisor(one, other); slots one other rest -/
def t_divisor (K : PySem.W.Frag) : TS :=
 (tSeq (tWhile (tTest (tOp rGt (tVar 1) (tC (.int 0)))) (tSeq (tAsg (tOp rMod (tVar 0) (tVar 1)) (gName 2))
 (tSeq (tAsg (tVar 1) (gName 0))
 (tSeq (tAsg (tVar 2) (gName 1))
 tNext))))
 (tSeq (tRet (tVar 0))
 tNext))
/-- share(top, bottom); slots top bottom by -/
def t_share (K : PySem.W.Frag) : TS :=
 (tSeq (tAsg (tCall (sp_divisor K) [] E0 (tCons (tCB rAbs (tCons (tVar 0) tNil)) (tCons (tVar 1) tNil))) (gName 2))
 (tSeq (tRet (tTup (tCons (tOp rDiv (tVar 0) (tVar 2)) (tCons (tOp rDiv (tVar 1) (tVar 2)) tNil))))
 tNext))
/-- plus(one, other); slots one other -/
def t_plus (K : PySem.W.Frag) : TS :=
 (tSeq (tRet (tCall (sp_share K) [] E0 (tCons (tOp (rAdd K) (tOp (rMul K) (tOp (rIx K) (tVar 0) (tC (.int 0))) (tOp (rIx K) (tVar 1) (tC (.int 1)))) (tOp (rMul K) (tOp (rIx K) (tVar 1) (tC (.int 0))) (tOp (rIx K) (tVar 0) (tC (.int 1))))) (tCons (tOp (rMul K) (tOp (rIx K) (tVar 0) (tC (.int 1))) (tOp (rIx K) (tVar 1) (tC (.int 1)))) tNil))))
 tNext)
/-- times(one, number, over); slots one number over -/
def t_times (K : PySem.W.Frag) : TS :=
 (tSeq (tRet (tCall (sp_share K) [] E0 (tCons (tOp (rMul K) (tOp (rIx K) (tVar 0) (tC (.int 0))) (tVar 1)) (tCons (tOp (rMul K) (tOp (rIx K) (tVar 0) (tC (.int 1))) (tVar 2)) tNil))))
 tNext)
/-- less(one, other); slots one other -/
def t_less (K : PySem.W.Frag) : TS :=
 (tSeq (tRet (tOp rLt (tOp (rMul K) (tOp (rIx K) (tVar 0) (tC (.int 0))) (tOp (rIx K) (tVar 1) (tC (.int 1)))) (tOp (rMul K) (tOp (rIx K) (tVar 1) (tC (.int 0))) (tOp (rIx K) (tVar 0) (tC (.int 1))))))
 tNext)
/-- l_cell_at(script, k); slots script k -/
def t_l_cell_at (K : PySem.W.Frag) : TS :=
 (tSeq (tIfS (tTest (tOp (rEqD K) (tCB (rLen K) (tCons (tVar 0) tNil)) (tC (.int 0)))) (tSeq (tRet (tVar 1))
 tNext) tNext)
 (tSeq (tRet (tOp (rAdd K) (tOp (rIx K) (tVar 0) (tOp rMod (tVar 1) (tCB (rLen K) (tCons (tVar 0) tNil)))) (tOp (rMul K) (tC (.int 3)) (tOp rDiv (tVar 1) (tCB (rLen K) (tCons (tVar 0) tNil))))))
 tNext))
/-- l_whole(found); slots found -/
def t_l_whole (K : PySem.W.Frag) : TS :=
 (tSeq (tRet (tAndV (tCB (rIsi K) (tCons (tVar 0) (tCons (tC (.ty "int")) tNil))) (tNotV (tCB (rIsi K) (tCons (tVar 0) (tCons (tC (.ty "bool")) tNil))))))
 tNext)
/-- l_share(found); slots found -/
def t_l_share (K : PySem.W.Frag) : TS :=
 (tSeq (tIfS (tOr (tNot (tB (tCB (rIsi K) (tCons (tVar 0) (tCons (tC (.ty "tuple")) tNil))))) (tTest (tOp (rNeD K) (tCB (rLen K) (tCons (tVar 0) tNil)) (tC (.int 2))))) (tSeq (tRet (tC (.bl false)))
 tNext) tNext)
 (tSeq (tRet (tAndV (tCall (sp_l_whole K) [] E0 (tCons (tOp (rIx K) (tVar 0) (tC (.int 0))) tNil)) (tCall (sp_l_whole K) [] E0 (tCons (tOp (rIx K) (tVar 0) (tC (.int 1))) tNil))))
 tNext))
/-- l_low(top, bottom); slots top bottom one other -/
def t_l_low (K : PySem.W.Frag) : TS :=
 (tSeq (tAsg (tCB rAbs (tCons (tVar 0) tNil)) (gName 2))
 (tSeq (tAsg (tVar 1) (gName 3))
 (tSeq (tWhile (tTest (tOp rGt (tVar 3) (tC (.int 0)))) (tSeq (tPar 2 3 (tCons (tVar 3) (tCons (tOp rMod (tVar 2) (tVar 3)) tNil)))
 tNext))
 (tSeq (tRet (tTup (tCons (tOp rDiv (tVar 0) (tVar 2)) (tCons (tOp rDiv (tVar 1) (tVar 2)) tNil))))
 tNext))))
/-- l_number(cell, low_here, high); slots cell low_here high -/
def t_l_number (K : PySem.W.Frag) : TS :=
 (tSeq (tIfS (tTest (tOp (rEqD K) (tOp rMod (tVar 0) (tC (.int 3))) (tC (.int 0)))) (tSeq (tRet (tOp (rAdd K) (tVar 1) (tOp rMod (tOp (rMul K) (tOp rDiv (tVar 0) (tC (.int 3))) (tC (.int 48271))) (tOp rSub (tOp (rMul K) (tVar 2) (tOp rPow (tC (.int 10)) (tC (.int 9)))) (tVar 1)))))
 tNext) tNext)
 (tSeq (tRet (tOp (rAdd K) (tVar 1) (tOp rMod (tOp rDiv (tVar 0) (tC (.int 3))) (tOp (rAdd K) (tOp rSub (tVar 2) (tVar 1)) (tC (.int 1))))))
 tNext))
/-- l_right(found, top, bottom); slots found top bottom -/
def t_l_right (K : PySem.W.Frag) : TS :=
 (tSeq (tRet (tAndV (tCall (sp_l_share K) [] E0 (tCons (tVar 0) tNil)) (tOp (rEqD K) (tVar 0) (tCall (sp_l_low K) [] E0 (tCons (tVar 1) (tCons (tVar 2) tNil))))))
 tNext)
/-- law(script); slots script tops bottoms k cell number_here over one other both found -/
def t_law_k01 (K : PySem.W.Frag) : TS :=
 (tSeq (tAsg (tLst tNil) (gName 1))
 (tSeq (tAsg (tLst tNil) (gName 2))
 (tSeq (tFor (iRng1 (tCons (tC (.int 2)) tNil)) (gName 3) (tSeq (tAsg (tCall (sp_l_cell_at K) [] E0 (tCons (tVar 0) (tCons (tOp (rMul K) (tC (.int 2)) (tVar 3)) tNil))) (gName 4))
 (tSeq (tDrop (tBM K "list" rAppend (tVar 1) (tCons (tOp (rMul K) (tCall (sp_l_number K) [] E0 (tCons (tOp rDiv (tVar 4) (tC (.int 2))) (tCons (tC (.int 0)) (tCons (tC (.int 30)) tNil)))) (tOp (rIx K) (tLst (tCons (tC (.int 1)) (tCons (tUn rNeg (tC (.int 1))) tNil))) (tOp rMod (tVar 4) (tC (.int 2))))) tNil)))
 (tSeq (tDrop (tBM K "list" rAppend (tVar 2) (tCons (tCall (sp_l_number K) [] E0 (tCons (tCall (sp_l_cell_at K) [] E0 (tCons (tVar 0) (tCons (tOp (rAdd K) (tOp (rMul K) (tC (.int 2)) (tVar 3)) (tC (.int 1))) tNil))) (tCons (tC (.int 1)) (tCons (tC (.int 30)) tNil)))) tNil)))
 tNext))))
 (tSeq (tAsg (tCall (sp_l_number K) [] E0 (tCons (tCall (sp_l_cell_at K) [] E0 (tCons (tVar 0) (tCons (tC (.int 4)) tNil))) (tCons (tC (.int 0)) (tCons (tC (.int 20)) tNil)))) (gName 5))
 (tSeq (tAsg (tCall (sp_l_number K) [] E0 (tCons (tCall (sp_l_cell_at K) [] E0 (tCons (tVar 0) (tCons (tC (.int 5)) tNil))) (tCons (tC (.int 1)) (tCons (tC (.int 20)) tNil)))) (gName 6))
 (tSeq (tAsg (tCall (sp_share K) [] E0 (tCons (tOp (rIx K) (tVar 1) (tC (.int 0))) (tCons (tOp (rIx K) (tVar 2) (tC (.int 0))) tNil))) (gName 7))
 (tSeq (tAsg (tCall (sp_share K) [] E0 (tCons (tOp (rIx K) (tVar 1) (tC (.int 1))) (tCons (tOp (rIx K) (tVar 2) (tC (.int 1))) tNil))) (gName 8))
 (tSeq (tIfS (tOr (tNot (tB (tCall (sp_l_right K) [] E0 (tCons (tVar 7) (tCons (tOp (rIx K) (tVar 1) (tC (.int 0))) (tCons (tOp (rIx K) (tVar 2) (tC (.int 0))) tNil)))))) (tNot (tB (tCall (sp_l_right K) [] E0 (tCons (tVar 8) (tCons (tOp (rIx K) (tVar 1) (tC (.int 1))) (tCons (tOp (rIx K) (tVar 2) (tC (.int 1))) tNil))))))) (tSeq (tRet (tC (.bl false)))
 tNext) tNext)
 (tSeq (tAsg (tOp (rAdd K) (tOp (rMul K) (tOp (rIx K) (tVar 1) (tC (.int 0))) (tOp (rIx K) (tVar 2) (tC (.int 1)))) (tOp (rMul K) (tOp (rIx K) (tVar 1) (tC (.int 1))) (tOp (rIx K) (tVar 2) (tC (.int 0))))) (gName 9))
 (tSeq (tIfS (tNot (tB (tCall (sp_l_right K) [] E0 (tCons (tCall (sp_plus K) [] E0 (tCons (tVar 7) (tCons (tVar 8) tNil))) (tCons (tVar 9) (tCons (tOp (rMul K) (tOp (rIx K) (tVar 2) (tC (.int 0))) (tOp (rIx K) (tVar 2) (tC (.int 1)))) tNil)))))) (tSeq (tRet (tC (.bl false)))
 tNext) tNext)
 (tSeq (tIfS (tNot (tB (tCall (sp_l_right K) [] E0 (tCons (tCall (sp_times K) [] E0 (tCons (tVar 7) (tCons (tVar 5) (tCons (tVar 6) tNil)))) (tCons (tOp (rMul K) (tOp (rIx K) (tVar 1) (tC (.int 0))) (tVar 5)) (tCons (tOp (rMul K) (tOp (rIx K) (tVar 2) (tC (.int 0))) (tVar 6)) tNil)))))) (tSeq (tRet (tC (.bl false)))
 tNext) tNext)
 (tSeq (tAsg (tCall (sp_less K) [] E0 (tCons (tVar 7) (tCons (tVar 8) tNil))) (gName 10))
 (tSeq (tIfS (tOr (tNot (tB (tCB (rIsi K) (tCons (tVar 10) (tCons (tC (.ty "bool")) tNil))))) (tTest (tOp rNot (tCall (sp_less K) [] E0 (tCons (tVar 7) (tCons (tVar 7) tNil))) (tC (.bl false))))) (tSeq (tRet (tC (.bl false)))
 tNext) tNext)
 (tSeq (tRet (tAndV (tOp (rEqD K) (tVar 10) (tOp rLt (tOp (rMul K) (tOp (rIx K) (tVar 1) (tC (.int 0))) (tOp (rIx K) (tVar 2) (tC (.int 1)))) (tOp (rMul K) (tOp (rIx K) (tVar 1) (tC (.int 1))) (tOp (rIx K) (tVar 2) (tC (.int 0)))))) (tOp (rEqD K) (tCall (sp_share K) [] E0 (tCons (tC (.int 0)) (tCons (tOp (rIx K) (tVar 2) (tC (.int 0))) tNil))) (tTup (tCons (tC (.int 0)) (tCons (tC (.int 1)) tNil))))))
 tNext))))))))))))))
local macro_rules | `(tactic| walk_at "ev") => `(tactic| repeat' (first
  | with_reducible exact ev_int
  | with_reducible exact ev_bl
  | with_reducible exact ev_str
  | with_reducible exact ev_non
  | with_reducible apply ev_var
  | with_reducible apply ev_op
  | with_reducible apply ev_neg
  | with_reducible apply ev_isi
  | with_reducible apply ev_cb
  | with_reducible apply ev_tup
  | with_reducible apply ev_lst
  | with_reducible apply ev_call
  | with_reducible apply ev_callN
  | with_reducible apply ev_andV
  | with_reducible apply ev_orV
  | with_reducible apply ev_notV
  | with_reducible apply ev_chain
  | with_reducible apply ev_sl
  | with_reducible exact ea_nil
  | with_reducible apply ea_cons
  | with_reducible exact eo_none
  | with_reducible apply eo_some
  | with_reducible apply et_test
  | with_reducible apply et_B
  | with_reducible apply et_and
  | with_reducible apply et_or
  | with_reducible apply et_not
  | with_reducible exact rv_addI
  | with_reducible exact rv_sub
  | with_reducible apply rv_mulI
  | with_reducible apply rv_div
  | with_reducible apply rv_mod
  | with_reducible apply rv_pow
  | with_reducible exact rv_lt
  | with_reducible exact rv_le
  | with_reducible exact rv_gt
  | with_reducible exact rv_ge
  | with_reducible exact rv_isB
  | with_reducible exact rv_notB
  | with_reducible exact rv_isN
  | with_reducible exact rv_notN
  | with_reducible exact rv_eqI
  | with_reducible exact rv_neI
  | with_reducible apply rv_eq
  | with_reducible apply rv_ne
  | with_reducible apply rv_ixT
  | with_reducible apply rv_ixL
  | with_reducible apply rv_catT
  | with_reducible apply rv_catL'
  | with_reducible exact rc_lenL
  | with_reducible exact rc_lenT
  | with_reducible exact rc_abs
  | with_reducible exact rc_max2
  | with_reducible exact rc_min2
  | with_reducible exact rc_intB
  | with_reducible exact rc_tupleL
  | with_reducible exact rc_tupleT
  | with_reducible exact rc_listL'
  | with_reducible exact rc_listT'
  | with_reducible exact SlD.lst
  | with_reducible exact SlD.tup
  | ((with_reducible show CM _ _); first | exact CM.left (by omega) (by omega) | exact CM.right (by omega) (by omega) | exact CM.sm (by assumption) (by assumption) | assumption)
  | ((with_reducible show CDivW _ _); first | exact div_small (by omega) (by omega) | assumption)
  | ((with_reducible show CPow _ _); exact ⟨by decide, by decide, by decide⟩)
  | ((with_reducible show _ < _); first | assumption | omega)
  | ((with_reducible show _ ≤ _); first | assumption | omega | (simp only [List.length_cons, List.length_nil]; omega))
  | ((with_reducible show SeqAt.shaped _ = true); first | exact rfl | assumption)
  | ((with_reducible show cls _ ≠ _); first | (simp only [cls]; decide) | decide)
  | ((with_reducible show kitB _ _ = some _); decide +kernel)
  | ((with_reducible show _ = some _); exact rfl)
  | ((with_reducible show List.length _ = _); exact rfl)
  | ((with_reducible show _ = true → _); intro _)
  | ((with_reducible show _ = false → _); intro _)))
theorem gcd_zero {x a b : Int} (hx : 0 ≤ x) (hg : Int.gcd x 0 = Int.gcd a b) : ((Int.gcd a b : Nat) : Int) = x := by
  rw [← hg, Int.gcd_zero_right]
  omega
theorem mod_lt {x y : Int} (h0 : 0 < y) : (x % y).toNat < y.toNat := by
  have := Int.emod_lt_of_pos x h0
  have := Int.emod_nonneg x (show y ≠ 0 by omega)
  omega
theorem by_divisor {N : List Str} (hN : N.length = 3) : ∀ vs H Q E, sp_divisor K vs H Q E → t_divisor K { nx := fun _ H' => Q .non H', rt := Q } (L2.start N vs) H := body_R hN <| by
  rintro ds d ⟨a, b, rfl, ha, hb, rfl⟩ O F Dn hnx k
  show Run K O F (t_divisor K) Dn [.im (.int a), .im (.int b), .un]
  unfold t_divisor
  refine run_while (W := fun m τ => ∃ (x y : Int) (s : Sl), plain s = true ∧ τ = [.im (.int x), .im (.int y), s] ∧ 0 ≤ x ∧ 0 ≤ y ∧ Int.gcd x y = Int.gcd a b ∧ m = y.toNat) [] b.toNat ⟨a, b, .un, rfl, rfl, ha, hb, rfl, rfl⟩ ?_
  rintro G hG m τ ⟨x, y, s, hs, rfl, hx, hy, hg, rfl⟩
  refine ⟨decide (0 < y), by walk_at "ev", fun h => ?_, fun h => ?_⟩
  · have h0 : 0 < y := of_decide_eq_true h
    refine run_asg (d := .int (x % y)) (by walk_at "ev") ?_
    refine run_asg (d := .int y) (by walk_at "ev") ?_
    refine run_asg (d := .int (x % y)) (by walk_at "ev") ?_
    exact run_end (js := []) ⟨(x % y).toNat, mod_lt h0, y, x % y, .im (.int (x % y)), rfl, rfl, hy, Int.emod_nonneg _ (by omega), by rw [gcd_step x y hx hy, hg], rfl⟩ rfl
  · have h0 : y = 0 := by
      have := of_decide_eq_false h
      omega
    subst h0
    refine run_ret (d := .int x) (by walk_at "ev") ?_
    rw [← gcd_zero hx hg]
    exact k
theorem by_share {N : List Str} (hN : N.length = 3) : ∀ vs H Q E, sp_share K vs H Q E → t_share K { nx := fun _ H' => Q .non H', rt := Q } (L2.start N vs) H := body_R hN <| by
  rintro ds d ⟨t, b, rfl, hb, hs, rfl⟩ O F Dn hnx k
  show Run K O F (t_share K) Dn [.im (.int t), .im (.int b), .un]
  unfold t_share
  have g0 := gcd_pos (t := t) hb
  have g1 := gcd_le (t := t) hb
  refine run_asg (d := .int ((Int.gcd t b : Nat) : Int)) ?_ ?_
  · walk_at "ev"
    exact ⟨_, _, rfl, by split <;> omega, Int.le_of_lt hb, by rw [gcd_abs]⟩
  · have gs : CDivW t ((Int.gcd t b : Nat) : Int) := div_8000 g0 (Nat.lt_of_le_of_lt (by omega) hs)
    have gs2 : CDivW b ((Int.gcd t b : Nat) : Int) := div_8000 g0 (Nat.lt_of_le_of_lt (by omega) hs)
    rw [shD_fr hb] at k
    exact run_ret (by walk_at "ev") k
theorem by_plus {N : List Str} (hN : N.length = 2) : ∀ vs H Q E, sp_plus K vs H Q E → t_plus K { nx := fun _ H' => Q .non H', rt := Q } (L2.start N vs) H := body_R hN <| by
  rintro ds d ⟨r, q, rfl, ⟨r1, r2⟩, ⟨q1, q2⟩, rfl⟩ O F Dn hnx k
  show Run K O F (t_plus K) Dn [.im (.tuple [.int r.num, .int (r.den : Int)]), .im (.tuple [.int q.num, .int (q.den : Int)])]
  unfold t_plus
  refine run_ret (d := shD (r + q)) ?_ k
  walk_at "ev"
  have hr : (0 : Int) < r.den := Int.natCast_pos.mpr r.den_pos
  have hq : (0 : Int) < q.den := Int.natCast_pos.mpr q.den_pos
  refine ⟨_, _, rfl, Int.mul_pos hr hq, Sm.mul r2 q2, ?_⟩
  rw [← Rat.divInt_add_divInt _ _ (by omega) (by omega), Rat.num_divInt_den, Rat.num_divInt_den]
theorem by_times {N : List Str} (hN : N.length = 3) : ∀ vs H Q E, sp_times K vs H Q E → t_times K { nx := fun _ H' => Q .non H', rt := Q } (L2.start N vs) H := body_R hN <| by
  rintro ds d ⟨r, n, o, rfl, ⟨r1, r2⟩, hn, ho, h0, rfl⟩ O F Dn hnx k
  show Run K O F (t_times K) Dn [.im (.tuple [.int r.num, .int (r.den : Int)]), .im (.int n), .im (.int o)]
  unfold t_times
  refine run_ret (d := shD (r * Rat.divInt n o)) ?_ k
  walk_at "ev"
  have hr : (0 : Int) < r.den := Int.natCast_pos.mpr r.den_pos
  refine ⟨_, _, rfl, Int.mul_pos hr h0, Sm.mul r2 ho, ?_⟩
  rw [← Rat.divInt_mul_divInt, Rat.num_divInt_den]
theorem by_less {N : List Str} (hN : N.length = 2) : ∀ vs H Q E, sp_less K vs H Q E → t_less K { nx := fun _ H' => Q .non H', rt := Q } (L2.start N vs) H := body_R hN <| by
  rintro ds d ⟨r, q, rfl, ⟨r1, r2⟩, ⟨q1, q2⟩, rfl⟩ O F Dn hnx k
  show Run K O F (t_less K) Dn [.im (.tuple [.int r.num, .int (r.den : Int)]), .im (.tuple [.int q.num, .int (q.den : Int)])]
  unfold t_less
  refine run_ret (d := .bool (decide (r < q))) (ev_to (by walk_at "ev") ?_) k
  exact congrArg PyData.bool (decide_eq_decide.mpr (Rat.lt_iff r q).symm)
theorem cell_at {ns : List Int} {k : Int} (h : ns.length ≠ 0) : atI (ns.map PyData.int) (k % (ns.length : Int)) = some (.int (ns.getD (k % (ns.length : Int)).toNat 0)) := by
  have h1 := Int.emod_nonneg k (show (ns.length : Int) ≠ 0 by omega)
  have h2 := Int.emod_lt_of_pos k (show 0 < (ns.length : Int) by omega)
  obtain ⟨j, hj⟩ := Int.eq_ofNat_of_zero_le h1
  rw [hj]
  have hl : j < ns.length := by omega
  refine atI_nat ?_
  rw [List.getElem?_map, List.getElem?_eq_getElem hl, List.getD_eq_getElem?_getD]
  show some (PyData.int ns[j]) = some (PyData.int (ns[((j : Nat) : Int).toNat]?.getD 0))
  rw [Int.toNat_natCast, List.getElem?_eq_getElem hl]
  rfl
theorem by_l_cell_at {N : List Str} (hN : N.length = 2) : ∀ vs H Q E, sp_l_cell_at K vs H Q E → t_l_cell_at K { nx := fun _ H' => Q .non H', rt := Q } (L2.start N vs) H := body_R hN <| by
  rintro ds d ⟨ns, k, rfl, hl, rfl⟩ O F Dn hnx kk
  show Run K O F (t_l_cell_at K) Dn [.im (.list (ns.map PyData.int)), .im (.int k)]
  unfold t_l_cell_at
  unfold cell at kk
  have hlen : (ns.map PyData.int).length = ns.length := List.length_map ..
  refine run_if (by walk_at "ev") (fun h => ?_) (fun h => ?_)
  · have h0 := of_decide_eq_true h
    rw [if_pos (by omega)] at kk
    exact run_ret (by walk_at "ev") kk
  · have h0 := of_decide_eq_false h
    rw [if_neg (by omega)] at kk
    refine run_nx (run_ret ?_ kk)
    rw [← hlen]
    have c := cell_at (ns := ns) (k := k) (by omega)
    rw [← hlen] at c
    refine ev_op (ev_op (by walk_at "ev") (by walk_at "ev") (rv_ixL c)) (by walk_at "ev") (by walk_at "ev")
theorem by_l_whole {N : List Str} (hN : N.length = 1) : ∀ vs H Q E, sp_l_whole K vs H Q E → t_l_whole K { nx := fun _ H' => Q .non H', rt := Q } (L2.start N vs) H := body_R hN <| by
  rintro ds d ⟨i, rfl, rfl⟩ O F Dn hnx k
  show Run K O F (t_l_whole K) Dn [.im (.int i)]
  unfold t_l_whole
  exact run_ret (ev_to (a := .bool (true && !false)) (by walk_at "ev") rfl) k
theorem by_l_share {N : List Str} (hN : N.length = 1) : ∀ vs H Q E, sp_l_share K vs H Q E → t_l_share K { nx := fun _ H' => Q .non H', rt := Q } (L2.start N vs) H := body_R hN <| by
  rintro ds d ⟨i, j, rfl, rfl⟩ O F Dn hnx k
  show Run K O F (t_l_share K) Dn [.im (.tuple [.int i, .int j])]
  unfold t_l_share
  refine run_if (b := !true || !decide ((([PyData.int i, PyData.int j].length : Nat) : Int) = 2)) (by walk_at "ev") (fun h => ?_) (fun h => ?_)
  · simp at h
  · refine run_nx (run_ret (ev_andV (x := true) (y := true) (by walk_at "ev"; exact ⟨_, rfl, rfl⟩) (by walk_at "ev"; exact ⟨_, rfl, rfl⟩)) k)
theorem by_l_low {N : List Str} (hN : N.length = 4) : ∀ vs H Q E, sp_l_low K vs H Q E → t_l_low K { nx := fun _ H' => Q .non H', rt := Q } (L2.start N vs) H := body_R hN <| by
  rintro ds d ⟨t, b, rfl, hb, hs, rfl⟩ O F Dn hnx k
  show Run K O F (t_l_low K) Dn [.im (.int t), .im (.int b), .un, .un]
  unfold t_l_low
  refine run_asg (by walk_at "ev") ?_
  refine run_asg (by walk_at "ev") ?_
  refine run_while (W := fun m τ => ∃ (x y : Int), τ = [.im (.int t), .im (.int b), .im (.int x), .im (.int y)] ∧ 0 ≤ x ∧ 0 ≤ y ∧ Int.gcd x y = Int.gcd t b ∧ m = y.toNat) [] b.toNat ⟨_, b, rfl, by split <;> omega, Int.le_of_lt hb, gcd_abs t b, rfl⟩ ?_
  rintro G hG m τ ⟨x, y, rfl, hx, hy, hg, rfl⟩
  refine ⟨decide (0 < y), by walk_at "ev", fun h => ?_, fun h => ?_⟩
  · have h0 : 0 < y := of_decide_eq_true h
    refine run_par (d1 := .int y) (d2 := .int (x % y)) (by walk_at "ev") ?_
    exact run_end (js := []) ⟨(x % y).toNat, mod_lt h0, y, x % y, rfl, hy, Int.emod_nonneg _ (by omega), by rw [gcd_step x y hx hy, hg], rfl⟩ rfl
  · have h0 : y = 0 := by
      have := of_decide_eq_false h
      omega
    subst h0
    have e := gcd_zero hx hg
    have g0 := gcd_pos (t := t) hb
    have g1 := gcd_le (t := t) hb
    rw [shD_fr hb, e] at k
    rw [e] at g0 g1
    have gs : CDivW t x := div_8000 g0 (Nat.lt_of_le_of_lt (by omega) hs)
    have gs2 : CDivW b x := div_8000 g0 (Nat.lt_of_le_of_lt (by omega) hs)
    exact run_ret (by walk_at "ev") k
theorem by_l_number {N : List Str} (hN : N.length = 3) : ∀ vs H Q E, sp_l_number K vs H Q E → t_l_number K { nx := fun _ H' => Q .non H', rt := Q } (L2.start N vs) H := body_R hN <| by
  rintro ds d ⟨c, lo, hi, rfl, h1, h2, h3, h4, rfl⟩ O F Dn hnx k
  show Run K O F (t_l_number K) Dn [.im (.int c), .im (.int lo), .im (.int hi)]
  unfold t_l_number
  unfold lnum at k
  refine run_if (by walk_at "ev") (fun h => ?_) (fun h => ?_)
  · have h0 := of_decide_eq_true h
    rw [if_pos h0] at k
    have e9 : (10 : Int) ^ Int.toNat 9 = 1000000000 := by decide
    have hm : 0 < hi * 10 ^ Int.toNat 9 - lo := by rw [e9]; omega
    refine run_ret (ev_to (by walk_at "ev") ?_) k
    all_goals first | rfl | skip
  · have h0 := of_decide_eq_false h
    rw [if_neg h0] at k
    refine run_nx (run_ret (ev_to (by walk_at "ev") ?_) k)
    all_goals first | rfl | skip
theorem by_l_right {N : List Str} (hN : N.length = 3) : ∀ vs H Q E, sp_l_right K vs H Q E → t_l_right K { nx := fun _ H' => Q .non H', rt := Q } (L2.start N vs) H := body_R hN <| by
  rintro ds d ⟨t, b, rfl, hb, hs, rfl⟩ O F Dn hnx k
  show Run K O F (t_l_right K) Dn [.im (shD (Rat.divInt t b)), .im (.int t), .im (.int b)]
  unfold t_l_right
  refine run_ret (ev_to (ev_andV (x := true) (ev_call (by walk_at "ev") ⟨_, _, rfl, rfl⟩) (fun _ => ev_op (by walk_at "ev") (ev_call (by walk_at "ev") ⟨_, _, rfl, hb, hs, rfl⟩) (rv_eq rfl rfl))) ?_) k
  have e : PyData.eqv (shD (Rat.divInt t b)) (shD (Rat.divInt t b)) = true := SeqAt.eqv_refl _ rfl
  rw [e]
  rfl
def T (ns : List Int) (i : Nat) : Int := lnum (cell ns (2 * (i : Int)) / 2) 0 30 * (if cell ns (2 * (i : Int)) % 2 = 0 then 1 else -1)
def B (ns : List Int) (i : Nat) : Int := lnum (cell ns (2 * (i : Int) + 1)) 1 30
theorem lnum_bd {c lo hi : Int} (h1 : 0 ≤ lo) (h2 : lo ≤ hi) (h3 : 1 ≤ hi) (h4 : hi ≤ 1000) : lo ≤ lnum c lo hi ∧ lnum c lo hi ≤ 1001000000000 := by
  unfold lnum
  have e9 : (10 : Int) ^ 9 = 1000000000 := by decide
  rw [e9]
  split
  · have a := Int.emod_nonneg (c / 3 * 48271) (show hi * 1000000000 - lo ≠ 0 by omega)
    have b := Int.emod_lt_of_pos (c / 3 * 48271) (show 0 < hi * 1000000000 - lo by omega)
    omega
  · have a := Int.emod_nonneg (c / 3) (show hi - lo + 1 ≠ 0 by omega)
    have b := Int.emod_lt_of_pos (c / 3) (show 0 < hi - lo + 1 by omega)
    omega
theorem T_bd (ns : List Int) (i : Nat) : -1001000000000 ≤ T ns i ∧ T ns i ≤ 1001000000000 := by
  have h := lnum_bd (c := cell ns (2 * (i : Int)) / 2) (lo := 0) (hi := 30) (by omega) (by omega) (by omega) (by omega)
  unfold T
  split <;> omega
theorem B_bd (ns : List Int) (i : Nat) : 1 ≤ B ns i ∧ B ns i ≤ 1001000000000 := lnum_bd (by omega) (by omega) (by omega) (by omega)
theorem sgn_at (c : Int) : atI [PyData.int 1, PyData.int (-1)] (c % 2) = some (.int (if c % 2 = 0 then 1 else -1)) := by
  rcases (show c % 2 = 0 ∨ c % 2 = 1 by omega) with h | h
  · rw [h]; rfl
  · rw [h]; rfl
theorem fr_lt {a b c d : Int} (hb : 0 < b) (hd : 0 < d) : (Rat.divInt a b < Rat.divInt c d) ↔ a * d < c * b := by
  rw [Rat.divInt_eq_div, Rat.divInt_eq_div]
  have hb' : (0 : Rat) < (b : Rat) := by
    have : ((0 : Int) : Rat) < (b : Rat) := Rat.intCast_lt_intCast.mpr hb
    simpa using this
  have hd' : (0 : Rat) < (d : Rat) := by
    have : ((0 : Int) : Rat) < (d : Rat) := Rat.intCast_lt_intCast.mpr hd
    simpa using this
  rw [Rat.div_lt_iff hb', Rat.div_def, Rat.mul_assoc, Rat.mul_comm (d : Rat)⁻¹, ← Rat.mul_assoc, ← Rat.div_def, Rat.lt_div_iff hd', ← Rat.intCast_mul, ← Rat.intCast_mul, Rat.intCast_lt_intCast]
theorem by_law_k01 {N : List Str} (hN : N.length = 11) : ∀ vs H Q E, sp_law_k01 K vs H Q E → t_law_k01 K { nx := fun _ H' => Q .non H', rt := Q } (L2.start N vs) H := body_R hN <| by
  rintro ds d ⟨ns, rfl, hl, rfl⟩ O F Dn hnx k
  show Run K O F (t_law_k01 K) Dn [.im (.list (ns.map PyData.int)), .un, .un, .un, .un, .un, .un, .un, .un, .un, .un]
  unfold t_law_k01
  refine run_asgN (en_lst ea_nil (by decide)) fun p => ?_
  refine run_asgN (en_lst ea_nil (by decide)) fun q => ?_
  refine run_forR (n := 2) [3, 4] (fun i τ => τ = [.im (.list (ns.map PyData.int)), .ow p ((List.range i).map fun j => .int (T ns j)), .ow q ((List.range i).map fun j => .int (B ns j)), .un, .un, .un, .un, .un, .un, .un, .un]) (by walk_at "ev") (by omega) rfl ?_ ?_
  · rintro G hG i τ' hi rfl
    dsimp only [List.set]
    refine run_asg (d := .int (cell ns (2 * (i : Int)))) (by walk_at "ev"; exact ⟨_, _, rfl, hl, rfl⟩) ?_
    have hT := lnum_bd (c := cell ns (2 * (i : Int)) / 2) (lo := 0) (hi := 30) (by omega) (by omega) (by omega) (by omega)
    refine run_app (d := .int (T ns i)) rfl (ev_op (ev_call (by walk_at "ev") ⟨_, _, _, rfl, by omega, by omega, by omega, by omega, rfl⟩) (ev_op (by walk_at "ev") (by walk_at "ev") (rv_ixL (sgn_at _))) (rv_mulI (CM.left (by omega) (by omega)))) (by simp; omega) ?_
    refine run_app (d := .int (B ns i)) rfl (ev_call (by walk_at "ev"; exact ⟨_, _, rfl, hl, rfl⟩) ⟨_, _, _, rfl, by omega, by omega, by omega, by omega, rfl⟩) (by simp; omega) ?_
    refine run_end (js := [3, 4]) ?_ rfl
    rw [List.range_succ, List.map_append, List.map_append]
    rfl
  · rintro τ' rfl
    show Run K O F _ Dn [.im (.list (ns.map PyData.int)), .ow p [.int (T ns 0), .int (T ns 1)], .ow q [.int (B ns 0), .int (B ns 1)], .un, .un, .un, .un, .un, .un, .un, .un]
    have t0 := T_bd ns 0
    have t1 := T_bd ns 1
    have b0 := B_bd ns 0
    have b1 := B_bd ns 1
    generalize T ns 0 = t0v at *
    generalize T ns 1 = t1v at *
    generalize B ns 0 = b0v at *
    generalize B ns 1 = b1v at *
    refine run_freeze (j := 1) rfl ?_
    refine run_freeze (j := 2) rfl ?_
    refine run_asg (d := .int (lnum (cell ns 4) 0 20)) (by walk_at "ev"; exact ⟨_, _, rfl, hl, rfl⟩; exact ⟨_, _, _, rfl, by omega, by omega, by omega, by omega, rfl⟩) ?_
    refine run_asg (d := .int (lnum (cell ns 5) 1 20)) (by walk_at "ev"; exact ⟨_, _, rfl, hl, rfl⟩; exact ⟨_, _, _, rfl, by omega, by omega, by omega, by omega, rfl⟩) ?_
    have n0 := lnum_bd (c := cell ns 4) (lo := 0) (hi := 20) (by omega) (by omega) (by omega) (by omega)
    have o0 := lnum_bd (c := cell ns 5) (lo := 1) (hi := 20) (by omega) (by omega) (by omega) (by omega)
    generalize lnum (cell ns 4) 0 20 = n at *
    generalize lnum (cell ns 5) 1 20 = o at *
    have z0 : Sz (Rat.divInt t0v b0v) := Sm.fr (by omega) (sm_small (by omega) (by omega)) (sm_small (by omega) (by omega))
    have z1 : Sz (Rat.divInt t1v b1v) := Sm.fr (by omega) (sm_small (by omega) (by omega)) (sm_small (by omega) (by omega))
    have p00 : 0 < b0v * b1v := Int.mul_pos (by omega) (by omega)
    have p01 : 0 < b0v * o := Int.mul_pos (by omega) (by omega)
    have big : ∀ x : Int, -1001000000000 ≤ x → x ≤ 1001000000000 → Sm x := fun x h1 h2 => sm_small (by omega) (by omega)
    have c8 : ∀ x : Int, -1001000000000 ≤ x → x ≤ 1001000000000 → x.natAbs < 2 ^ 8000 := fun x h1 h2 => Nat.lt_of_lt_of_le (big x h1 h2) (Nat.pow_le_pow_right (by decide) (by decide))
    refine run_asg (d := shD (Rat.divInt t0v b0v)) (by walk_at "ev"; exact ⟨_, _, rfl, by omega, c8 _ (by omega) (by omega), rfl⟩) ?_
    refine run_asg (d := shD (Rat.divInt t1v b1v)) (by walk_at "ev"; exact ⟨_, _, rfl, by omega, c8 _ (by omega) (by omega), rfl⟩) ?_
    refine run_if (b := !true || !true) (by
      walk_at "ev"
      · exact ⟨_, _, rfl, by omega, c8 _ (by omega) (by omega), rfl⟩
      · exact ⟨_, _, rfl, by omega, c8 _ (by omega) (by omega), rfl⟩) (fun h => by simp at h) (fun _ => run_nx ?_)
    refine run_asg (d := .int (t0v * b1v + t1v * b0v)) (by walk_at "ev") ?_
    have e1 : Rat.divInt t0v b0v + Rat.divInt t1v b1v = Rat.divInt (t0v * b1v + t1v * b0v) (b0v * b1v) := Rat.divInt_add_divInt _ _ (by omega) (by omega)
    refine run_if (b := !true) (et_not (et_B (ev_call (ea_cons (ev_call (by walk_at "ev") ⟨_, _, rfl, z0, z1, rfl⟩) (by walk_at "ev")) ⟨_, _, by rw [e1], p00, Sm.mul (big _ (by omega) (by omega)) (big _ (by omega) (by omega)), rfl⟩))) (fun h => by simp at h) (fun _ => run_nx ?_)
    have e2 : Rat.divInt t0v b0v * Rat.divInt n o = Rat.divInt (t0v * n) (b0v * o) := Rat.divInt_mul_divInt _ _
    refine run_if (b := !true) (et_not (et_B (ev_call (ea_cons (ev_call (by walk_at "ev") ⟨_, _, _, rfl, z0, big _ (by omega) (by omega), big _ (by omega) (by omega), by omega, rfl⟩) (by walk_at "ev")) ⟨_, _, by rw [e2], p01, Sm.mul (big _ (by omega) (by omega)) (big _ (by omega) (by omega)), rfl⟩))) (fun h => by simp at h) (fun _ => run_nx ?_)
    refine run_asg (d := .bool (decide (Rat.divInt t0v b0v < Rat.divInt t1v b1v))) (by walk_at "ev"; exact ⟨_, _, rfl, z0, z1, rfl⟩) ?_
    have e3 : decide (Rat.divInt t0v b0v < Rat.divInt t0v b0v) = false := decide_eq_false (Rat.lt_irrefl)
    refine run_if (b := !true || !decide (false = false)) (by
      walk_at "ev"
      exact ⟨_, _, rfl, z0, z0, by rw [e3]⟩) (fun h => by simp at h) (fun _ => run_nx ?_)
    have e4 : Rat.divInt 0 b0v = 0 := Rat.zero_divInt _
    refine run_ret (ev_to (ev_andV (ev_op (by walk_at "ev") (by walk_at "ev") (rv_eq rfl rfl)) (fun _ => ev_op (ev_call (by walk_at "ev") ⟨_, _, rfl, by omega, c8 _ (by omega) (by omega), rfl⟩) (by walk_at "ev") (rv_eq rfl rfl))) ?_) k
    rw [e4, decide_eq_decide.mpr (fr_lt (a := t0v) (b := b0v) (c := t1v) (d := b1v) (by omega) (by omega))]
    refine congrArg PyData.bool ?_
    rw [Bool.and_eq_true]
    refine ⟨?_, rfl⟩
    unfold PyData.eqv
    exact beq_self_eq_true _
end GW

namespace GW
open PySem PySem.Spec PyProof.Rows L2
/-! ### the text -/
def topS (i : Nat) : Stmt := PySem.Challenge.pw_gradewish_k01_shares.main.body.getD i (.Pass ⟨0, 0, 0, 0⟩)
abbrev s_divisor : Stmt := topS 1
abbrev N_divisor : List Str := ["one", "other", "rest"]
abbrev p_divisor : List Str := ["one", "other"]
theorem sc_divisor : FnScope N_divisor p_divisor (defScope s_divisor) := ⟨rfl, rfl, rfl, by decide +kernel, rfl, by decide +kernel, by decide +kernel⟩
abbrev s_share : Stmt := topS 2
abbrev N_share : List Str := ["top", "bottom", "by"]
abbrev p_share : List Str := ["top", "bottom"]
theorem sc_share : FnScope N_share p_share (defScope s_share) := ⟨rfl, rfl, rfl, by decide +kernel, rfl, by decide +kernel, by decide +kernel⟩
abbrev s_plus : Stmt := topS 3
abbrev N_plus : List Str := ["one", "other"]
abbrev p_plus : List Str := ["one", "other"]
theorem sc_plus : FnScope N_plus p_plus (defScope s_plus) := ⟨rfl, rfl, rfl, by decide +kernel, rfl, by decide +kernel, by decide +kernel⟩
abbrev s_times : Stmt := topS 4
abbrev N_times : List Str := ["one", "number", "over"]
abbrev p_times : List Str := ["one", "number", "over"]
theorem sc_times : FnScope N_times p_times (defScope s_times) := ⟨rfl, rfl, rfl, by decide +kernel, rfl, by decide +kernel, by decide +kernel⟩
abbrev s_less : Stmt := topS 5
abbrev N_less : List Str := ["one", "other"]
abbrev p_less : List Str := ["one", "other"]
theorem sc_less : FnScope N_less p_less (defScope s_less) := ⟨rfl, rfl, rfl, by decide +kernel, rfl, by decide +kernel, by decide +kernel⟩
abbrev s_l_cell_at : Stmt := topS 7
abbrev N_l_cell_at : List Str := ["_law_script", "_law_k"]
abbrev p_l_cell_at : List Str := ["_law_script", "_law_k"]
theorem sc_l_cell_at : FnScope N_l_cell_at p_l_cell_at (defScope s_l_cell_at) := ⟨rfl, rfl, rfl, by decide +kernel, rfl, by decide +kernel, by decide +kernel⟩
abbrev s_l_whole : Stmt := topS 8
abbrev N_l_whole : List Str := ["_law_found"]
abbrev p_l_whole : List Str := ["_law_found"]
theorem sc_l_whole : FnScope N_l_whole p_l_whole (defScope s_l_whole) := ⟨rfl, rfl, rfl, by decide +kernel, rfl, by decide +kernel, by decide +kernel⟩
abbrev s_l_share : Stmt := topS 9
abbrev N_l_share : List Str := ["_law_found"]
abbrev p_l_share : List Str := ["_law_found"]
theorem sc_l_share : FnScope N_l_share p_l_share (defScope s_l_share) := ⟨rfl, rfl, rfl, by decide +kernel, rfl, by decide +kernel, by decide +kernel⟩
abbrev s_l_low : Stmt := topS 10
abbrev N_l_low : List Str := ["_law_top", "_law_bottom", "_law_one", "_law_other"]
abbrev p_l_low : List Str := ["_law_top", "_law_bottom"]
theorem sc_l_low : FnScope N_l_low p_l_low (defScope s_l_low) := ⟨rfl, rfl, rfl, by decide +kernel, rfl, by decide +kernel, by decide +kernel⟩
abbrev s_l_number : Stmt := topS 11
abbrev N_l_number : List Str := ["_law_cell", "_law_low_here", "_law_high"]
abbrev p_l_number : List Str := ["_law_cell", "_law_low_here", "_law_high"]
theorem sc_l_number : FnScope N_l_number p_l_number (defScope s_l_number) := ⟨rfl, rfl, rfl, by decide +kernel, rfl, by decide +kernel, by decide +kernel⟩
abbrev s_l_right : Stmt := topS 12
abbrev N_l_right : List Str := ["_law_found", "_law_top", "_law_bottom"]
abbrev p_l_right : List Str := ["_law_found", "_law_top", "_law_bottom"]
theorem sc_l_right : FnScope N_l_right p_l_right (defScope s_l_right) := ⟨rfl, rfl, rfl, by decide +kernel, rfl, by decide +kernel, by decide +kernel⟩
abbrev s_law_k01 : Stmt := topS 13
abbrev N_law_k01 : List Str := ["_law_script", "_law_tops", "_law_bottoms", "_law_k", "_law_cell", "_law_number_here", "_law_over", "_law_one", "_law_other", "_law_both", "_law_found"]
abbrev p_law_k01 : List Str := ["_law_script"]
theorem sc_law_k01 : FnScope N_law_k01 p_law_k01 (defScope s_law_k01) := ⟨rfl, rfl, rfl, by decide +kernel, rfl, by decide +kernel, by decide +kernel⟩
section
variable {P : Program} {w : World} {K : PySem.W.Frag} {mg : Str → Option Value} {base : Heap}
theorem ok_divisor {f : Addr} {fd : FuncData} (F : Fun K "divisor" "divisor" s_divisor f fd) (hm : mg "divisor" = some (.ref f)) : Fn P w K mg base "divisor" p_divisor 1 (sp_divisor K) := by
  refine ⟨f, fd, F.ok sc_divisor (fun vs H Q E h => (by first | exact len_R h | exact len_N h)) (fun cdv A outer s H vs Q E hr h => ⟨t_divisor K, ?_, by_divisor rfl vs H Q E h⟩), hm, F.kp, F.binds (ps := p_divisor) fun _ _ _ _ _ _ us hl => match us, hl with | [_, _], _ => rfl⟩
  unfold t_divisor
  exact (pss_cons (ps_while PassesOwn.never (pt_cmpR op_gtK (pv 1) pe_int (nomark _)) (pss_cons (ps_set (i := 2) sc_divisor.nd rfl (by first | exact .inl rfl | exact .inr rfl) (pe_op op_modK (pv 0) (pv 1)))
 (pss_cons (ps_set (i := 0) sc_divisor.nd rfl (by first | exact .inl rfl | exact .inr rfl) (pv 1))
 (pss_cons (ps_set (i := 1) sc_divisor.nd rfl (by first | exact .inl rfl | exact .inr rfl) (pv 2))
 pss_nil))))
 (pss_cons (ps_ret (pv 0))
 pss_nil))
theorem ok_share (G_divisor : Fn P w K mg base "divisor" p_divisor 1 (sp_divisor K)) (z_abs : mg "abs" = none) {f : Addr} {fd : FuncData} (F : Fun K "share" "share" s_share f fd) (hm : mg "share" = some (.ref f)) : Fn P w K mg base "share" p_share 2 (sp_share K) := by
  refine ⟨f, fd, F.ok sc_share (fun vs H Q E h => (by first | exact len_R h | exact len_N h)) (fun cdv A outer s H vs Q E hr h => ⟨t_share K, ?_, by_share rfl vs H Q E h⟩), hm, F.kp, F.binds (ps := p_share) fun _ _ _ _ _ _ us hl => match us, hl with | [_, _], _ => rfl⟩
  unfold t_share
  exact (pss_cons (ps_set (i := 2) sc_share.nd rfl (by first | exact .inl rfl | exact .inr rfl) (pe_fn G_divisor (hr.mono (by decide)) (pa_cons (pe_callB cl_abs (by rfl) z_abs (by decide +kernel) (pa_cons (pv 0) pa_nil)) (pa_cons (pv 1) pa_nil))))
 (pss_cons (ps_ret (pe_tup (pa_cons (pe_op op_divK (pv 0) (pv 2)) (pa_cons (pe_op op_divK (pv 1) (pv 2)) pa_nil))))
 pss_nil))
theorem ok_plus (G_share : Fn P w K mg base "share" p_share 2 (sp_share K)) {f : Addr} {fd : FuncData} (F : Fun K "plus" "plus" s_plus f fd) (hm : mg "plus" = some (.ref f)) : Fn P w K mg base "plus" p_plus 3 (sp_plus K) := by
  refine ⟨f, fd, F.ok sc_plus (fun vs H Q E h => (by first | exact len_R h | exact len_N h)) (fun cdv A outer s H vs Q E hr h => ⟨t_plus K, ?_, by_plus rfl vs H Q E h⟩), hm, F.kp, F.binds (ps := p_plus) fun _ _ _ _ _ _ us hl => match us, hl with | [_, _], _ => rfl⟩
  unfold t_plus
  exact (pss_cons (ps_ret (pe_fn G_share (hr.mono (by decide)) (pa_cons (pe_op op_addK (pe_op op_mulK (pe_ix ix_seq (pv 0) pe_int (fun _ _ => rfl)) (pe_ix ix_seq (pv 1) pe_int (fun _ _ => rfl))) (pe_op op_mulK (pe_ix ix_seq (pv 1) pe_int (fun _ _ => rfl)) (pe_ix ix_seq (pv 0) pe_int (fun _ _ => rfl)))) (pa_cons (pe_op op_mulK (pe_ix ix_seq (pv 0) pe_int (fun _ _ => rfl)) (pe_ix ix_seq (pv 1) pe_int (fun _ _ => rfl))) pa_nil))))
 pss_nil)
theorem ok_times (G_share : Fn P w K mg base "share" p_share 2 (sp_share K)) {f : Addr} {fd : FuncData} (F : Fun K "times" "times" s_times f fd) (hm : mg "times" = some (.ref f)) : Fn P w K mg base "times" p_times 3 (sp_times K) := by
  refine ⟨f, fd, F.ok sc_times (fun vs H Q E h => (by first | exact len_R h | exact len_N h)) (fun cdv A outer s H vs Q E hr h => ⟨t_times K, ?_, by_times rfl vs H Q E h⟩), hm, F.kp, F.binds (ps := p_times) fun _ _ _ _ _ _ us hl => match us, hl with | [_, _, _], _ => rfl⟩
  unfold t_times
  exact (pss_cons (ps_ret (pe_fn G_share (hr.mono (by decide)) (pa_cons (pe_op op_mulK (pe_ix ix_seq (pv 0) pe_int (fun _ _ => rfl)) (pv 1)) (pa_cons (pe_op op_mulK (pe_ix ix_seq (pv 0) pe_int (fun _ _ => rfl)) (pv 2)) pa_nil))))
 pss_nil)
theorem ok_less {f : Addr} {fd : FuncData} (F : Fun K "less" "less" s_less f fd) (hm : mg "less" = some (.ref f)) : Fn P w K mg base "less" p_less 1 (sp_less K) := by
  refine ⟨f, fd, F.ok sc_less (fun vs H Q E h => (by first | exact len_R h | exact len_N h)) (fun cdv A outer s H vs Q E hr h => ⟨t_less K, ?_, by_less rfl vs H Q E h⟩), hm, F.kp, F.binds (ps := p_less) fun _ _ _ _ _ _ us hl => match us, hl with | [_, _], _ => rfl⟩
  unfold t_less
  exact (pss_cons (ps_ret (pe_cmpR op_ltK (pe_op op_mulK (pe_ix ix_seq (pv 0) pe_int (fun _ _ => rfl)) (pe_ix ix_seq (pv 1) pe_int (fun _ _ => rfl))) (pe_op op_mulK (pe_ix ix_seq (pv 1) pe_int (fun _ _ => rfl)) (pe_ix ix_seq (pv 0) pe_int (fun _ _ => rfl))) (nomark _)))
 pss_nil)
theorem ok_l_cell_at (z_len : mg "len" = none) {f : Addr} {fd : FuncData} (F : Fun K "_law_cell_at" "_law_cell_at" s_l_cell_at f fd) (hm : mg "_law_cell_at" = some (.ref f)) : Fn P w K mg base "_law_cell_at" p_l_cell_at 1 (sp_l_cell_at K) := by
  refine ⟨f, fd, F.ok sc_l_cell_at (fun vs H Q E h => (by first | exact len_R h | exact len_N h)) (fun cdv A outer s H vs Q E hr h => ⟨t_l_cell_at K, ?_, by_l_cell_at rfl vs H Q E h⟩), hm, F.kp, F.binds (ps := p_l_cell_at) fun _ _ _ _ _ _ us hl => match us, hl with | [_, _], _ => rfl⟩
  unfold t_l_cell_at
  exact (pss_cons (ps_if (pt_cmpR (op_eqD hr.units) (pe_callB cl_len (by rfl) z_len PySem.boot_len (pa_cons (pv 0) pa_nil)) pe_int (nomark _)) (pss_cons (ps_ret (pv 1))
 pss_nil) pss_nil)
 (pss_cons (ps_ret (pe_op op_addK (pe_ix ix_seq (pv 0) (pe_op op_modK (pv 1) (pe_callB cl_len (by rfl) z_len PySem.boot_len (pa_cons (pv 0) pa_nil))) (fun _ _ => rfl)) (pe_op op_mulK pe_int (pe_op op_divK (pv 1) (pe_callB cl_len (by rfl) z_len PySem.boot_len (pa_cons (pv 0) pa_nil))))))
 pss_nil))
theorem ok_l_whole (z_bool : mg "bool" = none) (z_int : mg "int" = none) (z_isinstance : mg "isinstance" = none) {f : Addr} {fd : FuncData} (F : Fun K "_law_whole" "_law_whole" s_l_whole f fd) (hm : mg "_law_whole" = some (.ref f)) : Fn P w K mg base "_law_whole" p_l_whole 1 (sp_l_whole K) := by
  refine ⟨f, fd, F.ok sc_l_whole (fun vs H Q E h => (by first | exact len_R h | exact len_N h)) (fun cdv A outer s H vs Q E hr h => ⟨t_l_whole K, ?_, by_l_whole rfl vs H Q E h⟩), hm, F.kp, F.binds (ps := p_l_whole) fun _ _ _ _ _ _ us hl => match us, hl with | [_], _ => rfl⟩
  unfold t_l_whole
  exact (pss_cons (ps_ret (pe_and (pe_callB call_isi (by rfl) z_isinstance (by decide +kernel) (pa_cons (pv 0) (pa_cons (pe_bltn (v := .ty "int") rfl z_int (by decide +kernel) rfl) pa_nil))) (pe_one (pe_not (pe_callB call_isi (by rfl) z_isinstance (by decide +kernel) (pa_cons (pv 0) (pa_cons (pe_bltn (v := .ty "bool") rfl z_bool (by decide +kernel) rfl) pa_nil)))))))
 pss_nil)
theorem ok_l_share (G_l_whole : Fn P w K mg base "_law_whole" p_l_whole 1 (sp_l_whole K)) (z_isinstance : mg "isinstance" = none) (z_len : mg "len" = none) (z_tuple : mg "tuple" = none) {f : Addr} {fd : FuncData} (F : Fun K "_law_share" "_law_share" s_l_share f fd) (hm : mg "_law_share" = some (.ref f)) : Fn P w K mg base "_law_share" p_l_share 2 (sp_l_share K) := by
  refine ⟨f, fd, F.ok sc_l_share (fun vs H Q E h => (by first | exact len_R h | exact len_N h)) (fun cdv A outer s H vs Q E hr h => ⟨t_l_share K, ?_, by_l_share rfl vs H Q E h⟩), hm, F.kp, F.binds (ps := p_l_share) fun _ _ _ _ _ _ us hl => match us, hl with | [_], _ => rfl⟩
  unfold t_l_share
  exact (pss_cons (ps_if (PW.pt (pw_or (pt_not (pt_val (pe_callB call_isi (by rfl) z_isinstance (by decide +kernel) (pa_cons (pv 0) (pa_cons (pe_bltn (v := .ty "tuple") rfl z_tuple (by decide +kernel) rfl) pa_nil))))) (pw_or1 (pt_cmpR (op_neD hr.units) (pe_callB cl_len (by rfl) z_len PySem.boot_len (pa_cons (pv 0) pa_nil)) pe_int (nomark _))))) (pss_cons (ps_ret pe_bl)
 pss_nil) pss_nil)
 (pss_cons (ps_ret (pe_and (pe_fn G_l_whole (hr.mono (by decide)) (pa_cons (pe_ix ix_seq (pv 0) pe_int (fun _ _ => rfl)) pa_nil)) (pe_one (pe_fn G_l_whole (hr.mono (by decide)) (pa_cons (pe_ix ix_seq (pv 0) pe_int (fun _ _ => rfl)) pa_nil)))))
 pss_nil))
theorem ok_l_low (z_abs : mg "abs" = none) {f : Addr} {fd : FuncData} (F : Fun K "_law_low" "_law_low" s_l_low f fd) (hm : mg "_law_low" = some (.ref f)) : Fn P w K mg base "_law_low" p_l_low 1 (sp_l_low K) := by
  refine ⟨f, fd, F.ok sc_l_low (fun vs H Q E h => (by first | exact len_R h | exact len_N h)) (fun cdv A outer s H vs Q E hr h => ⟨t_l_low K, ?_, by_l_low rfl vs H Q E h⟩), hm, F.kp, F.binds (ps := p_l_low) fun _ _ _ _ _ _ us hl => match us, hl with | [_, _], _ => rfl⟩
  unfold t_l_low
  exact (pss_cons (ps_set (i := 2) sc_l_low.nd rfl (by first | exact .inl rfl | exact .inr rfl) (pe_callB cl_abs (by rfl) z_abs (by decide +kernel) (pa_cons (pv 0) pa_nil)))
 (pss_cons (ps_set (i := 3) sc_l_low.nd rfl (by first | exact .inl rfl | exact .inr rfl) (pv 1))
 (pss_cons (ps_while PassesOwn.never (pt_cmpR op_gtK (pv 3) pe_int (nomark _)) (pss_cons (ps_par (i := 2) (j := 3) rfl sc_l_low.nd rfl rfl (by decide) rfl rfl (pa_cons (pv 3) (pa_cons (pe_op op_modK (pv 2) (pv 3)) pa_nil)) (by rfl))
 pss_nil))
 (pss_cons (ps_ret (pe_tup (pa_cons (pe_op op_divK (pv 0) (pv 2)) (pa_cons (pe_op op_divK (pv 1) (pv 2)) pa_nil))))
 pss_nil))))
theorem ok_l_number {f : Addr} {fd : FuncData} (F : Fun K "_law_number" "_law_number" s_l_number f fd) (hm : mg "_law_number" = some (.ref f)) : Fn P w K mg base "_law_number" p_l_number 1 (sp_l_number K) := by
  refine ⟨f, fd, F.ok sc_l_number (fun vs H Q E h => (by first | exact len_R h | exact len_N h)) (fun cdv A outer s H vs Q E hr h => ⟨t_l_number K, ?_, by_l_number rfl vs H Q E h⟩), hm, F.kp, F.binds (ps := p_l_number) fun _ _ _ _ _ _ us hl => match us, hl with | [_, _, _], _ => rfl⟩
  unfold t_l_number
  exact (pss_cons (ps_if (pt_cmpR (op_eqD hr.units) (pe_op op_modK (pv 0) pe_int) pe_int (nomark _)) (pss_cons (ps_ret (pe_op op_addK (pv 1) (pe_op op_modK (pe_op op_mulK (pe_op op_divK (pv 0) pe_int) pe_int) (pe_op op_subK (pe_op op_mulK (pv 2) (pe_op op_powK pe_int pe_int)) (pv 1)))))
 pss_nil) pss_nil)
 (pss_cons (ps_ret (pe_op op_addK (pv 1) (pe_op op_modK (pe_op op_divK (pv 0) pe_int) (pe_op op_addK (pe_op op_subK (pv 2) (pv 1)) pe_int))))
 pss_nil))
theorem ok_l_right (G_l_share : Fn P w K mg base "_law_share" p_l_share 2 (sp_l_share K)) (G_l_low : Fn P w K mg base "_law_low" p_l_low 1 (sp_l_low K)) {f : Addr} {fd : FuncData} (F : Fun K "_law_right" "_law_right" s_l_right f fd) (hm : mg "_law_right" = some (.ref f)) : Fn P w K mg base "_law_right" p_l_right 3 (sp_l_right K) := by
  refine ⟨f, fd, F.ok sc_l_right (fun vs H Q E h => (by first | exact len_R h | exact len_N h)) (fun cdv A outer s H vs Q E hr h => ⟨t_l_right K, ?_, by_l_right rfl vs H Q E h⟩), hm, F.kp, F.binds (ps := p_l_right) fun _ _ _ _ _ _ us hl => match us, hl with | [_, _, _], _ => rfl⟩
  unfold t_l_right
  exact (pss_cons (ps_ret (pe_and (pe_fn G_l_share (hr.mono (by decide)) (pa_cons (pv 0) pa_nil)) (pe_one (pe_cmpR (op_eqD hr.units) (pv 0) (pe_fn G_l_low (hr.mono (by decide)) (pa_cons (pv 1) (pa_cons (pv 2) pa_nil))) (nomark _)))))
 pss_nil)
theorem lawOk_k01 (G_share : Fn P w K mg base "share" p_share 2 (sp_share K)) (G_plus : Fn P w K mg base "plus" p_plus 3 (sp_plus K)) (G_times : Fn P w K mg base "times" p_times 3 (sp_times K)) (G_less : Fn P w K mg base "less" p_less 1 (sp_less K)) (G_l_cell_at : Fn P w K mg base "_law_cell_at" p_l_cell_at 1 (sp_l_cell_at K)) (G_l_number : Fn P w K mg base "_law_number" p_l_number 1 (sp_l_number K)) (G_l_right : Fn P w K mg base "_law_right" p_l_right 3 (sp_l_right K)) (z_bool : mg "bool" = none) (z_isinstance : mg "isinstance" = none) (z_range : mg "range" = none) {f : Addr} {fd : FuncData} (F : Fun K "law" "law" s_law_k01 f fd) : FnOk P w K mg base CX0 4 f fd p_law_k01 (sp_law_k01 K) := by
  refine F.ok sc_law_k01 (fun vs H Q E h => (by first | exact len_R h | exact len_N h)) (fun cdv A outer s H vs Q E hr h => ⟨t_law_k01 K, ?_, by_law_k01 rfl vs H Q E h⟩)
  unfold t_law_k01
  exact (pss_cons (ps_set (i := 1) sc_law_k01.nd rfl (by first | exact .inl rfl | exact .inr rfl) (pe_lst pa_nil))
 (pss_cons (ps_set (i := 2) sc_law_k01.nd rfl (by first | exact .inl rfl | exact .inr rfl) (pe_lst pa_nil))
 (pss_cons (ps_for PassesOwn.never rfl (pi_range1 rfl z_range (pa_cons pe_int pa_nil)) (pg_name (i := 3) sc_law_k01.nd rfl (by first | exact .inl rfl | exact .inr rfl)) (pss_cons (ps_set (i := 4) sc_law_k01.nd rfl (by first | exact .inl rfl | exact .inr rfl) (pe_fn G_l_cell_at (hr.mono (by decide)) (pa_cons (pv 0) (pa_cons (pe_op op_mulK pe_int (pv 3)) pa_nil))))
 (pss_cons (ps_expr (pe_bm PySem.F.plainAttrs_list PySem.F.slot_list_append PySem.F.type_list_append mt_append (pv 1) (pa_cons (pe_op op_mulK (pe_fn G_l_number (hr.mono (by decide)) (pa_cons (pe_op op_divK (pv 4) pe_int) (pa_cons pe_int (pa_cons pe_int pa_nil)))) (pe_ix ix_seq (pe_lst (pa_cons pe_int (pa_cons (pe_un un_neg pe_int) pa_nil))) (pe_op op_modK (pv 4) pe_int) (fun _ _ => rfl))) pa_nil)))
 (pss_cons (ps_expr (pe_bm PySem.F.plainAttrs_list PySem.F.slot_list_append PySem.F.type_list_append mt_append (pv 2) (pa_cons (pe_fn G_l_number (hr.mono (by decide)) (pa_cons (pe_fn G_l_cell_at (hr.mono (by decide)) (pa_cons (pv 0) (pa_cons (pe_op op_addK (pe_op op_mulK pe_int (pv 3)) pe_int) pa_nil))) (pa_cons pe_int (pa_cons pe_int pa_nil)))) pa_nil)))
 pss_nil))))
 (pss_cons (ps_set (i := 5) sc_law_k01.nd rfl (by first | exact .inl rfl | exact .inr rfl) (pe_fn G_l_number (hr.mono (by decide)) (pa_cons (pe_fn G_l_cell_at (hr.mono (by decide)) (pa_cons (pv 0) (pa_cons pe_int pa_nil))) (pa_cons pe_int (pa_cons pe_int pa_nil)))))
 (pss_cons (ps_set (i := 6) sc_law_k01.nd rfl (by first | exact .inl rfl | exact .inr rfl) (pe_fn G_l_number (hr.mono (by decide)) (pa_cons (pe_fn G_l_cell_at (hr.mono (by decide)) (pa_cons (pv 0) (pa_cons pe_int pa_nil))) (pa_cons pe_int (pa_cons pe_int pa_nil)))))
 (pss_cons (ps_set (i := 7) sc_law_k01.nd rfl (by first | exact .inl rfl | exact .inr rfl) (pe_fn G_share (hr.mono (by decide)) (pa_cons (pe_ix ix_seq (pv 1) pe_int (fun _ _ => rfl)) (pa_cons (pe_ix ix_seq (pv 2) pe_int (fun _ _ => rfl)) pa_nil))))
 (pss_cons (ps_set (i := 8) sc_law_k01.nd rfl (by first | exact .inl rfl | exact .inr rfl) (pe_fn G_share (hr.mono (by decide)) (pa_cons (pe_ix ix_seq (pv 1) pe_int (fun _ _ => rfl)) (pa_cons (pe_ix ix_seq (pv 2) pe_int (fun _ _ => rfl)) pa_nil))))
 (pss_cons (ps_if (PW.pt (pw_or (pt_not (pt_val (pe_fn G_l_right (hr.mono (by decide)) (pa_cons (pv 7) (pa_cons (pe_ix ix_seq (pv 1) pe_int (fun _ _ => rfl)) (pa_cons (pe_ix ix_seq (pv 2) pe_int (fun _ _ => rfl)) pa_nil)))))) (pw_or1 (pt_not (pt_val (pe_fn G_l_right (hr.mono (by decide)) (pa_cons (pv 8) (pa_cons (pe_ix ix_seq (pv 1) pe_int (fun _ _ => rfl)) (pa_cons (pe_ix ix_seq (pv 2) pe_int (fun _ _ => rfl)) pa_nil))))))))) (pss_cons (ps_ret pe_bl)
 pss_nil) pss_nil)
 (pss_cons (ps_set (i := 9) sc_law_k01.nd rfl (by first | exact .inl rfl | exact .inr rfl) (pe_op op_addK (pe_op op_mulK (pe_ix ix_seq (pv 1) pe_int (fun _ _ => rfl)) (pe_ix ix_seq (pv 2) pe_int (fun _ _ => rfl))) (pe_op op_mulK (pe_ix ix_seq (pv 1) pe_int (fun _ _ => rfl)) (pe_ix ix_seq (pv 2) pe_int (fun _ _ => rfl)))))
 (pss_cons (ps_if (pt_not (pt_val (pe_fn G_l_right (hr.mono (by decide)) (pa_cons (pe_fn G_plus (hr.mono (by decide)) (pa_cons (pv 7) (pa_cons (pv 8) pa_nil))) (pa_cons (pv 9) (pa_cons (pe_op op_mulK (pe_ix ix_seq (pv 2) pe_int (fun _ _ => rfl)) (pe_ix ix_seq (pv 2) pe_int (fun _ _ => rfl))) pa_nil)))))) (pss_cons (ps_ret pe_bl)
 pss_nil) pss_nil)
 (pss_cons (ps_if (pt_not (pt_val (pe_fn G_l_right (hr.mono (by decide)) (pa_cons (pe_fn G_times (hr.mono (by decide)) (pa_cons (pv 7) (pa_cons (pv 5) (pa_cons (pv 6) pa_nil)))) (pa_cons (pe_op op_mulK (pe_ix ix_seq (pv 1) pe_int (fun _ _ => rfl)) (pv 5)) (pa_cons (pe_op op_mulK (pe_ix ix_seq (pv 2) pe_int (fun _ _ => rfl)) (pv 6)) pa_nil)))))) (pss_cons (ps_ret pe_bl)
 pss_nil) pss_nil)
 (pss_cons (ps_set (i := 10) sc_law_k01.nd rfl (by first | exact .inl rfl | exact .inr rfl) (pe_fn G_less (hr.mono (by decide)) (pa_cons (pv 7) (pa_cons (pv 8) pa_nil))))
 (pss_cons (ps_if (PW.pt (pw_or (pt_not (pt_val (pe_callB call_isi (by rfl) z_isinstance (by decide +kernel) (pa_cons (pv 10) (pa_cons (pe_bltn (v := .ty "bool") rfl z_bool (by decide +kernel) rfl) pa_nil))))) (pw_or1 (pt_cmpR op_notK (pe_fn G_less (hr.mono (by decide)) (pa_cons (pv 7) (pa_cons (pv 7) pa_nil))) pe_bl (nomark _))))) (pss_cons (ps_ret pe_bl)
 pss_nil) pss_nil)
 (pss_cons (ps_ret (pe_and (pe_cmpR (op_eqD hr.units) (pv 10) (pe_cmpR op_ltK (pe_op op_mulK (pe_ix ix_seq (pv 1) pe_int (fun _ _ => rfl)) (pe_ix ix_seq (pv 2) pe_int (fun _ _ => rfl))) (pe_op op_mulK (pe_ix ix_seq (pv 1) pe_int (fun _ _ => rfl)) (pe_ix ix_seq (pv 2) pe_int (fun _ _ => rfl))) (nomark _)) (nomark _)) (pe_one (pe_cmpR (op_eqD hr.units) (pe_fn G_share (hr.mono (by decide)) (pa_cons pe_int (pa_cons (pe_ix ix_seq (pv 2) pe_int (fun _ _ => rfl)) pa_nil))) (pe_tup (pa_cons pe_int (pa_cons pe_int pa_nil))) (nomark _)))))
 pss_nil))))))))))))))
end
theorem all_mk {l : PySem.W.OpenLaw} {w : World} {K : PySem.W.Frag} {h : Heap} {mg : Str → Option Value} {fa : Addr} (X : K.In h) (G : h.Ns mainGlobals mg) (hfa : mg "law" = some (.ref fa))
    {f0 : Addr} {od0 an0 : Option Addr} {sl0 : Array (Option Value)} {oc0 kV0 dc0 pm0 cd0 ct0 : Value}
    (a0 : PySem.W.nsIn K mainGlobals "divisor" = some (some (.ref f0))) (l0 : K.lookup f0 = some ⟨oc0, od0, .func (PySem.W.fnOf "divisor" "divisor" (defArgs s_divisor) (defBody s_divisor) (defScope s_divisor) .none kV0 dc0 pm0 an0 cd0 ct0), sl0⟩) (c0 : PySem.W.codeIn K cd0 "divisor" = true) (k0 : PySem.W.keepIn K (.ref f0) = true)
    {f1 : Addr} {od1 an1 : Option Addr} {sl1 : Array (Option Value)} {oc1 kV1 dc1 pm1 cd1 ct1 : Value}
    (a1 : PySem.W.nsIn K mainGlobals "share" = some (some (.ref f1))) (l1 : K.lookup f1 = some ⟨oc1, od1, .func (PySem.W.fnOf "share" "share" (defArgs s_share) (defBody s_share) (defScope s_share) .none kV1 dc1 pm1 an1 cd1 ct1), sl1⟩) (c1 : PySem.W.codeIn K cd1 "share" = true) (k1 : PySem.W.keepIn K (.ref f1) = true)
    {f2 : Addr} {od2 an2 : Option Addr} {sl2 : Array (Option Value)} {oc2 kV2 dc2 pm2 cd2 ct2 : Value}
    (a2 : PySem.W.nsIn K mainGlobals "plus" = some (some (.ref f2))) (l2 : K.lookup f2 = some ⟨oc2, od2, .func (PySem.W.fnOf "plus" "plus" (defArgs s_plus) (defBody s_plus) (defScope s_plus) .none kV2 dc2 pm2 an2 cd2 ct2), sl2⟩) (c2 : PySem.W.codeIn K cd2 "plus" = true) (k2 : PySem.W.keepIn K (.ref f2) = true)
    {f3 : Addr} {od3 an3 : Option Addr} {sl3 : Array (Option Value)} {oc3 kV3 dc3 pm3 cd3 ct3 : Value}
    (a3 : PySem.W.nsIn K mainGlobals "times" = some (some (.ref f3))) (l3 : K.lookup f3 = some ⟨oc3, od3, .func (PySem.W.fnOf "times" "times" (defArgs s_times) (defBody s_times) (defScope s_times) .none kV3 dc3 pm3 an3 cd3 ct3), sl3⟩) (c3 : PySem.W.codeIn K cd3 "times" = true) (k3 : PySem.W.keepIn K (.ref f3) = true)
    {f4 : Addr} {od4 an4 : Option Addr} {sl4 : Array (Option Value)} {oc4 kV4 dc4 pm4 cd4 ct4 : Value}
    (a4 : PySem.W.nsIn K mainGlobals "less" = some (some (.ref f4))) (l4 : K.lookup f4 = some ⟨oc4, od4, .func (PySem.W.fnOf "less" "less" (defArgs s_less) (defBody s_less) (defScope s_less) .none kV4 dc4 pm4 an4 cd4 ct4), sl4⟩) (c4 : PySem.W.codeIn K cd4 "less" = true) (k4 : PySem.W.keepIn K (.ref f4) = true)
    {f5 : Addr} {od5 an5 : Option Addr} {sl5 : Array (Option Value)} {oc5 kV5 dc5 pm5 cd5 ct5 : Value}
    (a5 : PySem.W.nsIn K mainGlobals "_law_cell_at" = some (some (.ref f5))) (l5 : K.lookup f5 = some ⟨oc5, od5, .func (PySem.W.fnOf "_law_cell_at" "_law_cell_at" (defArgs s_l_cell_at) (defBody s_l_cell_at) (defScope s_l_cell_at) .none kV5 dc5 pm5 an5 cd5 ct5), sl5⟩) (c5 : PySem.W.codeIn K cd5 "_law_cell_at" = true) (k5 : PySem.W.keepIn K (.ref f5) = true)
    {f6 : Addr} {od6 an6 : Option Addr} {sl6 : Array (Option Value)} {oc6 kV6 dc6 pm6 cd6 ct6 : Value}
    (a6 : PySem.W.nsIn K mainGlobals "_law_whole" = some (some (.ref f6))) (l6 : K.lookup f6 = some ⟨oc6, od6, .func (PySem.W.fnOf "_law_whole" "_law_whole" (defArgs s_l_whole) (defBody s_l_whole) (defScope s_l_whole) .none kV6 dc6 pm6 an6 cd6 ct6), sl6⟩) (c6 : PySem.W.codeIn K cd6 "_law_whole" = true) (k6 : PySem.W.keepIn K (.ref f6) = true)
    {f7 : Addr} {od7 an7 : Option Addr} {sl7 : Array (Option Value)} {oc7 kV7 dc7 pm7 cd7 ct7 : Value}
    (a7 : PySem.W.nsIn K mainGlobals "_law_share" = some (some (.ref f7))) (l7 : K.lookup f7 = some ⟨oc7, od7, .func (PySem.W.fnOf "_law_share" "_law_share" (defArgs s_l_share) (defBody s_l_share) (defScope s_l_share) .none kV7 dc7 pm7 an7 cd7 ct7), sl7⟩) (c7 : PySem.W.codeIn K cd7 "_law_share" = true) (k7 : PySem.W.keepIn K (.ref f7) = true)
    {f8 : Addr} {od8 an8 : Option Addr} {sl8 : Array (Option Value)} {oc8 kV8 dc8 pm8 cd8 ct8 : Value}
    (a8 : PySem.W.nsIn K mainGlobals "_law_low" = some (some (.ref f8))) (l8 : K.lookup f8 = some ⟨oc8, od8, .func (PySem.W.fnOf "_law_low" "_law_low" (defArgs s_l_low) (defBody s_l_low) (defScope s_l_low) .none kV8 dc8 pm8 an8 cd8 ct8), sl8⟩) (c8 : PySem.W.codeIn K cd8 "_law_low" = true) (k8 : PySem.W.keepIn K (.ref f8) = true)
    {f9 : Addr} {od9 an9 : Option Addr} {sl9 : Array (Option Value)} {oc9 kV9 dc9 pm9 cd9 ct9 : Value}
    (a9 : PySem.W.nsIn K mainGlobals "_law_number" = some (some (.ref f9))) (l9 : K.lookup f9 = some ⟨oc9, od9, .func (PySem.W.fnOf "_law_number" "_law_number" (defArgs s_l_number) (defBody s_l_number) (defScope s_l_number) .none kV9 dc9 pm9 an9 cd9 ct9), sl9⟩) (c9 : PySem.W.codeIn K cd9 "_law_number" = true) (k9 : PySem.W.keepIn K (.ref f9) = true)
    {f10 : Addr} {od10 an10 : Option Addr} {sl10 : Array (Option Value)} {oc10 kV10 dc10 pm10 cd10 ct10 : Value}
    (a10 : PySem.W.nsIn K mainGlobals "_law_right" = some (some (.ref f10))) (l10 : K.lookup f10 = some ⟨oc10, od10, .func (PySem.W.fnOf "_law_right" "_law_right" (defArgs s_l_right) (defBody s_l_right) (defScope s_l_right) .none kV10 dc10 pm10 an10 cd10 ct10), sl10⟩) (c10 : PySem.W.codeIn K cd10 "_law_right" = true) (k10 : PySem.W.keepIn K (.ref f10) = true)
    {f11 : Addr} {od11 an11 : Option Addr} {sl11 : Array (Option Value)} {oc11 kV11 dc11 pm11 cd11 ct11 : Value}
    (a11 : PySem.W.nsIn K mainGlobals "law" = some (some (.ref f11))) (l11 : K.lookup f11 = some ⟨oc11, od11, .func (PySem.W.fnOf "law" "law" (defArgs s_law_k01) (defBody s_law_k01) (defScope s_law_k01) .none kV11 dc11 pm11 an11 cd11 ct11), sl11⟩) (c11 : PySem.W.codeIn K cd11 "law" = true) (k11 : PySem.W.keepIn K (.ref f11) = true)
    (zz_abs : PySem.W.nsIn K mainGlobals "abs" = some none)
    (zz_bool : PySem.W.nsIn K mainGlobals "bool" = some none)
    (zz_int : PySem.W.nsIn K mainGlobals "int" = some none)
    (zz_isinstance : PySem.W.nsIn K mainGlobals "isinstance" = some none)
    (zz_len : PySem.W.nsIn K mainGlobals "len" = some none)
    (zz_range : PySem.W.nsIn K mainGlobals "range" = some none)
    (zz_tuple : PySem.W.nsIn K mainGlobals "tuple" = some none)
    : ∃ fd : FuncData, (∀ (s : Shared) (v : Value), BindsTo s fd ⟨[v], []⟩ [("_law_script", v)]) ∧ ∀ base : Heap, K.In base → base.Ns mainGlobals mg → FnOk l.prog w K mg base CX0 4 fa fd p_law_k01 (sp_law_k01 K) := by
  have e := hfa.symm.trans (PySem.W.mg_of X G a11)
  cases e
  have z_abs := PySem.W.mg_none_of X G zz_abs
  have z_bool := PySem.W.mg_none_of X G zz_bool
  have z_int := PySem.W.mg_none_of X G zz_int
  have z_isinstance := PySem.W.mg_none_of X G zz_isinstance
  have z_len := PySem.W.mg_none_of X G zz_len
  have z_range := PySem.W.mg_none_of X G zz_range
  have z_tuple := PySem.W.mg_none_of X G zz_tuple
  refine ⟨PySem.W.fnOf "law" "law" (defArgs s_law_k01) (defBody s_law_k01) (defScope s_law_k01) .none kV11 dc11 pm11 an11 cd11 ct11, fun s v => .of_eq rfl, fun base _ _ => ?_⟩
  have G_divisor : Fn l.prog w K mg base "divisor" p_divisor 1 (sp_divisor K) := ok_divisor (fun_mk (st := s_divisor) l0 c0 k0) (PySem.W.mg_of X G a0)
  have G_share : Fn l.prog w K mg base "share" p_share 2 (sp_share K) := ok_share G_divisor z_abs (fun_mk (st := s_share) l1 c1 k1) (PySem.W.mg_of X G a1)
  have G_plus : Fn l.prog w K mg base "plus" p_plus 3 (sp_plus K) := ok_plus G_share (fun_mk (st := s_plus) l2 c2 k2) (PySem.W.mg_of X G a2)
  have G_times : Fn l.prog w K mg base "times" p_times 3 (sp_times K) := ok_times G_share (fun_mk (st := s_times) l3 c3 k3) (PySem.W.mg_of X G a3)
  have G_less : Fn l.prog w K mg base "less" p_less 1 (sp_less K) := ok_less (fun_mk (st := s_less) l4 c4 k4) (PySem.W.mg_of X G a4)
  have G_l_cell_at : Fn l.prog w K mg base "_law_cell_at" p_l_cell_at 1 (sp_l_cell_at K) := ok_l_cell_at z_len (fun_mk (st := s_l_cell_at) l5 c5 k5) (PySem.W.mg_of X G a5)
  have G_l_whole : Fn l.prog w K mg base "_law_whole" p_l_whole 1 (sp_l_whole K) := ok_l_whole z_bool z_int z_isinstance (fun_mk (st := s_l_whole) l6 c6 k6) (PySem.W.mg_of X G a6)
  have G_l_share : Fn l.prog w K mg base "_law_share" p_l_share 2 (sp_l_share K) := ok_l_share G_l_whole z_isinstance z_len z_tuple (fun_mk (st := s_l_share) l7 c7 k7) (PySem.W.mg_of X G a7)
  have G_l_low : Fn l.prog w K mg base "_law_low" p_l_low 1 (sp_l_low K) := ok_l_low z_abs (fun_mk (st := s_l_low) l8 c8 k8) (PySem.W.mg_of X G a8)
  have G_l_number : Fn l.prog w K mg base "_law_number" p_l_number 1 (sp_l_number K) := ok_l_number (fun_mk (st := s_l_number) l9 c9 k9) (PySem.W.mg_of X G a9)
  have G_l_right : Fn l.prog w K mg base "_law_right" p_l_right 3 (sp_l_right K) := ok_l_right G_l_share G_l_low (fun_mk (st := s_l_right) l10 c10 k10) (PySem.W.mg_of X G a10)
  exact lawOk_k01 G_share G_plus G_times G_less G_l_cell_at G_l_number G_l_right z_bool z_isinstance z_range (fun_mk (st := s_law_k01) l11 c11 k11)
end GW
open PySem PySem.W PyProof.Rows
set_option maxRecDepth 100000 in
set_option maxHeartbeats 0 in
theorem PySem.Challenge.cw_gradewish_k01_shares_holds : PySem.Challenge.rw_gradewish_k01_shares.Holds := by
  w_on; o_law; k_head; (case hw => w_witness2)
  k_fill
  refine L2.walk_of (l := PySem.Challenge.rw_gradewish_k01_shares) (n := 63) (k := 4) (x := "_law_script") (CX := fun _ => L2.CX0) (sp := fun w => GW.sp_law_k01 _) rfl (by decide) rfl ⟨rfl, by decide, by decide⟩ (fun w h Y => PySem.W.kIn_of Y) ?F (fun _ _ a ns hl _ hS => GW.law_pre hl hS fun ns h => ⟨ns, rfl, h, rfl⟩) (fun _ _ _ _ _ h => h)
  case F =>
    intro w mg fa h KX G hmg
    refine' GW.all_mk KX G hmg ?a0 ?l0 ?c0 ?k0 ?a1 ?l1 ?c1 ?k1 ?a2 ?l2 ?c2 ?k2 ?a3 ?l3 ?c3 ?k3 ?a4 ?l4 ?c4 ?k4 ?a5 ?l5 ?c5 ?k5 ?a6 ?l6 ?c6 ?k6 ?a7 ?l7 ?c7 ?k7 ?a8 ?l8 ?c8 ?k8 ?a9 ?l9 ?c9 ?k9 ?a10 ?l10 ?c10 ?k10 ?a11 ?l11 ?c11 ?k11 ?zz_abs ?zz_bool ?zz_int ?zz_isinstance ?zz_len ?zz_range ?zz_tuple
    (case a0 => k_is)
    (case l0 => k_is)
    (case c0 => k_is)
    (case k0 => k_is)
    (case a1 => k_is)
    (case l1 => k_is)
    (case c1 => k_is)
    (case k1 => k_is)
    (case a2 => k_is)
    (case l2 => k_is)
    (case c2 => k_is)
    (case k2 => k_is)
    (case a3 => k_is)
    (case l3 => k_is)
    (case c3 => k_is)
    (case k3 => k_is)
    (case a4 => k_is)
    (case l4 => k_is)
    (case c4 => k_is)
    (case k4 => k_is)
    (case a5 => k_is)
    (case l5 => k_is)
    (case c5 => k_is)
    (case k5 => k_is)
    (case a6 => k_is)
    (case l6 => k_is)
    (case c6 => k_is)
    (case k6 => k_is)
    (case a7 => k_is)
    (case l7 => k_is)
    (case c7 => k_is)
    (case k7 => k_is)
    (case a8 => k_is)
    (case l8 => k_is)
    (case c8 => k_is)
    (case k8 => k_is)
    (case a9 => k_is)
    (case l9 => k_is)
    (case c9 => k_is)
    (case k9 => k_is)
    (case a10 => k_is)
    (case l10 => k_is)
    (case c10 => k_is)
    (case k10 => k_is)
    (case a11 => k_is)
    (case l11 => k_is)
    (case c11 => k_is)
    (case k11 => k_is)
    (case zz_abs => k_is)
    (case zz_bool => k_is)
    (case zz_int => k_is)
    (case zz_isinstance => k_is)
    (case zz_len => k_is)
    (case zz_range => k_is)
    (case zz_tuple => k_is)
