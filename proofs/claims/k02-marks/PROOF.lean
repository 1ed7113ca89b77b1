import PyProof.Rows.All
import Wide.All
import OpenK.AllK
import Wide.FinOn
import PySem.Challenge.RW_gradewish_k02_marks
import HandS.ForMost
import HandS.ForExc
import HandS.Wide
import HandS.Style
import HandS.IsInst
import HandS.TupAny
import HandS.TupMul
import HandS.SortKw
import KE.DatumOrd
import KE.DatumIndex
set_option Elab.async false
set_option linter.all false
set_option maxRecDepth 100000
set_option maxHeartbeats 4000000
set_option exponentiation.threshold 20000
namespace GW
open PySem PySem.Spec PyProof.Rows L2

abbrev D := PyData
variable {K : PySem.W.Frag}

theorem rd_same {H H' : Hp} {a : Addr} {u : HO} (e : Same H H') (h : Rd H a u) : Rd H' a u := by
  rcases h with h | ⟨o, h⟩
  · exact .inl (e _ _ h)
  · exact .inr ⟨o, e _ _ h⟩
theorem sql_same {H H' : Hp} {a : Addr} {xs : List V} (e : Same H H') (h : SqL K H a xs) : SqL K H' a xs := by
  rcases h with h | h
  · exact .inl (rd_same e h)
  · exact .inr h
theorem sqt_same {H H' : Hp} {a : Addr} {xs : List V} (e : Same H H') (h : SqT K H a xs) : SqT K H' a xs := by
  rcases h with h | h
  · exact .inl (rd_same e h)
  · exact .inr h
mutual
theorem dp_same {H H' : Hp} (e : Same H H') : ∀ {d : D} {v : V}, Dp K H v d → Dp K H' v d
  | .none, _, h => by cases h; exact .non
  | .bool b, _, h => by cases h; exact .bl b
  | .int i, _, h => by cases h; exact .int i
  | .str x, _, h => by cases h; exact .str x
  | .list ds, _, h => by cases h with | lst hs ha => exact .lst (sql_same e hs) (dps_same e ha)
  | .tuple ds, _, h => by cases h with | tup hs ha => exact .tup (sqt_same e hs) (dps_same e ha)
  | .dict _, _, h => by cases h
theorem dps_same {H H' : Hp} (e : Same H H') : ∀ {ds : List D} {vs : List V}, DpAll K H vs ds → DpAll K H' vs ds
  | [], _, h => by cases h; exact .nil
  | d :: ds, _, h => by cases h with | cons h1 h2 => exact .cons (dp_same e h1) (dps_same e h2)
end
theorem dps_len {H : Hp} : ∀ {vs : List V} {ds : List D}, DpAll K H vs ds → vs.length = ds.length
  | _, _, .nil => rfl
  | _, _, .cons _ t => by rw [List.length_cons, List.length_cons, dps_len t]
theorem dps_get {H : Hp} : ∀ {vs : List V} {ds : List D} {i : Nat} {d : D}, DpAll K H vs ds → ds[i]? = some d → ∃ v, vs[i]? = some v ∧ Dp K H v d
  | _, _, _, _, .nil, e => by simp at e
  | _, _, 0, _, .cons r _, e => by simp at e; subst e; exact ⟨_, rfl, r⟩
  | _, _, i + 1, d, .cons _ t, e => by
    obtain ⟨v, h1, h2⟩ := dps_get (i := i) (d := d) t (by simpa using e)
    exact ⟨v, by simpa using h1, h2⟩
theorem dps_get' {H : Hp} : ∀ {vs : List V} {ds : List D} {i : Nat} {v : V}, DpAll K H vs ds → vs[i]? = some v → ∃ d, ds[i]? = some d ∧ Dp K H v d
  | _, _, _, _, .nil, e => by simp at e
  | _, _, 0, _, .cons r _, e => by simp at e; subst e; exact ⟨_, rfl, r⟩
  | _, _, i + 1, d, .cons _ t, e => by
    obtain ⟨v, h1, h2⟩ := dps_get' (i := i) (v := d) t (by simpa using e)
    exact ⟨v, by simpa using h1, h2⟩
theorem dps_app {H : Hp} : ∀ {vs ws : List V} {ds es : List D}, DpAll K H vs ds → DpAll K H ws es → DpAll K H (vs ++ ws) (ds ++ es)
  | _, _, _, _, .nil, s => s
  | _, _, _, _, .cons r t, s => .cons r (dps_app t s)
theorem dps_set {H : Hp} : ∀ {vs : List V} {ds : List D} (i : Nat) {v : V} {d : D}, Dp K H v d → DpAll K H vs ds → DpAll K H (vs.set i v) (ds.set i d)
  | _, _, _, _, _, _, .nil => .nil
  | _, _, 0, _, _, r, .cons _ t => .cons r t
  | _, _, i + 1, _, _, r, .cons q t => .cons q (dps_set i r t)
theorem dps_take {H : Hp} : ∀ {vs : List V} {ds : List D} (n : Nat), DpAll K H vs ds → DpAll K H (vs.take n) (ds.take n)
  | _, _, 0, _ => .nil
  | _, _, _ + 1, .nil => .nil
  | _, _, n + 1, .cons r t => .cons r (dps_take n t)
theorem dps_drop {H : Hp} : ∀ {vs : List V} {ds : List D} (n : Nat), DpAll K H vs ds → DpAll K H (vs.drop n) (ds.drop n)
  | _, _, 0, r => r
  | _, _, _ + 1, .nil => .nil
  | _, _, n + 1, .cons _ t => dps_drop n t
theorem dp_int {H : Hp} {v : V} {i : Int} (h : Dp K H v (.int i)) : v = .int i := by cases h; rfl
theorem dp_bl {H : Hp} {v : V} {b : Bool} (h : Dp K H v (.bool b)) : v = .bl b := by cases h; rfl
theorem dp_str {H : Hp} {v : V} {x : Str} (h : Dp K H v (.str x)) : v = .str x := by cases h; rfl
theorem dp_non {H : Hp} {v : V} (h : Dp K H v .none) : v = .non := by cases h; rfl
theorem dp_tup {H : Hp} {v : V} {ds : List D} (h : Dp K H v (.tuple ds)) : ∃ a xs, v = .ref a ∧ SqT K H a xs ∧ DpAll K H xs ds := by cases h with | tup hs ha => exact ⟨_, _, rfl, hs, ha⟩
theorem dp_lst {H : Hp} {v : V} {ds : List D} (h : Dp K H v (.list ds)) : ∃ a xs, v = .ref a ∧ SqL K H a xs ∧ DpAll K H xs ds := by cases h with | lst hs ha => exact ⟨_, _, rfl, hs, ha⟩
theorem dps1 {H : Hp} {vs : List V} {d : D} (h : DpAll K H vs [d]) : ∃ v, vs = [v] ∧ Dp K H v d := by
  cases h with | cons r t => cases t; exact ⟨_, rfl, r⟩
theorem dps2 {H : Hp} {vs : List V} {d e : D} (h : DpAll K H vs [d, e]) : ∃ v w, vs = [v, w] ∧ Dp K H v d ∧ Dp K H w e := by
  cases h with | cons r t => cases t with | cons r2 t => cases t; exact ⟨_, _, rfl, r, r2⟩
theorem dps_ints {H : Hp} : ∀ {vs : List V} {ns : List Int}, DpAll K H vs (ns.map PyData.int) → vs = ns.map V.int
  | _, [], h => by cases h; rfl
  | _, n :: ns, h => by
    cases h with
    | cons r t =>
      rw [dp_int r, dps_ints t]
      rfl
theorem ints_dps {H : Hp} : ∀ (ns : List Int), DpAll K H (ns.map V.int) (ns.map PyData.int)
  | [] => .nil
  | n :: ns => .cons (.int n) (ints_dps ns)

def del (O : List Addr) (H : Hp) : Hp := fun a => if a ∈ O then none else H a
theorem del_in {O : List Addr} {H : Hp} {a : Addr} (h : a ∈ O) : del O H a = none := if_pos h
theorem del_out {O : List Addr} {H : Hp} {a : Addr} (h : a ∉ O) : del O H a = H a := if_neg h
theorem del_same {O : List Addr} {H : Hp} : Same (del O H) H := fun a o e => by
  by_cases h : a ∈ O
  · rw [del_in h] at e; cases e
  · rw [del_out h] at e; exact e
theorem del_sub {O O' : List Addr} {H : Hp} (s : ∀ a, a ∈ O' → a ∈ O) : Same (del O H) (del O' H) := fun a o e => by
  by_cases h : a ∈ O
  · rw [del_in h] at e; cases e
  · rw [del_out h] at e; rw [del_out (fun z => h (s a z))]; exact e
theorem del_grow {O : List Addr} {H H' : Hp} (e : Same H H') : Same (del O H) (del O H') := fun a o q => by
  by_cases h : a ∈ O
  · rw [del_in h] at q; cases q
  · rw [del_out h] at q ⊢; exact e a o q
theorem del_nil {H : Hp} : del [] H = H := funext fun a => del_out (by simp)
theorem del_upd_in {O : List Addr} {H : Hp} {a : Addr} {o : HO} (h : a ∈ O) : del O (upd H a o) = del O H := funext fun b => by
  by_cases hb : b ∈ O
  · rw [del_in hb, del_in hb]
  · rw [del_out hb, del_out hb, upd_ne (fun z => hb (by rw [z]; exact h))]
theorem same_upd {H : Hp} {p : Addr} {o : HO} (h : H p = none) : Same H (upd H p o) := fun b x e => by
  rw [upd_ne (ne_of_none e h)]
  exact e

inductive Sl where
  | un
  | im (d : D)
  | ow (p : Addr) (ds : List D)
def owns : List Sl → List Addr
  | [] => []
  | .un :: r => owns r
  | .im _ :: r => owns r
  | .ow p _ :: r => p :: owns r
def SlOk (K : PySem.W.Frag) (O : List Addr) (H : Hp) (s : Option V) : Sl → Prop
  | .un => True
  | .im d => ∃ v, s = some v ∧ Dp K (del O H) v d
  | .ow p ds => s = some (.ref p) ∧ ∃ vs, H p = some (.lst vs) ∧ DpAll K (del O H) vs ds
inductive SlsOk (K : PySem.W.Frag) (O : List Addr) (H : Hp) : L2.St → List Sl → Prop
  | nil : SlsOk K O H [] []
  | cons {s : Option V} {σ : L2.St} {t : Sl} {τ : List Sl} : SlOk K O H s t → SlsOk K O H σ τ → SlsOk K O H (s :: σ) (t :: τ)
structure SokE (K : PySem.W.Frag) (O : List Addr) (H : Hp) (σ : L2.St) (τ : List Sl) : Prop where
  dom : ∀ a ∈ O, H a ≠ none
  sub : ∀ a ∈ owns τ, a ∈ O
  sl : SlsOk K O H σ τ
theorem slok_grow {O : List Addr} {H H' : Hp} (e : Same H H') {s : Option V} : ∀ {t : Sl}, SlOk K O H s t → SlOk K O H' s t
  | .un, _ => trivial
  | .im _, ⟨v, h1, h2⟩ => ⟨v, h1, dp_same (del_grow e) h2⟩
  | .ow _ _, ⟨h1, vs, h2, h3⟩ => ⟨h1, vs, e _ _ h2, dps_same (del_grow e) h3⟩
theorem slsok_grow {O : List Addr} {H H' : Hp} (e : Same H H') : ∀ {σ : L2.St} {τ : List Sl}, SlsOk K O H σ τ → SlsOk K O H' σ τ
  | _, _, .nil => .nil
  | _, _, .cons r t => .cons (slok_grow e r) (slsok_grow e t)
theorem SokE.grow {O : List Addr} {H H' : Hp} {σ : L2.St} {τ : List Sl} (h : SokE K O H σ τ) (e : Same H H') : SokE K O H' σ τ :=
  ⟨fun a ha z => (by
    cases q : H a with
    | none => exact h.dom a ha q
    | some o => rw [e a o q] at z; exact nomatch z), h.sub, slsok_grow e h.sl⟩
theorem slsok_get {O : List Addr} {H : Hp} : ∀ {σ : L2.St} {τ : List Sl} {i : Nat} {t : Sl}, SlsOk K O H σ τ → τ[i]? = some t → ∃ s, σ[i]? = some s ∧ SlOk K O H s t
  | _, _, _, _, .nil, e => by simp at e
  | _, _, 0, _, .cons r _, e => by simp at e; subst e; exact ⟨_, rfl, r⟩
  | _, _, i + 1, t, .cons _ r, e => by
    obtain ⟨s, h1, h2⟩ := slsok_get (i := i) (t := t) r (by simpa using e)
    exact ⟨s, by simpa using h1, h2⟩
theorem slsok_set {O : List Addr} {H : Hp} {s : Option V} {t : Sl} (r : SlOk K O H s t) : ∀ {σ : L2.St} {τ : List Sl} (i : Nat), SlsOk K O H σ τ → SlsOk K O H (σ.set i s) (τ.set i t)
  | _, _, _, .nil => .nil
  | _, _, 0, .cons _ q => .cons r q
  | _, _, i + 1, .cons q p => .cons q (slsok_set r i p)
theorem slok_sub {O O' : List Addr} {H : Hp} (e : ∀ a, a ∈ O' → a ∈ O) {s : Option V} : ∀ {t : Sl}, SlOk K O H s t → SlOk K O' H s t
  | .un, _ => trivial
  | .im _, ⟨v, h1, h2⟩ => ⟨v, h1, dp_same (del_sub e) h2⟩
  | .ow _ _, ⟨h1, vs, h2, h3⟩ => ⟨h1, vs, h2, dps_same (del_sub e) h3⟩
theorem slsok_sub {O O' : List Addr} {H : Hp} (e : ∀ a, a ∈ O' → a ∈ O) : ∀ {σ : L2.St} {τ : List Sl}, SlsOk K O H σ τ → SlsOk K O' H σ τ
  | _, _, .nil => .nil
  | _, _, .cons r t => .cons (slok_sub e r) (slsok_sub e t)
theorem owns_mem : ∀ {τ : List Sl} {p : Addr}, p ∈ owns τ ↔ ∃ (i : Nat) (ds : List D), τ[i]? = some (.ow p ds)
  | [], p => by simp [owns]
  | .un :: r, p => by
    rw [show owns (.un :: r) = owns r from rfl, owns_mem (τ := r)]
    constructor
    · rintro ⟨i, ds, h⟩; exact ⟨i + 1, ds, by simpa using h⟩
    · rintro ⟨i, ds, h⟩
      cases i with
      | zero => simp at h
      | succ i => exact ⟨i, ds, by simpa using h⟩
  | .im _ :: r, p => by
    rw [show owns (.im _ :: r) = owns r from rfl, owns_mem (τ := r)]
    constructor
    · rintro ⟨i, ds, h⟩; exact ⟨i + 1, ds, by simpa using h⟩
    · rintro ⟨i, ds, h⟩
      cases i with
      | zero => simp at h
      | succ i => exact ⟨i, ds, by simpa using h⟩
  | .ow q es :: r, p => by
    rw [show owns (.ow q es :: r) = q :: owns r from rfl, List.mem_cons, owns_mem (τ := r)]
    constructor
    · rintro (rfl | ⟨i, ds, h⟩)
      · exact ⟨0, es, rfl⟩
      · exact ⟨i + 1, ds, by simpa using h⟩
    · rintro ⟨i, ds, h⟩
      cases i with
      | zero =>
        simp at h
        exact .inl h.1.symm
      | succ i => exact .inr ⟨i, ds, by simpa using h⟩
/-- a slot that owns nothing new is put: what is owned shrinks -/
def plain : Sl → Bool
  | .ow _ _ => false
  | _ => true
theorem owns_set_sub {t : Sl} (ht : plain t = true) : ∀ {τ : List Sl} {i : Nat}, (owns (τ.set i t)).Sublist (owns τ)
  | [], _ => by simp [owns]
  | a :: r, 0 => by
    rw [List.set_cons_zero]
    have : owns (t :: r) = owns r := by cases t <;> first | rfl | cases ht
    rw [this]
    cases a with
    | un => exact List.Sublist.refl _
    | im _ => exact List.Sublist.refl _
    | ow _ _ => exact List.sublist_cons_self _ _
  | a :: r, i + 1 => by
    rw [List.set_cons_succ]
    cases a with
    | un => exact owns_set_sub ht
    | im _ => exact owns_set_sub ht
    | ow p ds => exact (owns_set_sub ht).cons₂ p
theorem owns_set_ow {p : Addr} {ds es : List D} : ∀ {τ : List Sl} {i : Nat}, τ[i]? = some (.ow p ds) → owns (τ.set i (.ow p es)) = owns τ
  | [], _, h => by simp at h
  | a :: r, 0, h => by
    simp at h
    subst h
    rfl
  | a :: r, i + 1, h => by
    have ih := owns_set_ow (es := es) (τ := r) (i := i) (by simpa using h)
    rw [List.set_cons_succ]
    cases a with
    | un => exact ih
    | im _ => exact ih
    | ow q _ => exact congrArg (q :: ·) ih
theorem owns_set_new {p : Addr} {ds : List D} : ∀ {τ : List Sl} {i : Nat} {q : Addr}, q ∈ owns (τ.set i (.ow p ds)) → q = p ∨ q ∈ owns τ := fun {τ i q} h => by
  obtain ⟨j, es, e⟩ := owns_mem.mp h
  by_cases hj : i = j
  · subst hj
    by_cases hl : i < τ.length
    · rw [List.getElem?_set_self hl] at e
      cases e
      exact .inl rfl
    · rw [List.getElem?_eq_none (by simpa using hl)] at e
      cases e
  · rw [List.getElem?_set_ne hj] at e
    exact .inr (owns_mem.mpr ⟨j, es, e⟩)
theorem nodup_set_new {p : Addr} {ds : List D} : ∀ {τ : List Sl} {i : Nat}, (owns τ).Nodup → p ∉ owns τ → (owns (τ.set i (.ow p ds))).Nodup
  | [], _, _, _ => by simp [owns]
  | a :: r, 0, h, hp => by
    rw [List.set_cons_zero]
    cases a with
    | un => exact List.nodup_cons.mpr ⟨hp, h⟩
    | im _ => exact List.nodup_cons.mpr ⟨hp, h⟩
    | ow q es =>
      have h' := List.nodup_cons.mp h
      exact List.nodup_cons.mpr ⟨fun z => hp (List.mem_cons_of_mem _ z), h'.2⟩
  | a :: r, i + 1, h, hp => by
    rw [List.set_cons_succ]
    cases a with
    | un => exact nodup_set_new (τ := r) h hp
    | im _ => exact nodup_set_new (τ := r) h hp
    | ow q es =>
      have h' := List.nodup_cons.mp h
      refine List.nodup_cons.mpr ⟨fun z => ?_, nodup_set_new h'.2 fun z => hp (List.mem_cons_of_mem _ z)⟩
      rcases owns_set_new z with e | e
      · exact hp (e ▸ List.mem_cons_self)
      · exact h'.1 e
theorem nodup_at {p : Addr} {ds es : List D} : ∀ {τ : List Sl} {i j : Nat}, (owns τ).Nodup → τ[i]? = some (.ow p ds) → τ[j]? = some (.ow p es) → i = j
  | [], _, _, _, h, _ => by simp at h
  | a :: r, 0, 0, _, _, _ => rfl
  | a :: r, 0, j + 1, hn, h1, h2 => by
    simp at h1
    subst h1
    exact absurd (owns_mem.mpr ⟨j, es, by simpa using h2⟩) (List.nodup_cons.mp hn).1
  | a :: r, i + 1, 0, hn, h1, h2 => by
    simp at h2
    subst h2
    exact absurd (owns_mem.mpr ⟨i, ds, by simpa using h1⟩) (List.nodup_cons.mp hn).1
  | a :: r, i + 1, j + 1, hn, h1, h2 => by
    have hn' : (owns r).Nodup := by
      cases a with
      | un => exact hn
      | im _ => exact hn
      | ow _ _ => exact (List.nodup_cons.mp hn).2
    rw [nodup_at (τ := r) (i := i) (j := j) hn' (by simpa using h1) (by simpa using h2)]

def Ev (K : PySem.W.Frag) (te : TE) (τ : List Sl) (d : D) : Prop := ∀ (O : List Addr) (H : Hp) (σ : L2.St), SokE K O H σ τ → ∀ Q : VK, (∀ v H', Same H H' → Dp K (del O H') v d → Q v H') → te σ H Q
/-- a new list -/
def EvN (K : PySem.W.Frag) (te : TE) (τ : List Sl) (ds : List D) : Prop := ∀ (O : List Addr) (H : Hp) (σ : L2.St), SokE K O H σ τ → ∀ Q : VK, (∀ p vs H', H p = none → Same H H' → H' p = some (.lst vs) → DpAll K (del (p :: O) H') vs ds → Q (.ref p) H') → te σ H Q
def EvT (K : PySem.W.Frag) (tt : TT) (τ : List Sl) (b : Bool) : Prop := ∀ (O : List Addr) (H : Hp) (σ : L2.St), SokE K O H σ τ → ∀ Q : Bool → Hp → Prop, (∀ H', Same H H' → Q b H') → tt σ H Q
def EvA (K : PySem.W.Frag) (ta : TA) (τ : List Sl) (ds : List D) : Prop := ∀ (O : List Addr) (H : Hp) (σ : L2.St), SokE K O H σ τ → ∀ Q : List V → Hp → Prop, (∀ vs H', Same H H' → DpAll K (del O H') vs ds → Q vs H') → ta σ H Q
def EvO (K : PySem.W.Frag) (to : TO) (τ : List Sl) (o : Option Int) : Prop := ∀ (O : List Addr) (H : Hp) (σ : L2.St), SokE K O H σ τ → ∀ Q : Option Int → Hp → Prop, (∀ H', Same H H' → Q o H') → to σ H Q
/-- operations on values -/
def Rv (K : PySem.W.Frag) (r : R2) (a b d : D) : Prop := ∀ (O : List Addr) (H : Hp) (x y : V), (∀ a ∈ O, H a ≠ none) → Dp K (del O H) x a → Dp K (del O H) y b → ∀ Q : VK, (∀ v H', Same H H' → Dp K (del O H') v d → Q v H') → r x y H Q
def RvN (K : PySem.W.Frag) (r : R2) (a b : D) (ds : List D) : Prop := ∀ (O : List Addr) (H : Hp) (x y : V), (∀ a ∈ O, H a ≠ none) → Dp K (del O H) x a → Dp K (del O H) y b → ∀ Q : VK, (∀ p vs H', H p = none → Same H H' → H' p = some (.lst vs) → DpAll K (del (p :: O) H') vs ds → Q (.ref p) H') → r x y H Q
def Rc (K : PySem.W.Frag) (r : List V → Hp → VK → Prop) (as : List D) (d : D) : Prop := ∀ (O : List Addr) (H : Hp) (xs : List V), (∀ a ∈ O, H a ≠ none) → DpAll K (del O H) xs as → ∀ Q : VK, (∀ v H', Same H H' → Dp K (del O H') v d → Q v H') → r xs H Q
def RcN (K : PySem.W.Frag) (r : List V → Hp → VK → Prop) (as ds : List D) : Prop := ∀ (O : List Addr) (H : Hp) (xs : List V), (∀ a ∈ O, H a ≠ none) → DpAll K (del O H) xs as → ∀ Q : VK, (∀ p vs H', H p = none → Same H H' → H' p = some (.lst vs) → DpAll K (del (p :: O) H') vs ds → Q (.ref p) H') → r xs H Q

theorem fresh_out {O : List Addr} {H : Hp} (h : ∀ a ∈ O, H a ≠ none) {p : Addr} (hp : H p = none) : p ∉ O := fun z => h p z hp
/-- a new list is data -/
theorem dp_of_new {O : List Addr} {H H' : Hp} {p : Addr} {vs : List V} {ds : List D} (hd : ∀ a ∈ O, H a ≠ none) (hp : H p = none) (h : H' p = some (.lst vs)) (r : DpAll K (del (p :: O) H') vs ds) : Dp K (del O H') (.ref p) (.list ds) :=
  .lst (.inl (.inl (by rw [del_out (fresh_out hd hp)]; exact h))) (dps_same (del_sub fun a ha => List.mem_cons_of_mem _ ha) r)
theorem EvN.ev {te : TE} {τ : List Sl} {ds : List D} (h : EvN K te τ ds) : Ev K te τ (.list ds) := fun O H σ s Q q =>
  h O H σ s Q fun p vs H' hp e h1 r => q _ H' e (dp_of_new s.dom hp h1 r)
theorem dp_newtup {O : List Addr} {H : Hp} {p : Addr} {vs : List V} {ds : List D} (hd : ∀ a ∈ O, H a ≠ none) (hp : H p = none) (r : DpAll K (del O H) vs ds) : Dp K (del O (upd H p (.tup vs))) (.ref p) (.tuple ds) :=
  .tup (.inl (.inl (by rw [del_out (fresh_out hd hp)]; exact upd_same))) (dps_same (del_grow (same_upd hp)) r)
theorem dps_newlst {O : List Addr} {H : Hp} {p : Addr} {vs : List V} {ds : List D} (hp : H p = none) (r : DpAll K (del O H) vs ds) : DpAll K (del (p :: O) (upd H p (.lst vs))) vs ds := by
  refine dps_same (fun a o e => ?_) r
  by_cases ha : a ∈ O
  · rw [del_in ha] at e; cases e
  · rw [del_out ha] at e
    have hne : a ≠ p := ne_of_none e hp
    rw [del_out (by simp [ha, hne]), upd_ne hne]
    exact e
section
variable {τ : List Sl} {ta tb tc te : TE} {a b c d : D} {r r' : R2} {t u : TT}
theorem ev_var {i : Nat} (h : τ[i]? = some (.im d)) : Ev K (tVar i) τ d := fun O H σ s Q q => by
  obtain ⟨sv, h1, v, h2, h3⟩ := slsok_get s.sl h
  exact ⟨v, by rw [h1, h2], q v H (Same.refl H) h3⟩
theorem ev_int {i : Int} : Ev K (tC (.int i)) τ (.int i) := fun O H σ s Q q => q _ H (Same.refl H) (.int i)
theorem ev_bl {i : Bool} : Ev K (tC (.bl i)) τ (.bool i) := fun O H σ s Q q => q _ H (Same.refl H) (.bl i)
theorem ev_str {i : Str} : Ev K (tC (.str i)) τ (.str i) := fun O H σ s Q q => q _ H (Same.refl H) (.str i)
theorem ev_non : Ev K (tC .non) τ .none := fun O H σ s Q q => q _ H (Same.refl H) .non
theorem ev_op (ha : Ev K ta τ a) (hb : Ev K tb τ b) (hr : Rv K r a b d) : Ev K (tOp r ta tb) τ d := fun O H σ s Q q =>
  ha O H σ s _ fun v H1 e1 h1 => hb O H1 σ (s.grow e1) _ fun w H2 e2 h2 => hr O H2 v w ((s.grow e1).grow e2).dom (dp_same (del_grow e2) h1) h2 Q fun z H3 e3 h3 => q z H3 ((e1.trans e2).trans e3) h3
theorem en_op {ds : List D} (ha : Ev K ta τ a) (hb : Ev K tb τ b) (hr : RvN K r a b ds) : EvN K (tOp r ta tb) τ ds := fun O H σ s Q q =>
  ha O H σ s _ fun v H1 e1 h1 => hb O H1 σ (s.grow e1) _ fun w H2 e2 h2 => hr O H2 v w ((s.grow e1).grow e2).dom (dp_same (del_grow e2) h1) h2 Q fun p vs H3 hp e3 h3 h4 => q p vs H3 ((e1.trans e2).free hp) ((e1.trans e2).trans e3) h3 h4
theorem ev_un {r : V → Hp → VK → Prop} (ha : Ev K ta τ a) (hr : ∀ (H : Hp) (x : V) (O : List Addr), Dp K (del O H) x a → ∀ Q : VK, (∀ v, Dp K (del O H) v d → Q v H) → r x H Q) : Ev K (tUn r ta) τ d := fun O H σ s Q q =>
  ha O H σ s _ fun v H1 e1 h1 => hr H1 v O h1 Q fun w hw => q w H1 e1 hw
theorem ea_nil : EvA K tNil τ [] := fun O H σ s Q q => q [] H (Same.refl H) .nil
theorem ea_cons {tr : TA} {ds : List D} (h : Ev K ta τ a) (hr : EvA K tr τ ds) : EvA K (tCons ta tr) τ (a :: ds) := fun O H σ s Q q =>
  h O H σ s _ fun v H1 e1 h1 => hr O H1 σ (s.grow e1) _ fun vs H2 e2 h2 => q _ H2 (e1.trans e2) (.cons (dp_same (del_grow e2) h1) h2)
theorem ev_tup {tr : TA} {ds : List D} (h : EvA K tr τ ds) (hl : ds.length ≤ 100000) : Ev K (tTup tr) τ (.tuple ds) := fun O H σ s Q q =>
  h O H σ s _ fun vs H1 e1 h1 => ⟨by rw [dps_len h1]; exact Nat.le_trans hl (by decide), fun p hp => q _ _ (e1.trans (same_upd hp)) (dp_newtup (s.grow e1).dom hp h1)⟩
theorem en_lst {tr : TA} {ds : List D} (h : EvA K tr τ ds) (hl : ds.length ≤ 100000) : EvN K (tLst tr) τ ds := fun O H σ s Q q =>
  h O H σ s _ fun vs H1 e1 h1 => ⟨by rw [dps_len h1]; exact Nat.le_trans hl (by decide), fun p hp => q p vs _ (e1.free hp) (e1.trans (same_upd hp)) upd_same (dps_newlst hp h1)⟩
theorem ev_cb {r : List V → Hp → VK → Prop} {tr : TA} {ds : List D} (h : EvA K tr τ ds) (hr : Rc K r ds d) : Ev K (tCB r tr) τ d := fun O H σ s Q q =>
  h O H σ s _ fun vs H1 e1 h1 => hr O H1 vs (s.grow e1).dom h1 Q fun z H3 e3 h3 => q z H3 (e1.trans e3) h3
theorem en_cb {r : List V → Hp → VK → Prop} {tr : TA} {ds es : List D} (h : EvA K tr τ ds) (hr : RcN K r ds es) : EvN K (tCB r tr) τ es := fun O H σ s Q q =>
  h O H σ s _ fun vs H1 e1 h1 => hr O H1 vs (s.grow e1).dom h1 Q fun p vs H3 hp e3 h3 h4 => q p vs H3 (e1.free hp) (e1.trans e3) h3 h4
theorem ev_to {e : D} (h : Ev K ta τ a) (q : a = e) : Ev K ta τ e := q ▸ h
theorem et_test {b : Bool} (h : Ev K ta τ (.bool b)) : EvT K (tTest ta) τ b := fun O H σ s Q q =>
  h O H σ s _ fun v H1 e1 h1 => ⟨b, dp_bl h1, q H1 e1⟩
theorem et_B {b : Bool} (h : Ev K ta τ (.bool b)) : EvT K (tB ta) τ b := fun O H σ s Q q =>
  h O H σ s _ fun v H1 e1 h1 => ⟨b, dp_bl h1, q H1 e1⟩
theorem et_and {x y : Bool} (h1 : EvT K t τ x) (h2 : x = true → EvT K u τ y) : EvT K (tAnd t u) τ (x && y) := fun O H σ s Q q => h1 O H σ s _ fun H1 e1 => by
  cases x with
  | true => exact h2 rfl O H1 σ (s.grow e1) Q fun H2 e2 => q H2 (e1.trans e2)
  | false => exact q H1 e1
theorem et_or {x y : Bool} (h1 : EvT K t τ x) (h2 : x = false → EvT K u τ y) : EvT K (tOr t u) τ (x || y) := fun O H σ s Q q => h1 O H σ s _ fun H1 e1 => by
  cases x with
  | true => exact q H1 e1
  | false => exact h2 rfl O H1 σ (s.grow e1) Q fun H2 e2 => q H2 (e1.trans e2)
theorem et_not {x : Bool} (h1 : EvT K t τ x) : EvT K (tNot t) τ (!x) := fun O H σ s Q q => h1 O H σ s _ fun H1 e1 => q H1 e1
theorem et_to {x y : Bool} (h : EvT K t τ x) (q : x = y) : EvT K t τ y := q ▸ h
theorem ev_andV {x y : Bool} (h1 : Ev K ta τ (.bool x)) (h2 : x = true → Ev K tb τ (.bool y)) : Ev K (tAndV ta tb) τ (.bool (x && y)) := fun O H σ s Q q => h1 O H σ s _ fun v H1 e1 r1 => ⟨x, dp_bl r1, by
  cases x with
  | true => exact h2 rfl O H1 σ (s.grow e1) Q fun v H2 e2 => q v H2 (e1.trans e2)
  | false => exact q _ H1 e1 (.bl false)⟩
theorem ev_orV {x y : Bool} (h1 : Ev K ta τ (.bool x)) (h2 : x = false → Ev K tb τ (.bool y)) : Ev K (tOrV ta tb) τ (.bool (x || y)) := fun O H σ s Q q => h1 O H σ s _ fun v H1 e1 r1 => ⟨x, dp_bl r1, by
  cases x with
  | true => exact q _ H1 e1 (.bl true)
  | false => exact h2 rfl O H1 σ (s.grow e1) Q fun v H2 e2 => q v H2 (e1.trans e2)⟩
theorem ev_notV {x : Bool} (h1 : Ev K ta τ (.bool x)) : Ev K (tNotV ta) τ (.bool (!x)) := fun O H σ s Q q => h1 O H σ s _ fun v H1 e1 r1 => ⟨x, dp_bl r1, q _ H1 e1 (.bl _)⟩
theorem ev_if {x : Bool} (h : EvT K t τ x) (h1 : x = true → Ev K ta τ d) (h2 : x = false → Ev K tb τ d) : Ev K (tIf t ta tb) τ d := fun O H σ s Q q => h O H σ s _ fun H1 e1 => by
  cases x with
  | true => exact h1 rfl O H1 σ (s.grow e1) Q fun v H2 e2 => q v H2 (e1.trans e2)
  | false => exact h2 rfl O H1 σ (s.grow e1) Q fun v H2 e2 => q v H2 (e1.trans e2)
theorem ev_chain {x y : Bool} (ha : Ev K ta τ a) (hb : Ev K tb τ b) (hr : Rv K r a b (.bool x)) (hc : x = true → Ev K tc τ c) (hr' : x = true → Rv K r' b c (.bool y)) : Ev K (tChain r r' ta tb tc) τ (.bool (x && y)) := fun O H σ s Q q =>
  ha O H σ s _ fun v H1 e1 h1 => hb O H1 σ (s.grow e1) _ fun w H2 e2 h2 => hr O H2 v w ((s.grow e1).grow e2).dom (dp_same (del_grow e2) h1) h2 _ fun z H3 e3 h3 => ⟨x, dp_bl h3, by
    cases x with
    | true =>
      refine iteT ?_
      exact hc rfl O H3 σ (((s.grow e1).grow e2).grow e3) _ fun w' H4 e4 h4 => hr' rfl O H4 w w' ((((s.grow e1).grow e2).grow e3).grow e4).dom (dp_same (del_grow (e3.trans e4)) h2) h4 Q fun z H5 e5 h5 => q z H5 ((((e1.trans e2).trans e3).trans e4).trans e5) h5
    | false =>
      refine iteF ?_
      exact q _ H3 ((e1.trans e2).trans e3) (.bl false)⟩
theorem eo_none : EvO K tNoPart τ none := fun O H σ s Q q => q H (Same.refl H)
theorem eo_some {i : Int} (h : Ev K te τ (.int i)) : EvO K (tPart te) τ (some i) := fun O H σ s Q q => h O H σ s _ fun v H1 e1 h1 => ⟨i, dp_int h1, q H1 e1⟩
end
end GW

namespace GW
open PySem PySem.Spec PyProof.Rows L2
variable {K : PySem.W.Frag}

theorem set_self {α : Type} : ∀ {l : List α} {i : Nat} {x : α}, l[i]? = some x → l.set i x = l
  | [], _, _, h => by simp at h
  | a :: l, 0, x, h => by
    have e : a = x := Option.some.inj h
    rw [List.set_cons_zero, e]
  | a :: l, i + 1, x, h => by
    rw [List.set_cons_succ, set_self (l := l) (i := i) (by simpa using h)]

structure Sok (K : PySem.W.Frag) (O0 : List Addr) (F H : Hp) (σ : L2.St) (τ : List Sl) : Prop where
  e : SokE K (owns τ ++ O0) H σ τ
  base : Same F (del (owns τ) H)
  amb : ∀ a ∈ O0, F a ≠ none
  nd : (owns τ).Nodup
def Run (K : PySem.W.Frag) (O0 : List Addr) (F : Hp) (t : TS) (Dn : Ends) (τ : List Sl) : Prop := ∀ (H : Hp) (σ : L2.St), Sok K O0 F H σ τ → t Dn σ H

theorem del_app {A B : List Addr} {H : Hp} : del (A ++ B) H = del B (del A H) := funext fun a => by
  by_cases hb : a ∈ B
  · rw [del_in hb, del_in (List.mem_append_right _ hb)]
  · rw [del_out hb]
    by_cases ha : a ∈ A
    · rw [del_in ha, del_in (List.mem_append_left _ ha)]
    · rw [del_out ha, del_out (by simp [ha, hb])]
section
variable {O0 : List Addr} {F G H H' : Hp} {σ : L2.St} {τ : List Sl}
theorem Sok.same (s : Sok K O0 F H σ τ) : Same F H := s.base.trans del_same
theorem Sok.grow (s : Sok K O0 F H σ τ) (e : Same H H') : Sok K O0 F H' σ τ := ⟨s.e.grow e, s.base.trans (del_grow e), s.amb, s.nd⟩
theorem Sok.down (s : Sok K O0 G H σ τ) (e : Same F G) (a : ∀ a ∈ O0, F a ≠ none) : Sok K O0 F H σ τ := ⟨s.e, e.trans s.base, a, s.nd⟩
theorem amb_up (a : ∀ a ∈ O0, F a ≠ none) (e : Same F G) : ∀ a ∈ O0, G a ≠ none := fun b hb z => by
  cases q : F b with
  | none => exact a b hb q
  | some o => rw [e b o q] at z; cases z
/-- the heap as it stands becomes what is to be kept -/
theorem Sok.rebase (s : Sok K O0 F H σ τ) : Sok K O0 (del (owns τ) H) H σ τ := ⟨s.e, Same.refl _, amb_up s.amb s.base, s.nd⟩
theorem Sok.not_own (s : Sok K O0 F H σ τ) {p : Addr} (h : p ∈ owns τ) : F p = none := by
  cases q : F p with
  | none => rfl
  | some o =>
    have z := s.base p o q
    rw [del_in h] at z
    cases z
theorem sok_shrink {t : Sl} {s : Option V} {i : Nat} (S : Sok K O0 F H σ τ) (ht : plain t = true) (r : SlOk K (owns τ ++ O0) H s t) : Sok K O0 F H (σ.set i s) (τ.set i t) := by
  have sub : ∀ a, a ∈ owns (τ.set i t) → a ∈ owns τ := fun a ha => (owns_set_sub ht).subset ha
  have sub2 : ∀ a, a ∈ owns (τ.set i t) ++ O0 → a ∈ owns τ ++ O0 := fun a ha => by
    rcases List.mem_append.mp ha with h | h
    · exact List.mem_append_left _ (sub a h)
    · exact List.mem_append_right _ h
  exact ⟨⟨fun a ha => S.e.dom a (sub2 a ha), fun a ha => List.mem_append_left _ ha, slsok_sub sub2 (slsok_set r i S.e.sl)⟩, S.base.trans (del_sub sub), S.amb, (owns_set_sub ht).nodup S.nd⟩
theorem sok_put {v : V} {d : D} {i : Nat} (S : Sok K O0 F H σ τ) (r : Dp K (del (owns τ ++ O0) H) v d) : Sok K O0 F H (σ.set i (some v)) (τ.set i (.im d)) :=
  sok_shrink S rfl ⟨v, rfl, r⟩
/-- slots forgotten; the frame's own slots stay as they are -/
def forget (js : List Nat) (τ : List Sl) : List Sl := js.foldl (fun τ j => τ.set j .un) τ
theorem slsok_un {O : List Addr} : ∀ {σ : L2.St} {τ : List Sl} (i : Nat), SlsOk K O H σ τ → SlsOk K O H σ (τ.set i .un)
  | _, _, _, .nil => .nil
  | _, _, 0, .cons _ q => .cons trivial q
  | _, _, i + 1, .cons q p => .cons q (slsok_un i p)
theorem sok_un {i : Nat} (S : Sok K O0 F H σ τ) : Sok K O0 F H σ (τ.set i .un) := by
  have sub : ∀ a, a ∈ owns (τ.set i .un) → a ∈ owns τ := fun a ha => (owns_set_sub rfl).subset ha
  have sub2 : ∀ a, a ∈ owns (τ.set i .un) ++ O0 → a ∈ owns τ ++ O0 := fun a ha => by
    rcases List.mem_append.mp ha with h | h
    · exact List.mem_append_left _ (sub a h)
    · exact List.mem_append_right _ h
  exact ⟨⟨fun a ha => S.e.dom a (sub2 a ha), fun a ha => List.mem_append_left _ ha, slsok_sub sub2 (slsok_un i S.e.sl)⟩, S.base.trans (del_sub sub), S.amb, (owns_set_sub rfl).nodup S.nd⟩
theorem sok_forget : ∀ (js : List Nat) {τ : List Sl}, Sok K O0 F H σ τ → Sok K O0 F H σ (forget js τ)
  | [], _, S => S
  | j :: js, _, S => sok_forget js (sok_un (i := j) S)
theorem slok_up {O : List Addr} {p : Addr} (hp : H p = none) (e : Same H H') {s : Option V} : ∀ {t : Sl}, SlOk K O H s t → SlOk K (p :: O) H' s t := by
  have g : Same (del O H) (del (p :: O) H') := fun a o q => by
    by_cases ha : a ∈ O
    · rw [del_in ha] at q; cases q
    · rw [del_out ha] at q
      rw [del_out (by simp [ha, ne_of_none q hp])]
      exact e a o q
  intro t h
  cases t with
  | un => trivial
  | im d => obtain ⟨v, h1, h2⟩ := h; exact ⟨v, h1, dp_same g h2⟩
  | ow q ds => obtain ⟨h1, vs, h2, h3⟩ := h; exact ⟨h1, vs, e _ _ h2, dps_same g h3⟩
theorem slsok_up {O : List Addr} {p : Addr} (hp : H p = none) (e : Same H H') : ∀ {σ : L2.St} {τ : List Sl}, SlsOk K O H σ τ → SlsOk K (p :: O) H' σ τ
  | _, _, .nil => .nil
  | _, _, .cons r t => .cons (slok_up hp e r) (slsok_up hp e t)
/-- a new list comes into a slot -/
theorem sok_new {p : Addr} {vs : List V} {ds : List D} {i : Nat} (S : Sok K O0 F H σ τ) (hp : H p = none) (e : Same H H') (h : H' p = some (.lst vs)) (r : DpAll K (del (p :: (owns τ ++ O0)) H') vs ds) :
    Sok K O0 F H' (σ.set i (some (.ref p))) (τ.set i (.ow p ds)) := by
  have hpo : p ∉ owns τ ++ O0 := fresh_out S.e.dom hp
  have sub : ∀ a, a ∈ owns (τ.set i (.ow p ds)) → a ∈ p :: owns τ := fun a ha => by
    rcases owns_set_new ha with z | z
    · rw [z]; exact List.mem_cons_self
    · exact List.mem_cons_of_mem _ z
  have sub2 : ∀ a, a ∈ owns (τ.set i (.ow p ds)) ++ O0 → a ∈ p :: (owns τ ++ O0) := fun a ha => by
    rcases List.mem_append.mp ha with z | z
    · rcases List.mem_cons.mp (sub a z) with z | z
      · rw [z]; exact List.mem_cons_self
      · exact List.mem_cons_of_mem _ (List.mem_append_left _ z)
    · exact List.mem_cons_of_mem _ (List.mem_append_right _ z)
  have dom : ∀ a ∈ p :: (owns τ ++ O0), H' a ≠ none := fun a ha => by
    rcases List.mem_cons.mp ha with z | z
    · rw [z, h]; exact fun z => nomatch z
    · exact (S.e.grow e).dom a z
  refine ⟨⟨fun a ha => dom a (sub2 a ha), fun a ha => List.mem_append_left _ ha, slsok_sub sub2 (slsok_set (show SlOk K _ H' (some (.ref p)) (.ow p ds) from ⟨rfl, vs, h, r⟩) i (slsok_up hp e S.e.sl))⟩, fun a o q => ?_, S.amb, nodup_set_new S.nd fun z => hpo (List.mem_append_left _ z)⟩
  have q1 := S.base a o q
  have hne : a ∉ owns τ := fun z => by rw [del_in z] at q1; cases q1
  rw [del_out hne] at q1
  have hap : a ≠ p := ne_of_none q1 hp
  rw [del_out (fun z => by
    rcases List.mem_cons.mp (sub a z) with z | z
    · exact hap z
    · exact hne z)]
  exact e a o q1
theorem slsok_of {O : List Addr} : ∀ {σ : L2.St} {τ : List Sl}, σ.length = τ.length → (∀ (i : Nat) (s : Option V) (t : Sl), σ[i]? = some s → τ[i]? = some t → SlOk K O H s t) → SlsOk K O H σ τ
  | [], [], _, _ => .nil
  | [], _ :: _, h, _ => by simp at h
  | _ :: _, [], h, _ => by simp at h
  | s :: σ, t :: τ, h, f => .cons (f 0 s t rfl rfl) (slsok_of (by simpa using h) fun i s t h1 h2 => f (i + 1) s t (by simpa using h1) (by simpa using h2))
theorem slsok_len {O : List Addr} : ∀ {σ : L2.St} {τ : List Sl}, SlsOk K O H σ τ → σ.length = τ.length
  | _, _, .nil => rfl
  | _, _, .cons _ t => by rw [List.length_cons, List.length_cons, slsok_len t]
theorem slsok_both {O : List Addr} : ∀ {σ : L2.St} {τ : List Sl} {i : Nat} {s : Option V} {t : Sl}, SlsOk K O H σ τ → σ[i]? = some s → τ[i]? = some t → SlOk K O H s t := fun {σ τ i s t} h h1 h2 => by
  obtain ⟨s', e, r⟩ := slsok_get h h2
  rw [h1] at e
  cases e
  exact r
/-- an owned list is changed -/
theorem sok_upd {p : Addr} {vs : List V} {ds es : List D} {j : Nat} (S : Sok K O0 F H σ τ) (hj : τ[j]? = some (.ow p ds)) (r : DpAll K (del (owns τ ++ O0) H) vs es) :
    Sok K O0 F (upd H p (.lst vs)) σ (τ.set j (.ow p es)) := by
  have hpo : p ∈ owns τ := owns_mem.mpr ⟨j, ds, hj⟩
  have hpo2 : p ∈ owns τ ++ O0 := List.mem_append_left _ hpo
  have eo := owns_set_ow (es := es) hj
  refine ⟨⟨fun a ha => ?_, fun a ha => List.mem_append_left _ ha, slsok_of (by rw [List.length_set]; exact slsok_len S.e.sl) fun i s t h1 h2 => ?_⟩, ?_, S.amb, by rw [eo]; exact S.nd⟩
  · rw [eo] at ha
    by_cases hap : a = p
    · rw [hap, upd_same]; exact fun z => nomatch z
    · rw [upd_ne hap]; exact S.e.dom a ha
  · rw [eo]
    by_cases hij : j = i
    · subst hij
      have hl : j < τ.length := (List.getElem?_eq_some_iff.mp hj).1
      rw [List.getElem?_set_self hl] at h2
      cases h2
      obtain ⟨h3, _⟩ := slsok_both S.e.sl h1 hj
      refine ⟨h3, vs, upd_same, ?_⟩
      rw [del_upd_in hpo2]
      exact r
    · rw [List.getElem?_set_ne hij] at h2
      have q := slsok_both S.e.sl h1 h2
      cases t with
      | un => trivial
      | im d =>
        obtain ⟨v, q1, q2⟩ := q
        refine ⟨v, q1, ?_⟩
        rw [del_upd_in hpo2]
        exact q2
      | ow a fs =>
        obtain ⟨q1, ws, q2, q3⟩ := q
        refine ⟨q1, ws, ?_, ?_⟩
        · rw [upd_ne (fun z => hij (nodup_at S.nd hj (z ▸ h2)))]
          exact q2
        · rw [del_upd_in hpo2]
          exact q3
  · rw [eo, del_upd_in hpo]
    exact S.base
theorem own_gone {p : Addr} {ds : List D} {j : Nat} {t : Sl} (hn : (owns τ).Nodup) (hj : τ[j]? = some (.ow p ds)) (ht : plain t = true) : p ∉ owns (τ.set j t) := fun z => by
  obtain ⟨i, es, e⟩ := owns_mem.mp z
  by_cases hij : j = i
  · subst hij
    rw [List.getElem?_set_self (List.getElem?_eq_some_iff.mp hj).1] at e
    cases e
    cases ht
  · rw [List.getElem?_set_ne hij] at e
    exact hij (nodup_at hn hj e)
/-- an owned list becomes data -/
theorem sok_freeze {p : Addr} {ds : List D} {j : Nat} (S : Sok K O0 F H σ τ) (hj : τ[j]? = some (.ow p ds)) : Sok K O0 F H σ (τ.set j (.im (.list ds))) := by
  obtain ⟨s, h1, h2, vs, h3, h4⟩ := slsok_get S.e.sl hj
  have sub : ∀ a, a ∈ owns (τ.set j (.im (.list ds))) → a ∈ owns τ := fun a ha => (owns_set_sub rfl).subset ha
  have sub2 : ∀ a, a ∈ owns (τ.set j (.im (.list ds))) ++ O0 → a ∈ owns τ ++ O0 := fun a ha => by
    rcases List.mem_append.mp ha with h | h
    · exact List.mem_append_left _ (sub a h)
    · exact List.mem_append_right _ h
  have hpn : p ∉ owns (τ.set j (.im (.list ds))) ++ O0 := fun z => by
    rcases List.mem_append.mp z with z | z
    · exact own_gone S.nd hj rfl z
    · exact S.amb p z (S.not_own (owns_mem.mpr ⟨j, ds, hj⟩))
  have e : σ = σ.set j s := (set_self h1).symm
  have q : SlOk K (owns (τ.set j (.im (.list ds))) ++ O0) H s (.im (.list ds)) := ⟨.ref p, h2, .lst (.inl (.inl (by rw [del_out hpn]; exact h3))) (dps_same (del_sub sub2) h4)⟩
  refine ⟨⟨fun a ha => S.e.dom a (sub2 a ha), fun a ha => List.mem_append_left _ ha, ?_⟩, S.base.trans (del_sub sub), S.amb, (owns_set_sub rfl).nodup S.nd⟩
  rw [e]
  exact slsok_set q j (slsok_sub sub2 S.e.sl)
end

def Ret (K : PySem.W.Frag) (O0 : List Addr) (F : Hp) (rt : VK) (d : D) : Prop := ∀ v H', Same F H' → Dp K (del O0 H') v d → rt v H'
def RetN (K : PySem.W.Frag) (O0 : List Addr) (F : Hp) (rt : VK) (ds : List D) : Prop := ∀ p vs H', F p = none → Same F H' → H' p = some (.lst vs) → DpAll K (del (p :: O0) H') vs ds → rt (.ref p) H'
section
variable {O0 : List Addr} {F G H H' : Hp} {τ : List Sl} {Dn : Ends} {te : TE} {t u tz tu tw : TS} {tt : TT} {d : D} {ds : List D}
theorem Ret.up {rt : VK} (h : Ret K O0 F rt d) (e : Same F G) : Ret K O0 G rt d := fun v H' e' r => h v H' (e.trans e') r
theorem RetN.up {rt : VK} (h : RetN K O0 F rt ds) (e : Same F G) : RetN K O0 G rt ds := fun p vs H' hp e' h1 r => h p vs H' (e.free hp) (e.trans e') h1 r

theorem run_freeze {p : Addr} {j : Nat} {τ' : List Sl} (hj : τ[j]? = some (.ow p ds)) (k : Run K O0 F t Dn τ') (hτ : τ.set j (.im (.list ds)) = τ' := by first | (dsimp only [List.set]; done) | (dsimp only [List.set]; rfl) | rfl) : Run K O0 F t Dn τ := fun H σ S => by
  subst hτ
  exact k H σ (sok_freeze S hj)
theorem run_forget {js : List Nat} {τ' : List Sl} (k : Run K O0 F t Dn τ') (hτ : forget js τ = τ' := by rfl) : Run K O0 F t Dn τ := fun H σ S => by
  subst hτ
  exact k H σ (sok_forget js S)
theorem run_asg {i : Nat} {τ' : List Sl} (h : Ev K te τ d) (k : Run K O0 F tz Dn τ') (hτ : τ.set i (.im d) = τ' := by first | (dsimp only [List.set]; done) | (dsimp only [List.set]; rfl) | rfl) : Run K O0 F (tSeq (tAsg te (gName i)) tz) Dn τ := fun H σ S => by
  subst hτ
  exact h _ H σ S.e _ fun v H1 e1 r => k H1 _ (sok_put (S.grow e1) r)
theorem run_asgN {i : Nat} (h : EvN K te τ ds) (k : ∀ p, Run K O0 F tz Dn (τ.set i (.ow p ds))) : Run K O0 F (tSeq (tAsg te (gName i)) tz) Dn τ := fun H σ S =>
  h _ H σ S.e _ fun p vs H1 hp e1 h1 r => k p H1 _ (sok_new S hp e1 h1 r)
theorem run_ret (h : Ev K te τ d) (k : Ret K O0 F Dn.rt d) : Run K O0 F (tSeq (tRet te) tz) Dn τ := fun H σ S =>
  h _ H σ S.e _ fun v H1 e1 r => k v H1 (S.grow e1).same (dp_same (del_sub fun a ha => List.mem_append_right _ ha) r)
theorem run_retN (h : EvN K te τ ds) (k : RetN K O0 F Dn.rt ds) : Run K O0 F (tSeq (tRet te) tz) Dn τ := fun H σ S =>
  h _ H σ S.e _ fun p vs H1 hp e1 h1 r => k p vs H1 (S.same.free hp) (S.grow e1).same h1 (dps_same (del_sub fun a ha => by
    rcases List.mem_cons.mp ha with z | z
    · rw [z]; exact List.mem_cons_self
    · exact List.mem_cons_of_mem _ (List.mem_append_right _ z)) r)
/-- return of an owned list -/
theorem run_retO {p : Addr} {j : Nat} (hj : τ[j]? = some (.ow p ds)) (k : RetN K O0 F Dn.rt ds) : Run K O0 F (tSeq (tRet (tVar j)) tz) Dn τ := fun H σ S => by
  obtain ⟨s, h1, h2, vs, h3, h4⟩ := slsok_get S.e.sl hj
  have hp : p ∈ owns τ := owns_mem.mpr ⟨j, ds, hj⟩
  refine ⟨.ref p, by rw [h1, h2], k p vs H (S.not_own hp) S.same h3 (dps_same (del_sub fun a ha => ?_) h4)⟩
  rcases List.mem_cons.mp ha with z | z
  · rw [z]; exact List.mem_append_left _ hp
  · exact List.mem_append_right _ z
theorem run_retNone (k : Ret K O0 F Dn.rt .none) : Run K O0 F (tSeq tRetN tz) Dn τ := fun H σ S => k .non H S.same .non
theorem run_drop (h : Ev K te τ d) (k : Run K O0 F tz Dn τ) : Run K O0 F (tSeq (tDrop te) tz) Dn τ := fun H σ S =>
  h _ H σ S.e _ fun v H1 e1 r => k H1 _ (S.grow e1)
/-- y = x, x an owned list: it goes over -/
theorem run_move {p : Addr} {i j : Nat} {τ' : List Sl} (hj : τ[j]? = some (.ow p ds)) (k : Run K O0 F tz Dn τ') (hτ : (τ.set j .un).set i (.ow p ds) = τ' := by first | (dsimp only [List.set]; done) | (dsimp only [List.set]; rfl) | rfl) : Run K O0 F (tSeq (tAsg (tVar j) (gName i)) tz) Dn τ := fun H σ S => by
  subst hτ
  obtain ⟨s, h1, h2, vs, h3, h4⟩ := slsok_get S.e.sl hj
  refine ⟨.ref p, by rw [h1, h2], k H _ ?_⟩
  have hp : p ∈ owns τ := owns_mem.mpr ⟨j, ds, hj⟩
  have S1 := sok_un (i := j) S
  have sub : ∀ a, a ∈ owns ((τ.set j .un).set i (.ow p ds)) → a ∈ owns τ := fun a ha => by
    rcases owns_set_new ha with z | z
    · rw [z]; exact hp
    · exact (owns_set_sub rfl).subset z
  have sub2 : ∀ a, a ∈ owns ((τ.set j .un).set i (.ow p ds)) ++ O0 → a ∈ owns τ ++ O0 := fun a ha => by
    rcases List.mem_append.mp ha with z | z
    · exact List.mem_append_left _ (sub a z)
    · exact List.mem_append_right _ z
  exact ⟨⟨fun a ha => S.e.dom a (sub2 a ha), fun a ha => List.mem_append_left _ ha, slsok_sub sub2 (slsok_set (show SlOk K _ H (some (.ref p)) (.ow p ds) from ⟨rfl, vs, h3, h4⟩) i (slsok_un j S.e.sl))⟩, S.base.trans (del_sub sub), S.amb, nodup_set_new S1.nd (own_gone S.nd hj rfl)⟩
/-- xs.append(e) -/
theorem run_app {p : Addr} {j : Nat} {τ' : List Sl} (hj : τ[j]? = some (.ow p ds)) (h : Ev K te τ d) (hz : ds.length < 100000) (k : Run K O0 F tz Dn τ') (hτ : τ.set j (.ow p (ds ++ [d])) = τ' := by first | (dsimp only [List.set]; done) | (dsimp only [List.set]; rfl) | rfl) :
    Run K O0 F (tSeq (tDrop (tBM K "list" rAppend (tVar j) (tCons te tNil))) tz) Dn τ := fun H σ S => by
  subst hτ
  obtain ⟨s, h1, h2, vs, h3, h4⟩ := slsok_get S.e.sl hj
  refine ⟨.ref p, by rw [h1, h2], .inl ⟨rfl, vs, .inl (.inl h3)⟩, h _ H σ S.e _ fun v H1 e1 r => ⟨p, vs, v, rfl, rfl, e1 _ _ h3, ?_, k _ σ (sok_upd (S.grow e1) hj (dps_app (dps_same (del_grow e1) h4) (.cons r .nil)))⟩⟩
  rw [dps_len h4]
  exact Nat.lt_of_lt_of_le hz (by decide)
/-- xs[k] = e -/
theorem run_setI {p : Addr} {j k : Nat} {ti : TE} {τ' : List Sl} (hj : τ[j]? = some (.ow p ds)) (h : Ev K te τ d) (hi : Ev K ti (τ.set j .un) (.int (k : Int))) (hk : k < ds.length) (kk : Run K O0 F tz Dn τ') (hτ : τ.set j (.ow p (ds.set k d)) = τ' := by first | (dsimp only [List.set]; done) | (dsimp only [List.set]; rfl) | rfl) :
    Run K O0 F (tSeq (tAsg te (gSub (tVar j) ti rSetL)) tz) Dn τ := fun H σ S => by
  subst hτ
  refine h _ H σ S.e _ fun v H1 e1 r => ?_
  have S1 := S.grow e1
  obtain ⟨s, h1, h2, vs, h3, h4⟩ := slsok_get S1.e.sl hj
  have SE : SokE K (owns τ ++ O0) H1 σ (τ.set j .un) := ⟨S1.e.dom, fun a ha => List.mem_append_left _ ((owns_set_sub rfl).subset ha), slsok_un j S1.e.sl⟩
  refine ⟨.ref p, by rw [h1, h2], hi _ H1 σ SE _ fun w H2 e2 r2 => ?_⟩
  have S2 := S1.grow e2
  refine ⟨p, vs, (k : Int), k, rfl, dp_int r2, e2 _ _ h3, ?_, kk _ σ (sok_upd S2 hj (dps_set k (dp_same (del_grow e2) r) (dps_same (del_grow e2) h4)))⟩
  unfold ixN
  rw [if_pos (by omega), if_pos (by rw [dps_len h4]; omega)]
  simp
theorem run_if {b : Bool} (h : EvT K tt τ b) (h1 : b = true → Run K O0 F tu { Dn with nx := tz Dn } τ) (h2 : b = false → Run K O0 F tw { Dn with nx := tz Dn } τ) : Run K O0 F (tSeq (tIfS tt tu tw) tz) Dn τ := fun H σ S =>
  h _ H σ S.e _ fun H1 e1 => by
    cases b with
    | true => exact h1 rfl H1 σ (S.grow e1)
    | false => exact h2 rfl H1 σ (S.grow e1)
/-- the end of an if's branch -/
theorem run_nx (k : Run K O0 F tz Dn τ) : Run K O0 F tNext { Dn with nx := tz Dn } τ := fun H σ S => k H σ S
/-- if c: x = e -/
theorem run_ifAsg {b : Bool} {i : Nat} {d0 : D} {τ' : List Sl} (h : EvT K tt τ b) (h0 : τ[i]? = some (.im d0)) (h1 : b = true → Ev K te τ d) (k : Run K O0 F tz Dn τ') (hτ : τ.set i (.im (if b = true then d else d0)) = τ' := by first | (dsimp only [List.set]; done) | (dsimp only [List.set]; rfl) | rfl) :
    Run K O0 F (tSeq (tIfS tt (tSeq (tAsg te (gName i)) tNext) tNext) tz) Dn τ := by
  subst hτ
  refine run_if h (fun hb => ?_) (fun hb => ?_)
  · refine run_asg (h1 hb) (run_nx ?_) rfl
    rw [if_pos hb] at k
    exact k
  · refine run_nx ?_
    rw [if_neg (by rw [hb]; decide)] at k
    have e : τ.set i (.im d0) = τ := set_self h0
    rw [e] at k
    exact k

/-- what stands between two turns -/
def NX (K : PySem.W.Frag) (O0 : List Addr) (G : Hp) (P : List Sl → Prop) : L2.St → Hp → Prop := fun σ H => ∃ τ, P τ ∧ Sok K O0 G H σ τ
theorem run_end {P : List Sl → Prop} {js : List Nat} {n c b rt} (h : P (forget js τ)) (hn : n = NX K O0 F P) : Run K O0 F tNext { nx := n, rt := rt, bk := b, ct := c } τ := fun H σ S => by
  subst hn
  exact ⟨_, h, sok_forget js S⟩
theorem run_seq {v : V} {js : List Nat} {j : Nat} {wi : TI} {g : TG} {Inv : Nat → List Sl → Prop} {xs : List V} {J : It} {σ : L2.St} {a : Addr} (S : Sok K O0 F H σ τ) (h0 : Inv 0 (forget js τ)) (ha : DpAll K (del (owns τ ++ O0) H) xs ds)
    (hs : ∀ G, Same F G → ∀ i d τ', ds[i]? = some d → Inv i τ' → Run K O0 G tu { Dn with nx := NX K O0 G (Inv (i + 1)), ct := NX K O0 G (Inv (i + 1)), bk := Dn.nx } (τ'.set j (.im d)))
    (hd : ∀ τ', Inv ds.length τ' → Run K O0 F (fun D σ H => D.nx σ H) Dn τ') :
    NX K O0 (del (owns τ) H) (Inv 0) σ H ∧ (∀ i x σ' H', xs[i]? = some x → NX K O0 (del (owns τ) H) (Inv i) σ' H' → gName j x σ' H' fun σ2 H2 => tu { Dn with nx := NX K O0 (del (owns τ) H) (Inv (i + 1)), ct := NX K O0 (del (owns τ) H) (Inv (i + 1)), bk := Dn.nx } σ2 H2) ∧
    (∀ σ' H', NX K O0 (del (owns τ) H) (Inv xs.length) σ' H' → Dn.nx σ' H') := by
  refine ⟨⟨_, h0, sok_forget js S.rebase⟩, fun i x σ' H' hx hn => ?_, fun σ' H' hn => ?_⟩
  · obtain ⟨τ', hi, S'⟩ := hn
    obtain ⟨d, hd', r⟩ := dps_get' ha hx
    refine hs _ S.base i d τ' hd' hi H' _ (sok_put S' (dp_same ?_ r))
    rw [del_app, del_app]
    exact del_grow S'.base
  · obtain ⟨τ', hi, S'⟩ := hn
    rw [dps_len ha] at hi
    exact hd τ' hi H' σ' (S'.down S.base S.amb)
theorem run_forL {tl : TE} {j : Nat} (js : List Nat) (Inv : Nat → List Sl → Prop) (h : Ev K tl τ (.list ds)) (h0 : Inv 0 (forget js τ))
    (hs : ∀ G, Same F G → ∀ i d τ', ds[i]? = some d → Inv i τ' → Run K O0 G tu { Dn with nx := NX K O0 G (Inv (i + 1)), ct := NX K O0 G (Inv (i + 1)), bk := tz Dn } (τ'.set j (.im d)))
    (hd : ∀ τ', Inv ds.length τ' → Run K O0 F tz Dn τ') : Run K O0 F (tSeq (tFor (iList K tl) (gName j) tu) tz) Dn τ := fun H σ S => by
  refine h _ H σ S.e _ fun v H1 e1 r => ?_
  obtain ⟨a, xs, rfl, hq, ha⟩ := dp_lst r
  have S1 := S.grow e1
  obtain ⟨p0, p1, p2⟩ := run_seq (v := .ref a) (wi := iList K tl) (g := gName j) (J := Itl K a) (a := a) (tu := tu) (j := j) (Dn := { Dn with nx := tz Dn }) S1 h0 ha hs fun τ' hi => hd τ' hi
  refine ⟨a, rfl, ⟨xs, sql_same del_same hq⟩, for_list (xs := xs) (fun i => NX K O0 (del (owns τ) H1) (Inv i)) p0 (fun i σ' H' _ hn => ?_) p1 p2⟩
  obtain ⟨τ', _, S'⟩ := hn
  rw [del_app] at hq
  exact sql_same ((del_same (O := O0)).trans S'.same) hq
theorem run_forT {tl : TE} {j : Nat} (js : List Nat) (Inv : Nat → List Sl → Prop) (h : Ev K tl τ (.tuple ds)) (h0 : Inv 0 (forget js τ))
    (hs : ∀ G, Same F G → ∀ i d τ', ds[i]? = some d → Inv i τ' → Run K O0 G tu { Dn with nx := NX K O0 G (Inv (i + 1)), ct := NX K O0 G (Inv (i + 1)), bk := tz Dn } (τ'.set j (.im d)))
    (hd : ∀ τ', Inv ds.length τ' → Run K O0 F tz Dn τ') : Run K O0 F (tSeq (tFor (iTup K tl) (gName j) tu) tz) Dn τ := fun H σ S => by
  refine h _ H σ S.e _ fun v H1 e1 r => ?_
  obtain ⟨a, xs, rfl, hq, ha⟩ := dp_tup r
  have S1 := S.grow e1
  obtain ⟨p0, p1, p2⟩ := run_seq (v := .ref a) (wi := iTup K tl) (g := gName j) (J := Itt K a) (a := a) (tu := tu) (j := j) (Dn := { Dn with nx := tz Dn }) S1 h0 ha hs fun τ' hi => hd τ' hi
  refine ⟨a, rfl, ⟨xs, sqt_same del_same hq⟩, for_tup (xs := xs) (fun i => NX K O0 (del (owns τ) H1) (Inv i)) p0 (fun i σ' H' _ hn => ?_) p1 p2⟩
  obtain ⟨τ', _, S'⟩ := hn
  rw [del_app] at hq
  exact sqt_same ((del_same (O := O0)).trans S'.same) hq
theorem run_forR {ta : TA} {j : Nat} {n : Int} (js : List Nat) (Inv : Nat → List Sl → Prop) (h : EvA K ta τ [.int n]) (hn : -100000 ≤ n ∧ n ≤ 100000) (h0 : Inv 0 (forget js τ))
    (hs : ∀ G, Same F G → ∀ (i : Nat) τ', (i : Int) < n → Inv i τ' → Run K O0 G tu { Dn with nx := NX K O0 G (Inv (i + 1)), ct := NX K O0 G (Inv (i + 1)), bk := tz Dn } (τ'.set j (.im (.int (i : Int)))))
    (hd : ∀ τ', Inv n.toNat τ' → Run K O0 F tz Dn τ') : Run K O0 F (tSeq (tFor (iRng1 ta) (gName j) tu) tz) Dn τ := fun H σ S => by
  refine h _ H σ S.e _ fun vs H1 e1 r => ?_
  obtain ⟨v, rfl, r1⟩ := dps1 r
  rw [dp_int r1]
  have S1 := S.grow e1
  refine ⟨n, rfl, by omega, by omega, for_range (lo := 0) (n := n.toNat) (fun i => NX K O0 (del (owns τ) H1) (Inv i)) ⟨_, h0, sok_forget js S1.rebase⟩ (fun i σ' H' hi hx => ?_) (fun σ' H' hx => ?_)⟩
  · obtain ⟨τ', hv, S'⟩ := hx
    have e0 : (0 : Int) + (i : Int) = (i : Int) := Int.zero_add _
    show tu _ (σ'.set j (some (.int ((0 : Int) + (i : Int))))) H'
    rw [e0]
    exact hs _ S1.base i τ' (by omega) hv H' _ (sok_put S' (.int _))
  · obtain ⟨τ', hv, S'⟩ := hx
    exact hd τ' hv H' σ' (S'.down S1.base S.amb)
theorem run_while {W : Nat → List Sl → Prop} (js : List Nat) (m0 : Nat) (h0 : W m0 (forget js τ))
    (hs : ∀ G, Same F G → ∀ m τ', W m τ' → ∃ b, EvT K tt τ' b ∧ (b = true → Run K O0 G tu { Dn with nx := NX K O0 G (fun τ2 => ∃ m', m' < m ∧ W m' τ2), ct := NX K O0 G (fun τ2 => ∃ m', m' < m ∧ W m' τ2), bk := tz Dn } τ') ∧ (b = false → Run K O0 F tz Dn τ')) :
    Run K O0 F (tSeq (tWhile tt tu) tz) Dn τ := fun H σ S => by
  refine ⟨fun m => NX K O0 (del (owns τ) H) (W m), ⟨m0, _, h0, sok_forget js S.rebase⟩, fun m σ' H' hx => ?_⟩
  obtain ⟨τ', hw, S'⟩ := hx
  obtain ⟨b, hb, h1, h2⟩ := hs _ S.base m τ' hw
  refine hb _ H' σ' S'.e _ fun H2 e2 => ?_
  cases b with
  | true =>
    refine ⟨NX K O0 (del (owns τ) H) (fun τ2 => ∃ m', m' < m ∧ W m' τ2), fun σ3 H3 hx => ?_, h1 rfl H2 σ' (S'.grow e2)⟩
    obtain ⟨τ3, ⟨m', hm, hw'⟩, S3⟩ := hx
    exact ⟨m', hm, τ3, hw', S3⟩
  | false => exact h2 rfl H2 σ' ((S'.grow e2).down S.base S.amb)
/-- x, y = a, b -/
theorem run_par {ta : TA} {i j : Nat} {d1 d2 : D} {τ' : List Sl} (h : EvA K ta τ [d1, d2]) (k : Run K O0 F tz Dn τ') (hτ : (τ.set i (.im d1)).set j (.im d2) = τ' := by first | (dsimp only [List.set]; done) | (dsimp only [List.set]; rfl) | rfl) : Run K O0 F (tSeq (tPar i j ta) tz) Dn τ := fun H σ S => by
  subst hτ
  refine h _ H σ S.e _ fun vs H1 e1 r => ?_
  obtain ⟨v, w, rfl, r1, r2⟩ := dps2 r
  refine ⟨v, w, rfl, k H1 _ ?_⟩
  have S1 := sok_put (i := i) (S.grow e1) r1
  refine sok_put S1 (dp_same (del_sub fun a ha => ?_) r2)
  rcases List.mem_append.mp ha with z | z
  · exact List.mem_append_left _ ((owns_set_sub rfl).subset z)
  · exact List.mem_append_right _ z
end

/-- of such data the answer is that datum -/
def spR (K : PySem.W.Frag) (n : Nat) (R : List D → D → Prop) : Sp := fun vs H Q _ => ∃ (O : List Addr) (ds : List D) (d : D), (∀ a ∈ O, H a ≠ none) ∧ DpAll K (del O H) vs ds ∧ (ds.length = n ∧ R ds d) ∧ ∀ v H', Same H H' → Dp K (del O H') v d → Q v H'
/-- .. a new list -/
def spN (K : PySem.W.Frag) (n : Nat) (R : List D → List D → Prop) : Sp := fun vs H Q _ => ∃ (O : List Addr) (ds es : List D), (∀ a ∈ O, H a ≠ none) ∧ DpAll K (del O H) vs ds ∧ (ds.length = n ∧ R ds es) ∧ ∀ p ws H', H p = none → Same H H' → H' p = some (.lst ws) → DpAll K (del (p :: O) H') ws es → Q (.ref p) H'
section
variable {O0 : List Addr} {F G H H' : Hp} {τ : List Sl} {ta : TA} {d : D} {as ds : List D} {E : XK}
theorem ev_call {n : Nat} {R : List D → D → Prop} (h : EvA K ta τ as) (hR : R as d) (hn : as.length = n := by rfl) : Ev K (tCall (spR K n R) [] E ta) τ d := fun O H σ s Q q =>
  h O H σ s _ fun vs H1 e1 r => ⟨O, as, d, (s.grow e1).dom, by rw [List.append_nil]; exact r, ⟨hn, hR⟩, fun v H2 e2 r2 => q v H2 (e1.trans e2) r2⟩
theorem en_call {n : Nat} {R : List D → List D → Prop} (h : EvA K ta τ as) (hR : R as ds) (hn : as.length = n := by rfl) : EvN K (tCall (spN K n R) [] E ta) τ ds := fun O H σ s Q q =>
  h O H σ s _ fun vs H1 e1 r => ⟨O, as, ds, (s.grow e1).dom, by rw [List.append_nil]; exact r, ⟨hn, hR⟩, fun p ws H2 hp e2 h2 r2 => q p ws H2 (e1.free hp) (e1.trans e2) h2 r2⟩
def init (n : Nat) (ds : List D) : List Sl := ds.map Sl.im ++ List.replicate (n - ds.length) .un
theorem owns_init {n : Nat} : ∀ {ds : List D}, owns (init n ds) = [] := fun {ds} => by
  apply List.eq_nil_iff_forall_not_mem.mpr
  intro a ha
  obtain ⟨i, es, e⟩ := owns_mem.mp ha
  unfold init at e
  have hm := List.mem_of_getElem? e
  rcases List.mem_append.mp hm with h | h
  · obtain ⟨d, _, z⟩ := List.mem_map.mp h
    cases z
  · have := List.eq_of_mem_replicate h
    cases this
theorem slsok_init {O : List Addr} {H : Hp} {N : List Str} {vs : List V} {ds : List D} (r : DpAll K (del O H) vs ds) : SlsOk K O H (L2.start N vs) (init N.length ds) := by
  unfold L2.start init
  rw [dps_len r]
  have h1 : ∀ {vs : List V} {ds : List D} {σ : L2.St} {τ : List Sl}, DpAll K (del O H) vs ds → SlsOk K O H σ τ → SlsOk K O H (vs.map some ++ σ) (ds.map Sl.im ++ τ) := by
    intro vs ds σ τ r s
    induction ds generalizing vs with
    | nil => cases r; exact s
    | cons d ds ih => cases r with | cons r1 r2 => exact .cons ⟨_, rfl, r1⟩ (ih r2)
  refine h1 r ?_
  generalize N.length - ds.length = k
  induction k with
  | zero => exact .nil
  | succ k ih => exact .cons trivial ih
theorem sok_init {O : List Addr} {H : Hp} {N : List Str} {vs : List V} {ds : List D} (dom : ∀ a ∈ O, H a ≠ none) (r : DpAll K (del O H) vs ds) : Sok K O H H (L2.start N vs) (init N.length ds) := by
  have e : owns (init N.length ds) = [] := owns_init
  refine ⟨⟨fun a ha => dom a (by rw [e] at ha; exact ha), fun a ha => (by rw [e] at ha; cases ha), (by rw [e]; exact slsok_init r)⟩, (by rw [e, del_nil]; exact Same.refl _), dom, (by rw [e]; exact List.nodup_nil)⟩
/-- a def's promise from its body -/
theorem body_R {m : Nat} {R : List D → D → Prop} {N : List Str} {n : Nat} {t : TS} (hn : N.length = n) (h : ∀ ds d, R ds d → ∀ (O : List Addr) (F : Hp) (Dn : Ends), (∀ σ H', Dn.rt .non H' → Dn.nx σ H') → Ret K O F Dn.rt d → Run K O F t Dn (init n ds)) (vs : List V) (H : Hp) (Q : VK) (E : XK) (q : spR K m R vs H Q E) :
    t { nx := fun _ H' => Q .non H', rt := Q } (L2.start N vs) H := by
  obtain ⟨O, ds, d, dom, r, ⟨_, hR⟩, k⟩ := q
  subst hn
  exact h ds d hR O H { nx := fun _ H' => Q .non H', rt := Q } (fun _ _ z => z) k H _ (sok_init dom r)
theorem body_N {m : Nat} {R : List D → List D → Prop} {N : List Str} {n : Nat} {t : TS} (hn : N.length = n) (h : ∀ ds es, R ds es → ∀ (O : List Addr) (F : Hp) (Dn : Ends), RetN K O F Dn.rt es → Run K O F t Dn (init n ds)) (vs : List V) (H : Hp) (Q : VK) (E : XK) (q : spN K m R vs H Q E) :
    t { nx := fun _ H' => Q .non H', rt := Q } (L2.start N vs) H := by
  obtain ⟨O, ds, es, dom, r, ⟨_, hR⟩, k⟩ := q
  subst hn
  exact h ds es hR O H { nx := fun _ H' => Q .non H', rt := Q } k H _ (sok_init dom r)
end
end GW

namespace GW
open PySem PySem.Spec PyProof.Rows L2
variable {K : PySem.W.Frag}

def rCatL (K : PySem.W.Frag) : R2 := fun x y H Q => ∃ l b xs zs, x = .ref l ∧ y = .ref b ∧ SqL K H l xs ∧ SqL K H b zs ∧ xs.length + zs.length ≤ sizeLine ∧ ∀ p, H p = none → Q (.ref p) (upd H p (.lst (xs ++ zs)))
theorem add_list2 {prog : Program} {w : World} {A : Around} {E : Value → Shared → Prop} {s : Shared} {l b : Addr} {items items2 : Array Value} {Q : Value → Shared → Prop} (hl : s.heap.IsList l items) (hb : s.heap.IsList b items2)
    (h : Q (.ref s.heap.objs.size) { s with heap := s.heap.push { cls := .type "list", data := .seq (items ++ items2) } }) (hsz : items.size + items2.size ≤ sizeLine) : wpAny (model prog w) A (binaryOp .Add (.ref l) (.ref b)) Q E s := by
  obtain ⟨⟨cls, dd, data, sl⟩, ho, hc, n, hd⟩ := id hl
  obtain ⟨⟨cls2, dd2, data2, sl2⟩, ho2, hc2, n2, hd2⟩ := id hb
  simp only at hc hd hc2 hd2
  subst hc hd hc2 hd2
  exact concat_meets ⟨_, ho, rfl⟩ ⟨_, ho2, rfl⟩ noFill_list_add seq_list_add PySem.F.slot_list_add PySem.F.entry_list_add (PySem.F.args_list_add_2 _ _) (list_addW l b items items2 n n2 dd dd2 sl sl2 hsz) ⟨ho, ho2, h⟩
section
variable {X : Cx}
theorem op_catL : OpR X (binaryOp .Add) (rCatL X.K) := by
  intro pins s σ H x y v u Q I rx ry h
  obtain ⟨l, b, xs, zs, rfl, rfl, hH, hB, hz, q⟩ := h
  cases rx
  cases ry
  obtain ⟨its, r, hl, _⟩ := I.list hH
  obtain ⟨its2, r2, hl2, _⟩ := I.list hB
  have e1 := r.length
  have e2 := r2.length
  refine add_list2 hl.isList hl2.isList ?_ (by rw [List.size_toArray, List.size_toArray]; omega)
  have ea : its.toArray ++ its2.toArray = (its ++ its2).toArray := by simp
  rw [ea]
  exact ⟨.ref _, _, I.lnew (t' := s.toks) (r.append r2) (by rw [List.length_append]; omega), rfl, q _ I.fresh⟩
def rAddI : R2 := rI0 fun i j => .int (i + j)
def rAdd (K : PySem.W.Frag) : R2 := fun x y H Q => rAddI x y H Q ∨ (rCatL K x y H Q ∨ rCatA K x y H Q)
theorem op_addK : OpR X (binaryOp .Add) (rAdd X.K) := op_add.or (op_catL.or op_catA)
def rSub : R2 := rI0 fun i j => .int (i - j)
theorem op_subK : OpR X (binaryOp .Sub) rSub := op_sub
def CM (i j : Int) : Prop := CMul i j ∨ CMulW i j
def rMulI : R2 := rI CM fun i j => .int (i * j)
theorem op_mulI : OpR X (binaryOp .Mult) rMulI := opI fun _ _ _ _ _ _ _ hc q => mul_int q (hc.elim CMul.ok CMulW.ok)
def rMul (K : PySem.W.Frag) : R2 := fun x y H Q => rMulI x y H Q ∨ (rRep x y H Q ∨ rRepT K x y H Q)
theorem op_mulK : OpR X (binaryOp .Mult) (rMul X.K) := op_mulI.or (op_rep.or op_repT)
def rDiv : R2 := rI CDivW fun i j => .int (i / j)
theorem op_divK : OpR X (binaryOp .FloorDiv) rDiv := op_fdivW
def rMod : R2 := rI (fun _ j => 0 < j) fun i j => .int (i % j)
theorem op_modK : OpR X (binaryOp .Mod) rMod := op_mod
def rPow : R2 := rI CPow fun i j => .int (i ^ j.toNat)
theorem op_powK : OpR X (binaryOp .Pow) rPow := op_pow
def rLt : R2 := rI0 fun i j => .bl (decide (i < j))
def rLe : R2 := rI0 fun i j => .bl (decide (i ≤ j))
def rGt : R2 := rI0 fun i j => .bl (decide (j < i))
def rGe : R2 := rI0 fun i j => .bl (decide (j ≤ i))
theorem op_ltK : OpR X (compareOp .Lt) rLt := op_lt
theorem op_leK : OpR X (compareOp .LtE) rLe := op_le
theorem op_gtK : OpR X (compareOp .Gt) rGt := op_gt
theorem op_geK : OpR X (compareOp .GtE) rGe := op_ge
/-- is: None, or two bools -/
def rIs : R2 := fun x y H Q => (y = .non ∧ Q (.bl (decide (x = .non))) H) ∨ (∃ a b : Bool, x = .bl a ∧ y = .bl b ∧ Q (.bl (decide (a = b))) H)
def rNot : R2 := fun x y H Q => (y = .non ∧ Q (.bl (!decide (x = .non))) H) ∨ (∃ a b : Bool, x = .bl a ∧ y = .bl b ∧ Q (.bl (!decide (a = b))) H)
theorem op_isK : OpR X (compareOp .Is) rIs := op_isN.or op_isBl
theorem op_notK : OpR X (compareOp .IsNot) rNot := op_notN.or op_notBl
def rSl (K : PySem.W.Frag) : V → Option Int → Option Int → Hp → VK → Prop := fun x lo hi H Q => rSlL K x lo hi H Q ∨ rSlA K x lo hi H Q
theorem sl_K : SlR X (rSl X.K) := sl_list.or sl_tupA
def rLen (K : PySem.W.Frag) : List V → Hp → VK → Prop := fun xs H Q => ∃ p ys, xs = [.ref p] ∧ (SqL K H p ys ∨ SqT K H p ys) ∧ Q (.int ys.length) H
theorem cl_len : CallR X (.builtin "len") (rLen X.K) := call_len_seq
def rAbs : List V → Hp → VK → Prop := fun xs H Q => ∃ i, xs = [.int i] ∧ Q (.int (if i < 0 then -i else i)) H
theorem cl_abs : CallR X (.builtin "abs") rAbs := call_abs
def rMax2 : List V → Hp → VK → Prop := fun xs H Q => ∃ i j, xs = [.int i, .int j] ∧ Q (.int (if j > i then j else i)) H
def rMin2 : List V → Hp → VK → Prop := fun xs H Q => ∃ i j, xs = [.int i, .int j] ∧ Q (.int (if j < i then j else i)) H
theorem cl_max2 (hc : X.calm = true) : CallR X (.builtin "max") rMax2 := call_max2 hc
theorem cl_min2 (hc : X.calm = true) : CallR X (.builtin "min") rMin2 := call_min2 hc
def rInt : List V → Hp → VK → Prop := fun xs H Q => (∃ i, xs = [.int i] ∧ Q (.int i) H) ∨ ∃ k, xs = [.bl k] ∧ Q (.int (if k then 1 else 0)) H
theorem cl_int : CallR X (.type "int") rInt := call_int1
def rList (K : PySem.W.Frag) : List V → Hp → VK → Prop := fun xs H Q => ∃ p ys, xs = [.ref p] ∧ (SqL K H p ys ∨ SqT K H p ys) ∧ ∀ l, H l = none → Q (.ref l) (upd H l (.lst ys))
theorem cl_list : CallR X (.type "list") (rList X.K) := call_list_of
def rTuple (K : PySem.W.Frag) : List V → Hp → VK → Prop := fun xs H Q => ∃ p ys, xs = [.ref p] ∧ ((SqL K H p ys ∧ ∀ l, H l = none → Q (.ref l) (upd H l (.tup ys))) ∨ (SqT K H p ys ∧ Q (.ref p) H))
theorem cl_tuple : CallR X (.type "tuple") (rTuple X.K) := call_tuple_of
end

section
variable {τ : List Sl} {ta tb te : TE} {a b d : D}
theorem rv_addI {i j : Int} : Rv K (rAdd K) (.int i) (.int j) (.int (i + j)) := fun O H x y _ hx hy Q q => .inl ⟨i, j, dp_int hx, dp_int hy, q _ H (Same.refl H) (.int _)⟩
theorem rv_sub {i j : Int} : Rv K rSub (.int i) (.int j) (.int (i - j)) := fun O H x y _ hx hy Q q => ⟨i, j, dp_int hx, dp_int hy, q _ H (Same.refl H) (.int _)⟩
theorem rv_mulI {i j : Int} (h : CM i j) : Rv K (rMul K) (.int i) (.int j) (.int (i * j)) := fun O H x y _ hx hy Q q => .inl ⟨i, j, dp_int hx, dp_int hy, h, q _ H (Same.refl H) (.int _)⟩
theorem rv_div {i j : Int} (h : CDivW i j) : Rv K rDiv (.int i) (.int j) (.int (i / j)) := fun O H x y _ hx hy Q q => ⟨i, j, dp_int hx, dp_int hy, h, q _ H (Same.refl H) (.int _)⟩
theorem rv_mod {i j : Int} (h : 0 < j) : Rv K rMod (.int i) (.int j) (.int (i % j)) := fun O H x y _ hx hy Q q => ⟨i, j, dp_int hx, dp_int hy, h, q _ H (Same.refl H) (.int _)⟩
theorem rv_pow {i j : Int} (h : CPow i j) : Rv K rPow (.int i) (.int j) (.int (i ^ j.toNat)) := fun O H x y _ hx hy Q q => ⟨i, j, dp_int hx, dp_int hy, h, q _ H (Same.refl H) (.int _)⟩
theorem rv_lt {i j : Int} : Rv K rLt (.int i) (.int j) (.bool (decide (i < j))) := fun O H x y _ hx hy Q q => ⟨i, j, dp_int hx, dp_int hy, q _ H (Same.refl H) (.bl _)⟩
theorem rv_le {i j : Int} : Rv K rLe (.int i) (.int j) (.bool (decide (i ≤ j))) := fun O H x y _ hx hy Q q => ⟨i, j, dp_int hx, dp_int hy, q _ H (Same.refl H) (.bl _)⟩
theorem rv_gt {i j : Int} : Rv K rGt (.int i) (.int j) (.bool (decide (j < i))) := fun O H x y _ hx hy Q q => ⟨i, j, dp_int hx, dp_int hy, q _ H (Same.refl H) (.bl _)⟩
theorem rv_ge {i j : Int} : Rv K rGe (.int i) (.int j) (.bool (decide (j ≤ i))) := fun O H x y _ hx hy Q q => ⟨i, j, dp_int hx, dp_int hy, q _ H (Same.refl H) (.bl _)⟩
def isNone : D → Bool
  | .none => true
  | _ => false
theorem isNone_dp {H : Hp} {v : V} {d : D} (h : Dp K H v d) : decide (v = .non) = isNone d := by cases h <;> first | rfl | exact decide_eq_false (fun z => nomatch z)
theorem rv_isN : Rv K rIs a .none (.bool (isNone a)) := fun O H x y _ hx hy Q q => .inl ⟨dp_non hy, q _ H (Same.refl H) (by rw [isNone_dp hx]; exact .bl _)⟩
theorem rv_notN : Rv K rNot a .none (.bool (!isNone a)) := fun O H x y _ hx hy Q q => .inl ⟨dp_non hy, q _ H (Same.refl H) (by rw [isNone_dp hx]; exact .bl _)⟩
theorem rv_isB {x y : Bool} : Rv K rIs (.bool x) (.bool y) (.bool (decide (x = y))) := fun O H v w _ hx hy Q q => .inr ⟨x, y, dp_bl hx, dp_bl hy, q _ H (Same.refl H) (.bl _)⟩
theorem rv_notB {x y : Bool} : Rv K rNot (.bool x) (.bool y) (.bool (!decide (x = y))) := fun O H v w _ hx hy Q q => .inr ⟨x, y, dp_bl hx, dp_bl hy, q _ H (Same.refl H) (.bl _)⟩
theorem rv_eq (ha : SeqAt.shaped a = true) (hb : SeqAt.shaped b = true) : Rv K (rEqD K) a b (.bool (PyData.eqv a b)) := fun O H x y _ hx hy Q q => ⟨a, b, dp_same del_same hx, dp_same del_same hy, ha, hb, q _ H (Same.refl H) (.bl _)⟩
theorem rv_ne (ha : SeqAt.shaped a = true) (hb : SeqAt.shaped b = true) : Rv K (rNeD K) a b (.bool (!PyData.eqv a b)) := fun O H x y _ hx hy Q q => ⟨a, b, dp_same del_same hx, dp_same del_same hy, ha, hb, q _ H (Same.refl H) (.bl _)⟩
theorem shaped_int {i : Int} : SeqAt.shaped (.int i) = true := rfl
theorem atI_dps {H : Hp} {xs : List V} {ds : List D} {i : Int} {d : D} (r : DpAll K H xs ds) (h : atI ds i = some d) : ∃ v, atI xs i = some v ∧ Dp K H v d := by
  unfold atI at h ⊢
  rw [dps_len r]
  cases e : ixN ds.length i with
  | none => rw [e] at h; cases h
  | some j =>
    rw [e] at h
    exact dps_get r h
theorem rv_ixT {ds : List D} {i : Int} (h : atI ds i = some d) : Rv K (rIx K) (.tuple ds) (.int i) d := fun O H x y _ hx hy Q q => by
  obtain ⟨p, xs, rfl, hq, r⟩ := dp_tup hx
  obtain ⟨v, hv, rd⟩ := atI_dps r h
  exact .inr (.inl ⟨p, xs, i, v, rfl, dp_int hy, sqt_same del_same hq, hv, q v H (Same.refl H) rd⟩)
theorem rv_ixL {ds : List D} {i : Int} (h : atI ds i = some d) : Rv K (rIx K) (.list ds) (.int i) d := fun O H x y _ hx hy Q q => by
  obtain ⟨p, xs, rfl, hq, r⟩ := dp_lst hx
  obtain ⟨v, hv, rd⟩ := atI_dps r h
  exact .inl ⟨p, xs, i, v, rfl, dp_int hy, sql_same del_same hq, hv, q v H (Same.refl H) rd⟩
theorem rv_catL {ds es : List D} (h : ds.length + es.length ≤ 100000) : RvN K (rAdd K) (.list ds) (.list es) (ds ++ es) := fun O H x y dom hx hy Q q => by
  obtain ⟨p, xs, rfl, hq, r⟩ := dp_lst hx
  obtain ⟨p2, ys, rfl, hq2, r2⟩ := dp_lst hy
  exact .inr (.inl ⟨p, p2, xs, ys, rfl, rfl, sql_same del_same hq, sql_same del_same hq2, by rw [dps_len r, dps_len r2]; exact Nat.le_trans h (by decide), fun l hl => q l _ _ hl (same_upd hl) upd_same (dps_newlst hl (dps_app r r2))⟩)
theorem rv_catT {ds es : List D} (h : ds.length + es.length ≤ 100000) : Rv K (rAdd K) (.tuple ds) (.tuple es) (.tuple (ds ++ es)) := fun O H x y dom hx hy Q q => by
  obtain ⟨p, xs, rfl, hq, r⟩ := dp_tup hx
  obtain ⟨p2, ys, rfl, hq2, r2⟩ := dp_tup hy
  refine .inr (.inr ⟨p, p2, xs, ys, rfl, rfl, sqt_same del_same hq, sqt_same del_same hq2, by rw [dps_len r, dps_len r2]; exact Nat.le_trans h (by decide), fun e => ?_, fun e e2 => ?_, fun e e2 l hl => ?_⟩)
  · subst e
    cases r
    exact q _ H (Same.refl H) hy
  · subst e2
    cases r2
    rw [List.append_nil] at q
    exact q _ H (Same.refl H) hx
  · exact q _ _ (same_upd hl) (dp_newtup dom hl (dps_app r r2))
def cutD (ds : List D) (lo hi : Option Int) : List D := (ds.drop (HT.sIx ds.length 0 lo)).take (HT.sIx ds.length ds.length hi - HT.sIx ds.length 0 lo)
theorem dps_cut {H : Hp} {xs : List V} {ds : List D} {lo hi : Option Int} (r : DpAll K H xs ds) : DpAll K H (cutV xs lo hi) (cutD ds lo hi) := by
  unfold cutV cutD
  rw [dps_len r]
  exact dps_take _ (dps_drop _ r)
theorem cutD_length (xs : List D) (lo hi : Option Int) : (cutD xs lo hi).length ≤ xs.length := by
  unfold cutD
  rw [List.length_take, List.length_drop]
  omega
theorem ev_slT {tl th : TO} {ds : List D} {lo hi : Option Int} (h : Ev K te τ (.tuple ds)) (hl : EvO K tl τ lo) (hh : EvO K th τ hi) : Ev K (tSl (rSl K) te tl th) τ (.tuple (cutD ds lo hi)) := fun O H σ s Q q =>
  h O H σ s _ fun v H1 e1 r1 => hl O H1 σ (s.grow e1) _ fun H2 e2 => hh O H2 σ ((s.grow e1).grow e2) _ fun H3 e3 => by
    have S := ((s.grow e1).grow e2).grow e3
    have e4 := (e1.trans e2).trans e3
    obtain ⟨p, xs, rfl, hq, r⟩ := dp_tup (dp_same (del_grow (e2.trans e3)) r1)
    refine .inr ⟨p, xs, rfl, sqt_same del_same hq, fun hw => ?_, fun hw l hl' => q _ _ (e4.trans (same_upd hl')) (dp_newtup S.dom hl' (dps_cut r))⟩
    have e : cutD ds lo hi = ds := by
      have := dps_len r
      unfold cutD
      rw [this] at hw
      rw [hw.1, hw.2, Nat.sub_zero]
      exact List.take_length
    rw [e] at q
    exact q _ H3 e4 (.tup hq r)
theorem en_slL {tl th : TO} {ds : List D} {lo hi : Option Int} (h : Ev K te τ (.list ds)) (hl : EvO K tl τ lo) (hh : EvO K th τ hi) : EvN K (tSl (rSl K) te tl th) τ (cutD ds lo hi) := fun O H σ s Q q =>
  h O H σ s _ fun v H1 e1 r1 => hl O H1 σ (s.grow e1) _ fun H2 e2 => hh O H2 σ ((s.grow e1).grow e2) _ fun H3 e3 => by
    have S := ((s.grow e1).grow e2).grow e3
    have e4 := (e1.trans e2).trans e3
    obtain ⟨p, xs, rfl, hq, r⟩ := dp_lst (dp_same (del_grow (e2.trans e3)) r1)
    exact .inl ⟨p, xs, rfl, sql_same del_same hq, fun l hl' => q l _ _ (e4.free hl') (e4.trans (same_upd hl')) upd_same (dps_newlst hl' (dps_cut r))⟩
theorem rc_lenL {ds : List D} : Rc K (rLen K) [.list ds] (.int (ds.length : Int)) := fun O H xs dom r Q q => by
  obtain ⟨v, rfl, r1⟩ := dps1 r
  obtain ⟨p, ys, rfl, hq, ra⟩ := dp_lst r1
  exact ⟨p, ys, rfl, .inl (sql_same del_same hq), by rw [dps_len ra]; exact q _ H (Same.refl H) (.int _)⟩
theorem rc_lenT {ds : List D} : Rc K (rLen K) [.tuple ds] (.int (ds.length : Int)) := fun O H xs dom r Q q => by
  obtain ⟨v, rfl, r1⟩ := dps1 r
  obtain ⟨p, ys, rfl, hq, ra⟩ := dp_tup r1
  exact ⟨p, ys, rfl, .inr (sqt_same del_same hq), by rw [dps_len ra]; exact q _ H (Same.refl H) (.int _)⟩
theorem rc_abs {i : Int} : Rc K rAbs [.int i] (.int (if i < 0 then -i else i)) := fun O H xs dom r Q q => by
  obtain ⟨v, rfl, r1⟩ := dps1 r
  exact ⟨i, by rw [dp_int r1], q _ H (Same.refl H) (.int _)⟩
theorem rc_max2 {i j : Int} : Rc K rMax2 [.int i, .int j] (.int (if j > i then j else i)) := fun O H xs dom r Q q => by
  obtain ⟨v, w, rfl, r1, r2⟩ := dps2 r
  exact ⟨i, j, by rw [dp_int r1, dp_int r2], q _ H (Same.refl H) (.int _)⟩
theorem rc_min2 {i j : Int} : Rc K rMin2 [.int i, .int j] (.int (if j < i then j else i)) := fun O H xs dom r Q q => by
  obtain ⟨v, w, rfl, r1, r2⟩ := dps2 r
  exact ⟨i, j, by rw [dp_int r1, dp_int r2], q _ H (Same.refl H) (.int _)⟩
theorem rc_intB {x : Bool} : Rc K rInt [.bool x] (.int (if x then 1 else 0)) := fun O H xs dom r Q q => by
  obtain ⟨v, rfl, r1⟩ := dps1 r
  exact .inr ⟨x, by rw [dp_bl r1], q _ H (Same.refl H) (.int _)⟩
theorem rc_listL {ds : List D} : RcN K (rList K) [.list ds] ds := fun O H xs dom r Q q => by
  obtain ⟨v, rfl, r1⟩ := dps1 r
  obtain ⟨p, ys, rfl, hq, ra⟩ := dp_lst r1
  exact ⟨p, ys, rfl, .inl (sql_same del_same hq), fun l hl => q l _ _ hl (same_upd hl) upd_same (dps_newlst hl ra)⟩
theorem rc_listT {ds : List D} : RcN K (rList K) [.tuple ds] ds := fun O H xs dom r Q q => by
  obtain ⟨v, rfl, r1⟩ := dps1 r
  obtain ⟨p, ys, rfl, hq, ra⟩ := dp_tup r1
  exact ⟨p, ys, rfl, .inr (sqt_same del_same hq), fun l hl => q l _ _ hl (same_upd hl) upd_same (dps_newlst hl ra)⟩
theorem rc_tupleL {ds : List D} : Rc K (rTuple K) [.list ds] (.tuple ds) := fun O H xs dom r Q q => by
  obtain ⟨v, rfl, r1⟩ := dps1 r
  obtain ⟨p, ys, rfl, hq, ra⟩ := dp_lst r1
  exact ⟨p, ys, rfl, .inl ⟨sql_same del_same hq, fun l hl => q _ _ (same_upd hl) (dp_newtup dom hl ra)⟩⟩
theorem rc_tupleT {ds : List D} : Rc K (rTuple K) [.tuple ds] (.tuple ds) := fun O H xs dom r Q q => by
  obtain ⟨v, rfl, r1⟩ := dps1 r
  obtain ⟨p, ys, rfl, hq, ra⟩ := dp_tup r1
  exact ⟨p, ys, rfl, .inr ⟨sqt_same del_same hq, q _ H (Same.refl H) r1⟩⟩
def rNeg : V → Hp → VK → Prop := rU fun i => .int (-i)
theorem ev_neg {i : Int} (h : Ev K te τ (.int i)) : Ev K (tUn rNeg te) τ (.int (-i)) := ev_un h fun H x O hx Q q => ⟨i, dp_int hx, q _ (.int _)⟩
def cls : D → String
  | .none => "NoneType"
  | .bool _ => "bool"
  | .int _ => "int"
  | .str _ => "str"
  | .list _ => "list"
  | .tuple _ => "tuple"
  | .dict _ => "dict"
def tyOf (n : String) : Value := .type n
theorem tyx_of {H : Hp} {v : V} {d : D} (h : Dp K H v d) (hn : cls d ≠ "NoneType") : TyX K H v (.type (cls d)) := by
  cases h with
  | non => exact absurd rfl hn
  | bl b => exact .base (.bl b)
  | int i => exact .base (.int i)
  | str x => exact .base (.str x)
  | lst hq _ =>
    rcases hq with (h | ⟨o, h⟩) | ⟨o, its, n, h, c, _⟩
    · exact .base (.lst h)
    · exact .base (.frz h)
    · exact .kList h c
  | tup hq _ =>
    rcases hq with (h | ⟨o, h⟩) | ⟨o, its, n, h, c, _⟩
    · exact .base (.tup h)
    · exact .fTuple h
    · exact .kTuple h c
theorem ev_isi {n : String} {b : Bool} (h : Ev K te τ d) (hn : cls d ≠ "NoneType") (hk : kitB (cls d) n = some b) : Ev K (tCB (rIsi K) (tCons te (tCons (tC (.ty n)) tNil))) τ (.bool b) := fun O H σ s Q q =>
  h O H σ s _ fun v H1 e1 r1 => ⟨v, .ty n, .type (cls d), .type n, b, rfl, .ty n, tyx_of (dp_same del_same r1) hn, kit_ty hk, q _ H1 e1 (.bl b)⟩
end
end GW
namespace GW
open PySem PySem.Spec PyProof.Rows L2
variable {K : PySem.W.Frag}
theorem eqv_int {i j : Int} : PyData.eqv (.int i) (.int j) = decide (i = j) := by
  unfold PyData.eqv
  rw [Bool.beq_eq_decide_eq]
theorem rv_eqI {i j : Int} : Rv K (rEqD K) (.int i) (.int j) (.bool (decide (i = j))) := by
  have h := rv_eq (K := K) (a := .int i) (b := .int j) rfl rfl
  rw [eqv_int] at h
  exact h
theorem rv_neI {i j : Int} : Rv K (rNeD K) (.int i) (.int j) (.bool (!decide (i = j))) := by
  have h := rv_ne (K := K) (a := .int i) (b := .int j) rfl rfl
  rw [eqv_int] at h
  exact h
end GW
namespace GW
open PySem PySem.Spec PyProof.Rows L2
variable {K : PySem.W.Frag} {τ : List Sl} {ta tb te : TE} {a b d : D}
theorem RvN.rv {r : R2} {ds : List D} (h : RvN K r a b ds) : Rv K r a b (.list ds) := fun O H x y dom hx hy Q q =>
  h O H x y dom hx hy Q fun p vs H' hp e h1 rr => q _ H' e (dp_of_new dom hp h1 rr)
theorem rv_catL' {ds es : List D} (h : ds.length + es.length ≤ 100000) : Rv K (rAdd K) (.list ds) (.list es) (.list (ds ++ es)) := (rv_catL h).rv
theorem RcN.rc {r : List V → Hp → VK → Prop} {as ds : List D} (h : RcN K r as ds) : Rc K r as (.list ds) := fun O H xs dom hx Q q =>
  h O H xs dom hx Q fun p vs H' hp e h1 rr => q _ H' e (dp_of_new dom hp h1 rr)
theorem rc_listL' {ds : List D} : Rc K (rList K) [.list ds] (.list ds) := rc_listL.rc
theorem rc_listT' {ds : List D} : Rc K (rList K) [.tuple ds] (.list ds) := rc_listT.rc
theorem ev_lst {tr : TA} {ds : List D} (h : EvA K tr τ ds) (hl : ds.length ≤ 100000) : Ev K (tLst tr) τ (.list ds) := (en_lst h hl).ev
theorem ev_callN {n : Nat} {R : List D → List D → Prop} {E : XK} {ta : TA} {as ds : List D} (h : EvA K ta τ as) (hR : R as ds) (hn : as.length = n := by rfl) : Ev K (tCall (spN K n R) [] E ta) τ (.list ds) := (en_call h hR hn).ev
/-- d[lo:hi] is e -/
inductive SlD : D → Option Int → Option Int → D → Prop
  | lst {ds : List D} {lo hi : Option Int} : SlD (.list ds) lo hi (.list (cutD ds lo hi))
  | tup {ds : List D} {lo hi : Option Int} : SlD (.tuple ds) lo hi (.tuple (cutD ds lo hi))
theorem ev_sl {tl th : TO} {lo hi : Option Int} {e : D} (h : Ev K te τ d) (hl : EvO K tl τ lo) (hh : EvO K th τ hi) (hs : SlD d lo hi e) : Ev K (tSl (rSl K) te tl th) τ e := by
  cases hs with
  | lst => exact (en_slL h hl hh).ev
  | tup => exact ev_slT h hl hh
end GW

namespace GW
open PySem PySem.Spec PyProof.Rows L2
variable {K : PySem.W.Frag}
structure Fn (P : Program) (w : World) (K : PySem.W.Frag) (mg : Str → Option Value) (base : Heap) (x : Str) (ps : List Str) (k : Nat) (sp : Sp) : Prop where
  ex : ∃ f fd, FnOk P w K mg base CX0 k f fd ps sp ∧ mg x = some (.ref f) ∧ PySem.W.keepIn K (.ref f) = true ∧ Binds K fd ps []
section
variable {X : Cx} {x : Str} {ps : List Str} {k : Nat} {sp : Sp} {e : Expr} {es : List Expr} {p pos : Pos} {t : TA}
theorem pe_fn (G : Fn X.prog X.w X.K X.mg X.base x ps k sp) (hr : Room k X.A) (ha : PA X (e :: es) t) (hg : Gl X x := by rfl)
    (hdb : (x == ("__debug__" : Str)) = false := by decide) (he : starEach (e :: es) X.env = (false, eval e X.env) :: starEach es X.env := by rfl) (hpl : (backTo pos (starEach es X.env)).any (·.1) = false := by rfl) :
    PE X (.Call (.Name x p) (e :: es) [] pos) (tCall sp [] E0 t) := by
  obtain ⟨f, fd, F, hm, hk, hb⟩ := G.ex
  exact pe_call F hr hg hm hk hb .nil pass0 ha hdb he hpl
/-- what a for, a comprehension walks: a list or a tuple -/
def iSeq (K : PySem.W.Frag) (tl : TE) : TI := fun σ H R => tl σ H fun x H1 => ∃ a, x = .ref a ∧ (((∃ xs, SqL K H1 a xs) ∧ R (Itl K a) H1) ∨ ((∃ xs, SqT K H1 a xs) ∧ R (Itt K a) H1))
theorem pi_seq {tg l : Expr} {tl : TE} (hl : PE X l tl) : PI X tg l (iSeq X.K tl) := by
  refine ⟨fun pins s σ H R I h => ?_⟩
  refine thn (hl.run pins s σ H _ I h) fun v s1 ⟨x, H1, I1, r1, q1⟩ => ?_
  obtain ⟨a, e, q⟩ := q1
  subst e
  cases r1
  rcases q with ⟨⟨xs, hq⟩, q⟩ | ⟨⟨xs, hq⟩, q⟩
  · obtain ⟨its, rv, p, hz⟩ := I1.list hq
    refine wpAny_pyIter_list p.isList ?_
    refine ⟨s1.heap.objs.size, [s1.heap.objs.size], _, _, H1, rfl, I1.kept (t' := s1.toks) fun b o e => Heap.get?_push_of_some _ e, turn_list a _, ⟨_, Heap.get?_push_size _ rfl, rfl, rfl⟩, fun b hb => ?_, q⟩
    have e : b = s1.heap.objs.size := by simpa using hb
    subst e
    exact I1.fpOk (Nat.le_refl _) (I1.hok.fresh (Nat.le_refl _))
  · obtain ⟨its, rv, p, hz⟩ := I1.tuple hq
    refine wpAny_pyIter_tuple (show s1.heap.IsTuple a its.toArray from p) ?_
    refine ⟨s1.heap.objs.size, [s1.heap.objs.size], _, _, H1, rfl, I1.kept (t' := s1.toks) fun b o e => Heap.get?_push_of_some _ e, turn_tuple a _, ⟨_, Heap.get?_push_size _ rfl, rfl, rfl⟩, fun b hb => ?_, q⟩
    have e : b = s1.heap.objs.size := by simpa using hb
    subst e
    exact I1.fpOk (Nat.le_refl _) (I1.hok.fresh (Nat.le_refl _))
end
/-- a list or a tuple of such data -/
def IsSeq (d : D) (ds : List D) : Prop := d = .list ds ∨ d = .tuple ds
section
variable {O0 : List Addr} {F : Hp} {τ : List Sl} {Dn : Ends} {te : TE} {t u tz tu tw : TS} {tt : TT} {d : D} {ds : List D}
/-- for x in e: the store between the turns is f of the turn -/
theorem run_for {tl : TE} {j : Nat} (js : List Nat) (Inv : Nat → List Sl → Prop) (h : Ev K tl τ d) (hd' : IsSeq d ds) (h0 : Inv 0 (forget js τ))
    (hs : ∀ G, Same F G → ∀ i d τ', ds[i]? = some d → Inv i τ' → Run K O0 G tu { Dn with nx := NX K O0 G (Inv (i + 1)), ct := NX K O0 G (Inv (i + 1)), bk := tz Dn } (τ'.set j (.im d)))
    (hd : ∀ τ', Inv ds.length τ' → Run K O0 F tz Dn τ') : Run K O0 F (tSeq (tFor (iSeq K tl) (gName j) tu) tz) Dn τ := fun H σ S => by
  refine h _ H σ S.e _ fun v H1 e1 r => ?_
  have S1 := S.grow e1
  rcases hd' with rfl | rfl
  · obtain ⟨a, xs, rfl, hq, ha⟩ := dp_lst r
    obtain ⟨p0, p1, p2⟩ := run_seq (v := .ref a) (wi := iList K tl) (g := gName j) (J := Itl K a) (a := a) (tu := tu) (j := j) (Dn := { Dn with nx := tz Dn }) S1 h0 ha hs fun τ' hi => hd τ' hi
    refine ⟨a, rfl, .inl ⟨⟨xs, sql_same del_same hq⟩, for_list (xs := xs) (fun i => NX K O0 (del (owns τ) H1) (Inv i)) p0 (fun i σ' H' _ hn => ?_) p1 p2⟩⟩
    obtain ⟨τ', _, S'⟩ := hn
    rw [del_app] at hq
    exact sql_same ((del_same (O := O0)).trans S'.same) hq
  · obtain ⟨a, xs, rfl, hq, ha⟩ := dp_tup r
    obtain ⟨p0, p1, p2⟩ := run_seq (v := .ref a) (wi := iTup K tl) (g := gName j) (J := Itt K a) (a := a) (tu := tu) (j := j) (Dn := { Dn with nx := tz Dn }) S1 h0 ha hs fun τ' hi => hd τ' hi
    refine ⟨a, rfl, .inr ⟨⟨xs, sqt_same del_same hq⟩, for_tup (xs := xs) (fun i => NX K O0 (del (owns τ) H1) (Inv i)) p0 (fun i σ' H' _ hn => ?_) p1 p2⟩⟩
    obtain ⟨τ', _, S'⟩ := hn
    rw [del_app] at hq
    exact sqt_same ((del_same (O := O0)).trans S'.same) hq
/-- return of a comparison etc. needs no more; the end of a def without return -/
theorem run_noret (h : ∀ σ H', Dn.rt .non H' → Dn.nx σ H') (k : Ret K O0 F Dn.rt .none) : Run K O0 F tNext Dn τ := fun H σ S => h σ H (k .non H S.same .non)
end
end GW

namespace GW
open PySem PySem.Spec PyProof.Rows L2
variable {K : PySem.W.Frag}
def maxL (ns : List Int) : Int := match ns with
  | [] => 0
  | n :: r => r.foldl (fun a y => if a < y then y else a) n
theorem foldl_max : ∀ (r : List Int) (n : Int), r.foldl (fun a y => if a < y then y else a) n ∈ n :: r ∧ ∀ y ∈ n :: r, y ≤ r.foldl (fun a y => if a < y then y else a) n
  | [], n => ⟨List.mem_cons_self, fun y hy => by simp at hy; subst hy; exact Int.le_refl _⟩
  | z :: r, n => by
    rw [List.foldl_cons]
    obtain ⟨h1, h2⟩ := foldl_max r (if n < z then z else n)
    refine ⟨?_, fun y hy => ?_⟩
    · rcases List.mem_cons.mp h1 with e | e
      · rw [e]; split <;> simp
      · simp [e]
    · have h3 := h2 _ List.mem_cons_self
      have hm1 : n ≤ (if n < z then z else n) := by split <;> omega
      have hm2 : z ≤ (if n < z then z else n) := by split <;> omega
      rcases List.mem_cons.mp hy with e | e
      · subst e; exact Int.le_trans hm1 h3
      · rcases List.mem_cons.mp e with e | e
        · subst e; exact Int.le_trans hm2 h3
        · exact h2 y (List.mem_cons_of_mem _ e)
theorem maxL_mem {ns : List Int} (h : ns ≠ []) : maxL ns ∈ ns := by
  cases ns with
  | nil => exact absurd rfl h
  | cons n r => exact (foldl_max r n).1
theorem maxL_ge {ns : List Int} {y : Int} (h : y ∈ ns) : y ≤ maxL ns := by
  cases ns with
  | nil => cases h
  | cons n r => exact (foldl_max r n).2 y h
theorem maxL_of {ns : List Int} {m : Int} (h : m ∈ ns) (g : ∀ y ∈ ns, y ≤ m) : m = maxL ns :=
  Int.le_antisymm (maxL_ge h) (g _ (maxL_mem (fun e => by rw [e] at h; cases h)))
section
variable {X : Cx}
def rMax1 (K : PySem.W.Frag) : List V → Hp → VK → Prop := fun vs H Q => ∃ (a : Addr) (ns : List Int), vs = [V.ref a] ∧ SqL K H a (ns.map V.int) ∧ 0 < ns.length ∧ ∀ m, m ∈ ns → (∀ y, y ∈ ns → y ≤ m) → Q (.int m) H
theorem cl_max1 (hc : X.calm = true) : CallR X (.builtin "max") (rMax1 X.K) := cr_max hc
theorem reads_ints {pins : List (Addr × Obj)} {σ : L2.St} {H : Hp} {s : Shared} (I : Inv X pins σ H s) {ns : List Int} {its : List Value} (r : Vals (ns.map V.int) its) : PySem.W.HoldAll s.heap its ns := Dp.readsAll I _ _ _ (ints_dps ns) r
theorem bls_dps {K : PySem.W.Frag} {H : Hp} : ∀ (bs : List Bool), DpAll K H (bs.map V.bl) (bs.map PyData.bool)
  | [] => .nil
  | b :: bs => .cons (.bl b) (bls_dps bs)
theorem dps_bls {H : Hp} : ∀ {vs : List V} {bs : List Bool}, DpAll K H vs (bs.map PyData.bool) → vs = bs.map V.bl
  | _, [], h => by cases h; rfl
  | _, b :: bs, h => by
    cases h with
    | cons r t =>
      rw [dp_bl r, dps_bls t]
      rfl
theorem reads_bls {pins : List (Addr × Obj)} {σ : L2.St} {H : Hp} {s : Shared} (I : Inv X pins σ H s) {bs : List Bool} {its : List Value} (r : Vals (bs.map V.bl) its) : PySem.W.HoldAll s.heap its bs := Dp.readsAll I _ _ _ (bls_dps bs) r
/-- max(xs, default=d) -/
def rMaxD (K : PySem.W.Frag) : List V → List V → Hp → VK → Prop := fun vs zs H Q => ∃ (a : Addr) (ns : List Int) (y : V), vs = [V.ref a] ∧ zs = [y] ∧ SqL K H a (ns.map V.int) ∧ (ns = [] → Q y H) ∧ ∀ m, m ∈ ns → (∀ y, y ∈ ns → y ≤ m) → Q (.int m) H
theorem maxOf_eq (n : Int) (r : List Int) : PySem.W.maxOf n r = maxL (n :: r) := by
  show r.foldl (fun a y => if decide (a < y) = true then y else a) n = r.foldl (fun a y => if a < y then y else a) n
  congr 1
  funext a y
  by_cases h : a < y <;> simp [h]
theorem cl_maxD (hc : X.calm = true) (hu : X.A.units + 64 < cLine) : CallRK X (.builtin "max") ["default"] (rMaxD X.K) := by
  intro pins s σ H xs zs us ws Q I rx rz h
  obtain ⟨a, ns, y, rfl, rfl, hs, h0, h1⟩ := h
  obtain ⟨its, rv, hl, hz⟩ := I.list hs
  obtain ⟨u, rfl, ru⟩ := vals1 rz
  rw [Vals.ref1 rx]
  refine PySem.W.max_list_datum_default (α := Int) (xs := ns) (I.ok.hd hc) hl.isList (reads_ints I rv) (by show X.A.units + 1 + 0 < cLine; omega) (fun e h' tk hk => ⟨y, H, I.kept hk, ru, h0 e⟩) (fun n r i v h' tk e hi hv hk => ?_)
  subst e
  obtain ⟨as, hr⟩ := hv
  rw [maxOf_eq] at hr
  have e : ∃ t, v = Value.int (maxL (n :: r)) t := by
    cases hr with
    | int i t => exact ⟨t, rfl⟩
  obtain ⟨t, rfl⟩ := e
  exact ⟨.int _, H, I.kept hk, ⟨t, rfl⟩, h1 _ (maxL_mem (fun e => nomatch e)) fun y hy => maxL_ge hy⟩
theorem sum_intTupG {prog : Program} {w : World} {A : Around} {E : Value → Shared → Prop} {s : Shared} {l : Addr} {xs : Array (Int × Tok)} {Q : Value → Shared → Prop} (hh : A.handled = none) (hl : s.heap.IsTuple l (intItems xs))
    (h : ∀ h' tk t', (∀ b o, s.heap.get? b = some o → h'.get? b = some o) → Q (.int (preSum (numAt xs) xs.size) t') { s with heap := h', toks := tk }) :
    wpAny (model prog w) A (call (.builtin "sum") [.ref l]) Q E s := by
  have hlt : l < s.heap.objs.size := by obtain ⟨_, e, _⟩ := hl; exact Heap.lt_size e
  refine call_sum_walkG (wpAny_pyIter_tuple hl ?_)
  refine ⟨_, [_, l], [_], _, _, _, numAt xs, rfl, Walks.tuple (A := A.in1) hh _ l (Nat.ne_of_lt hlt) (intItems xs), ⟨⟨_, Heap.get?_push_size _ rfl, rfl, rfl⟩, hl.push _⟩, fun c hc => ?_, (fun _ _ => intItems_at), fun h' tk t' hk => ?_⟩
  · show c < (s.heap.push _).objs.size
    rw [Heap.size_push]
    rcases List.mem_cons.mp hc with rfl | hc
    · exact Nat.lt_succ_self _
    · rcases List.mem_cons.mp hc with rfl | hc
      · exact Nat.lt_succ_of_lt hlt
      · cases hc
  · have := h h' tk t' fun b o e => hk b o (fun hm => by
      rcases List.mem_cons.mp hm with e1 | hm
      · exact absurd (e1 ▸ Heap.lt_size e) (Nat.lt_irrefl _)
      · cases hm) (Heap.get?_push_of_some _ e)
    simpa [intItems] using this
def rSum1 (K : PySem.W.Frag) : List V → Hp → VK → Prop := fun vs H Q => ∃ (a : Addr) (ns : List Int), vs = [V.ref a] ∧ (SqL K H a (ns.map V.int) ∨ SqT K H a (ns.map V.int)) ∧ Q (.int ns.sum) H
theorem cl_sum (hc : X.calm = true) : CallR X (.builtin "sum") (rSum1 X.K) := by
  intro pins s σ H vs us Q I r h
  obtain ⟨a, ns, rfl, hs | hs, q⟩ := h
  · exact cr_sum hc pins s σ H _ us Q I r ⟨a, ns, rfl, hs, q⟩
  · obtain ⟨its, rv, hl, _⟩ := I.tuple hs
    rw [Vals.ref1 r]
    have hi := rv.ints
    obtain ⟨xs, e⟩ := hi.allInts.items
    have hn : numsOf (intItems xs).toList = ns := by rw [← e]; exact hi.numsOf
    rw [nums_intItems] at hn
    have hl' : s.heap.IsTuple a (intItems xs) := by
      have z : s.heap.IsTuple a its.toArray := hl
      rw [e] at z
      exact z
    refine sum_intTupG (I.ok.hd hc) hl' fun h' tk t' hk => ⟨.int _, H, I.kept hk, ⟨t', rfl⟩, ?_⟩
    rw [preSum_eq, List.take_of_length_le (by simp), hn]
    exact q
def rIndexK (K : PySem.W.Frag) : V → List V → Hp → VK → Prop := fun x vs H Q =>
  (∃ (a : Addr) (ns : List Int) (n : Int), x = .ref a ∧ vs = [.int n] ∧ SqL K H a (ns.map V.int) ∧ n ∈ ns ∧ Q (.int (ns.idxOf n : Nat)) H) ∨
  (∃ (a : Addr) (bs : List Bool) (b : Bool), x = .ref a ∧ vs = [.bl b] ∧ SqL K H a (bs.map V.bl) ∧ b ∈ bs ∧ Q (.int (bs.idxOf b : Nat)) H)
theorem mt_indexK (hu : X.A.units + 64 < cLine) : MtR X "list.index" (rIndexK X.K) := by
  intro pins s σ H x xs v us Q I rx rxs h
  rcases h with ⟨a, ns, n, rfl, rfl, hs, hm, q⟩ | ⟨a, ns, n, rfl, rfl, hs, hm, q⟩
  · cases rx
    obtain ⟨u, rfl, t, rfl⟩ := vals1 rxs
    obtain ⟨its, rv, hl, hz⟩ := I.list hs
    rw [List.length_map] at hz
    exact PySem.W.index_list_datum (α := Int) hl.isList (reads_ints I rv) ⟨[], .int n t⟩ (by show X.A.units + 1 + 0 < cLine; omega) hz hm ⟨.int _, H, I.tok _, ⟨_, rfl⟩, q⟩
  · cases rx
    obtain ⟨u, rfl, ru⟩ := vals1 rxs
    cases ru
    obtain ⟨its, rv, hl, hz⟩ := I.list hs
    rw [List.length_map] at hz
    exact PySem.W.index_list_datum (α := Bool) hl.isList (reads_bls I rv) ⟨[], .bool n⟩ (by show X.A.units + 1 + 0 < cLine; omega) hz hm ⟨.int _, H, I.tok _, ⟨_, rfl⟩, q⟩
def rCountK (K : PySem.W.Frag) : V → List V → Hp → VK → Prop := fun x vs H Q =>
  ∃ (a : Addr) (bs : List Bool) (b : Bool), x = .ref a ∧ vs = [.bl b] ∧ SqL K H a (bs.map V.bl) ∧ Q (.int ((bs.countP fun y => decide (y = b) : Nat) : Int)) H
theorem mt_countK (hu : X.A.units + 64 < cLine) : MtR X "list.count" (rCountK X.K) := by
  intro pins s σ H x xs v us Q I rx rxs h
  obtain ⟨a, ns, n, rfl, rfl, hs, q⟩ := h
  cases rx
  obtain ⟨u, rfl, ru⟩ := vals1 rxs
  cases ru
  obtain ⟨its, rv, hl, hz⟩ := I.list hs
  exact PySem.W.count_list_datum (α := Bool) hl.isList (by simpa using reads_bls I rv) ⟨[], .bool n⟩ (by show X.A.units + 1 + 0 < cLine; omega) ⟨.int _, H, I.tok _, ⟨_, rfl⟩, q⟩
end
section
variable {τ : List Sl} {ta tb te tl to : TE} {tt : TT} {a b d : D} {ds : List D}
theorem rc_max1 {ns : List Int} (h : ns ≠ []) : Rc K (rMax1 K) [.list (ns.map PyData.int)] (.int (maxL ns)) := fun O H xs dom r Q q => by
  obtain ⟨v, rfl, r1⟩ := dps1 r
  obtain ⟨p, ys, rfl, hq, ra⟩ := dp_lst r1
  rw [dps_ints ra] at hq
  exact ⟨p, ns, rfl, sql_same del_same hq, List.length_pos_iff.mpr h, fun m hm hg => by rw [maxL_of hm hg]; exact q _ H (Same.refl H) (.int _)⟩
def optD (o : Option Int) : D := match o with
  | none => .none
  | some i => .int i
theorem ev_maxD {ns : List Int} {e : D} (ha : Ev K ta τ (.list (ns.map PyData.int))) (hb : Ev K tb τ e) : Ev K (tCKw (rMaxD K) (tCons ta tNil) (tCons tb tNil)) τ (if ns = [] then e else .int (maxL ns)) := fun O H σ s Q q =>
  ha O H σ s _ fun v H1 e1 r1 => hb O H1 σ (s.grow e1) _ fun w H2 e2 r2 => by
    obtain ⟨p, ys, rfl, hq, ra⟩ := dp_lst r1
    rw [dps_ints ra] at hq
    refine ⟨p, ns, w, rfl, rfl, sql_same (del_same.trans e2) hq, fun h0 => ?_, fun m hm hg => ?_⟩
    · rw [if_pos h0] at q
      exact q w H2 (e1.trans e2) r2
    · rw [if_neg (fun e => by rw [e] at hm; cases hm)] at q
      rw [maxL_of hm hg]
      exact q _ H2 (e1.trans e2) (.int _)
theorem rc_sumL {ns : List Int} : Rc K (rSum1 K) [.list (ns.map PyData.int)] (.int ns.sum) := fun O H xs dom r Q q => by
  obtain ⟨v, rfl, r1⟩ := dps1 r
  obtain ⟨p, ys, rfl, hq, ra⟩ := dp_lst r1
  rw [dps_ints ra] at hq
  exact ⟨p, ns, rfl, .inl (sql_same del_same hq), q _ H (Same.refl H) (.int _)⟩
theorem rc_sumT {ns : List Int} : Rc K (rSum1 K) [.tuple (ns.map PyData.int)] (.int ns.sum) := fun O H xs dom r Q q => by
  obtain ⟨v, rfl, r1⟩ := dps1 r
  obtain ⟨p, ys, rfl, hq, ra⟩ := dp_tup r1
  rw [dps_ints ra] at hq
  exact ⟨p, ns, rfl, .inr (sqt_same del_same hq), q _ H (Same.refl H) (.int _)⟩
theorem tyv_lst {H : Hp} {p : Addr} {xs : List V} (h : SqL K H p xs) : tyV K "list" (.ref p) H := by
  refine .inl ⟨rfl, xs, ?_⟩
  exact h
theorem ev_index {ns : List Int} {n : Int} (ha : Ev K to τ (.list (ns.map PyData.int))) (hb : Ev K te τ (.int n)) (hm : n ∈ ns) : Ev K (tBM K "list" (rIndexK K) to (tCons te tNil)) τ (.int ((ns.idxOf n : Nat) : Int)) := fun O H σ s Q q =>
  ha O H σ s _ fun v H1 e1 r1 => by
    obtain ⟨p, ys, rfl, hq, ra⟩ := dp_lst r1
    rw [dps_ints ra] at hq
    refine ⟨tyv_lst (sql_same del_same hq), hb O H1 σ (s.grow e1) _ fun w H2 e2 r2 => .inl ⟨p, ns, n, rfl, by rw [dp_int r2], sql_same (del_same.trans e2) hq, hm, q _ H2 (e1.trans e2) (.int _)⟩⟩
theorem ev_indexB {ns : List Bool} {n : Bool} (ha : Ev K to τ (.list (ns.map PyData.bool))) (hb : Ev K te τ (.bool n)) (hm : n ∈ ns) : Ev K (tBM K "list" (rIndexK K) to (tCons te tNil)) τ (.int ((ns.idxOf n : Nat) : Int)) := fun O H σ s Q q =>
  ha O H σ s _ fun v H1 e1 r1 => by
    obtain ⟨p, ys, rfl, hq, ra⟩ := dp_lst r1
    rw [dps_bls ra] at hq
    refine ⟨tyv_lst (sql_same del_same hq), hb O H1 σ (s.grow e1) _ fun w H2 e2 r2 => .inr ⟨p, ns, n, rfl, by rw [dp_bl r2], sql_same (del_same.trans e2) hq, hm, q _ H2 (e1.trans e2) (.int _)⟩⟩
theorem ev_countB {ns : List Bool} {n : Bool} (ha : Ev K to τ (.list (ns.map PyData.bool))) (hb : Ev K te τ (.bool n)) : Ev K (tBM K "list" (rCountK K) to (tCons te tNil)) τ (.int ((ns.countP fun y => decide (y = n) : Nat) : Int)) := fun O H σ s Q q =>
  ha O H σ s _ fun v H1 e1 r1 => by
    obtain ⟨p, ys, rfl, hq, ra⟩ := dp_lst r1
    rw [dps_bls ra] at hq
    refine ⟨tyv_lst (sql_same del_same hq), hb O H1 σ (s.grow e1) _ fun w H2 e2 r2 => ⟨p, ns, n, rfl, by rw [dp_bl r2], sql_same (del_same.trans e2) hq, q _ H2 (e1.trans e2) (.int _)⟩⟩
theorem inV_int {m : Int} {ns : List Int} : inV (.int m) (ns.map V.int) = decide (m ∈ ns) := by
  unfold inV
  induction ns with
  | nil => rfl
  | cons n r ih =>
    rw [List.map_cons, List.any_cons, ih]
    have e : eqV (.int n) (.int m) = decide (n = m) := by
      show (n == m) = decide (n = m)
      exact Bool.beq_eq_decide_eq n m
    rw [e]
    by_cases h : n = m
    · subst h; simp
    · simp [h, Ne.symm h]
theorem flat_ints {ns : List Int} : (ns.map V.int).all flatV = true := by
  rw [List.all_eq_true]
  intro x hx
  obtain ⟨n, _, rfl⟩ := List.mem_map.mp hx
  rfl
theorem rv_inL {neg : Bool} {m : Int} {ns : List Int} : Rv K (rIn K neg) (.int m) (.list (ns.map PyData.int)) (.bool (if neg then !decide (m ∈ ns) else decide (m ∈ ns))) := fun O H x y dom hx hy Q q => by
  obtain ⟨p, ys, rfl, hq, ra⟩ := dp_lst hy
  rw [dps_ints ra] at hq
  rw [dp_int hx]
  exact ⟨p, ns.map V.int, rfl, .inl (sql_same del_same hq), rfl, flat_ints, by rw [inV_int]; exact q _ H (Same.refl H) (.bl _)⟩
theorem rv_inT {neg : Bool} {m : Int} {ns : List Int} : Rv K (rIn K neg) (.int m) (.tuple (ns.map PyData.int)) (.bool (if neg then !decide (m ∈ ns) else decide (m ∈ ns))) := fun O H x y dom hx hy Q q => by
  obtain ⟨p, ys, rfl, hq, ra⟩ := dp_tup hy
  rw [dps_ints ra] at hq
  rw [dp_int hx]
  exact ⟨p, ns.map V.int, rfl, .inr (sqt_same del_same hq), rfl, flat_ints, by rw [inV_int]; exact q _ H (Same.refl H) (.bl _)⟩
theorem rv_in1L {m : Int} {ns : List Int} : Rv K (rIn K false) (.int m) (.list (ns.map PyData.int)) (.bool (decide (m ∈ ns))) := rv_inL
theorem rv_in1T {m : Int} {ns : List Int} : Rv K (rIn K false) (.int m) (.tuple (ns.map PyData.int)) (.bool (decide (m ∈ ns))) := rv_inT
theorem rv_in0L {m : Int} {ns : List Int} : Rv K (rIn K true) (.int m) (.list (ns.map PyData.int)) (.bool (!decide (m ∈ ns))) := rv_inL
theorem rv_in0T {m : Int} {ns : List Int} : Rv K (rIn K true) (.int m) (.tuple (ns.map PyData.int)) (.bool (!decide (m ∈ ns))) := rv_inT

theorem lc_turn {g : D → Option D} {O : List Addr} {H1 H' : Hp} {σ : L2.St} {Dl : Addr} {vs : List V} {es : List D} {j : Nat} {x : V} {e : D} {R : Hp → Prop} (S : SokE K O H1 σ τ) (hD : H1 Dl = none) (e1 : Same H1 H') (hv : H' Dl = some (.lst vs)) (rv : DpAll K (del (Dl :: O) H') vs es) (hz : es.length < 100000)
    (rx : Dp K (del O H1) x e) (ht : EvT K tt (τ.set j (.im e)) (g e).isSome) (he : ∀ r, g e = some r → Ev K te (τ.set j (.im e)) r)
    (k : ∀ ws H2, Same H1 H2 → H2 Dl = some (.lst ws) → DpAll K (del (Dl :: O) H2) ws (es ++ (g e).toList) → R H2) :
    wipe ((wipe σ [j]).set j (some x)) [j] = wipe σ [j] ∧ tt ((wipe σ [j]).set j (some x)) H' fun b H3 => if b = true then te ((wipe σ [j]).set j (some x)) H3 fun y H4 => ∃ acc, H4 Dl = some (.lst acc) ∧ acc.length < sizeLine ∧ R (upd H4 Dl (.lst (acc ++ [y]))) else R H3 := by
  have w1 : (wipe σ [j]).set j (some x) = σ.set j (some x) := by
    show (σ.set j none).set j (some x) = _
    rw [List.set_set]
  have up : Same (del O H1) (del (Dl :: O) H') := fun a o q => by
    by_cases ha : a ∈ O
    · rw [del_in ha] at q; cases q
    · rw [del_out ha] at q
      rw [del_out (by simp [ha, ne_of_none q hD])]
      exact e1 a o q
  refine ⟨?_, ?_⟩
  · show ((wipe σ [j]).set j (some x)).set j none = σ.set j none
    rw [w1, List.set_set]
  · rw [w1]
    have S' : SokE K (Dl :: O) H' (σ.set j (some x)) (τ.set j (.im e)) := by
      refine ⟨fun a ha z => ?_, fun a ha => List.mem_cons_of_mem _ (S.sub a ((owns_set_sub rfl).subset ha)), slsok_set (show SlOk K _ H' (some x) (.im e) from ⟨x, rfl, dp_same up rx⟩) j (slsok_up hD e1 S.sl)⟩
      rcases List.mem_cons.mp ha with h | h
      · rw [h, hv] at z; cases z
      · exact (S.grow e1).dom a h z
    refine ht _ H' _ S' _ fun H3 e3 => ?_
    cases hg : g e with
    | none =>
      rw [hg] at k
      refine iteF (k vs H3 (e1.trans e3) (e3 _ _ hv) ?_)
      show DpAll K _ vs (es ++ [])
      rw [List.append_nil]
      exact dps_same (del_grow e3) rv
    | some r =>
      rw [hg] at k
      refine iteT (he r hg _ H3 _ (S'.grow e3) _ fun y H4 e4 ry => ⟨vs, e4 _ _ (e3 _ _ hv), ?_, k _ _ (fun a o q => ?_) upd_same ?_⟩)
      · rw [dps_len rv]
        exact Nat.lt_of_lt_of_le hz (by decide)
      · rw [upd_ne (ne_of_none q hD)]
        exact ((e1.trans e3).trans e4) a o q
      · rw [del_upd_in List.mem_cons_self]
        exact dps_app (dps_same (del_grow (e3.trans e4)) rv) (.cons ry .nil)
theorem fm_take {g : D → Option D} {ds : List D} {i : Nat} {e : D} (h : ds[i]? = some e) : (ds.take (i + 1)).filterMap g = (ds.take i).filterMap g ++ (g e).toList := by
  rw [List.take_add_one, h, List.filterMap_append]
  congr 1
theorem fm_none {ds : List D} : ds.filterMap (fun _ => (none : Option D)) = [] := by
  induction ds with
  | nil => rfl
  | cons d ds ih => rw [List.filterMap_cons_none rfl, ih]
theorem fm_some {g : D → D} {ds : List D} : ds.filterMap (fun d => some (g d)) = ds.map g := by
  rw [← List.filterMap_eq_map]
  rfl
theorem fm_len {g : D → Option D} {ds : List D} {i n : Nat} (h : ds.length ≤ n) : ((ds.take i).filterMap g).length ≤ n := by
  have h1 := List.length_filterMap_le g (ds.take i)
  rw [List.length_take] at h1
  omega
/-- [e for x in xs if t]: g says which are taken, and what becomes of them -/
theorem en_lc {j : Nat} (g : D → Option D) (h : Ev K tl τ d) (hs : IsSeq d ds) (hz : ds.length ≤ 50000) (ht : ∀ e ∈ ds, EvT K tt (τ.set j (.im e)) (g e).isSome) (he : ∀ e ∈ ds, ∀ r, g e = some r → Ev K te (τ.set j (.im e)) r) :
    EvN K (tLc (iSeq K tl) (gName j) tt te [j]) τ (ds.filterMap g) := fun O H σ s Q q =>
  h O H σ s _ fun v H1 e1 r1 => by
    have S := s.grow e1
    rcases hs with rfl | rfl
    · obtain ⟨a, xs, rfl, hq, ra⟩ := dp_lst r1
      refine ⟨a, rfl, .inl ⟨⟨xs, sql_same del_same hq⟩, fun Dl hD => lc_list (xs := xs) (fun i H' => Same H1 H' ∧ ∃ vs, H' Dl = some (.lst vs) ∧ DpAll K (del (Dl :: O) H') vs ((ds.take i).filterMap g)) ⟨same_upd hD, [], upd_same, .nil⟩ (fun i H' _ p => sql_same (del_same.trans p.1) hq) (fun i x H' hi p => ?_) (fun H' p => ?_)⟩⟩
      · obtain ⟨e2, vs, hv, rv⟩ := p
        obtain ⟨e, hd, rx⟩ := dps_get' ra hi
        refine lc_turn (g := g) S hD e2 hv rv (Nat.lt_of_le_of_lt (fm_len hz) (by decide)) rx (ht e (List.mem_of_getElem? hd)) (he e (List.mem_of_getElem? hd)) fun ws H2 e3 h3 r3 => ⟨e3, ws, h3, ?_⟩
        rw [fm_take hd]
        exact r3
      · obtain ⟨e2, vs, hv, rv⟩ := p
        rw [dps_len ra, List.take_length] at rv
        exact q Dl vs H' (e1.free hD) (e1.trans e2) hv rv
    · obtain ⟨a, xs, rfl, hq, ra⟩ := dp_tup r1
      refine ⟨a, rfl, .inr ⟨⟨xs, sqt_same del_same hq⟩, fun Dl hD => lc_tup (xs := xs) (fun i H' => Same H1 H' ∧ ∃ vs, H' Dl = some (.lst vs) ∧ DpAll K (del (Dl :: O) H') vs ((ds.take i).filterMap g)) ⟨same_upd hD, [], upd_same, .nil⟩ (fun i H' _ p => sqt_same (del_same.trans p.1) hq) (fun i x H' hi p => ?_) (fun H' p => ?_)⟩⟩
      · obtain ⟨e2, vs, hv, rv⟩ := p
        obtain ⟨e, hd, rx⟩ := dps_get' ra hi
        refine lc_turn (g := g) S hD e2 hv rv (Nat.lt_of_le_of_lt (fm_len hz) (by decide)) rx (ht e (List.mem_of_getElem? hd)) (he e (List.mem_of_getElem? hd)) fun ws H2 e3 h3 r3 => ⟨e3, ws, h3, ?_⟩
        rw [fm_take hd]
        exact r3
      · obtain ⟨e2, vs, hv, rv⟩ := p
        rw [dps_len ra, List.take_length] at rv
        exact q Dl vs H' (e1.free hD) (e1.trans e2) hv rv
/-- .. over range(n) -/
def rangeD (n : Nat) : List D := (List.range n).map fun (i : Nat) => PyData.int (i : Int)
theorem rangeD_get {n i : Nat} (h : i < n) : (rangeD n)[i]? = some (.int (i : Int)) := by
  unfold rangeD
  rw [List.getElem?_map, List.getElem?_range h]
  rfl
theorem en_lcR {ta : TA} {j : Nat} {n : Int} (g : D → Option D) (h : EvA K ta τ [.int n]) (hz : -100000 ≤ n ∧ n ≤ 50000) (ht : ∀ i : Nat, i < n.toNat → EvT K tt (τ.set j (.im (.int (i : Int)))) (g (.int (i : Int))).isSome) (he : ∀ i : Nat, i < n.toNat → ∀ r, g (.int (i : Int)) = some r → Ev K te (τ.set j (.im (.int (i : Int)))) r) :
    EvN K (tLc (iRng1 ta) (gName j) tt te [j]) τ ((rangeD n.toNat).filterMap g) := fun O H σ s Q q =>
  h O H σ s _ fun vs0 H1 e1 r0 => by
    have S := s.grow e1
    obtain ⟨v, rfl, r1⟩ := dps1 r0
    rw [dp_int r1]
    have hl : (rangeD n.toNat).length = n.toNat := by
      unfold rangeD
      rw [List.length_map, List.length_range]
    refine ⟨n, rfl, by omega, by omega, fun Dl hD => lc_range (lo := 0) (n := n.toNat) (fun i H' => Same H1 H' ∧ ∃ vs, H' Dl = some (.lst vs) ∧ DpAll K (del (Dl :: O) H') vs (((rangeD n.toNat).take i).filterMap g)) ⟨same_upd hD, [], upd_same, .nil⟩ (fun i H' hi p => ?_) (fun H' p => ?_)⟩
    · obtain ⟨e2, vs, hv, rv⟩ := p
      have e0 : (0 : Int) + (i : Int) = (i : Int) := Int.zero_add _
      show wipe ((wipe σ [j]).set j (some (.int ((0 : Int) + (i : Int))))) [j] = wipe σ [j] ∧ tt ((wipe σ [j]).set j (some (.int ((0 : Int) + (i : Int))))) H' fun b H3 => if b = true then te ((wipe σ [j]).set j (some (.int ((0 : Int) + (i : Int))))) H3 fun y H4 => ∃ acc, H4 Dl = some (.lst acc) ∧ acc.length < sizeLine ∧ _ else _
      rw [e0]
      refine lc_turn (g := g) S hD e2 hv rv (Nat.lt_of_le_of_lt (fm_len (by omega : _ ≤ 50000)) (by decide)) (.int (i : Int)) (ht i hi) (he i hi) fun ws H2 e3 h3 r3 => ⟨e3, ws, h3, ?_⟩
      rw [fm_take (rangeD_get hi)]
      exact r3
    · obtain ⟨e2, vs, hv, rv⟩ := p
      rw [List.take_of_length_le (by omega)] at rv
      exact q Dl vs H' (e1.free hD) (e1.trans e2) hv rv
theorem et_yes : EvT K tYes τ true := fun O H σ s Q q => q H (Same.refl H)
end
def Shp (n : Nat) (d : D) : Prop := d.canLay0 = true ∧ d.depth ≤ n
theorem shp_int {n : Nat} {i : Int} : Shp n (.int i) := ⟨rfl, Nat.zero_le _⟩
theorem shp_bool {n : Nat} {i : Bool} : Shp n (.bool i) := ⟨rfl, Nat.zero_le _⟩
theorem shp_none {n : Nat} : Shp n .none := ⟨rfl, Nat.zero_le _⟩
theorem shp_str {n : Nat} {x : Str} (h : PyData.canLay0 (.str x) = true) : Shp n (.str x) := ⟨h, Nat.zero_le _⟩
theorem shp_all {n : Nat} : ∀ {ds : List D}, (∀ e ∈ ds, Shp n e) → PyData.canLayAll0 ds = true ∧ PyData.depthAll ds ≤ n
  | [], _ => ⟨rfl, Nat.zero_le _⟩
  | d :: ds, h => by
    obtain ⟨h1, h2⟩ := shp_all (ds := ds) fun e he => h e (List.mem_cons_of_mem _ he)
    obtain ⟨h3, h4⟩ := h d List.mem_cons_self
    refine ⟨?_, ?_⟩
    · show (d.canLay0 && PyData.canLayAll0 ds) = true
      rw [h1, h3]
      rfl
    · show max d.depth (PyData.depthAll ds) ≤ n
      omega
theorem shp_list {n : Nat} {ds : List D} (h : ∀ e ∈ ds, Shp n e) : Shp (n + 1) (.list ds) := ⟨(shp_all h).1, Nat.succ_le_succ (shp_all h).2⟩
theorem shp_tuple {n : Nat} {ds : List D} (h : ∀ e ∈ ds, Shp n e) : Shp (n + 1) (.tuple ds) := ⟨(shp_all h).1, Nat.succ_le_succ (shp_all h).2⟩
theorem shp_ints {n : Nat} {l : List Int} : ∀ e ∈ l.map PyData.int, Shp n e := fun e he => by
  obtain ⟨i, _, rfl⟩ := List.mem_map.mp he
  exact shp_int
theorem shp_mono {n m : Nat} {d : D} (h : Shp n d) (hm : n ≤ m) : Shp m d := ⟨h.1, Nat.le_trans h.2 hm⟩
theorem Shp.shaped {n : Nat} {d : D} (h : Shp n d) (hn : n ≤ 64) : SeqAt.shaped d = true := by
  unfold SeqAt.shaped
  rw [h.1, decide_eq_true (Nat.le_trans h.2 hn)]
  rfl
theorem Shp.eqv {n : Nat} {d : D} (h : Shp n d) : PyData.eqv d d = true := SeqAt.eqv_refl d h.1
theorem rv_eqS {n : Nat} {d : D} (h : Shp n d) (hn : n ≤ 64) : Rv K (rEqD K) d d (.bool true) := by
  have := rv_eq (K := K) (h.shaped hn) (h.shaped hn)
  rw [h.eqv] at this
  exact this
theorem rv_neS {n : Nat} {d : D} (h : Shp n d) (hn : n ≤ 64) : Rv K (rNeD K) d d (.bool false) := by
  have := rv_ne (K := K) (h.shaped hn) (h.shaped hn)
  rw [h.eqv] at this
  exact this
end GW

namespace GW
open PySem PySem.Spec PyProof.Rows L2
variable {K : PySem.W.Frag}
def shD (r : Rat) : D := .tuple [.int r.num, .int (r.den : Int)]
theorem gcd_step (a b : Int) (ha : 0 ≤ a) (hb : 0 ≤ b) : Int.gcd b (a % b) = Int.gcd a b := by
  obtain ⟨m, rfl⟩ := Int.eq_ofNat_of_zero_le ha
  obtain ⟨n, rfl⟩ := Int.eq_ofNat_of_zero_le hb
  rw [← Int.natCast_emod]
  show Nat.gcd n (m % n) = Nat.gcd m n
  rw [Nat.gcd_comm m n, Nat.gcd_rec n m, Nat.gcd_comm]
theorem num_fr {t b : Int} (hb : 0 < b) : (Rat.divInt t b).num = t / ((Int.gcd t b : Nat) : Int) := by
  rw [Rat.num_divInt, Int.sign_eq_one_of_pos hb, Int.one_mul, Int.gcd_comm]
theorem den_fr {t b : Int} (hb : 0 < b) : (((Rat.divInt t b).den : Nat) : Int) = b / ((Int.gcd t b : Nat) : Int) := by
  rw [Rat.den_divInt, if_neg (by omega), Int.gcd_comm, Int.natCast_ediv, Int.natAbs_of_nonneg (Int.le_of_lt hb)]
theorem gcd_pos {t b : Int} (hb : 0 < b) : 0 < ((Int.gcd t b : Nat) : Int) := by
  have := Int.gcd_pos_of_ne_zero_right t (show b ≠ 0 by omega)
  omega
theorem gcd_le {t b : Int} (hb : 0 < b) : ((Int.gcd t b : Nat) : Int) ≤ b := Int.le_of_dvd hb (Int.gcd_dvd_right t b)
theorem shD_fr {t b : Int} (hb : 0 < b) : shD (Rat.divInt t b) = .tuple [.int (t / ((Int.gcd t b : Nat) : Int)), .int (b / ((Int.gcd t b : Nat) : Int))] := by
  unfold shD
  rw [num_fr hb, den_fr hb]
theorem gcd_abs (t b : Int) : Int.gcd (if t < 0 then -t else t) b = Int.gcd t b := by
  split
  · exact Int.neg_gcd
  · rfl
/-- below 2 ^ 4000 -/
def Sm (x : Int) : Prop := x.natAbs < 2 ^ 4000
def Sz (r : Rat) : Prop := Sm r.num ∧ Sm (r.den : Int)
theorem natAbs_ediv_le (t g : Int) : (t / g).natAbs ≤ t.natAbs := by
  exact Int.natAbs_ediv_le_natAbs t g
theorem Sm.fr {t b : Int} (hb : 0 < b) (h1 : Sm t) (h2 : Sm b) : Sz (Rat.divInt t b) := by
  constructor
  · rw [num_fr hb]
    exact Nat.lt_of_le_of_lt (natAbs_ediv_le _ _) h1
  · rw [den_fr hb]
    exact Nat.lt_of_le_of_lt (natAbs_ediv_le _ _) h2
theorem Sm.of {x : Int} {n : Nat} (h : x.natAbs ≤ n) (hn : n < 2 ^ 4000) : Sm x := Nat.lt_of_le_of_lt h hn
theorem sm_small {x : Int} (h1 : -1000000000000000000 ≤ x) (h2 : x ≤ 1000000000000000000) : Sm x :=
  Nat.lt_of_le_of_lt (show x.natAbs ≤ 1000000000000000000 by omega) (Nat.lt_of_lt_of_le (show 1000000000000000000 < 2 ^ 60 by decide) (Nat.pow_le_pow_right (by decide) (by decide)))
theorem CM.sm {i j : Int} (h1 : Sm i) (h2 : Sm j) : CM i j := .inr (wide_mul h1 h2 (by decide) (by decide) (by decide))
theorem CM.left {i j : Int} (h1 : -(2 ^ 64) < i) (h2 : i < 2 ^ 64) : CM i j := .inl (.inl ⟨h1, h2⟩)
theorem CM.right {i j : Int} (h1 : -(2 ^ 64) < j) (h2 : j < 2 ^ 64) : CM i j := .inl (.inr ⟨h1, h2⟩)
theorem div_small {i j : Int} (h1 : 0 < j) (h2 : j < 2 ^ 64) : CDivW i j := wide_div (b := 64) h1 (by omega) (by decide) (by decide)
theorem div_8000 {i j : Int} (h1 : 0 < j) (h2 : j.natAbs < 2 ^ 8000) : CDivW i j := wide_div (b := 8000) h1 h2 (by decide) (by decide)
theorem Sm.mul {x y : Int} (h1 : Sm x) (h2 : Sm y) : (x * y).natAbs < 2 ^ 8000 := by
  have := wide_lt h1 h2
  exact this

abbrev sp_divisor (K : PySem.W.Frag) : Sp := spR K 2 fun ds d => ∃ a b : Int, ds = [.int a, .int b] ∧ 0 ≤ a ∧ 0 ≤ b ∧ d = .int ((Int.gcd a b : Nat) : Int)
/-- bottoms below 2 ^ 8000 -/
abbrev sp_share (K : PySem.W.Frag) : Sp := spR K 2 fun ds d => ∃ t b : Int, ds = [.int t, .int b] ∧ 0 < b ∧ b.natAbs < 2 ^ 8000 ∧ d = shD (Rat.divInt t b)
abbrev sp_plus (K : PySem.W.Frag) : Sp := spR K 2 fun ds d => ∃ r q : Rat, ds = [shD r, shD q] ∧ Sz r ∧ Sz q ∧ d = shD (r + q)
abbrev sp_times (K : PySem.W.Frag) : Sp := spR K 3 fun ds d => ∃ (r : Rat) (n o : Int), ds = [shD r, .int n, .int o] ∧ Sz r ∧ Sm n ∧ Sm o ∧ 0 < o ∧ d = shD (r * Rat.divInt n o)
abbrev sp_less (K : PySem.W.Frag) : Sp := spR K 2 fun ds d => ∃ r q : Rat, ds = [shD r, shD q] ∧ Sz r ∧ Sz q ∧ d = .bool (decide (r < q))
/-- the script's cells -/
def cell (ns : List Int) (k : Int) : Int := if ns.length = 0 then k else ns.getD (k % (ns.length : Int)).toNat 0 + 3 * (k / (ns.length : Int))
abbrev sp_l_cell_at (K : PySem.W.Frag) : Sp := spR K 2 fun ds d => ∃ (ns : List Int) (k : Int), ds = [.list (ns.map PyData.int), .int k] ∧ ns.length ≤ 63 ∧ d = .int (cell ns k)
abbrev sp_l_whole (K : PySem.W.Frag) : Sp := spR K 1 fun ds d => ∃ i : Int, ds = [.int i] ∧ d = .bool true
abbrev sp_l_share (K : PySem.W.Frag) : Sp := spR K 1 fun ds d => ∃ i j : Int, ds = [.tuple [.int i, .int j]] ∧ d = .bool true
abbrev sp_l_low (K : PySem.W.Frag) : Sp := spR K 2 fun ds d => ∃ t b : Int, ds = [.int t, .int b] ∧ 0 < b ∧ b.natAbs < 2 ^ 8000 ∧ d = shD (Rat.divInt t b)
def lnum (c lo hi : Int) : Int := if c % 3 = 0 then lo + c / 3 * 48271 % (hi * 10 ^ 9 - lo) else lo + c / 3 % (hi - lo + 1)
abbrev sp_l_number (K : PySem.W.Frag) : Sp := spR K 3 fun ds d => ∃ c lo hi : Int, ds = [.int c, .int lo, .int hi] ∧ 0 ≤ lo ∧ lo ≤ hi ∧ 1 ≤ hi ∧ hi ≤ 1000 ∧ d = .int (lnum c lo hi)
abbrev sp_l_right (K : PySem.W.Frag) : Sp := spR K 3 fun ds d => ∃ t b : Int, ds = [shD (Rat.divInt t b), .int t, .int b] ∧ 0 < b ∧ b.natAbs < 2 ^ 8000 ∧ d = .bool true
abbrev sp_law_k01 (K : PySem.W.Frag) : Sp := spR K 1 fun ds d => ∃ ns : List Int, ds = [.list (ns.map PyData.int)] ∧ ns.length ≤ 63 ∧ d = .bool true
theorem len_R {R : List D → D → Prop} {n : Nat} {vs : List V} {H : Hp} {Q : VK} {E : XK} (h : spR K n R vs H Q E) : vs.length = n := by
  obtain ⟨O, ds, d, _, r, ⟨q, _⟩, _⟩ := h
  rw [dps_len r, q]
theorem len_N {R : List D → List D → Prop} {n : Nat} {vs : List V} {H : Hp} {Q : VK} {E : XK} (h : spN K n R vs H Q E) : vs.length = n := by
  obtain ⟨O, ds, d, _, r, ⟨q, _⟩, _⟩ := h
  rw [dps_len r, q]
theorem law_pre {R : List D → D → Prop} {H : Hp} {a : Addr} {ns : List Int} {E : XK} (hl : ns.length ≤ 63) (hS : SqL K H a (ns.map V.int)) (hR : ∀ ns : List Int, ns.length ≤ 63 → R [.list (ns.map PyData.int)] (.bool true)) :
    spR K 1 R [.ref a] H (fun v _ => v = .bl true) E :=
  ⟨[], [.list (ns.map PyData.int)], .bool true, fun a ha => (by cases ha), .cons (.lst (by rw [del_nil]; exact hS) (ints_dps ns)) .nil, ⟨rfl, hR ns hl⟩, fun v H' _ r => dp_bl r⟩
end GW

namespace GW
open PySem PySem.Spec PyProof.Rows L2
variable {K : PySem.W.Frag}
structure Task where
  w : Int
  m : Int
  c : Int
  tries : List Int
def Task.d (t : Task) : D := .tuple [.int t.w, .int t.m, .int t.c, .tuple (t.tries.map PyData.int)]
structure Task.Ok (t : Task) : Prop where
  w1 : 1 ≤ t.w
  w2 : t.w ≤ 1000
  m1 : 1 ≤ t.m
  m2 : t.m ≤ 1000000
  c1 : 0 ≤ t.c
  c2 : t.c ≤ t.m
  n : t.tries.length ≤ 13
  tr : ∀ x ∈ t.tries, 0 ≤ x ∧ x ≤ t.m
def capd (c p : Int) : Int := if c < p then c else p
def Task.gives (t : Task) : List Int := match t.tries with
  | [] => []
  | p :: r => p :: r.map (capd t.c)
def Task.mark (t : Task) : Option Int := if t.gives = [] then none else some (maxL t.gives)
def Task.chosen (t : Task) : Option Int := if t.gives = [] then none else some ((t.gives.idxOf (maxL t.gives) : Nat) : Int)
theorem gives_eq (t : Task) : t.gives = t.tries.take 1 ++ (t.tries.drop 1).map (capd t.c) := by
  unfold Task.gives
  cases t.tries with
  | nil => rfl
  | cons p r => rfl
theorem gives_len (t : Task) : t.gives.length = t.tries.length := by
  unfold Task.gives
  cases t.tries with
  | nil => rfl
  | cons p r => simp
theorem gives_nil {t : Task} : t.gives = [] ↔ t.tries = [] := by
  rw [← List.length_eq_zero_iff, gives_len, List.length_eq_zero_iff]
theorem gives_get {t : Task} {k : Nat} {p : Int} (h : t.tries[k]? = some p) : t.gives[k]? = some (if k = 0 then p else capd t.c p) := by
  unfold Task.gives
  cases e : t.tries with
  | nil => rw [e] at h; simp at h
  | cons a r =>
    rw [e] at h
    cases k with
    | zero => simpa using h
    | succ k =>
      have h' : r[k]? = some p := by simpa using h
      simp [h']
theorem maxL_snoc {l : List Int} {y : Int} (h : l ≠ []) : maxL (l ++ [y]) = if maxL l < y then y else maxL l := by
  cases l with
  | nil => exact absurd rfl h
  | cons n r =>
    show (r ++ [y]).foldl _ n = _
    rw [List.foldl_append]
    rfl
theorem take_snoc {α : Type} {l : List α} {i : Nat} {x : α} (h : l[i]? = some x) : l.take (i + 1) = l.take i ++ [x] := by
  rw [List.take_add_one, h]
  rfl
theorem cut_to (ds : List D) (k : Nat) : cutD ds none (some (k : Int)) = ds.take k := by
  unfold cutD
  rw [HT.sIx_none, HT.sIx_nat, Nat.sub_zero, List.drop_zero, List.take_eq_take_iff]
  omega
theorem cut_from (ds : List D) (k : Nat) : cutD ds (some (k : Int)) none = ds.drop k := by
  unfold cutD
  rw [HT.sIx_none, HT.sIx_nat]
  by_cases h : k ≤ ds.length
  · rw [Nat.min_eq_left h, List.take_of_length_le (by rw [List.length_drop]; omega)]
  · rw [Nat.min_eq_right (by omega), List.drop_of_length_le (by omega : ds.length ≤ ds.length), List.drop_of_length_le (by omega : ds.length ≤ k)]
    simp
theorem cut_part (ds : List D) (a b : Nat) (h : a ≤ b) : cutD ds (some (a : Int)) (some (b : Int)) = (ds.drop a).take (b - a) := by
  unfold cutD
  rw [HT.sIx_nat, HT.sIx_nat]
  by_cases h1 : a ≤ ds.length
  · rw [Nat.min_eq_left h1, List.take_eq_take_iff, List.length_drop]
    omega
  · rw [Nat.min_eq_right (by omega), Nat.min_eq_right (by omega), List.drop_of_length_le (by omega : ds.length ≤ ds.length), List.drop_of_length_le (by omega : ds.length ≤ a)]
    simp
def sN (x : Int) : Nat → Int
  | 0 => x
  | i + 1 => (sN x i * sN x i + 48271 * sN x i + 7 * (i : Int) + 1) % 2147483647
theorem sN_bd {x : Int} (h0 : 0 ≤ x) (h1 : x < 2200000000) : ∀ i, 0 ≤ sN x i ∧ sN x i < 2200000000
  | 0 => ⟨h0, h1⟩
  | i + 1 => by
    have a := Int.emod_nonneg (sN x i * sN x i + 48271 * sN x i + 7 * (i : Int) + 1) (show (2147483647 : Int) ≠ 0 by decide)
    have b := Int.emod_lt_of_pos (sN x i * sN x i + 48271 * sN x i + 7 * (i : Int) + 1) (show (0 : Int) < 2147483647 by decide)
    show 0 ≤ (sN x i * sN x i + 48271 * sN x i + 7 * (i : Int) + 1) % 2147483647 ∧ (sN x i * sN x i + 48271 * sN x i + 7 * (i : Int) + 1) % 2147483647 < 2200000000
    omega
def stream (c : Int) (many : Nat) : List Int := (List.range many).map fun j => sN (c % 2147483647 + 48271) (j + 2)
theorem stream_len (c : Int) (many : Nat) : (stream c many).length = many := by
  unfold stream
  rw [List.length_map, List.length_range]
theorem c0_bd (c : Int) : 0 ≤ c % 2147483647 + 48271 ∧ c % 2147483647 + 48271 < 2200000000 := by
  have a := Int.emod_nonneg c (show (2147483647 : Int) ≠ 0 by decide)
  have b := Int.emod_lt_of_pos c (show (0 : Int) < 2147483647 by decide)
  omega
theorem stream_bd {c : Int} {many : Nat} {x : Int} (h : x ∈ stream c many) : 0 ≤ x := by
  obtain ⟨j, _, rfl⟩ := List.mem_map.mp h
  exact (sN_bd (c0_bd c).1 (c0_bd c).2 _).1
def pick (l : List Int) (i : Int) : Int := l.getD i.toNat 0
theorem pick_at {l : List Int} {i : Int} (h0 : 0 ≤ i) (h1 : i < (l.length : Int)) : atI (l.map PyData.int) i = some (.int (pick l i)) := by
  obtain ⟨j, rfl⟩ := Int.eq_ofNat_of_zero_le h0
  have hj : j < l.length := by omega
  refine atI_nat ?_
  unfold pick
  rw [List.getElem?_map, List.getElem?_eq_getElem hj, List.getD_eq_getElem?_getD, Int.toNat_natCast, List.getElem?_eq_getElem hj]
  rfl
def tWeight (x : Int) : Int := if x / 5 % 5 = 0 then 1 + x / 25 % 1000 else 1 + x % 5
def tMost (x : Int) : Int := pick [1, 10, 100, 1 + x / 6 % 20, 1 + x / 6 % 1000000, 1000000] (x % 6)
def tCap (m x : Int) : Int := pick [m, 0, m / 2, x / 4 % (m + 1)] (x % 4)
def tMany (x : Int) : Int := pick [0, 1, 1, 2, 3, 1, 0, 12, 11] (x % 9)
def tTry (m c x : Int) : Int := pick [x / 5 % (m + 1), x / 5 % (m + 1), 0, m, c] (x % 5)
/-- the drawn task of the numbers xs (sixteen, none below 0) -/
def taskBy (xs : List Int) : Task :=
  let m := tMost (pick xs 1)
  let c := tCap m (pick xs 2)
  { w := tWeight (pick xs 0), m := m, c := c, tries := (List.range (tMany (pick xs 3)).toNat).map fun (k : Nat) => tTry m c (pick xs (4 + (k : Int))) }
theorem pick_mem {l : List Int} {i : Int} {P : Int → Prop} (h : ∀ x ∈ l, P x) (h0 : 0 ≤ i) (h1 : i < (l.length : Int)) : P (pick l i) := by
  unfold pick
  have hj : i.toNat < l.length := by omega
  rw [List.getD_eq_getElem?_getD, List.getElem?_eq_getElem hj]
  exact h _ (List.getElem_mem hj)
theorem mod_bd (x : Int) {k : Int} (h : 0 < k) : 0 ≤ x % k ∧ x % k < k := ⟨Int.emod_nonneg x (by omega), Int.emod_lt_of_pos x h⟩
theorem tWeight_bd (x : Int) : 1 ≤ tWeight x ∧ tWeight x ≤ 1000 := by
  unfold tWeight
  have a := mod_bd (x / 25) (show (0 : Int) < 1000 by decide)
  have b := mod_bd x (show (0 : Int) < 5 by decide)
  split <;> omega
theorem tMost_bd (x : Int) : 1 ≤ tMost x ∧ tMost x ≤ 1000000 := by
  unfold tMost
  have a := mod_bd (x / 6) (show (0 : Int) < 20 by decide)
  have b := mod_bd (x / 6) (show (0 : Int) < 1000000 by decide)
  have c := mod_bd x (show (0 : Int) < 6 by decide)
  refine pick_mem (P := fun z => 1 ≤ z ∧ z ≤ 1000000) (fun z hz => ?_) c.1 c.2
  simp only [List.mem_cons, List.not_mem_nil, or_false] at hz
  rcases hz with h | h | h | h | h | h <;> omega
theorem tCap_bd {m x : Int} (h1 : 1 ≤ m) : 0 ≤ tCap m x ∧ tCap m x ≤ m := by
  unfold tCap
  have a := mod_bd (x / 4) (show (0 : Int) < m + 1 by omega)
  have c := mod_bd x (show (0 : Int) < 4 by decide)
  refine pick_mem (P := fun z => 0 ≤ z ∧ z ≤ m) (fun z hz => ?_) c.1 c.2
  simp only [List.mem_cons, List.not_mem_nil, or_false] at hz
  rcases hz with h | h | h | h <;> omega
theorem tMany_bd (x : Int) : 0 ≤ tMany x ∧ tMany x ≤ 12 := by
  unfold tMany
  have c := mod_bd x (show (0 : Int) < 9 by decide)
  refine pick_mem (P := fun z => 0 ≤ z ∧ z ≤ 12) (fun z hz => ?_) c.1 c.2
  simp only [List.mem_cons, List.not_mem_nil, or_false] at hz
  rcases hz with h | h | h | h | h | h | h | h | h <;> omega
theorem tTry_bd {m c x : Int} (h1 : 1 ≤ m) (h2 : 0 ≤ c) (h3 : c ≤ m) : 0 ≤ tTry m c x ∧ tTry m c x ≤ m := by
  unfold tTry
  have a := mod_bd (x / 5) (show (0 : Int) < m + 1 by omega)
  have d := mod_bd x (show (0 : Int) < 5 by decide)
  refine pick_mem (P := fun z => 0 ≤ z ∧ z ≤ m) (fun z hz => ?_) d.1 d.2
  simp only [List.mem_cons, List.not_mem_nil, or_false] at hz
  rcases hz with h | h | h | h | h <;> omega
theorem taskBy_n (xs : List Int) : (taskBy xs).tries.length ≤ 12 := by
  have := tMany_bd (pick xs 3)
  show ((List.range (tMany (pick xs 3)).toNat).map _).length ≤ 12
  rw [List.length_map, List.length_range]
  omega
theorem taskBy_ok (xs : List Int) : (taskBy xs).Ok := by
  have hm := tMost_bd (pick xs 1)
  have hc := tCap_bd (x := pick xs 2) hm.1
  refine ⟨(tWeight_bd _).1, (tWeight_bd _).2, hm.1, hm.2, hc.1, hc.2, Nat.le_succ_of_le (taskBy_n xs), fun x hx => ?_⟩
  obtain ⟨k, _, rfl⟩ := List.mem_map.mp hx
  exact tTry_bd hm.1 hc.1 hc.2
abbrev sp_gives (K : PySem.W.Frag) : Sp := spN K 1 fun ds es => ∃ t : Task, ds = [t.d] ∧ t.tries.length ≤ 100 ∧ es = t.gives.map PyData.int
abbrev sp_mark (K : PySem.W.Frag) : Sp := spR K 1 fun ds d => ∃ t : Task, ds = [t.d] ∧ t.tries.length ≤ 100 ∧ d = optD t.mark
abbrev sp_chosen (K : PySem.W.Frag) : Sp := spR K 1 fun ds d => ∃ t : Task, ds = [t.d] ∧ t.tries.length ≤ 100 ∧ d = optD t.chosen
abbrev sp_l_stream (K : PySem.W.Frag) : Sp := spN K 2 fun ds es => ∃ (c n : Int), ds = [.int c, .int n] ∧ 0 ≤ n ∧ n ≤ 1000 ∧ es = (stream c n.toNat).map PyData.int
abbrev sp_l_task_by (K : PySem.W.Frag) : Sp := spR K 1 fun ds d => ∃ xs : List Int, ds = [.list (xs.map PyData.int)] ∧ 16 ≤ xs.length ∧ d = (taskBy xs).d
abbrev sp_l_mark (K : PySem.W.Frag) : Sp := spR K 1 fun ds d => ∃ t : Task, ds = [t.d] ∧ t.tries.length ≤ 100 ∧ d = optD t.mark
abbrev sp_l_gives (K : PySem.W.Frag) : Sp := spN K 1 fun ds es => ∃ t : Task, ds = [t.d] ∧ t.tries.length ≤ 100 ∧ es = t.gives.map PyData.int
abbrev sp_law_k02 (K : PySem.W.Frag) : Sp := spR K 1 fun ds d => ∃ ns : List Int, ds = [.list (ns.map PyData.int)] ∧ ns.length ≤ 63 ∧ d = .bool true
end GW

namespace GW
open PySem PySem.Spec PyProof.Rows L2
variable {K : PySem.W.Frag}
local macro_rules | `(tactic| walk_at "ev") => `(tactic| repeat' (first
  | with_reducible exact ev_int
  | with_reducible exact ev_bl
  | with_reducible exact ev_str
  | with_reducible exact ev_non
  | with_reducible apply ev_var
  | with_reducible apply ev_op
  | with_reducible apply ev_neg
  | with_reducible apply ev_isi
  | with_reducible apply ev_cb
  | with_reducible apply ev_tup
  | with_reducible apply ev_lst
  | with_reducible apply ev_call
  | with_reducible apply ev_callN
  | with_reducible apply ev_maxD
  | with_reducible apply ev_index
  | with_reducible apply ev_andV
  | with_reducible apply ev_orV
  | with_reducible apply ev_notV
  | with_reducible apply ev_chain
  | with_reducible apply ev_sl
  | with_reducible exact ea_nil
  | with_reducible apply ea_cons
  | with_reducible exact eo_none
  | with_reducible apply eo_some
  | with_reducible apply et_test
  | with_reducible apply et_B
  | with_reducible apply et_and
  | with_reducible apply et_or
  | with_reducible apply et_not
  | with_reducible exact rv_addI
  | with_reducible exact rv_sub
  | with_reducible apply rv_mulI
  | with_reducible apply rv_div
  | with_reducible apply rv_mod
  | with_reducible apply rv_pow
  | with_reducible exact rv_lt
  | with_reducible exact rv_le
  | with_reducible exact rv_gt
  | with_reducible exact rv_ge
  | with_reducible exact rv_isB
  | with_reducible exact rv_notB
  | with_reducible exact rv_isN
  | with_reducible exact rv_notN
  | with_reducible exact rv_eqI
  | with_reducible exact rv_neI
  | with_reducible apply rv_eq
  | with_reducible apply rv_ne
  | with_reducible apply rv_ixT
  | with_reducible apply rv_ixL
  | with_reducible apply rv_catT
  | with_reducible apply rv_catL'
  | with_reducible exact rv_in1L
  | with_reducible exact rv_in1T
  | with_reducible exact rv_in0L
  | with_reducible exact rv_in0T
  | with_reducible exact rc_lenL
  | with_reducible exact rc_sumL
  | with_reducible exact rc_sumT
  | with_reducible exact rc_lenT
  | with_reducible exact rc_abs
  | with_reducible exact rc_max2
  | with_reducible exact rc_min2
  | with_reducible exact rc_intB
  | with_reducible exact rc_tupleL
  | with_reducible exact rc_tupleT
  | with_reducible exact rc_listL'
  | with_reducible exact rc_listT'
  | with_reducible exact et_yes
  | with_reducible exact SlD.lst
  | with_reducible exact SlD.tup
  | ((with_reducible show CM _ _); first | exact CM.left (by omega) (by omega) | exact CM.right (by omega) (by omega) | exact CM.sm (by assumption) (by assumption) | assumption)
  | ((with_reducible show CDivW _ _); first | exact div_small (by omega) (by omega) | assumption)
  | ((with_reducible show CPow _ _); exact ⟨by decide, by decide, by decide⟩)
  | ((with_reducible show _ < _); first | assumption | omega)
  | ((with_reducible show _ ≤ _); first | assumption | omega | (simp only [List.length_cons, List.length_nil]; omega))
  | ((with_reducible show SeqAt.shaped _ = true); first | exact rfl | assumption)
  | ((with_reducible show cls _ ≠ _); first | (simp only [cls]; decide) | decide)
  | ((with_reducible show kitB _ _ = some _); decide +kernel)
  | ((with_reducible show _ = some _); exact rfl)
  | ((with_reducible show List.length _ = _); exact rfl)
  | ((with_reducible show _ = true → _); intro _)
  | ((with_reducible show _ = false → _); intro _)))
/-- divisor(one, other); slots one other rest -/
def t_divisor (K : PySem.W.Frag) : TS :=
 (tSeq (tWhile (tTest (tOp rGt (tVar 1) (tC (.int 0)))) (tSeq (tAsg (tOp rMod (tVar 0) (tVar 1)) (gName 2))
 (tSeq (tAsg (tVar 1) (gName 0))
 (tSeq (tAsg (tVar 2) (gName 1))
 tNext))))
 (tSeq (tRet (tVar 0))
 tNext))
/-- share(top, bottom); slots top bottom by -/
def t_share (K : PySem.W.Frag) : TS :=
 (tSeq (tAsg (tCall (sp_divisor K) [] E0 (tCons (tCB rAbs (tCons (tVar 0) tNil)) (tCons (tVar 1) tNil))) (gName 2))
 (tSeq (tRet (tTup (tCons (tOp rDiv (tVar 0) (tVar 2)) (tCons (tOp rDiv (tVar 1) (tVar 2)) tNil))))
 tNext))
/-- plus(one, other); slots one other -/
def t_plus (K : PySem.W.Frag) : TS :=
 (tSeq (tRet (tCall (sp_share K) [] E0 (tCons (tOp (rAdd K) (tOp (rMul K) (tOp (rIx K) (tVar 0) (tC (.int 0))) (tOp (rIx K) (tVar 1) (tC (.int 1)))) (tOp (rMul K) (tOp (rIx K) (tVar 1) (tC (.int 0))) (tOp (rIx K) (tVar 0) (tC (.int 1))))) (tCons (tOp (rMul K) (tOp (rIx K) (tVar 0) (tC (.int 1))) (tOp (rIx K) (tVar 1) (tC (.int 1)))) tNil))))
 tNext)
/-- times(one, number, over); slots one number over -/
def t_times (K : PySem.W.Frag) : TS :=
 (tSeq (tRet (tCall (sp_share K) [] E0 (tCons (tOp (rMul K) (tOp (rIx K) (tVar 0) (tC (.int 0))) (tVar 1)) (tCons (tOp (rMul K) (tOp (rIx K) (tVar 0) (tC (.int 1))) (tVar 2)) tNil))))
 tNext)
/-- less(one, other); slots one other -/
def t_less (K : PySem.W.Frag) : TS :=
 (tSeq (tRet (tOp rLt (tOp (rMul K) (tOp (rIx K) (tVar 0) (tC (.int 0))) (tOp (rIx K) (tVar 1) (tC (.int 1)))) (tOp (rMul K) (tOp (rIx K) (tVar 1) (tC (.int 0))) (tOp (rIx K) (tVar 0) (tC (.int 1))))))
 tNext)
/-- l_cell_at(script, k); slots script k -/
def t_l_cell_at (K : PySem.W.Frag) : TS :=
 (tSeq (tIfS (tTest (tOp (rEqD K) (tCB (rLen K) (tCons (tVar 0) tNil)) (tC (.int 0)))) (tSeq (tRet (tVar 1))
 tNext) tNext)
 (tSeq (tRet (tOp (rAdd K) (tOp (rIx K) (tVar 0) (tOp rMod (tVar 1) (tCB (rLen K) (tCons (tVar 0) tNil)))) (tOp (rMul K) (tC (.int 3)) (tOp rDiv (tVar 1) (tCB (rLen K) (tCons (tVar 0) tNil))))))
 tNext))
/-- l_whole(found); slots found -/
def t_l_whole (K : PySem.W.Frag) : TS :=
 (tSeq (tRet (tAndV (tCB (rIsi K) (tCons (tVar 0) (tCons (tC (.ty "int")) tNil))) (tNotV (tCB (rIsi K) (tCons (tVar 0) (tCons (tC (.ty "bool")) tNil))))))
 tNext)
/-- l_share(found); slots found -/
def t_l_share (K : PySem.W.Frag) : TS :=
 (tSeq (tIfS (tOr (tNot (tB (tCB (rIsi K) (tCons (tVar 0) (tCons (tC (.ty "tuple")) tNil))))) (tTest (tOp (rNeD K) (tCB (rLen K) (tCons (tVar 0) tNil)) (tC (.int 2))))) (tSeq (tRet (tC (.bl false)))
 tNext) tNext)
 (tSeq (tRet (tAndV (tCall (sp_l_whole K) [] E0 (tCons (tOp (rIx K) (tVar 0) (tC (.int 0))) tNil)) (tCall (sp_l_whole K) [] E0 (tCons (tOp (rIx K) (tVar 0) (tC (.int 1))) tNil))))
 tNext))
/-- l_low(top, bottom); slots top bottom one other -/
def t_l_low (K : PySem.W.Frag) : TS :=
 (tSeq (tAsg (tCB rAbs (tCons (tVar 0) tNil)) (gName 2))
 (tSeq (tAsg (tVar 1) (gName 3))
 (tSeq (tWhile (tTest (tOp rGt (tVar 3) (tC (.int 0)))) (tSeq (tPar 2 3 (tCons (tVar 3) (tCons (tOp rMod (tVar 2) (tVar 3)) tNil)))
 tNext))
 (tSeq (tRet (tTup (tCons (tOp rDiv (tVar 0) (tVar 2)) (tCons (tOp rDiv (tVar 1) (tVar 2)) tNil))))
 tNext))))
theorem gcd_zero {x a b : Int} (hx : 0 ≤ x) (hg : Int.gcd x 0 = Int.gcd a b) : ((Int.gcd a b : Nat) : Int) = x := by
  rw [← hg, Int.gcd_zero_right]
  omega
theorem mod_lt {x y : Int} (h0 : 0 < y) : (x % y).toNat < y.toNat := by
  have := Int.emod_lt_of_pos x h0
  have := Int.emod_nonneg x (show y ≠ 0 by omega)
  omega
theorem by_divisor {N : List Str} (hN : N.length = 3) : ∀ vs H Q E, sp_divisor K vs H Q E → t_divisor K { nx := fun _ H' => Q .non H', rt := Q } (L2.start N vs) H := body_R hN <| by
  rintro ds d ⟨a, b, rfl, ha, hb, rfl⟩ O F Dn hnx k
  show Run K O F (t_divisor K) Dn [.im (.int a), .im (.int b), .un]
  unfold t_divisor
  refine run_while (W := fun m τ => ∃ (x y : Int) (s : Sl), plain s = true ∧ τ = [.im (.int x), .im (.int y), s] ∧ 0 ≤ x ∧ 0 ≤ y ∧ Int.gcd x y = Int.gcd a b ∧ m = y.toNat) [] b.toNat ⟨a, b, .un, rfl, rfl, ha, hb, rfl, rfl⟩ ?_
  rintro G hG m τ ⟨x, y, s, hs, rfl, hx, hy, hg, rfl⟩
  refine ⟨decide (0 < y), by walk_at "ev", fun h => ?_, fun h => ?_⟩
  · have h0 : 0 < y := of_decide_eq_true h
    refine run_asg (d := .int (x % y)) (by walk_at "ev") ?_
    refine run_asg (d := .int y) (by walk_at "ev") ?_
    refine run_asg (d := .int (x % y)) (by walk_at "ev") ?_
    exact run_end (js := []) ⟨(x % y).toNat, mod_lt h0, y, x % y, .im (.int (x % y)), rfl, rfl, hy, Int.emod_nonneg _ (by omega), by rw [gcd_step x y hx hy, hg], rfl⟩ rfl
  · have h0 : y = 0 := by
      have := of_decide_eq_false h
      omega
    subst h0
    refine run_ret (d := .int x) (by walk_at "ev") ?_
    rw [← gcd_zero hx hg]
    exact k
theorem by_share {N : List Str} (hN : N.length = 3) : ∀ vs H Q E, sp_share K vs H Q E → t_share K { nx := fun _ H' => Q .non H', rt := Q } (L2.start N vs) H := body_R hN <| by
  rintro ds d ⟨t, b, rfl, hb, hs, rfl⟩ O F Dn hnx k
  show Run K O F (t_share K) Dn [.im (.int t), .im (.int b), .un]
  unfold t_share
  have g0 := gcd_pos (t := t) hb
  have g1 := gcd_le (t := t) hb
  refine run_asg (d := .int ((Int.gcd t b : Nat) : Int)) ?_ ?_
  · walk_at "ev"
    exact ⟨_, _, rfl, by split <;> omega, Int.le_of_lt hb, by rw [gcd_abs]⟩
  · have gs : CDivW t ((Int.gcd t b : Nat) : Int) := div_8000 g0 (Nat.lt_of_le_of_lt (by omega) hs)
    have gs2 : CDivW b ((Int.gcd t b : Nat) : Int) := div_8000 g0 (Nat.lt_of_le_of_lt (by omega) hs)
    rw [shD_fr hb] at k
    exact run_ret (by walk_at "ev") k
theorem by_plus {N : List Str} (hN : N.length = 2) : ∀ vs H Q E, sp_plus K vs H Q E → t_plus K { nx := fun _ H' => Q .non H', rt := Q } (L2.start N vs) H := body_R hN <| by
  rintro ds d ⟨r, q, rfl, ⟨r1, r2⟩, ⟨q1, q2⟩, rfl⟩ O F Dn hnx k
  show Run K O F (t_plus K) Dn [.im (.tuple [.int r.num, .int (r.den : Int)]), .im (.tuple [.int q.num, .int (q.den : Int)])]
  unfold t_plus
  refine run_ret (d := shD (r + q)) ?_ k
  walk_at "ev"
  have hr : (0 : Int) < r.den := Int.natCast_pos.mpr r.den_pos
  have hq : (0 : Int) < q.den := Int.natCast_pos.mpr q.den_pos
  refine ⟨_, _, rfl, Int.mul_pos hr hq, Sm.mul r2 q2, ?_⟩
  rw [← Rat.divInt_add_divInt _ _ (by omega) (by omega), Rat.num_divInt_den, Rat.num_divInt_den]
theorem by_times {N : List Str} (hN : N.length = 3) : ∀ vs H Q E, sp_times K vs H Q E → t_times K { nx := fun _ H' => Q .non H', rt := Q } (L2.start N vs) H := body_R hN <| by
  rintro ds d ⟨r, n, o, rfl, ⟨r1, r2⟩, hn, ho, h0, rfl⟩ O F Dn hnx k
  show Run K O F (t_times K) Dn [.im (.tuple [.int r.num, .int (r.den : Int)]), .im (.int n), .im (.int o)]
  unfold t_times
  refine run_ret (d := shD (r * Rat.divInt n o)) ?_ k
  walk_at "ev"
  have hr : (0 : Int) < r.den := Int.natCast_pos.mpr r.den_pos
  refine ⟨_, _, rfl, Int.mul_pos hr h0, Sm.mul r2 ho, ?_⟩
  rw [← Rat.divInt_mul_divInt, Rat.num_divInt_den]
theorem by_less {N : List Str} (hN : N.length = 2) : ∀ vs H Q E, sp_less K vs H Q E → t_less K { nx := fun _ H' => Q .non H', rt := Q } (L2.start N vs) H := body_R hN <| by
  rintro ds d ⟨r, q, rfl, ⟨r1, r2⟩, ⟨q1, q2⟩, rfl⟩ O F Dn hnx k
  show Run K O F (t_less K) Dn [.im (.tuple [.int r.num, .int (r.den : Int)]), .im (.tuple [.int q.num, .int (q.den : Int)])]
  unfold t_less
  refine run_ret (d := .bool (decide (r < q))) (ev_to (by walk_at "ev") ?_) k
  exact congrArg PyData.bool (decide_eq_decide.mpr (Rat.lt_iff r q).symm)
theorem cell_at {ns : List Int} {k : Int} (h : ns.length ≠ 0) : atI (ns.map PyData.int) (k % (ns.length : Int)) = some (.int (ns.getD (k % (ns.length : Int)).toNat 0)) := by
  have h1 := Int.emod_nonneg k (show (ns.length : Int) ≠ 0 by omega)
  have h2 := Int.emod_lt_of_pos k (show 0 < (ns.length : Int) by omega)
  obtain ⟨j, hj⟩ := Int.eq_ofNat_of_zero_le h1
  rw [hj]
  have hl : j < ns.length := by omega
  refine atI_nat ?_
  rw [List.getElem?_map, List.getElem?_eq_getElem hl, List.getD_eq_getElem?_getD]
  show some (PyData.int ns[j]) = some (PyData.int (ns[((j : Nat) : Int).toNat]?.getD 0))
  rw [Int.toNat_natCast, List.getElem?_eq_getElem hl]
  rfl
theorem by_l_cell_at {N : List Str} (hN : N.length = 2) : ∀ vs H Q E, sp_l_cell_at K vs H Q E → t_l_cell_at K { nx := fun _ H' => Q .non H', rt := Q } (L2.start N vs) H := body_R hN <| by
  rintro ds d ⟨ns, k, rfl, hl, rfl⟩ O F Dn hnx kk
  show Run K O F (t_l_cell_at K) Dn [.im (.list (ns.map PyData.int)), .im (.int k)]
  unfold t_l_cell_at
  unfold cell at kk
  have hlen : (ns.map PyData.int).length = ns.length := List.length_map ..
  refine run_if (by walk_at "ev") (fun h => ?_) (fun h => ?_)
  · have h0 := of_decide_eq_true h
    rw [if_pos (by omega)] at kk
    exact run_ret (by walk_at "ev") kk
  · have h0 := of_decide_eq_false h
    rw [if_neg (by omega)] at kk
    refine run_nx (run_ret ?_ kk)
    rw [← hlen]
    have c := cell_at (ns := ns) (k := k) (by omega)
    rw [← hlen] at c
    refine ev_op (ev_op (by walk_at "ev") (by walk_at "ev") (rv_ixL c)) (by walk_at "ev") (by walk_at "ev")
theorem by_l_whole {N : List Str} (hN : N.length = 1) : ∀ vs H Q E, sp_l_whole K vs H Q E → t_l_whole K { nx := fun _ H' => Q .non H', rt := Q } (L2.start N vs) H := body_R hN <| by
  rintro ds d ⟨i, rfl, rfl⟩ O F Dn hnx k
  show Run K O F (t_l_whole K) Dn [.im (.int i)]
  unfold t_l_whole
  exact run_ret (ev_to (a := .bool (true && !false)) (by walk_at "ev") rfl) k
theorem by_l_share {N : List Str} (hN : N.length = 1) : ∀ vs H Q E, sp_l_share K vs H Q E → t_l_share K { nx := fun _ H' => Q .non H', rt := Q } (L2.start N vs) H := body_R hN <| by
  rintro ds d ⟨i, j, rfl, rfl⟩ O F Dn hnx k
  show Run K O F (t_l_share K) Dn [.im (.tuple [.int i, .int j])]
  unfold t_l_share
  refine run_if (b := !true || !decide ((([PyData.int i, PyData.int j].length : Nat) : Int) = 2)) (by walk_at "ev") (fun h => ?_) (fun h => ?_)
  · simp at h
  · refine run_nx (run_ret (ev_andV (x := true) (y := true) (by walk_at "ev"; exact ⟨_, rfl, rfl⟩) (by walk_at "ev"; exact ⟨_, rfl, rfl⟩)) k)
theorem by_l_low {N : List Str} (hN : N.length = 4) : ∀ vs H Q E, sp_l_low K vs H Q E → t_l_low K { nx := fun _ H' => Q .non H', rt := Q } (L2.start N vs) H := body_R hN <| by
  rintro ds d ⟨t, b, rfl, hb, hs, rfl⟩ O F Dn hnx k
  show Run K O F (t_l_low K) Dn [.im (.int t), .im (.int b), .un, .un]
  unfold t_l_low
  refine run_asg (by walk_at "ev") ?_
  refine run_asg (by walk_at "ev") ?_
  refine run_while (W := fun m τ => ∃ (x y : Int), τ = [.im (.int t), .im (.int b), .im (.int x), .im (.int y)] ∧ 0 ≤ x ∧ 0 ≤ y ∧ Int.gcd x y = Int.gcd t b ∧ m = y.toNat) [] b.toNat ⟨_, b, rfl, by split <;> omega, Int.le_of_lt hb, gcd_abs t b, rfl⟩ ?_
  rintro G hG m τ ⟨x, y, rfl, hx, hy, hg, rfl⟩
  refine ⟨decide (0 < y), by walk_at "ev", fun h => ?_, fun h => ?_⟩
  · have h0 : 0 < y := of_decide_eq_true h
    refine run_par (d1 := .int y) (d2 := .int (x % y)) (by walk_at "ev") ?_
    exact run_end (js := []) ⟨(x % y).toNat, mod_lt h0, y, x % y, rfl, hy, Int.emod_nonneg _ (by omega), by rw [gcd_step x y hx hy, hg], rfl⟩ rfl
  · have h0 : y = 0 := by
      have := of_decide_eq_false h
      omega
    subst h0
    have e := gcd_zero hx hg
    have g0 := gcd_pos (t := t) hb
    have g1 := gcd_le (t := t) hb
    rw [shD_fr hb, e] at k
    rw [e] at g0 g1
    have gs : CDivW t x := div_8000 g0 (Nat.lt_of_le_of_lt (by omega) hs)
    have gs2 : CDivW b x := div_8000 g0 (Nat.lt_of_le_of_lt (by omega) hs)
    exact run_ret (by walk_at "ev") k

/-- gives(task); slots task found points -/
def t_gives (K : PySem.W.Frag) : TS :=
 (tSeq (tAsg (tCB (rList K) (tCons (tSl (rSl K) (tOp (rIx K) (tVar 0) (tC (.int 3))) tNoPart (tPart (tC (.int 1)))) tNil)) (gName 1))
 (tSeq (tFor (iSeq K (tSl (rSl K) (tOp (rIx K) (tVar 0) (tC (.int 3))) (tPart (tC (.int 1))) tNoPart)) (gName 2) (tSeq (tDrop (tBM K "list" rAppend (tVar 1) (tCons (tCB rMin2 (tCons (tVar 2) (tCons (tOp (rIx K) (tVar 0) (tC (.int 2))) tNil))) tNil)))
 tNext))
 (tSeq (tRet (tVar 1))
 tNext)))
/-- mark(task); slots task -/
def t_mark (K : PySem.W.Frag) : TS :=
 (tSeq (tRet (tCKw (rMaxD K) (tCons (tCall (sp_gives K) [] E0 (tCons (tVar 0) tNil)) tNil) (tCons (tC .non) tNil)))
 tNext)
/-- chosen(task); slots task found -/
def t_chosen (K : PySem.W.Frag) : TS :=
 (tSeq (tAsg (tCall (sp_gives K) [] E0 (tCons (tVar 0) tNil)) (gName 1))
 (tSeq (tIfS (tTest (tOp (rEqD K) (tCB (rLen K) (tCons (tVar 1) tNil)) (tC (.int 0)))) (tSeq (tRet (tC .non))
 tNext) tNext)
 (tSeq (tRet (tBM K "list" (rIndexK K) (tVar 1) (tCons (tCB (rMax1 K) (tCons (tVar 1) tNil)) tNil)))
 tNext)))
/-- l_stream(cell, many); slots cell many found number k -/
def t_l_stream (K : PySem.W.Frag) : TS :=
 (tSeq (tAsg (tLst tNil) (gName 2))
 (tSeq (tAsg (tOp (rAdd K) (tOp rMod (tVar 0) (tC (.int 2147483647))) (tC (.int 48271))) (gName 3))
 (tSeq (tFor (iRng1 (tCons (tOp (rAdd K) (tVar 1) (tC (.int 1))) tNil)) (gName 4) (tSeq (tAsg (tOp rMod (tOp (rAdd K) (tOp (rAdd K) (tOp (rAdd K) (tOp (rMul K) (tVar 3) (tVar 3)) (tOp (rMul K) (tC (.int 48271)) (tVar 3))) (tOp (rMul K) (tC (.int 7)) (tVar 4))) (tC (.int 1))) (tC (.int 2147483647))) (gName 3))
 (tSeq (tDrop (tBM K "list" rAppend (tVar 2) (tCons (tVar 3) tNil)))
 tNext)))
 (tSeq (tRet (tSl (rSl K) (tVar 2) (tPart (tC (.int 1))) tNoPart))
 tNext))))
/-- l_task_by(xs); slots xs weight most cap many tries k -/
def t_l_task_by (K : PySem.W.Frag) : TS :=
 (tSeq (tAsg (tOp (rAdd K) (tC (.int 1)) (tOp rMod (tOp (rIx K) (tVar 0) (tC (.int 0))) (tC (.int 5)))) (gName 1))
 (tSeq (tIfS (tTest (tOp (rEqD K) (tOp rMod (tOp rDiv (tOp (rIx K) (tVar 0) (tC (.int 0))) (tC (.int 5))) (tC (.int 5))) (tC (.int 0)))) (tSeq (tAsg (tOp (rAdd K) (tC (.int 1)) (tOp rMod (tOp rDiv (tOp (rIx K) (tVar 0) (tC (.int 0))) (tC (.int 25))) (tC (.int 1000)))) (gName 1))
 tNext) tNext)
 (tSeq (tAsg (tOp (rIx K) (tLst (tCons (tC (.int 1)) (tCons (tC (.int 10)) (tCons (tC (.int 100)) (tCons (tOp (rAdd K) (tC (.int 1)) (tOp rMod (tOp rDiv (tOp (rIx K) (tVar 0) (tC (.int 1))) (tC (.int 6))) (tC (.int 20)))) (tCons (tOp (rAdd K) (tC (.int 1)) (tOp rMod (tOp rDiv (tOp (rIx K) (tVar 0) (tC (.int 1))) (tC (.int 6))) (tOp rPow (tC (.int 10)) (tC (.int 6))))) (tCons (tOp rPow (tC (.int 10)) (tC (.int 6))) tNil))))))) (tOp rMod (tOp (rIx K) (tVar 0) (tC (.int 1))) (tC (.int 6)))) (gName 2))
 (tSeq (tAsg (tOp (rIx K) (tLst (tCons (tVar 2) (tCons (tC (.int 0)) (tCons (tOp rDiv (tVar 2) (tC (.int 2))) (tCons (tOp rMod (tOp rDiv (tOp (rIx K) (tVar 0) (tC (.int 2))) (tC (.int 4))) (tOp (rAdd K) (tVar 2) (tC (.int 1)))) tNil))))) (tOp rMod (tOp (rIx K) (tVar 0) (tC (.int 2))) (tC (.int 4)))) (gName 3))
 (tSeq (tAsg (tOp (rIx K) (tLst (tCons (tC (.int 0)) (tCons (tC (.int 1)) (tCons (tC (.int 1)) (tCons (tC (.int 2)) (tCons (tC (.int 3)) (tCons (tC (.int 1)) (tCons (tC (.int 0)) (tCons (tC (.int 12)) (tCons (tC (.int 11)) tNil)))))))))) (tOp rMod (tOp (rIx K) (tVar 0) (tC (.int 3))) (tC (.int 9)))) (gName 4))
 (tSeq (tAsg (tLst tNil) (gName 5))
 (tSeq (tFor (iRng1 (tCons (tVar 4) tNil)) (gName 6) (tSeq (tDrop (tBM K "list" rAppend (tVar 5) (tCons (tOp (rIx K) (tLst (tCons (tOp rMod (tOp rDiv (tOp (rIx K) (tVar 0) (tOp (rAdd K) (tC (.int 4)) (tVar 6))) (tC (.int 5))) (tOp (rAdd K) (tVar 2) (tC (.int 1)))) (tCons (tOp rMod (tOp rDiv (tOp (rIx K) (tVar 0) (tOp (rAdd K) (tC (.int 4)) (tVar 6))) (tC (.int 5))) (tOp (rAdd K) (tVar 2) (tC (.int 1)))) (tCons (tC (.int 0)) (tCons (tVar 2) (tCons (tVar 3) tNil)))))) (tOp rMod (tOp (rIx K) (tVar 0) (tOp (rAdd K) (tC (.int 4)) (tVar 6))) (tC (.int 5)))) tNil)))
 tNext))
 (tSeq (tRet (tTup (tCons (tVar 1) (tCons (tVar 2) (tCons (tVar 3) (tCons (tCB (rTuple K) (tCons (tVar 5) tNil)) tNil))))))
 tNext))))))))
/-- l_mark(task); slots task best k points -/
def t_l_mark (K : PySem.W.Frag) : TS :=
 (tSeq (tAsg (tC .non) (gName 1))
 (tSeq (tFor (iRng1 (tCons (tCB (rLen K) (tCons (tOp (rIx K) (tVar 0) (tC (.int 3))) tNil)) tNil)) (gName 2) (tSeq (tAsg (tOp (rIx K) (tOp (rIx K) (tVar 0) (tC (.int 3))) (tVar 2)) (gName 3))
 (tSeq (tIfS (tAnd (tTest (tOp rGt (tVar 2) (tC (.int 0)))) (tTest (tOp rGt (tVar 3) (tOp (rIx K) (tVar 0) (tC (.int 2)))))) (tSeq (tAsg (tOp (rIx K) (tVar 0) (tC (.int 2))) (gName 3))
 tNext) tNext)
 (tSeq (tIfS (tOr (tTest (tOp rIs (tVar 1) (tC .non))) (tTest (tOp rGt (tVar 3) (tVar 1)))) (tSeq (tAsg (tVar 3) (gName 1))
 tNext) tNext)
 tNext))))
 (tSeq (tRet (tVar 1))
 tNext)))
/-- l_gives(task); slots task found k -/
def t_l_gives (K : PySem.W.Frag) : TS :=
 (tSeq (tAsg (tLst tNil) (gName 1))
 (tSeq (tFor (iRng1 (tCons (tCB (rLen K) (tCons (tOp (rIx K) (tVar 0) (tC (.int 3))) tNil)) tNil)) (gName 2) (tSeq (tIfS (tOr (tTest (tOp (rEqD K) (tVar 2) (tC (.int 0)))) (tTest (tOp rLt (tOp (rIx K) (tOp (rIx K) (tVar 0) (tC (.int 3))) (tVar 2)) (tOp (rIx K) (tVar 0) (tC (.int 2)))))) (tSeq (tDrop (tBM K "list" rAppend (tVar 1) (tCons (tOp (rIx K) (tOp (rIx K) (tVar 0) (tC (.int 3))) (tVar 2)) tNil)))
 tNext) (tSeq (tDrop (tBM K "list" rAppend (tVar 1) (tCons (tOp (rIx K) (tVar 0) (tC (.int 2))) tNil)))
 tNext))
 tNext))
 (tSeq (tRet (tVar 1))
 tNext)))
theorem by_gives {N : List Str} (hN : N.length = 3) : ∀ vs H Q E, sp_gives K vs H Q E → t_gives K { nx := fun _ H' => Q .non H', rt := Q } (L2.start N vs) H := body_N hN <| by
  rintro ds es ⟨t, rfl, hl, rfl⟩ O F Dn k
  show Run K O F (t_gives K) Dn [.im t.d, .un, .un]
  unfold t_gives
  unfold Task.d
  have e1 : cutD (t.tries.map PyData.int) none (some (1 : Int)) = (t.tries.take 1).map PyData.int := by
    rw [show (1 : Int) = ((1 : Nat) : Int) from rfl, cut_to, List.map_take]
  have e2 : cutD (t.tries.map PyData.int) (some (1 : Int)) none = (t.tries.drop 1).map PyData.int := by
    rw [show (1 : Int) = ((1 : Nat) : Int) from rfl, cut_from, List.map_drop]
  refine run_asgN (en_cb (ea_cons (ev_to (e := .tuple ((t.tries.take 1).map PyData.int)) (by walk_at "ev") (by rw [e1])) ea_nil) rc_listT) fun p => ?_
  dsimp only [List.set]
  refine run_for [2] (fun i τ => τ = [.im (.tuple [.int t.w, .int t.m, .int t.c, .tuple (t.tries.map PyData.int)]), .ow p ((t.tries.take 1 ++ ((t.tries.drop 1).take i).map (capd t.c)).map PyData.int), .un]) (d := .tuple ((t.tries.drop 1).map PyData.int)) (ds := (t.tries.drop 1).map PyData.int) (ev_to (by walk_at "ev") (by rw [e2])) (.inr rfl) ?_ ?_ ?_
  · show _ = _
    rw [List.take_zero, List.map_nil, List.append_nil]
    rfl
  · rintro G hG i d τ' hd rfl
    dsimp only [List.set]
    rw [List.getElem?_map] at hd
    obtain ⟨x, hx, rfl⟩ := Option.map_eq_some_iff.mp hd
    have hi : i < (t.tries.drop 1).length := (List.getElem?_eq_some_iff.mp hx).1
    rw [List.length_drop] at hi
    refine run_app (d := .int (capd t.c x)) rfl (ev_to (a := .int (if t.c < x then t.c else x)) (by walk_at "ev") rfl) ?_ ?_
    · simp only [List.length_map, List.length_append, List.length_take, List.length_drop]
      omega
    · refine run_end (js := [2]) ?_ rfl
      rw [take_snoc hx, List.map_append, List.map_append, List.map_append, List.map_append, List.append_assoc]
      rfl
  · rintro τ' rfl
    refine run_retO (j := 1) rfl ?_
    rw [List.length_map, List.take_length, ← gives_eq]
    exact k
theorem optD_mark (t : Task) : (if t.gives = [] then PyData.none else .int (maxL t.gives)) = optD t.mark := by
  unfold Task.mark
  split <;> rfl
theorem by_mark {N : List Str} (hN : N.length = 1) : ∀ vs H Q E, sp_mark K vs H Q E → t_mark K { nx := fun _ H' => Q .non H', rt := Q } (L2.start N vs) H := body_R hN <| by
  rintro ds d ⟨t, rfl, hl, rfl⟩ O F Dn hnx k
  show Run K O F (t_mark K) Dn [.im t.d]
  unfold t_mark
  exact run_ret (ev_to (ev_maxD (ev_callN (by walk_at "ev") ⟨_, rfl, hl, rfl⟩) ev_non) (optD_mark t)) k
theorem by_chosen {N : List Str} (hN : N.length = 2) : ∀ vs H Q E, sp_chosen K vs H Q E → t_chosen K { nx := fun _ H' => Q .non H', rt := Q } (L2.start N vs) H := body_R hN <| by
  rintro ds d ⟨t, rfl, hl, rfl⟩ O F Dn hnx k
  show Run K O F (t_chosen K) Dn [.im t.d, .un]
  unfold t_chosen
  unfold Task.chosen at k
  refine run_asg (d := .list (t.gives.map PyData.int)) (ev_callN (by walk_at "ev") ⟨_, rfl, hl, rfl⟩) ?_
  refine run_if (by walk_at "ev") (fun h => ?_) (fun h => ?_)
  · have h0 := of_decide_eq_true h
    rw [List.length_map] at h0
    rw [if_pos (List.length_eq_zero_iff.mp (by omega))] at k
    exact run_ret ev_non k
  · have h0 := of_decide_eq_false h
    rw [List.length_map] at h0
    have hne : t.gives ≠ [] := fun e => h0 (by rw [e]; rfl)
    rw [if_neg hne] at k
    exact run_nx (run_ret (ev_index (by walk_at "ev") (ev_cb (by walk_at "ev") (rc_max1 hne)) (maxL_mem hne)) k)
theorem by_l_stream {N : List Str} (hN : N.length = 5) : ∀ vs H Q E, sp_l_stream K vs H Q E → t_l_stream K { nx := fun _ H' => Q .non H', rt := Q } (L2.start N vs) H := body_N hN <| by
  rintro ds es ⟨c, n', rfl, h0, hl, rfl⟩ O F Dn k
  obtain ⟨n, rfl⟩ := Int.eq_ofNat_of_zero_le h0
  rw [Int.toNat_natCast] at k
  show Run K O F (t_l_stream K) Dn [.im (.int c), .im (.int (n : Int)), .un, .un, .un]
  unfold t_l_stream
  obtain ⟨b1, b2⟩ := c0_bd c
  have bd := sN_bd b1 b2
  refine run_asgN (en_lst ea_nil (by decide)) fun p => ?_
  refine run_asg (d := .int (c % 2147483647 + 48271)) (by walk_at "ev") ?_
  refine run_forR (n := (n : Int) + 1) [4] (fun i τ => τ = [.im (.int c), .im (.int (n : Int)), .ow p ((List.range i).map fun (j : Nat) => PyData.int (sN (c % 2147483647 + 48271) (j + 1))), .im (.int (sN (c % 2147483647 + 48271) i)), .un]) (by walk_at "ev") (by omega) rfl ?_ ?_
  · rintro G hG i τ' hi rfl
    dsimp only [List.set]
    have hb := bd i
    generalize hs : sN (c % 2147483647 + 48271) i = x at *
    refine run_asg (d := .int (sN (c % 2147483647 + 48271) (i + 1))) (ev_to (by walk_at "ev") (by show _ = PyData.int _; rw [sN, hs])) ?_
    refine run_app (d := .int (sN (c % 2147483647 + 48271) (i + 1))) rfl (by walk_at "ev") (by simp; omega) ?_
    refine run_end (js := [4]) ?_ rfl
    rw [List.range_succ, List.map_append]
    rfl
  · rintro τ' rfl
    refine run_freeze (j := 2) rfl ?_
    refine run_retN (ds := (stream c n).map PyData.int) ?_ k
    have e : cutD ((List.range ((n : Int) + 1).toNat).map fun (j : Nat) => PyData.int (sN (c % 2147483647 + 48271) (j + 1))) (some (1 : Int)) none = (stream c n).map PyData.int := by
      rw [show (1 : Int) = ((1 : Nat) : Int) from rfl, cut_from, show ((1 : Nat) : Int) = 1 from rfl, show ((n : Int) + 1).toNat = n + 1 by omega]
      unfold stream
      rw [List.map_map, List.range_succ_eq_map, List.map_cons, List.drop_succ_cons, List.drop_zero, List.map_map]
      rfl
    rw [← e]
    exact en_slL (by walk_at "ev") (by walk_at "ev") (by walk_at "ev")
theorem ev_pick {τ : List Sl} {ta : TA} {ti : TE} (l : List Int) {i : Int} (h : EvA K ta τ (l.map PyData.int)) (hi : Ev K ti τ (.int i)) (h0 : 0 ≤ i ∧ i < (l.length : Int)) (hl : l.length ≤ 100000) : Ev K (tOp (rIx K) (tLst ta) ti) τ (.int (pick l i)) :=
  ev_op (ev_lst h (by rw [List.length_map]; exact hl)) hi (rv_ixL (pick_at h0.1 h0.2))
theorem tk_get {xs : List Int} {i : Nat} (h : 16 ≤ xs.length) (hi : i < 16) : atI (xs.map PyData.int) (i : Int) = some (.int (pick xs (i : Int))) := pick_at (by omega) (by omega)
theorem by_l_task_by {N : List Str} (hN : N.length = 7) : ∀ vs H Q E, sp_l_task_by K vs H Q E → t_l_task_by K { nx := fun _ H' => Q .non H', rt := Q } (L2.start N vs) H := body_R hN <| by
  rintro ds d ⟨xs, rfl, hl, rfl⟩ O F Dn hnx k
  show Run K O F (t_l_task_by K) Dn [.im (.list (xs.map PyData.int)), .un, .un, .un, .un, .un, .un]
  unfold t_l_task_by
  have g0 := tk_get (i := 0) hl (by decide)
  have g1 := tk_get (i := 1) hl (by decide)
  have g2 := tk_get (i := 2) hl (by decide)
  have g3 := tk_get (i := 3) hl (by decide)
  simp only [Int.cast_ofNat_Int] at g0 g1 g2 g3
  have x0 : ∀ {τ : List Sl}, Ev K (tOp (rIx K) (tVar 0) (tC (.int 0))) (.im (.list (xs.map PyData.int)) :: τ) (.int (pick xs 0)) := ev_op (ev_var rfl) ev_int (rv_ixL g0)
  have x1 : ∀ {τ : List Sl}, Ev K (tOp (rIx K) (tVar 0) (tC (.int 1))) (.im (.list (xs.map PyData.int)) :: τ) (.int (pick xs 1)) := ev_op (ev_var rfl) ev_int (rv_ixL g1)
  have x2 : ∀ {τ : List Sl}, Ev K (tOp (rIx K) (tVar 0) (tC (.int 2))) (.im (.list (xs.map PyData.int)) :: τ) (.int (pick xs 2)) := ev_op (ev_var rfl) ev_int (rv_ixL g2)
  have x3 : ∀ {τ : List Sl}, Ev K (tOp (rIx K) (tVar 0) (tC (.int 3))) (.im (.list (xs.map PyData.int)) :: τ) (.int (pick xs 3)) := ev_op (ev_var rfl) ev_int (rv_ixL g3)
  have hm := tMost_bd (pick xs 1)
  have hn := tMany_bd (pick xs 3)
  have md : ∀ {τ : List Sl} {te : TE} {x k : Int}, 0 < k → Ev K te τ (.int x) → Ev K (tOp rMod te (tC (.int k))) τ (.int (x % k)) := fun hk h => ev_op h ev_int (rv_mod hk)
  have dv : ∀ {τ : List Sl} {te : TE} {x k : Int}, 0 < k → k < 2 ^ 64 → Ev K te τ (.int x) → Ev K (tOp rDiv te (tC (.int k))) τ (.int (x / k)) := fun hk h2 h => ev_op h ev_int (rv_div (div_small hk h2))
  refine run_asg (d := .int (1 + pick xs 0 % 5)) (ev_op ev_int (md (by decide) x0) rv_addI) ?_
  refine run_ifAsg (b := decide (pick xs 0 / 5 % 5 = 0)) (d := .int (1 + pick xs 0 / 25 % 1000)) (et_test (ev_op (md (by decide) (dv (by decide) (by decide) x0)) ev_int rv_eqI)) rfl (fun _ => ev_op ev_int (md (by decide) (dv (by decide) (by decide) x0)) rv_addI) ?_
  have ew : (if decide (pick xs 0 / 5 % 5 = 0) = true then PyData.int (1 + pick xs 0 / 25 % 1000) else .int (1 + pick xs 0 % 5)) = .int (tWeight (pick xs 0)) := by
    unfold tWeight
    by_cases h : pick xs 0 / 5 % 5 = 0
    · rw [if_pos (decide_eq_true h), if_pos h]
    · rw [if_neg (by simpa using h), if_neg h]
  rw [ew]
  have e6 : ∀ {τ : List Sl}, Ev K (tOp rPow (tC (.int 10)) (tC (.int 6))) τ (.int 1000000) := ev_op ev_int ev_int (rv_pow (i := 10) (j := 6) ⟨by decide, by decide, by decide⟩)
  refine run_asg (d := .int (tMost (pick xs 1))) (ev_pick [1, 10, 100, 1 + pick xs 1 / 6 % 20, 1 + pick xs 1 / 6 % 1000000, 1000000] (ea_cons ev_int (ea_cons ev_int (ea_cons ev_int (ea_cons (ev_op ev_int (md (by decide) (dv (by decide) (by decide) x1)) rv_addI) (ea_cons (ev_op ev_int (ev_op (dv (by decide) (by decide) x1) e6 (rv_mod (by decide))) rv_addI) (ea_cons e6 ea_nil)))))) (md (by decide) x1) (mod_bd _ (by decide)) (by simp)) ?_
  have hc := tCap_bd (x := pick xs 2) hm.1
  have hT : (taskBy xs).d = .tuple [.int (tWeight (pick xs 0)), .int (tMost (pick xs 1)), .int (tCap (tMost (pick xs 1)) (pick xs 2)), .tuple (((List.range (tMany (pick xs 3)).toNat).map fun (k : Nat) => tTry (tMost (pick xs 1)) (tCap (tMost (pick xs 1)) (pick xs 2)) (pick xs (4 + (k : Int)))).map PyData.int)] := rfl
  rw [hT] at k
  generalize tMost (pick xs 1) = m at *
  have m1 : ∀ {τ : List Sl} {a b : Sl}, Ev K (tOp (rAdd K) (tVar 2) (tC (.int 1))) (a :: b :: .im (.int m) :: τ) (.int (m + 1)) := ev_op (ev_var rfl) ev_int rv_addI
  refine run_asg (d := .int (tCap m (pick xs 2))) (ev_pick [m, 0, m / 2, pick xs 2 / 4 % (m + 1)] (ea_cons (ev_var rfl) (ea_cons ev_int (ea_cons (dv (by decide) (by decide) (ev_var rfl)) (ea_cons (ev_op (dv (by decide) (by decide) x2) m1 (rv_mod (by omega))) ea_nil)))) (md (by decide) x2) (mod_bd _ (by decide)) (by simp)) ?_
  generalize tCap m (pick xs 2) = c at *
  refine run_asg (d := .int (tMany (pick xs 3))) (ev_pick [0, 1, 1, 2, 3, 1, 0, 12, 11] (by dsimp only [List.map]; walk_at "ev") (md (by decide) x3) (mod_bd _ (by decide)) (by simp)) ?_
  generalize tMany (pick xs 3) = n at *
  refine run_asgN (en_lst ea_nil (by decide)) fun p => ?_
  dsimp only [List.set]
  refine run_forR (n := n) [6] (fun i τ => τ = [.im (.list (xs.map PyData.int)), .im (.int (tWeight (pick xs 0))), .im (.int m), .im (.int c), .im (.int n), .ow p (((List.range i).map fun (k : Nat) => tTry m c (pick xs (4 + (k : Int)))).map PyData.int), .un]) (by walk_at "ev") (by omega) rfl ?_ ?_
  · rintro G hG i τ' hi rfl
    dsimp only [List.set]
    have g := tk_get (xs := xs) (i := 4 + i) hl (by omega)
    rw [show ((4 + i : Nat) : Int) = 4 + (i : Int) by omega] at g
    have xk : Ev K (tOp (rIx K) (tVar 0) (tOp (rAdd K) (tC (.int 4)) (tVar 6))) [.im (.list (xs.map PyData.int)), .im (.int (tWeight (pick xs 0))), .im (.int m), .im (.int c), .im (.int n), .ow p (((List.range i).map fun (k : Nat) => tTry m c (pick xs (4 + (k : Int)))).map PyData.int), .im (.int (i : Int))] (.int (pick xs (4 + (i : Int)))) := ev_op (ev_var rfl) (ev_op ev_int (ev_var rfl) rv_addI) (rv_ixL g)
    generalize hx : pick xs (4 + (i : Int)) = x at *
    have x5 := ev_op (dv (by decide) (by decide) xk) m1 (rv_mod (i := x / 5) (j := m + 1) (by omega))
    refine run_app (d := .int (tTry m c x)) rfl (ev_pick [x / 5 % (m + 1), x / 5 % (m + 1), 0, m, c] (ea_cons x5 (ea_cons x5 (ea_cons ev_int (ea_cons (ev_var rfl) (ea_cons (ev_var rfl) ea_nil))))) (md (by decide) xk) (mod_bd _ (by decide)) (by simp)) (by simp; omega) ?_
    refine run_end (js := [6]) ?_ rfl
    subst hx
    rw [List.range_succ, List.map_append, List.map_append]
    rfl
  · rintro τ' rfl
    refine run_freeze (j := 5) rfl ?_
    exact run_ret (by walk_at "ev") k
/-- the mark of the first i tries -/
def markTo (t : Task) (i : Nat) : Option Int := if i = 0 then none else some (maxL (t.gives.take i))
theorem markTo_all (t : Task) : markTo t t.tries.length = t.mark := by
  unfold markTo Task.mark
  rw [← gives_len, List.take_length]
  by_cases h : t.gives = []
  · rw [if_pos h, if_pos (by rw [h]; rfl)]
  · rw [if_neg h, if_neg (fun e => h (List.length_eq_zero_iff.mp e))]
theorem markTo_succ {t : Task} {i : Nat} {g : Int} (h : t.gives[i]? = some g) : markTo t (i + 1) = some (match markTo t i with | none => g | some b => if b < g then g else b) := by
  have hl : i < t.gives.length := (List.getElem?_eq_some_iff.mp h).1
  unfold markTo
  rw [if_neg (by omega), take_snoc h]
  by_cases h0 : i = 0
  · subst h0
    rw [if_pos rfl]
    rfl
  · rw [if_neg h0, maxL_snoc (fun e => by
      have := congrArg List.length e
      rw [List.length_take] at this
      simp only [List.length_nil] at this
      omega)]
theorem tries_at {t : Task} {i : Nat} {p : Int} (h : t.tries[i]? = some p) : atI (t.tries.map PyData.int) (i : Int) = some (.int p) := atI_nat (by rw [List.getElem?_map, h]; rfl)
theorem by_l_mark {N : List Str} (hN : N.length = 4) : ∀ vs H Q E, sp_l_mark K vs H Q E → t_l_mark K { nx := fun _ H' => Q .non H', rt := Q } (L2.start N vs) H := body_R hN <| by
  rintro ds d ⟨t, rfl, hl, rfl⟩ O F Dn hnx kk
  show Run K O F (t_l_mark K) Dn [.im t.d, .un, .un, .un]
  unfold t_l_mark
  unfold Task.d
  refine run_asg (d := .none) ev_non ?_
  refine run_forR (n := (t.tries.length : Int)) [2, 3] (fun i τ => τ = [.im (.tuple [.int t.w, .int t.m, .int t.c, .tuple (t.tries.map PyData.int)]), .im (optD (markTo t i)), .un, .un]) (ea_cons (ev_to (by walk_at "ev") (by rw [List.length_map])) ea_nil) (by omega) rfl ?_ ?_
  · rintro G hG i τ' hi rfl
    dsimp only [List.set]
    have hi' : i < t.tries.length := by omega
    obtain ⟨p, hp⟩ : ∃ p, t.tries[i]? = some p := ⟨_, List.getElem?_eq_getElem hi'⟩
    have hg := gives_get hp
    have ha := tries_at hp
    refine run_asg (d := .int p) (ev_op (by walk_at "ev") (by walk_at "ev") (rv_ixT ha)) ?_
    refine run_ifAsg (b := decide ((0 : Int) < (i : Int)) && decide (t.c < p)) (d0 := .int p) (d := .int t.c) (by walk_at "ev") rfl (fun _ => by walk_at "ev") ?_
    have e : (if (decide ((0 : Int) < (i : Int)) && decide (t.c < p)) = true then PyData.int t.c else .int p) = .int (if i = 0 then p else capd t.c p) := by
      unfold capd
      by_cases h0 : i = 0
      · subst h0; rfl
      · rw [if_neg h0]
        by_cases h1 : t.c < p
        · rw [if_pos h1, if_pos (by simp [h1]; omega)]
        · rw [if_neg h1, if_neg (by simp [h1])]
    rw [e]
    generalize (if i = 0 then p else capd t.c p) = g at *
    have hs := markTo_succ hg
    cases hm : markTo t i with
    | none =>
      rw [hm] at hs
      refine run_ifAsg (b := isNone (optD none) || false) (d0 := .none) (d := .int g) (et_or (by walk_at "ev") (fun h => by cases h)) rfl (fun _ => by walk_at "ev") ?_
      refine run_end (js := [2, 3]) ?_ rfl
      rw [hs]
      rfl
    | some b =>
      rw [hm] at hs
      refine run_ifAsg (b := isNone (optD (some b)) || decide (b < g)) (d0 := .int b) (d := .int g) (et_or (by walk_at "ev") (fun h => et_test (ev_op (ev_var rfl) (ev_var (d := .int b) rfl) rv_gt))) rfl (fun _ => by walk_at "ev") ?_
      refine run_end (js := [2, 3]) ?_ rfl
      rw [hs]
      show [_, Sl.im (if decide (b < g) = true then PyData.int g else .int b), _, _] = [_, Sl.im (.int (if b < g then g else b)), _, _]
      by_cases h : b < g <;> simp [h] <;> rfl
  · rintro τ' rfl
    rw [Int.toNat_natCast, markTo_all]
    exact run_ret (by walk_at "ev") kk
theorem by_l_gives {N : List Str} (hN : N.length = 3) : ∀ vs H Q E, sp_l_gives K vs H Q E → t_l_gives K { nx := fun _ H' => Q .non H', rt := Q } (L2.start N vs) H := body_N hN <| by
  rintro ds es ⟨t, rfl, hl, rfl⟩ O F Dn k
  show Run K O F (t_l_gives K) Dn [.im t.d, .un, .un]
  unfold t_l_gives
  unfold Task.d
  refine run_asgN (en_lst ea_nil (by decide)) fun p => ?_
  refine run_forR (n := (t.tries.length : Int)) [2] (fun i τ => τ = [.im (.tuple [.int t.w, .int t.m, .int t.c, .tuple (t.tries.map PyData.int)]), .ow p ((t.gives.take i).map PyData.int), .un]) (ea_cons (ev_to (by walk_at "ev") (by rw [List.length_map])) ea_nil) (by omega) rfl ?_ ?_
  · rintro G hG i τ' hi rfl
    dsimp only [List.set]
    have hi' : i < t.tries.length := by omega
    obtain ⟨q, hq⟩ : ∃ q, t.tries[i]? = some q := ⟨_, List.getElem?_eq_getElem hi'⟩
    have hg := gives_get hq
    have ha := tries_at hq
    have fin : ∀ {G' : Hp} {g : Int}, t.gives[i]? = some g → (t.gives.take i).map PyData.int ++ [PyData.int g] = (t.gives.take (i + 1)).map PyData.int := fun h => by
      rw [take_snoc h, List.map_append]
      rfl
    have hz : ((t.gives.take i).map PyData.int).length < 100000 := by
      rw [List.length_map, List.length_take, gives_len]
      omega
    refine run_if (b := decide ((i : Int) = 0) || decide (q < t.c)) (et_or (by walk_at "ev") (fun _ => et_test (ev_op (ev_op (by walk_at "ev") (by walk_at "ev") (rv_ixT ha)) (by walk_at "ev") rv_lt))) (fun h => ?_) (fun h => ?_)
    · refine run_app (d := .int q) rfl (ev_op (by walk_at "ev") (by walk_at "ev") (rv_ixT ha)) hz (run_nx ?_)
      refine run_end (js := [2]) ?_ rfl
      have e : (if i = 0 then q else capd t.c q) = q := by
        unfold capd
        rw [Bool.or_eq_true, decide_eq_true_eq, decide_eq_true_eq] at h
        split
        · rfl
        · rw [if_neg (by omega)]
      rw [e] at hg
      rw [← fin (G' := G) hg]
      rfl
    · refine run_app (d := .int t.c) rfl (by walk_at "ev") hz (run_nx ?_)
      refine run_end (js := [2]) ?_ rfl
      have e : (if i = 0 then q else capd t.c q) = t.c := by
        unfold capd
        rw [Bool.or_eq_false_iff, decide_eq_false_iff_not, decide_eq_false_iff_not] at h
        rw [if_neg (by omega)]
        split <;> omega
      rw [e] at hg
      rw [← fin (G' := G) hg]
      rfl
  · rintro τ' rfl
    refine run_retO (j := 1) rfl ?_
    rw [Int.toNat_natCast, ← gives_len, List.take_length]
    exact k

/-- law(script); slots script task due found best more after points -/
def t_law_k02 (K : PySem.W.Frag) : TS :=
 (tSeq (tAsg (tCall (sp_l_task_by K) [] E0 (tCons (tCall (sp_l_stream K) [] E0 (tCons (tCall (sp_l_cell_at K) [] E0 (tCons (tVar 0) (tCons (tC (.int 0)) tNil))) (tCons (tC (.int 16)) tNil))) tNil)) (gName 1))
 (tSeq (tAsg (tCall (sp_l_gives K) [] E0 (tCons (tVar 1) tNil)) (gName 2))
 (tSeq (tAsg (tCall (sp_gives K) [] E0 (tCons (tVar 1) tNil)) (gName 3))
 (tSeq (tIfS (tOr (tNot (tB (tCB (rIsi K) (tCons (tVar 3) (tCons (tC (.ty "list")) tNil))))) (tOr (tTest (tOp (rNeD K) (tVar 3) (tVar 2))) (tTest (tOp (rNeD K) (tLc (iSeq K (tVar 3)) (gName 7) (tNot (tB (tCall (sp_l_whole K) [] E0 (tCons (tVar 7) tNil)))) (tVar 7) [7]) (tLst tNil))))) (tSeq (tRet (tC (.bl false)))
 tNext) tNext)
 (tSeq (tIfS (tTest (tOp (rEqD K) (tVar 2) (tLst tNil))) (tSeq (tRet (tAndV (tOp rIs (tCall (sp_mark K) [] E0 (tCons (tVar 1) tNil)) (tC .non)) (tOp rIs (tCall (sp_chosen K) [] E0 (tCons (tVar 1) tNil)) (tC .non))))
 tNext) tNext)
 (tSeq (tAsg (tCall (sp_mark K) [] E0 (tCons (tVar 1) tNil)) (gName 4))
 (tSeq (tIfS (tOr (tNot (tB (tCall (sp_l_whole K) [] E0 (tCons (tVar 4) tNil)))) (tTest (tOp (rNeD K) (tVar 4) (tCall (sp_l_mark K) [] E0 (tCons (tVar 1) tNil))))) (tSeq (tRet (tC (.bl false)))
 tNext) tNext)
 (tSeq (tIfS (tOr (tNot (tB (tCall (sp_l_whole K) [] E0 (tCons (tCall (sp_chosen K) [] E0 (tCons (tVar 1) tNil)) tNil)))) (tTest (tOp (rNeD K) (tBM K "list" (rIndexK K) (tVar 2) (tCons (tVar 4) tNil)) (tCall (sp_chosen K) [] E0 (tCons (tVar 1) tNil))))) (tSeq (tRet (tC (.bl false)))
 tNext) tNext)
 (tSeq (tIfS (tTest (tOp (rEqD K) (tCB (rLen K) (tCons (tOp (rIx K) (tVar 1) (tC (.int 3))) tNil)) (tC (.int 12)))) (tSeq (tRet (tC (.bl true)))
 tNext) tNext)
 (tSeq (tAsg (tOp rMod (tCall (sp_l_cell_at K) [] E0 (tCons (tVar 0) (tCons (tC (.int 1)) tNil))) (tOp (rAdd K) (tOp (rIx K) (tVar 1) (tC (.int 1))) (tC (.int 1)))) (gName 5))
 (tSeq (tAsg (tCall (sp_mark K) [] E0 (tCons (tTup (tCons (tOp (rIx K) (tVar 1) (tC (.int 0))) (tCons (tOp (rIx K) (tVar 1) (tC (.int 1))) (tCons (tOp (rIx K) (tVar 1) (tC (.int 2))) (tCons (tOp (rAdd K) (tOp (rIx K) (tVar 1) (tC (.int 3))) (tTup (tCons (tVar 5) tNil))) tNil))))) tNil)) (gName 6))
 (tSeq (tRet (tOp (rEqD K) (tVar 6) (tCB rMax2 (tCons (tVar 4) (tCons (tCB rMin2 (tCons (tVar 5) (tCons (tOp (rIx K) (tVar 1) (tC (.int 2))) tNil))) tNil)))))
 tNext))))))))))))
theorem by_law_k02 {N : List Str} (hN : N.length = 8) : ∀ vs H Q E, sp_law_k02 K vs H Q E → t_law_k02 K { nx := fun _ H' => Q .non H', rt := Q } (L2.start N vs) H := body_R hN <| by
  rintro ds d ⟨ns, rfl, hl, rfl⟩ O F Dn hnx k
  show Run K O F (t_law_k02 K) Dn [.im (.list (ns.map PyData.int)), .un, .un, .un, .un, .un, .un, .un]
  unfold t_law_k02
  generalize ht : taskBy (stream (cell ns 0) 16) = t
  have hn : t.tries.length ≤ 12 := by rw [← ht]; exact taskBy_n _
  have hok : t.Ok := by rw [← ht]; exact taskBy_ok _
  refine run_asg (d := t.d) (ev_call (ea_cons (ev_callN (by walk_at "ev"; exact ⟨_, _, rfl, hl, rfl⟩) ⟨cell ns 0, 16, rfl, by decide, by decide, rfl⟩) ea_nil) ⟨_, rfl, Nat.le_of_eq (stream_len _ _).symm, by show t.d = (taskBy (stream (cell ns 0) 16)).d; rw [ht]⟩) ?_
  refine run_asg (d := .list (t.gives.map PyData.int)) (ev_callN (by walk_at "ev") ⟨t, rfl, by omega, rfl⟩) ?_
  refine run_asg (d := .list (t.gives.map PyData.int)) (ev_callN (by walk_at "ev") ⟨t, rfl, by omega, rfl⟩) ?_
  have sg : Shp 1 (.list (t.gives.map PyData.int)) := shp_list shp_ints
  have hc : EvN K (tLc (iSeq K (tVar 3)) (gName 7) (tNot (tB (tCall (sp_l_whole K) [] E0 (tCons (tVar 7) tNil)))) (tVar 7) [7]) [.im (.list (ns.map PyData.int)), .im t.d, .im (.list (t.gives.map PyData.int)), .im (.list (t.gives.map PyData.int)), .un, .un, .un, .un] ((t.gives.map PyData.int).filterMap fun _ => none) := by
    refine en_lc (fun _ => none) (by walk_at "ev") (.inl rfl) (by rw [List.length_map, gives_len]; omega) (fun e he => ?_) (fun e he r h => nomatch h)
    obtain ⟨i, _, rfl⟩ := List.mem_map.mp he
    dsimp only [List.set]
    exact et_not (x := true) (et_B (ev_call (by walk_at "ev") ⟨i, rfl, rfl⟩))
  rw [fm_none] at hc
  refine run_if (b := !true || (false || false)) (et_or (et_not (et_B (by walk_at "ev"))) fun _ => et_or (et_test (ev_op (by walk_at "ev") (by walk_at "ev") (rv_neS sg (by decide)))) fun _ => et_test (ev_op hc.ev (by walk_at "ev") (rv_neS (d := .list []) (n := 1) (shp_list fun e he => nomatch he) (by decide)))) (fun h => by simp at h) (fun _ => run_nx ?_)
  by_cases hg : t.gives = []
  · have e1 : t.mark = none := if_pos hg
    have e2 : t.chosen = none := if_pos hg
    refine run_if (b := true) (et_test (ev_op (ev_var (d := .list []) (by rw [hg]; rfl)) (by walk_at "ev") (rv_eqS (d := .list []) (n := 1) (shp_list fun e he => nomatch he) (by decide)))) (fun _ => ?_) (fun h => by cases h)
    refine run_ret (ev_andV (x := true) (y := true) (ev_op (ev_call (by walk_at "ev") ⟨t, rfl, by omega, rfl⟩) ev_non (by rw [e1]; exact rv_isN)) (fun _ => ev_op (ev_call (by walk_at "ev") ⟨t, rfl, by omega, rfl⟩) ev_non (by rw [e2]; exact rv_isN))) k
  · have e1 : t.mark = some (maxL t.gives) := if_neg hg
    have e2 : t.chosen = some ((t.gives.idxOf (maxL t.gives) : Nat) : Int) := if_neg hg
    have e0 : PyData.eqv (.list (t.gives.map PyData.int)) (.list []) = false := by
      cases h : t.gives with
      | nil => exact absurd h hg
      | cons a r => rfl
    refine run_if (b := false) (et_test (ev_op (by walk_at "ev") (by walk_at "ev") (by
      have := rv_eq (K := K) (sg.shaped (by decide)) ((shp_list (n := 1) (ds := []) fun e he => nomatch he).shaped (by decide))
      rw [e0] at this
      exact this))) (fun h => by cases h) (fun _ => run_nx ?_)
    refine run_asg (d := .int (maxL t.gives)) (ev_call (by walk_at "ev") ⟨t, rfl, by omega, by rw [e1]; rfl⟩) ?_
    refine run_if (b := !true || false) (et_or (et_not (et_B (ev_call (by walk_at "ev") ⟨_, rfl, rfl⟩))) fun _ => et_test (ev_op (by walk_at "ev") (ev_call (d := .int (maxL t.gives)) (by walk_at "ev") ⟨t, rfl, by omega, by rw [e1]; rfl⟩) (rv_neS (n := 0) shp_int (by decide)))) (fun h => by simp at h) (fun _ => run_nx ?_)
    have cc : ∀ {τ : List Sl} {s : Sl}, Ev K (tCall (sp_chosen K) [] E0 (tCons (tVar 1) tNil)) (s :: .im t.d :: τ) (.int ((t.gives.idxOf (maxL t.gives) : Nat) : Int)) := ev_call (ea_cons (ev_var rfl) ea_nil) ⟨t, rfl, by omega, by rw [e2]; rfl⟩
    refine run_if (b := !true || false) (et_or (et_not (et_B (ev_call (ea_cons cc ea_nil) ⟨_, rfl, rfl⟩))) fun _ => et_test (ev_op (ev_index (by walk_at "ev") (by walk_at "ev") (maxL_mem hg)) cc (rv_neS (n := 0) shp_int (by decide)))) (fun h => by simp at h) (fun _ => run_nx ?_)
    refine run_if (b := decide ((t.tries.length : Int) = 12)) (et_test (ev_to (by unfold Task.d; walk_at "ev") (by rw [List.length_map]))) (fun _ => ?_) (fun h => run_nx ?_)
    · exact run_ret (by walk_at "ev") k
    · have hm : 0 < t.m + 1 := by have := hok.m1; omega
      generalize hmo : cell ns 1 % (t.m + 1) = more
      refine run_asg (d := .int more) (ev_to (a := .int (cell ns 1 % (t.m + 1))) (ev_op (ev_call (by walk_at "ev") ⟨_, _, rfl, hl, rfl⟩) (by unfold Task.d; walk_at "ev") (rv_mod hm)) (by rw [hmo])) ?_
      let t2 : Task := { t with tries := t.tries ++ [more] }
      have hg2 : t2.gives = t.gives ++ [capd t.c more] := by
        have hne : t.tries ≠ [] := fun e => hg (gives_nil.mpr e)
        show Task.gives { t with tries := t.tries ++ [more] } = _
        unfold Task.gives
        cases e : t.tries with
        | nil => exact absurd e hne
        | cons a r =>
          show a :: (r ++ [more]).map (capd t.c) = a :: r.map (capd t.c) ++ [capd t.c more]
          rw [List.map_append]
          rfl
      have hm2 : t2.mark = some (if maxL t.gives < capd t.c more then capd t.c more else maxL t.gives) := by
        unfold Task.mark
        rw [hg2, if_neg (by simp), maxL_snoc hg]
      refine run_asg (d := .int (if maxL t.gives < capd t.c more then capd t.c more else maxL t.gives)) (ev_call (ea_cons (ev_to (a := .tuple [.int t.w, .int t.m, .int t.c, .tuple (t.tries.map PyData.int ++ [.int more])]) (by unfold Task.d; walk_at "ev"; simp; omega) (show _ = t2.d by
        show _ = PyData.tuple [.int t.w, .int t.m, .int t.c, .tuple ((t.tries ++ [more]).map PyData.int)]
        rw [List.map_append]
        rfl)) ea_nil) ⟨t2, rfl, by show (t.tries ++ [more]).length ≤ 100; simp; omega, by rw [hm2]; rfl⟩) ?_
      refine run_ret (ev_op (by walk_at "ev") (ev_to (a := .int (if (if t.c < more then t.c else more) > maxL t.gives then (if t.c < more then t.c else more) else maxL t.gives)) (by unfold Task.d; walk_at "ev") rfl) (rv_eqS (n := 0) shp_int (by decide))) k

end GW

namespace GW
open PySem PySem.Spec PyProof.Rows L2
/-! ### the text -/
def topS (i : Nat) : Stmt := PySem.Challenge.pw_gradewish_k02_marks.main.body.getD i (.Pass ⟨0, 0, 0, 0⟩)
abbrev s_gives : Stmt := topS 1
abbrev N_gives : List Str := ["task", "found", "points"]
abbrev p_gives : List Str := ["task"]
theorem sc_gives : FnScope N_gives p_gives (defScope s_gives) := ⟨rfl, rfl, rfl, by decide +kernel, rfl, by decide +kernel, by decide +kernel⟩
abbrev s_mark : Stmt := topS 2
abbrev N_mark : List Str := ["task"]
abbrev p_mark : List Str := ["task"]
theorem sc_mark : FnScope N_mark p_mark (defScope s_mark) := ⟨rfl, rfl, rfl, by decide +kernel, rfl, by decide +kernel, by decide +kernel⟩
abbrev s_chosen : Stmt := topS 3
abbrev N_chosen : List Str := ["task", "found"]
abbrev p_chosen : List Str := ["task"]
theorem sc_chosen : FnScope N_chosen p_chosen (defScope s_chosen) := ⟨rfl, rfl, rfl, by decide +kernel, rfl, by decide +kernel, by decide +kernel⟩
abbrev s_l_cell_at : Stmt := topS 5
abbrev N_l_cell_at : List Str := ["_law_script", "_law_k"]
abbrev p_l_cell_at : List Str := ["_law_script", "_law_k"]
theorem sc_l_cell_at : FnScope N_l_cell_at p_l_cell_at (defScope s_l_cell_at) := ⟨rfl, rfl, rfl, by decide +kernel, rfl, by decide +kernel, by decide +kernel⟩
abbrev s_l_stream : Stmt := topS 6
abbrev N_l_stream : List Str := ["_law_cell", "_law_many", "_law_found", "_law_number", "_law_k"]
abbrev p_l_stream : List Str := ["_law_cell", "_law_many"]
theorem sc_l_stream : FnScope N_l_stream p_l_stream (defScope s_l_stream) := ⟨rfl, rfl, rfl, by decide +kernel, rfl, by decide +kernel, by decide +kernel⟩
abbrev s_l_whole : Stmt := topS 7
abbrev N_l_whole : List Str := ["_law_found"]
abbrev p_l_whole : List Str := ["_law_found"]
theorem sc_l_whole : FnScope N_l_whole p_l_whole (defScope s_l_whole) := ⟨rfl, rfl, rfl, by decide +kernel, rfl, by decide +kernel, by decide +kernel⟩
abbrev s_l_task_by : Stmt := topS 8
abbrev N_l_task_by : List Str := ["_law_xs", "_law_weight", "_law_most", "_law_cap", "_law_many", "_law_tries", "_law_k"]
abbrev p_l_task_by : List Str := ["_law_xs"]
theorem sc_l_task_by : FnScope N_l_task_by p_l_task_by (defScope s_l_task_by) := ⟨rfl, rfl, rfl, by decide +kernel, rfl, by decide +kernel, by decide +kernel⟩
abbrev s_l_mark : Stmt := topS 9
abbrev N_l_mark : List Str := ["_law_task", "_law_best", "_law_k", "_law_points"]
abbrev p_l_mark : List Str := ["_law_task"]
theorem sc_l_mark : FnScope N_l_mark p_l_mark (defScope s_l_mark) := ⟨rfl, rfl, rfl, by decide +kernel, rfl, by decide +kernel, by decide +kernel⟩
abbrev s_l_gives : Stmt := topS 10
abbrev N_l_gives : List Str := ["_law_task", "_law_found", "_law_k"]
abbrev p_l_gives : List Str := ["_law_task"]
theorem sc_l_gives : FnScope N_l_gives p_l_gives (defScope s_l_gives) := ⟨rfl, rfl, rfl, by decide +kernel, rfl, by decide +kernel, by decide +kernel⟩
abbrev s_law_k02 : Stmt := topS 11
abbrev N_law_k02 : List Str := ["_law_script", "_law_task", "_law_due", "_law_found", "_law_best", "_law_more", "_law_after", "_law_points"]
abbrev p_law_k02 : List Str := ["_law_script"]
theorem sc_law_k02 : FnScope N_law_k02 p_law_k02 (defScope s_law_k02) := ⟨rfl, rfl, rfl, by decide +kernel, rfl, by decide +kernel, by decide +kernel⟩
section
variable {P : Program} {w : World} {K : PySem.W.Frag} {mg : Str → Option Value} {base : Heap}
theorem ok_gives (z_list : mg "list" = none) (z_min : mg "min" = none) {f : Addr} {fd : FuncData} (F : Fun K "gives" "gives" s_gives f fd) (hm : mg "gives" = some (.ref f)) : Fn P w K mg base "gives" p_gives 1 (sp_gives K) := by
  refine ⟨f, fd, F.ok sc_gives (fun vs H Q E h => (by first | exact len_R h | exact len_N h)) (fun cdv A outer s H vs Q E hr h => ⟨t_gives K, ?_, by_gives rfl vs H Q E h⟩), hm, F.kp, F.binds (ps := p_gives) fun _ _ _ _ _ _ us hl => match us, hl with | [_], _ => rfl⟩
  unfold t_gives
  exact (pss_cons (ps_set (i := 1) sc_gives.nd rfl (by first | exact .inl rfl | exact .inr rfl) (pe_callTy cl_list (by rfl) z_list (by decide +kernel) (pa_cons (pe_slice sl_K (pe_ix ix_seq (pv 0) pe_int (fun _ _ => rfl)) po_none (po_some pe_int)) pa_nil)))
 (pss_cons (ps_for PassesOwn.never rfl (pi_seq (pe_slice sl_K (pe_ix ix_seq (pv 0) pe_int (fun _ _ => rfl)) (po_some pe_int) po_none)) (pg_name (i := 2) sc_gives.nd rfl (by first | exact .inl rfl | exact .inr rfl)) (pss_cons (ps_expr (pe_bm PySem.F.plainAttrs_list PySem.F.slot_list_append PySem.F.type_list_append mt_append (pv 1) (pa_cons (pe_callB (cl_min2 rfl) (by rfl) z_min (by decide +kernel) (pa_cons (pv 2) (pa_cons (pe_ix ix_seq (pv 0) pe_int (fun _ _ => rfl)) pa_nil))) pa_nil)))
 pss_nil))
 (pss_cons (ps_ret (pv 1))
 pss_nil)))
theorem ok_mark (G_gives : Fn P w K mg base "gives" p_gives 1 (sp_gives K)) (z_max : mg "max" = none) {f : Addr} {fd : FuncData} (F : Fun K "mark" "mark" s_mark f fd) (hm : mg "mark" = some (.ref f)) : Fn P w K mg base "mark" p_mark 2 (sp_mark K) := by
  refine ⟨f, fd, F.ok sc_mark (fun vs H Q E h => (by first | exact len_R h | exact len_N h)) (fun cdv A outer s H vs Q E hr h => ⟨t_mark K, ?_, by_mark rfl vs H Q E h⟩), hm, F.kp, F.binds (ps := p_mark) fun _ _ _ _ _ _ us hl => match us, hl with | [_], _ => rfl⟩
  unfold t_mark
  exact (pss_cons (ps_ret (pe_callBK (cl_maxD rfl hr.units) (by rfl) z_max (by decide +kernel) (pa_cons (pe_fn G_gives (hr.mono (by decide)) (pa_cons (pv 0) pa_nil)) pa_nil) (pk_cons pe_non pk_nil)))
 pss_nil)
theorem ok_chosen (G_gives : Fn P w K mg base "gives" p_gives 1 (sp_gives K)) (z_len : mg "len" = none) (z_max : mg "max" = none) {f : Addr} {fd : FuncData} (F : Fun K "chosen" "chosen" s_chosen f fd) (hm : mg "chosen" = some (.ref f)) : Fn P w K mg base "chosen" p_chosen 2 (sp_chosen K) := by
  refine ⟨f, fd, F.ok sc_chosen (fun vs H Q E h => (by first | exact len_R h | exact len_N h)) (fun cdv A outer s H vs Q E hr h => ⟨t_chosen K, ?_, by_chosen rfl vs H Q E h⟩), hm, F.kp, F.binds (ps := p_chosen) fun _ _ _ _ _ _ us hl => match us, hl with | [_], _ => rfl⟩
  unfold t_chosen
  exact (pss_cons (ps_set (i := 1) sc_chosen.nd rfl (by first | exact .inl rfl | exact .inr rfl) (pe_fn G_gives (hr.mono (by decide)) (pa_cons (pv 0) pa_nil)))
 (pss_cons (ps_if (pt_cmpR (op_eqD hr.units) (pe_callB cl_len (by rfl) z_len PySem.boot_len (pa_cons (pv 1) pa_nil)) pe_int (nomark _)) (pss_cons (ps_ret pe_non)
 pss_nil) pss_nil)
 (pss_cons (ps_ret (pe_bm PySem.F.plainAttrs_list PySem.F.slot_list_index PySem.F.type_list_index (mt_indexK hr.units) (pv 1) (pa_cons (pe_callB (cl_max1 rfl) (by rfl) z_max (by decide +kernel) (pa_cons (pv 1) pa_nil)) pa_nil)))
 pss_nil)))
theorem ok_l_cell_at (z_len : mg "len" = none) {f : Addr} {fd : FuncData} (F : Fun K "_law_cell_at" "_law_cell_at" s_l_cell_at f fd) (hm : mg "_law_cell_at" = some (.ref f)) : Fn P w K mg base "_law_cell_at" p_l_cell_at 1 (sp_l_cell_at K) := by
  refine ⟨f, fd, F.ok sc_l_cell_at (fun vs H Q E h => (by first | exact len_R h | exact len_N h)) (fun cdv A outer s H vs Q E hr h => ⟨t_l_cell_at K, ?_, by_l_cell_at rfl vs H Q E h⟩), hm, F.kp, F.binds (ps := p_l_cell_at) fun _ _ _ _ _ _ us hl => match us, hl with | [_, _], _ => rfl⟩
  unfold t_l_cell_at
  exact (pss_cons (ps_if (pt_cmpR (op_eqD hr.units) (pe_callB cl_len (by rfl) z_len PySem.boot_len (pa_cons (pv 0) pa_nil)) pe_int (nomark _)) (pss_cons (ps_ret (pv 1))
 pss_nil) pss_nil)
 (pss_cons (ps_ret (pe_op op_addK (pe_ix ix_seq (pv 0) (pe_op op_modK (pv 1) (pe_callB cl_len (by rfl) z_len PySem.boot_len (pa_cons (pv 0) pa_nil))) (fun _ _ => rfl)) (pe_op op_mulK pe_int (pe_op op_divK (pv 1) (pe_callB cl_len (by rfl) z_len PySem.boot_len (pa_cons (pv 0) pa_nil))))))
 pss_nil))
theorem ok_l_stream (z_range : mg "range" = none) {f : Addr} {fd : FuncData} (F : Fun K "_law_stream" "_law_stream" s_l_stream f fd) (hm : mg "_law_stream" = some (.ref f)) : Fn P w K mg base "_law_stream" p_l_stream 1 (sp_l_stream K) := by
  refine ⟨f, fd, F.ok sc_l_stream (fun vs H Q E h => (by first | exact len_R h | exact len_N h)) (fun cdv A outer s H vs Q E hr h => ⟨t_l_stream K, ?_, by_l_stream rfl vs H Q E h⟩), hm, F.kp, F.binds (ps := p_l_stream) fun _ _ _ _ _ _ us hl => match us, hl with | [_, _], _ => rfl⟩
  unfold t_l_stream
  exact (pss_cons (ps_set (i := 2) sc_l_stream.nd rfl (by first | exact .inl rfl | exact .inr rfl) (pe_lst pa_nil))
 (pss_cons (ps_set (i := 3) sc_l_stream.nd rfl (by first | exact .inl rfl | exact .inr rfl) (pe_op op_addK (pe_op op_modK (pv 0) pe_int) pe_int))
 (pss_cons (ps_for PassesOwn.never rfl (pi_range1 rfl z_range (pa_cons (pe_op op_addK (pv 1) pe_int) pa_nil)) (pg_name (i := 4) sc_l_stream.nd rfl (by first | exact .inl rfl | exact .inr rfl)) (pss_cons (ps_set (i := 3) sc_l_stream.nd rfl (by first | exact .inl rfl | exact .inr rfl) (pe_op op_modK (pe_op op_addK (pe_op op_addK (pe_op op_addK (pe_op op_mulK (pv 3) (pv 3)) (pe_op op_mulK pe_int (pv 3))) (pe_op op_mulK pe_int (pv 4))) pe_int) pe_int))
 (pss_cons (ps_expr (pe_bm PySem.F.plainAttrs_list PySem.F.slot_list_append PySem.F.type_list_append mt_append (pv 2) (pa_cons (pv 3) pa_nil)))
 pss_nil)))
 (pss_cons (ps_ret (pe_slice sl_K (pv 2) (po_some pe_int) po_none))
 pss_nil))))
theorem ok_l_whole (z_bool : mg "bool" = none) (z_int : mg "int" = none) (z_isinstance : mg "isinstance" = none) {f : Addr} {fd : FuncData} (F : Fun K "_law_whole" "_law_whole" s_l_whole f fd) (hm : mg "_law_whole" = some (.ref f)) : Fn P w K mg base "_law_whole" p_l_whole 1 (sp_l_whole K) := by
  refine ⟨f, fd, F.ok sc_l_whole (fun vs H Q E h => (by first | exact len_R h | exact len_N h)) (fun cdv A outer s H vs Q E hr h => ⟨t_l_whole K, ?_, by_l_whole rfl vs H Q E h⟩), hm, F.kp, F.binds (ps := p_l_whole) fun _ _ _ _ _ _ us hl => match us, hl with | [_], _ => rfl⟩
  unfold t_l_whole
  exact (pss_cons (ps_ret (pe_and (pe_callB call_isi (by rfl) z_isinstance (by decide +kernel) (pa_cons (pv 0) (pa_cons (pe_bltn (v := .ty "int") rfl z_int (by decide +kernel) rfl) pa_nil))) (pe_one (pe_not (pe_callB call_isi (by rfl) z_isinstance (by decide +kernel) (pa_cons (pv 0) (pa_cons (pe_bltn (v := .ty "bool") rfl z_bool (by decide +kernel) rfl) pa_nil)))))))
 pss_nil)
theorem ok_l_task_by (z_range : mg "range" = none) (z_tuple : mg "tuple" = none) {f : Addr} {fd : FuncData} (F : Fun K "_law_task_by" "_law_task_by" s_l_task_by f fd) (hm : mg "_law_task_by" = some (.ref f)) : Fn P w K mg base "_law_task_by" p_l_task_by 1 (sp_l_task_by K) := by
  refine ⟨f, fd, F.ok sc_l_task_by (fun vs H Q E h => (by first | exact len_R h | exact len_N h)) (fun cdv A outer s H vs Q E hr h => ⟨t_l_task_by K, ?_, by_l_task_by rfl vs H Q E h⟩), hm, F.kp, F.binds (ps := p_l_task_by) fun _ _ _ _ _ _ us hl => match us, hl with | [_], _ => rfl⟩
  unfold t_l_task_by
  exact (pss_cons (ps_set (i := 1) sc_l_task_by.nd rfl (by first | exact .inl rfl | exact .inr rfl) (pe_op op_addK pe_int (pe_op op_modK (pe_ix ix_seq (pv 0) pe_int (fun _ _ => rfl)) pe_int)))
 (pss_cons (ps_if (pt_cmpR (op_eqD hr.units) (pe_op op_modK (pe_op op_divK (pe_ix ix_seq (pv 0) pe_int (fun _ _ => rfl)) pe_int) pe_int) pe_int (nomark _)) (pss_cons (ps_set (i := 1) sc_l_task_by.nd rfl (by first | exact .inl rfl | exact .inr rfl) (pe_op op_addK pe_int (pe_op op_modK (pe_op op_divK (pe_ix ix_seq (pv 0) pe_int (fun _ _ => rfl)) pe_int) pe_int)))
 pss_nil) pss_nil)
 (pss_cons (ps_set (i := 2) sc_l_task_by.nd rfl (by first | exact .inl rfl | exact .inr rfl) (pe_ix ix_seq (pe_lst (pa_cons pe_int (pa_cons pe_int (pa_cons pe_int (pa_cons (pe_op op_addK pe_int (pe_op op_modK (pe_op op_divK (pe_ix ix_seq (pv 0) pe_int (fun _ _ => rfl)) pe_int) pe_int)) (pa_cons (pe_op op_addK pe_int (pe_op op_modK (pe_op op_divK (pe_ix ix_seq (pv 0) pe_int (fun _ _ => rfl)) pe_int) (pe_op op_powK pe_int pe_int))) (pa_cons (pe_op op_powK pe_int pe_int) pa_nil))))))) (pe_op op_modK (pe_ix ix_seq (pv 0) pe_int (fun _ _ => rfl)) pe_int) (fun _ _ => rfl)))
 (pss_cons (ps_set (i := 3) sc_l_task_by.nd rfl (by first | exact .inl rfl | exact .inr rfl) (pe_ix ix_seq (pe_lst (pa_cons (pv 2) (pa_cons pe_int (pa_cons (pe_op op_divK (pv 2) pe_int) (pa_cons (pe_op op_modK (pe_op op_divK (pe_ix ix_seq (pv 0) pe_int (fun _ _ => rfl)) pe_int) (pe_op op_addK (pv 2) pe_int)) pa_nil))))) (pe_op op_modK (pe_ix ix_seq (pv 0) pe_int (fun _ _ => rfl)) pe_int) (fun _ _ => rfl)))
 (pss_cons (ps_set (i := 4) sc_l_task_by.nd rfl (by first | exact .inl rfl | exact .inr rfl) (pe_ix ix_seq (pe_lst (pa_cons pe_int (pa_cons pe_int (pa_cons pe_int (pa_cons pe_int (pa_cons pe_int (pa_cons pe_int (pa_cons pe_int (pa_cons pe_int (pa_cons pe_int pa_nil)))))))))) (pe_op op_modK (pe_ix ix_seq (pv 0) pe_int (fun _ _ => rfl)) pe_int) (fun _ _ => rfl)))
 (pss_cons (ps_set (i := 5) sc_l_task_by.nd rfl (by first | exact .inl rfl | exact .inr rfl) (pe_lst pa_nil))
 (pss_cons (ps_for PassesOwn.never rfl (pi_range1 rfl z_range (pa_cons (pv 4) pa_nil)) (pg_name (i := 6) sc_l_task_by.nd rfl (by first | exact .inl rfl | exact .inr rfl)) (pss_cons (ps_expr (pe_bm PySem.F.plainAttrs_list PySem.F.slot_list_append PySem.F.type_list_append mt_append (pv 5) (pa_cons (pe_ix ix_seq (pe_lst (pa_cons (pe_op op_modK (pe_op op_divK (pe_ix ix_seq (pv 0) (pe_op op_addK pe_int (pv 6)) (fun _ _ => rfl)) pe_int) (pe_op op_addK (pv 2) pe_int)) (pa_cons (pe_op op_modK (pe_op op_divK (pe_ix ix_seq (pv 0) (pe_op op_addK pe_int (pv 6)) (fun _ _ => rfl)) pe_int) (pe_op op_addK (pv 2) pe_int)) (pa_cons pe_int (pa_cons (pv 2) (pa_cons (pv 3) pa_nil)))))) (pe_op op_modK (pe_ix ix_seq (pv 0) (pe_op op_addK pe_int (pv 6)) (fun _ _ => rfl)) pe_int) (fun _ _ => rfl)) pa_nil)))
 pss_nil))
 (pss_cons (ps_ret (pe_tup (pa_cons (pv 1) (pa_cons (pv 2) (pa_cons (pv 3) (pa_cons (pe_callTy cl_tuple (by rfl) z_tuple (by decide +kernel) (pa_cons (pv 5) pa_nil)) pa_nil))))))
 pss_nil))))))))
theorem ok_l_mark (z_len : mg "len" = none) (z_range : mg "range" = none) {f : Addr} {fd : FuncData} (F : Fun K "_law_mark" "_law_mark" s_l_mark f fd) (hm : mg "_law_mark" = some (.ref f)) : Fn P w K mg base "_law_mark" p_l_mark 1 (sp_l_mark K) := by
  refine ⟨f, fd, F.ok sc_l_mark (fun vs H Q E h => (by first | exact len_R h | exact len_N h)) (fun cdv A outer s H vs Q E hr h => ⟨t_l_mark K, ?_, by_l_mark rfl vs H Q E h⟩), hm, F.kp, F.binds (ps := p_l_mark) fun _ _ _ _ _ _ us hl => match us, hl with | [_], _ => rfl⟩
  unfold t_l_mark
  exact (pss_cons (ps_set (i := 1) sc_l_mark.nd rfl (by first | exact .inl rfl | exact .inr rfl) pe_non)
 (pss_cons (ps_for PassesOwn.never rfl (pi_range1 rfl z_range (pa_cons (pe_callB cl_len (by rfl) z_len PySem.boot_len (pa_cons (pe_ix ix_seq (pv 0) pe_int (fun _ _ => rfl)) pa_nil)) pa_nil)) (pg_name (i := 2) sc_l_mark.nd rfl (by first | exact .inl rfl | exact .inr rfl)) (pss_cons (ps_set (i := 3) sc_l_mark.nd rfl (by first | exact .inl rfl | exact .inr rfl) (pe_ix ix_seq (pe_ix ix_seq (pv 0) pe_int (fun _ _ => rfl)) (pv 2) (fun _ _ => rfl)))
 (pss_cons (ps_if (PW.pt (pw_and (pt_cmpR op_gtK (pv 2) pe_int (nomark _)) (pw_and1 (pt_cmpR op_gtK (pv 3) (pe_ix ix_seq (pv 0) pe_int (fun _ _ => rfl)) (nomark _))))) (pss_cons (ps_set (i := 3) sc_l_mark.nd rfl (by first | exact .inl rfl | exact .inr rfl) (pe_ix ix_seq (pv 0) pe_int (fun _ _ => rfl)))
 pss_nil) pss_nil)
 (pss_cons (ps_if (PW.pt (pw_or (pt_cmpR op_isK (pv 1) pe_non (nomark _)) (pw_or1 (pt_cmpR op_gtK (pv 3) (pv 1) (nomark _))))) (pss_cons (ps_set (i := 1) sc_l_mark.nd rfl (by first | exact .inl rfl | exact .inr rfl) (pv 3))
 pss_nil) pss_nil)
 pss_nil))))
 (pss_cons (ps_ret (pv 1))
 pss_nil)))
theorem ok_l_gives (z_len : mg "len" = none) (z_range : mg "range" = none) {f : Addr} {fd : FuncData} (F : Fun K "_law_gives" "_law_gives" s_l_gives f fd) (hm : mg "_law_gives" = some (.ref f)) : Fn P w K mg base "_law_gives" p_l_gives 1 (sp_l_gives K) := by
  refine ⟨f, fd, F.ok sc_l_gives (fun vs H Q E h => (by first | exact len_R h | exact len_N h)) (fun cdv A outer s H vs Q E hr h => ⟨t_l_gives K, ?_, by_l_gives rfl vs H Q E h⟩), hm, F.kp, F.binds (ps := p_l_gives) fun _ _ _ _ _ _ us hl => match us, hl with | [_], _ => rfl⟩
  unfold t_l_gives
  exact (pss_cons (ps_set (i := 1) sc_l_gives.nd rfl (by first | exact .inl rfl | exact .inr rfl) (pe_lst pa_nil))
 (pss_cons (ps_for PassesOwn.never rfl (pi_range1 rfl z_range (pa_cons (pe_callB cl_len (by rfl) z_len PySem.boot_len (pa_cons (pe_ix ix_seq (pv 0) pe_int (fun _ _ => rfl)) pa_nil)) pa_nil)) (pg_name (i := 2) sc_l_gives.nd rfl (by first | exact .inl rfl | exact .inr rfl)) (pss_cons (ps_if (PW.pt (pw_or (pt_cmpR (op_eqD hr.units) (pv 2) pe_int (nomark _)) (pw_or1 (pt_cmpR op_ltK (pe_ix ix_seq (pe_ix ix_seq (pv 0) pe_int (fun _ _ => rfl)) (pv 2) (fun _ _ => rfl)) (pe_ix ix_seq (pv 0) pe_int (fun _ _ => rfl)) (nomark _))))) (pss_cons (ps_expr (pe_bm PySem.F.plainAttrs_list PySem.F.slot_list_append PySem.F.type_list_append mt_append (pv 1) (pa_cons (pe_ix ix_seq (pe_ix ix_seq (pv 0) pe_int (fun _ _ => rfl)) (pv 2) (fun _ _ => rfl)) pa_nil)))
 pss_nil) (pss_cons (ps_expr (pe_bm PySem.F.plainAttrs_list PySem.F.slot_list_append PySem.F.type_list_append mt_append (pv 1) (pa_cons (pe_ix ix_seq (pv 0) pe_int (fun _ _ => rfl)) pa_nil)))
 pss_nil))
 pss_nil))
 (pss_cons (ps_ret (pv 1))
 pss_nil)))
theorem lawOk_k02 (G_gives : Fn P w K mg base "gives" p_gives 1 (sp_gives K)) (G_mark : Fn P w K mg base "mark" p_mark 2 (sp_mark K)) (G_chosen : Fn P w K mg base "chosen" p_chosen 2 (sp_chosen K)) (G_l_cell_at : Fn P w K mg base "_law_cell_at" p_l_cell_at 1 (sp_l_cell_at K)) (G_l_stream : Fn P w K mg base "_law_stream" p_l_stream 1 (sp_l_stream K)) (G_l_whole : Fn P w K mg base "_law_whole" p_l_whole 1 (sp_l_whole K)) (G_l_task_by : Fn P w K mg base "_law_task_by" p_l_task_by 1 (sp_l_task_by K)) (G_l_mark : Fn P w K mg base "_law_mark" p_l_mark 1 (sp_l_mark K)) (G_l_gives : Fn P w K mg base "_law_gives" p_l_gives 1 (sp_l_gives K)) (z_isinstance : mg "isinstance" = none) (z_len : mg "len" = none) (z_list : mg "list" = none) (z_max : mg "max" = none) (z_min : mg "min" = none) {f : Addr} {fd : FuncData} (F : Fun K "law" "law" s_law_k02 f fd) : FnOk P w K mg base CX0 3 f fd p_law_k02 (sp_law_k02 K) := by
  refine F.ok sc_law_k02 (fun vs H Q E h => (by first | exact len_R h | exact len_N h)) (fun cdv A outer s H vs Q E hr h => ⟨t_law_k02 K, ?_, by_law_k02 rfl vs H Q E h⟩)
  unfold t_law_k02
  exact (pss_cons (ps_set (i := 1) sc_law_k02.nd rfl (by first | exact .inl rfl | exact .inr rfl) (pe_fn G_l_task_by (hr.mono (by decide)) (pa_cons (pe_fn G_l_stream (hr.mono (by decide)) (pa_cons (pe_fn G_l_cell_at (hr.mono (by decide)) (pa_cons (pv 0) (pa_cons pe_int pa_nil))) (pa_cons pe_int pa_nil))) pa_nil)))
 (pss_cons (ps_set (i := 2) sc_law_k02.nd rfl (by first | exact .inl rfl | exact .inr rfl) (pe_fn G_l_gives (hr.mono (by decide)) (pa_cons (pv 1) pa_nil)))
 (pss_cons (ps_set (i := 3) sc_law_k02.nd rfl (by first | exact .inl rfl | exact .inr rfl) (pe_fn G_gives (hr.mono (by decide)) (pa_cons (pv 1) pa_nil)))
 (pss_cons (ps_if (PW.pt (pw_or (pt_not (pt_val (pe_callB call_isi (by rfl) z_isinstance (by decide +kernel) (pa_cons (pv 3) (pa_cons (pe_bltn (v := .ty "list") rfl z_list (by decide +kernel) rfl) pa_nil))))) (pw_or (pt_cmpR (op_neD hr.units) (pv 3) (pv 2) (nomark _)) (pw_or1 (pt_cmpR (op_neD hr.units) (pe_lc (own := [("_law_points", 7)]) (g := (gName 7)) (tt := (tNot (tB (tCall (sp_l_whole K) [] E0 (tCons (tVar 7) tNil))))) rfl sc_law_k02.nd (pi_seq (pv 3)) (blkOk_by (N := N_law_k02) (sc := defScope s_law_k02) (by decide +kernel)) (fun _ _ _ _ _ => (pg_name (i := 7) sc_law_k02.nd rfl (by first | exact .inl rfl | exact .inr rfl))) (fun _ _ _ _ _ => (pts_one (pt_not (pt_val (pe_fn G_l_whole (hr.mono (by decide)) (pa_cons (pv 7) pa_nil)))))) (fun _ _ _ _ _ => (pv 7))) (pe_lst pa_nil) (nomark _)))))) (pss_cons (ps_ret pe_bl)
 pss_nil) pss_nil)
 (pss_cons (ps_if (pt_cmpR (op_eqD hr.units) (pv 2) (pe_lst pa_nil) (nomark _)) (pss_cons (ps_ret (pe_and (pe_cmpR op_isK (pe_fn G_mark (hr.mono (by decide)) (pa_cons (pv 1) pa_nil)) pe_non (nomark _)) (pe_one (pe_cmpR op_isK (pe_fn G_chosen (hr.mono (by decide)) (pa_cons (pv 1) pa_nil)) pe_non (nomark _)))))
 pss_nil) pss_nil)
 (pss_cons (ps_set (i := 4) sc_law_k02.nd rfl (by first | exact .inl rfl | exact .inr rfl) (pe_fn G_mark (hr.mono (by decide)) (pa_cons (pv 1) pa_nil)))
 (pss_cons (ps_if (PW.pt (pw_or (pt_not (pt_val (pe_fn G_l_whole (hr.mono (by decide)) (pa_cons (pv 4) pa_nil)))) (pw_or1 (pt_cmpR (op_neD hr.units) (pv 4) (pe_fn G_l_mark (hr.mono (by decide)) (pa_cons (pv 1) pa_nil)) (nomark _))))) (pss_cons (ps_ret pe_bl)
 pss_nil) pss_nil)
 (pss_cons (ps_if (PW.pt (pw_or (pt_not (pt_val (pe_fn G_l_whole (hr.mono (by decide)) (pa_cons (pe_fn G_chosen (hr.mono (by decide)) (pa_cons (pv 1) pa_nil)) pa_nil)))) (pw_or1 (pt_cmpR (op_neD hr.units) (pe_bm PySem.F.plainAttrs_list PySem.F.slot_list_index PySem.F.type_list_index (mt_indexK hr.units) (pv 2) (pa_cons (pv 4) pa_nil)) (pe_fn G_chosen (hr.mono (by decide)) (pa_cons (pv 1) pa_nil)) (nomark _))))) (pss_cons (ps_ret pe_bl)
 pss_nil) pss_nil)
 (pss_cons (ps_if (pt_cmpR (op_eqD hr.units) (pe_callB cl_len (by rfl) z_len PySem.boot_len (pa_cons (pe_ix ix_seq (pv 1) pe_int (fun _ _ => rfl)) pa_nil)) pe_int (nomark _)) (pss_cons (ps_ret pe_bl)
 pss_nil) pss_nil)
 (pss_cons (ps_set (i := 5) sc_law_k02.nd rfl (by first | exact .inl rfl | exact .inr rfl) (pe_op op_modK (pe_fn G_l_cell_at (hr.mono (by decide)) (pa_cons (pv 0) (pa_cons pe_int pa_nil))) (pe_op op_addK (pe_ix ix_seq (pv 1) pe_int (fun _ _ => rfl)) pe_int)))
 (pss_cons (ps_set (i := 6) sc_law_k02.nd rfl (by first | exact .inl rfl | exact .inr rfl) (pe_fn G_mark (hr.mono (by decide)) (pa_cons (pe_tup (pa_cons (pe_ix ix_seq (pv 1) pe_int (fun _ _ => rfl)) (pa_cons (pe_ix ix_seq (pv 1) pe_int (fun _ _ => rfl)) (pa_cons (pe_ix ix_seq (pv 1) pe_int (fun _ _ => rfl)) (pa_cons (pe_op op_addK (pe_ix ix_seq (pv 1) pe_int (fun _ _ => rfl)) (pe_tup (pa_cons (pv 5) pa_nil))) pa_nil))))) pa_nil)))
 (pss_cons (ps_ret (pe_cmpR (op_eqD hr.units) (pv 6) (pe_callB (cl_max2 rfl) (by rfl) z_max (by decide +kernel) (pa_cons (pv 4) (pa_cons (pe_callB (cl_min2 rfl) (by rfl) z_min (by decide +kernel) (pa_cons (pv 5) (pa_cons (pe_ix ix_seq (pv 1) pe_int (fun _ _ => rfl)) pa_nil))) pa_nil))) (nomark _)))
 pss_nil))))))))))))
end
theorem all_mk {l : PySem.W.OpenLaw} {w : World} {K : PySem.W.Frag} {h : Heap} {mg : Str → Option Value} {fa : Addr} (X : K.In h) (G : h.Ns mainGlobals mg) (hfa : mg "law" = some (.ref fa))
    {f0 : Addr} {od0 an0 : Option Addr} {sl0 : Array (Option Value)} {oc0 kV0 dc0 pm0 cd0 ct0 : Value}
    (a0 : PySem.W.nsIn K mainGlobals "gives" = some (some (.ref f0))) (l0 : K.lookup f0 = some ⟨oc0, od0, .func (PySem.W.fnOf "gives" "gives" (defArgs s_gives) (defBody s_gives) (defScope s_gives) .none kV0 dc0 pm0 an0 cd0 ct0), sl0⟩) (c0 : PySem.W.codeIn K cd0 "gives" = true) (k0 : PySem.W.keepIn K (.ref f0) = true)
    {f1 : Addr} {od1 an1 : Option Addr} {sl1 : Array (Option Value)} {oc1 kV1 dc1 pm1 cd1 ct1 : Value}
    (a1 : PySem.W.nsIn K mainGlobals "mark" = some (some (.ref f1))) (l1 : K.lookup f1 = some ⟨oc1, od1, .func (PySem.W.fnOf "mark" "mark" (defArgs s_mark) (defBody s_mark) (defScope s_mark) .none kV1 dc1 pm1 an1 cd1 ct1), sl1⟩) (c1 : PySem.W.codeIn K cd1 "mark" = true) (k1 : PySem.W.keepIn K (.ref f1) = true)
    {f2 : Addr} {od2 an2 : Option Addr} {sl2 : Array (Option Value)} {oc2 kV2 dc2 pm2 cd2 ct2 : Value}
    (a2 : PySem.W.nsIn K mainGlobals "chosen" = some (some (.ref f2))) (l2 : K.lookup f2 = some ⟨oc2, od2, .func (PySem.W.fnOf "chosen" "chosen" (defArgs s_chosen) (defBody s_chosen) (defScope s_chosen) .none kV2 dc2 pm2 an2 cd2 ct2), sl2⟩) (c2 : PySem.W.codeIn K cd2 "chosen" = true) (k2 : PySem.W.keepIn K (.ref f2) = true)
    {f3 : Addr} {od3 an3 : Option Addr} {sl3 : Array (Option Value)} {oc3 kV3 dc3 pm3 cd3 ct3 : Value}
    (a3 : PySem.W.nsIn K mainGlobals "_law_cell_at" = some (some (.ref f3))) (l3 : K.lookup f3 = some ⟨oc3, od3, .func (PySem.W.fnOf "_law_cell_at" "_law_cell_at" (defArgs s_l_cell_at) (defBody s_l_cell_at) (defScope s_l_cell_at) .none kV3 dc3 pm3 an3 cd3 ct3), sl3⟩) (c3 : PySem.W.codeIn K cd3 "_law_cell_at" = true) (k3 : PySem.W.keepIn K (.ref f3) = true)
    {f4 : Addr} {od4 an4 : Option Addr} {sl4 : Array (Option Value)} {oc4 kV4 dc4 pm4 cd4 ct4 : Value}
    (a4 : PySem.W.nsIn K mainGlobals "_law_stream" = some (some (.ref f4))) (l4 : K.lookup f4 = some ⟨oc4, od4, .func (PySem.W.fnOf "_law_stream" "_law_stream" (defArgs s_l_stream) (defBody s_l_stream) (defScope s_l_stream) .none kV4 dc4 pm4 an4 cd4 ct4), sl4⟩) (c4 : PySem.W.codeIn K cd4 "_law_stream" = true) (k4 : PySem.W.keepIn K (.ref f4) = true)
    {f5 : Addr} {od5 an5 : Option Addr} {sl5 : Array (Option Value)} {oc5 kV5 dc5 pm5 cd5 ct5 : Value}
    (a5 : PySem.W.nsIn K mainGlobals "_law_whole" = some (some (.ref f5))) (l5 : K.lookup f5 = some ⟨oc5, od5, .func (PySem.W.fnOf "_law_whole" "_law_whole" (defArgs s_l_whole) (defBody s_l_whole) (defScope s_l_whole) .none kV5 dc5 pm5 an5 cd5 ct5), sl5⟩) (c5 : PySem.W.codeIn K cd5 "_law_whole" = true) (k5 : PySem.W.keepIn K (.ref f5) = true)
    {f6 : Addr} {od6 an6 : Option Addr} {sl6 : Array (Option Value)} {oc6 kV6 dc6 pm6 cd6 ct6 : Value}
    (a6 : PySem.W.nsIn K mainGlobals "_law_task_by" = some (some (.ref f6))) (l6 : K.lookup f6 = some ⟨oc6, od6, .func (PySem.W.fnOf "_law_task_by" "_law_task_by" (defArgs s_l_task_by) (defBody s_l_task_by) (defScope s_l_task_by) .none kV6 dc6 pm6 an6 cd6 ct6), sl6⟩) (c6 : PySem.W.codeIn K cd6 "_law_task_by" = true) (k6 : PySem.W.keepIn K (.ref f6) = true)
    {f7 : Addr} {od7 an7 : Option Addr} {sl7 : Array (Option Value)} {oc7 kV7 dc7 pm7 cd7 ct7 : Value}
    (a7 : PySem.W.nsIn K mainGlobals "_law_mark" = some (some (.ref f7))) (l7 : K.lookup f7 = some ⟨oc7, od7, .func (PySem.W.fnOf "_law_mark" "_law_mark" (defArgs s_l_mark) (defBody s_l_mark) (defScope s_l_mark) .none kV7 dc7 pm7 an7 cd7 ct7), sl7⟩) (c7 : PySem.W.codeIn K cd7 "_law_mark" = true) (k7 : PySem.W.keepIn K (.ref f7) = true)
    {f8 : Addr} {od8 an8 : Option Addr} {sl8 : Array (Option Value)} {oc8 kV8 dc8 pm8 cd8 ct8 : Value}
    (a8 : PySem.W.nsIn K mainGlobals "_law_gives" = some (some (.ref f8))) (l8 : K.lookup f8 = some ⟨oc8, od8, .func (PySem.W.fnOf "_law_gives" "_law_gives" (defArgs s_l_gives) (defBody s_l_gives) (defScope s_l_gives) .none kV8 dc8 pm8 an8 cd8 ct8), sl8⟩) (c8 : PySem.W.codeIn K cd8 "_law_gives" = true) (k8 : PySem.W.keepIn K (.ref f8) = true)
    {f9 : Addr} {od9 an9 : Option Addr} {sl9 : Array (Option Value)} {oc9 kV9 dc9 pm9 cd9 ct9 : Value}
    (a9 : PySem.W.nsIn K mainGlobals "law" = some (some (.ref f9))) (l9 : K.lookup f9 = some ⟨oc9, od9, .func (PySem.W.fnOf "law" "law" (defArgs s_law_k02) (defBody s_law_k02) (defScope s_law_k02) .none kV9 dc9 pm9 an9 cd9 ct9), sl9⟩) (c9 : PySem.W.codeIn K cd9 "law" = true) (k9 : PySem.W.keepIn K (.ref f9) = true)
    (zz_bool : PySem.W.nsIn K mainGlobals "bool" = some none)
    (zz_int : PySem.W.nsIn K mainGlobals "int" = some none)
    (zz_isinstance : PySem.W.nsIn K mainGlobals "isinstance" = some none)
    (zz_len : PySem.W.nsIn K mainGlobals "len" = some none)
    (zz_list : PySem.W.nsIn K mainGlobals "list" = some none)
    (zz_max : PySem.W.nsIn K mainGlobals "max" = some none)
    (zz_min : PySem.W.nsIn K mainGlobals "min" = some none)
    (zz_range : PySem.W.nsIn K mainGlobals "range" = some none)
    (zz_tuple : PySem.W.nsIn K mainGlobals "tuple" = some none)
    : ∃ fd : FuncData, (∀ (s : Shared) (v : Value), BindsTo s fd ⟨[v], []⟩ [("_law_script", v)]) ∧ ∀ base : Heap, K.In base → base.Ns mainGlobals mg → FnOk l.prog w K mg base CX0 3 fa fd p_law_k02 (sp_law_k02 K) := by
  have e := hfa.symm.trans (PySem.W.mg_of X G a9)
  cases e
  have z_bool := PySem.W.mg_none_of X G zz_bool
  have z_int := PySem.W.mg_none_of X G zz_int
  have z_isinstance := PySem.W.mg_none_of X G zz_isinstance
  have z_len := PySem.W.mg_none_of X G zz_len
  have z_list := PySem.W.mg_none_of X G zz_list
  have z_max := PySem.W.mg_none_of X G zz_max
  have z_min := PySem.W.mg_none_of X G zz_min
  have z_range := PySem.W.mg_none_of X G zz_range
  have z_tuple := PySem.W.mg_none_of X G zz_tuple
  refine ⟨PySem.W.fnOf "law" "law" (defArgs s_law_k02) (defBody s_law_k02) (defScope s_law_k02) .none kV9 dc9 pm9 an9 cd9 ct9, fun s v => .of_eq rfl, fun base _ _ => ?_⟩
  have G_gives : Fn l.prog w K mg base "gives" p_gives 1 (sp_gives K) := ok_gives z_list z_min (fun_mk (st := s_gives) l0 c0 k0) (PySem.W.mg_of X G a0)
  have G_mark : Fn l.prog w K mg base "mark" p_mark 2 (sp_mark K) := ok_mark G_gives z_max (fun_mk (st := s_mark) l1 c1 k1) (PySem.W.mg_of X G a1)
  have G_chosen : Fn l.prog w K mg base "chosen" p_chosen 2 (sp_chosen K) := ok_chosen G_gives z_len z_max (fun_mk (st := s_chosen) l2 c2 k2) (PySem.W.mg_of X G a2)
  have G_l_cell_at : Fn l.prog w K mg base "_law_cell_at" p_l_cell_at 1 (sp_l_cell_at K) := ok_l_cell_at z_len (fun_mk (st := s_l_cell_at) l3 c3 k3) (PySem.W.mg_of X G a3)
  have G_l_stream : Fn l.prog w K mg base "_law_stream" p_l_stream 1 (sp_l_stream K) := ok_l_stream z_range (fun_mk (st := s_l_stream) l4 c4 k4) (PySem.W.mg_of X G a4)
  have G_l_whole : Fn l.prog w K mg base "_law_whole" p_l_whole 1 (sp_l_whole K) := ok_l_whole z_bool z_int z_isinstance (fun_mk (st := s_l_whole) l5 c5 k5) (PySem.W.mg_of X G a5)
  have G_l_task_by : Fn l.prog w K mg base "_law_task_by" p_l_task_by 1 (sp_l_task_by K) := ok_l_task_by z_range z_tuple (fun_mk (st := s_l_task_by) l6 c6 k6) (PySem.W.mg_of X G a6)
  have G_l_mark : Fn l.prog w K mg base "_law_mark" p_l_mark 1 (sp_l_mark K) := ok_l_mark z_len z_range (fun_mk (st := s_l_mark) l7 c7 k7) (PySem.W.mg_of X G a7)
  have G_l_gives : Fn l.prog w K mg base "_law_gives" p_l_gives 1 (sp_l_gives K) := ok_l_gives z_len z_range (fun_mk (st := s_l_gives) l8 c8 k8) (PySem.W.mg_of X G a8)
  exact lawOk_k02 G_gives G_mark G_chosen G_l_cell_at G_l_stream G_l_whole G_l_task_by G_l_mark G_l_gives z_isinstance z_len z_list z_max z_min (fun_mk (st := s_law_k02) l9 c9 k9)
end GW
open PySem PySem.W PyProof.Rows
set_option maxRecDepth 100000 in
set_option maxHeartbeats 0 in
theorem PySem.Challenge.cw_gradewish_k02_marks_holds : PySem.Challenge.rw_gradewish_k02_marks.Holds := by
  w_on; o_law; k_head; (case hw => w_witness2)
  k_fill
  refine L2.walk_of (l := PySem.Challenge.rw_gradewish_k02_marks) (n := 63) (k := 3) (x := "_law_script") (CX := fun _ => L2.CX0) (sp := fun w => GW.sp_law_k02 _) rfl (by decide) rfl ⟨rfl, by decide, by decide⟩ (fun w h Y => PySem.W.kIn_of Y) ?F (fun _ _ a ns hl _ hS => GW.law_pre hl hS fun ns h => ⟨ns, rfl, h, rfl⟩) (fun _ _ _ _ _ h => h)
  case F =>
    intro w mg fa h KX G hmg
    refine' GW.all_mk KX G hmg ?a0 ?l0 ?c0 ?k0 ?a1 ?l1 ?c1 ?k1 ?a2 ?l2 ?c2 ?k2 ?a3 ?l3 ?c3 ?k3 ?a4 ?l4 ?c4 ?k4 ?a5 ?l5 ?c5 ?k5 ?a6 ?l6 ?c6 ?k6 ?a7 ?l7 ?c7 ?k7 ?a8 ?l8 ?c8 ?k8 ?a9 ?l9 ?c9 ?k9 ?zz_bool ?zz_int ?zz_isinstance ?zz_len ?zz_list ?zz_max ?zz_min ?zz_range ?zz_tuple
    (case a0 => k_is)
    (case l0 => k_is)
    (case c0 => k_is)
    (case k0 => k_is)
    (case a1 => k_is)
    (case l1 => k_is)
    (case c1 => k_is)
    (case k1 => k_is)
    (case a2 => k_is)
    (case l2 => k_is)
    (case c2 => k_is)
    (case k2 => k_is)
    (case a3 => k_is)
    (case l3 => k_is)
    (case c3 => k_is)
    (case k3 => k_is)
    (case a4 => k_is)
    (case l4 => k_is)
    (case c4 => k_is)
    (case k4 => k_is)
    (case a5 => k_is)
    (case l5 => k_is)
    (case c5 => k_is)
    (case k5 => k_is)
    (case a6 => k_is)
    (case l6 => k_is)
    (case c6 => k_is)
    (case k6 => k_is)
    (case a7 => k_is)
    (case l7 => k_is)
    (case c7 => k_is)
    (case k7 => k_is)
    (case a8 => k_is)
    (case l8 => k_is)
    (case c8 => k_is)
    (case k8 => k_is)
    (case a9 => k_is)
    (case l9 => k_is)
    (case c9 => k_is)
    (case k9 => k_is)
    (case zz_bool => k_is)
    (case zz_int => k_is)
    (case zz_isinstance => k_is)
    (case zz_len => k_is)
    (case zz_list => k_is)
    (case zz_max => k_is)
    (case zz_min => k_is)
    (case zz_range => k_is)
    (case zz_tuple => k_is)
