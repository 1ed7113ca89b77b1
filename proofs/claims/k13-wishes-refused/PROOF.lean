import PyProof.Rows.All
import Wide.All
import OpenK.AllK
import Wide.FinOn
import PySem.Challenge.RW_gradewish_k13_wishes_refused
import HandS.ForMost
import HandS.ForExc
import HandS.Wide
import HandS.Style
import HandS.IsInst
import HandS.TupAny
import HandS.TupMul
import HandS.SortKw
import KE.DatumOrd
import KE.DatumIndex
import HandS.Strs
import HandS.SetFor
import HandS.ExcIs
import HandS.TryMany
import HandS.ExcOwn
import HandS.HotCalls
set_option Elab.async false
set_option linter.all false
set_option maxRecDepth 100000
set_option maxHeartbeats 4000000
set_option exponentiation.threshold 20000
namespace GW
open PySem PySem.Spec PyProof.Rows L2

abbrev D := PyData
variable {K : PySem.W.Frag}

theorem rd_same {H H' : Hp} {a : Addr} {u : HO} (e : Same H H') (h : Rd H a u) : Rd H' a u := by
  rcases h with h | ⟨o, h⟩
  · exact .inl (e _ _ h)
  · exact .inr ⟨o, e _ _ h⟩
theorem sql_same {H H' : Hp} {a : Addr} {xs : List V} (e : Same H H') (h : SqL K H a xs) : SqL K H' a xs := by
  rcases h with h | h
  · exact .inl (rd_same e h)
  · exact .inr h
theorem sqt_same {H H' : Hp} {a : Addr} {xs : List V} (e : Same H H') (h : SqT K H a xs) : SqT K H' a xs := by
  rcases h with h | h
  · exact .inl (rd_same e h)
  · exact .inr h
mutual
theorem dp_same {H H' : Hp} (e : Same H H') : ∀ {d : D} {v : V}, Dp K H v d → Dp K H' v d
  | .none, _, h => by cases h; exact .non
  | .bool b, _, h => by cases h; exact .bl b
  | .int i, _, h => by cases h; exact .int i
  | .str x, _, h => by cases h; exact .str x
  | .list ds, _, h => by cases h with | lst hs ha => exact .lst (sql_same e hs) (dps_same e ha)
  | .tuple ds, _, h => by cases h with | tup hs ha => exact .tup (sqt_same e hs) (dps_same e ha)
  | .dict _, _, h => by cases h
theorem dps_same {H H' : Hp} (e : Same H H') : ∀ {ds : List D} {vs : List V}, DpAll K H vs ds → DpAll K H' vs ds
  | [], _, h => by cases h; exact .nil
  | d :: ds, _, h => by cases h with | cons h1 h2 => exact .cons (dp_same e h1) (dps_same e h2)
end
theorem dps_len {H : Hp} : ∀ {vs : List V} {ds : List D}, DpAll K H vs ds → vs.length = ds.length
  | _, _, .nil => rfl
  | _, _, .cons _ t => by rw [List.length_cons, List.length_cons, dps_len t]
theorem dps_get {H : Hp} : ∀ {vs : List V} {ds : List D} {i : Nat} {d : D}, DpAll K H vs ds → ds[i]? = some d → ∃ v, vs[i]? = some v ∧ Dp K H v d
  | _, _, _, _, .nil, e => by simp at e
  | _, _, 0, _, .cons r _, e => by simp at e; subst e; exact ⟨_, rfl, r⟩
  | _, _, i + 1, d, .cons _ t, e => by
    obtain ⟨v, h1, h2⟩ := dps_get (i := i) (d := d) t (by simpa using e)
    exact ⟨v, by simpa using h1, h2⟩
theorem dps_get' {H : Hp} : ∀ {vs : List V} {ds : List D} {i : Nat} {v : V}, DpAll K H vs ds → vs[i]? = some v → ∃ d, ds[i]? = some d ∧ Dp K H v d
  | _, _, _, _, .nil, e => by simp at e
  | _, _, 0, _, .cons r _, e => by simp at e; subst e; exact ⟨_, rfl, r⟩
  | _, _, i + 1, d, .cons _ t, e => by
    obtain ⟨v, h1, h2⟩ := dps_get' (i := i) (v := d) t (by simpa using e)
    exact ⟨v, by simpa using h1, h2⟩
theorem dps_app {H : Hp} : ∀ {vs ws : List V} {ds es : List D}, DpAll K H vs ds → DpAll K H ws es → DpAll K H (vs ++ ws) (ds ++ es)
  | _, _, _, _, .nil, s => s
  | _, _, _, _, .cons r t, s => .cons r (dps_app t s)
theorem dps_set {H : Hp} : ∀ {vs : List V} {ds : List D} (i : Nat) {v : V} {d : D}, Dp K H v d → DpAll K H vs ds → DpAll K H (vs.set i v) (ds.set i d)
  | _, _, _, _, _, _, .nil => .nil
  | _, _, 0, _, _, r, .cons _ t => .cons r t
  | _, _, i + 1, _, _, r, .cons q t => .cons q (dps_set i r t)
theorem dps_take {H : Hp} : ∀ {vs : List V} {ds : List D} (n : Nat), DpAll K H vs ds → DpAll K H (vs.take n) (ds.take n)
  | _, _, 0, _ => .nil
  | _, _, _ + 1, .nil => .nil
  | _, _, n + 1, .cons r t => .cons r (dps_take n t)
theorem dps_drop {H : Hp} : ∀ {vs : List V} {ds : List D} (n : Nat), DpAll K H vs ds → DpAll K H (vs.drop n) (ds.drop n)
  | _, _, 0, r => r
  | _, _, _ + 1, .nil => .nil
  | _, _, n + 1, .cons _ t => dps_drop n t
theorem dp_int {H : Hp} {v : V} {i : Int} (h : Dp K H v (.int i)) : v = .int i := by cases h; rfl
theorem dp_bl {H : Hp} {v : V} {b : Bool} (h : Dp K H v (.bool b)) : v = .bl b := by cases h; rfl
theorem dp_str {H : Hp} {v : V} {x : Str} (h : Dp K H v (.str x)) : v = .str x := by cases h; rfl
theorem dp_non {H : Hp} {v : V} (h : Dp K H v .none) : v = .non := by cases h; rfl
theorem dp_tup {H : Hp} {v : V} {ds : List D} (h : Dp K H v (.tuple ds)) : ∃ a xs, v = .ref a ∧ SqT K H a xs ∧ DpAll K H xs ds := by cases h with | tup hs ha => exact ⟨_, _, rfl, hs, ha⟩
theorem dp_lst {H : Hp} {v : V} {ds : List D} (h : Dp K H v (.list ds)) : ∃ a xs, v = .ref a ∧ SqL K H a xs ∧ DpAll K H xs ds := by cases h with | lst hs ha => exact ⟨_, _, rfl, hs, ha⟩
theorem dps1 {H : Hp} {vs : List V} {d : D} (h : DpAll K H vs [d]) : ∃ v, vs = [v] ∧ Dp K H v d := by
  cases h with | cons r t => cases t; exact ⟨_, rfl, r⟩
theorem dps2 {H : Hp} {vs : List V} {d e : D} (h : DpAll K H vs [d, e]) : ∃ v w, vs = [v, w] ∧ Dp K H v d ∧ Dp K H w e := by
  cases h with | cons r t => cases t with | cons r2 t => cases t; exact ⟨_, _, rfl, r, r2⟩
theorem dps_ints {H : Hp} : ∀ {vs : List V} {ns : List Int}, DpAll K H vs (ns.map PyData.int) → vs = ns.map V.int
  | _, [], h => by cases h; rfl
  | _, n :: ns, h => by
    cases h with
    | cons r t =>
      rw [dp_int r, dps_ints t]
      rfl
theorem ints_dps {H : Hp} : ∀ (ns : List Int), DpAll K H (ns.map V.int) (ns.map PyData.int)
  | [] => .nil
  | n :: ns => .cons (.int n) (ints_dps ns)

def del (O : List Addr) (H : Hp) : Hp := fun a => if a ∈ O then none else H a
theorem del_in {O : List Addr} {H : Hp} {a : Addr} (h : a ∈ O) : del O H a = none := if_pos h
theorem del_out {O : List Addr} {H : Hp} {a : Addr} (h : a ∉ O) : del O H a = H a := if_neg h
theorem del_same {O : List Addr} {H : Hp} : Same (del O H) H := fun a o e => by
  by_cases h : a ∈ O
  · rw [del_in h] at e; cases e
  · rw [del_out h] at e; exact e
theorem del_sub {O O' : List Addr} {H : Hp} (s : ∀ a, a ∈ O' → a ∈ O) : Same (del O H) (del O' H) := fun a o e => by
  by_cases h : a ∈ O
  · rw [del_in h] at e; cases e
  · rw [del_out h] at e; rw [del_out (fun z => h (s a z))]; exact e
theorem del_grow {O : List Addr} {H H' : Hp} (e : Same H H') : Same (del O H) (del O H') := fun a o q => by
  by_cases h : a ∈ O
  · rw [del_in h] at q; cases q
  · rw [del_out h] at q ⊢; exact e a o q
theorem del_nil {H : Hp} : del [] H = H := funext fun a => del_out (by simp)
theorem del_upd_in {O : List Addr} {H : Hp} {a : Addr} {o : HO} (h : a ∈ O) : del O (upd H a o) = del O H := funext fun b => by
  by_cases hb : b ∈ O
  · rw [del_in hb, del_in hb]
  · rw [del_out hb, del_out hb, upd_ne (fun z => hb (by rw [z]; exact h))]
theorem same_upd {H : Hp} {p : Addr} {o : HO} (h : H p = none) : Same H (upd H p o) := fun b x e => by
  rw [upd_ne (ne_of_none e h)]
  exact e

inductive Sl where
  | un
  | raw (v : V)
  | fx (v : V) (d : D)
  | im (d : D)
  | ow (p : Addr) (ds : List D)
def owns : List Sl → List Addr
  | [] => []
  | .un :: r => owns r
  | .raw _ :: r => owns r
  | .fx _ _ :: r => owns r
  | .im _ :: r => owns r
  | .ow p _ :: r => p :: owns r
def SlOk (K : PySem.W.Frag) (O : List Addr) (H : Hp) (s : Option V) : Sl → Prop
  | .un => True
  | .raw v => s = some v
  | .fx v d => s = some v ∧ Dp K (del O H) v d
  | .im d => ∃ v, s = some v ∧ Dp K (del O H) v d
  | .ow p ds => s = some (.ref p) ∧ ∃ vs, H p = some (.lst vs) ∧ DpAll K (del O H) vs ds
inductive SlsOk (K : PySem.W.Frag) (O : List Addr) (H : Hp) : L2.St → List Sl → Prop
  | nil : SlsOk K O H [] []
  | cons {s : Option V} {σ : L2.St} {t : Sl} {τ : List Sl} : SlOk K O H s t → SlsOk K O H σ τ → SlsOk K O H (s :: σ) (t :: τ)
structure SokE (K : PySem.W.Frag) (O : List Addr) (H : Hp) (σ : L2.St) (τ : List Sl) : Prop where
  dom : ∀ a ∈ O, H a ≠ none
  sub : ∀ a ∈ owns τ, a ∈ O
  sl : SlsOk K O H σ τ
theorem slok_grow {O : List Addr} {H H' : Hp} (e : Same H H') {s : Option V} : ∀ {t : Sl}, SlOk K O H s t → SlOk K O H' s t
  | .un, _ => trivial
  | .raw _, h => h
  | .fx _ _, ⟨h1, h2⟩ => ⟨h1, dp_same (del_grow e) h2⟩
  | .im _, ⟨v, h1, h2⟩ => ⟨v, h1, dp_same (del_grow e) h2⟩
  | .ow _ _, ⟨h1, vs, h2, h3⟩ => ⟨h1, vs, e _ _ h2, dps_same (del_grow e) h3⟩
theorem slsok_grow {O : List Addr} {H H' : Hp} (e : Same H H') : ∀ {σ : L2.St} {τ : List Sl}, SlsOk K O H σ τ → SlsOk K O H' σ τ
  | _, _, .nil => .nil
  | _, _, .cons r t => .cons (slok_grow e r) (slsok_grow e t)
theorem SokE.grow {O : List Addr} {H H' : Hp} {σ : L2.St} {τ : List Sl} (h : SokE K O H σ τ) (e : Same H H') : SokE K O H' σ τ :=
  ⟨fun a ha z => (by
    cases q : H a with
    | none => exact h.dom a ha q
    | some o => rw [e a o q] at z; exact nomatch z), h.sub, slsok_grow e h.sl⟩
theorem slsok_get {O : List Addr} {H : Hp} : ∀ {σ : L2.St} {τ : List Sl} {i : Nat} {t : Sl}, SlsOk K O H σ τ → τ[i]? = some t → ∃ s, σ[i]? = some s ∧ SlOk K O H s t
  | _, _, _, _, .nil, e => by simp at e
  | _, _, 0, _, .cons r _, e => by simp at e; subst e; exact ⟨_, rfl, r⟩
  | _, _, i + 1, t, .cons _ r, e => by
    obtain ⟨s, h1, h2⟩ := slsok_get (i := i) (t := t) r (by simpa using e)
    exact ⟨s, by simpa using h1, h2⟩
theorem slsok_set {O : List Addr} {H : Hp} {s : Option V} {t : Sl} (r : SlOk K O H s t) : ∀ {σ : L2.St} {τ : List Sl} (i : Nat), SlsOk K O H σ τ → SlsOk K O H (σ.set i s) (τ.set i t)
  | _, _, _, .nil => .nil
  | _, _, 0, .cons _ q => .cons r q
  | _, _, i + 1, .cons q p => .cons q (slsok_set r i p)
theorem slok_sub {O O' : List Addr} {H : Hp} (e : ∀ a, a ∈ O' → a ∈ O) {s : Option V} : ∀ {t : Sl}, SlOk K O H s t → SlOk K O' H s t
  | .un, _ => trivial
  | .raw _, h => h
  | .fx _ _, ⟨h1, h2⟩ => ⟨h1, dp_same (del_sub e) h2⟩
  | .im _, ⟨v, h1, h2⟩ => ⟨v, h1, dp_same (del_sub e) h2⟩
  | .ow _ _, ⟨h1, vs, h2, h3⟩ => ⟨h1, vs, h2, dps_same (del_sub e) h3⟩
theorem slsok_sub {O O' : List Addr} {H : Hp} (e : ∀ a, a ∈ O' → a ∈ O) : ∀ {σ : L2.St} {τ : List Sl}, SlsOk K O H σ τ → SlsOk K O' H σ τ
  | _, _, .nil => .nil
  | _, _, .cons r t => .cons (slok_sub e r) (slsok_sub e t)
theorem owns_mem : ∀ {τ : List Sl} {p : Addr}, p ∈ owns τ ↔ ∃ (i : Nat) (ds : List D), τ[i]? = some (.ow p ds)
  | [], p => by simp [owns]
  | .un :: r, p => by
    rw [show owns (.un :: r) = owns r from rfl, owns_mem (τ := r)]
    constructor
    · rintro ⟨i, ds, h⟩; exact ⟨i + 1, ds, by simpa using h⟩
    · rintro ⟨i, ds, h⟩
      cases i with
      | zero => simp at h
      | succ i => exact ⟨i, ds, by simpa using h⟩
  | .raw _ :: r, p => by
    rw [show owns (.raw _ :: r) = owns r from rfl, owns_mem (τ := r)]
    constructor
    · rintro ⟨i, ds, h⟩; exact ⟨i + 1, ds, by simpa using h⟩
    · rintro ⟨i, ds, h⟩
      cases i with
      | zero => simp at h
      | succ i => exact ⟨i, ds, by simpa using h⟩
  | .fx _ _ :: r, p => by
    rw [show owns (.fx _ _ :: r) = owns r from rfl, owns_mem (τ := r)]
    constructor
    · rintro ⟨i, ds, h⟩; exact ⟨i + 1, ds, by simpa using h⟩
    · rintro ⟨i, ds, h⟩
      cases i with
      | zero => simp at h
      | succ i => exact ⟨i, ds, by simpa using h⟩
  | .im _ :: r, p => by
    rw [show owns (.im _ :: r) = owns r from rfl, owns_mem (τ := r)]
    constructor
    · rintro ⟨i, ds, h⟩; exact ⟨i + 1, ds, by simpa using h⟩
    · rintro ⟨i, ds, h⟩
      cases i with
      | zero => simp at h
      | succ i => exact ⟨i, ds, by simpa using h⟩
  | .ow q es :: r, p => by
    rw [show owns (.ow q es :: r) = q :: owns r from rfl, List.mem_cons, owns_mem (τ := r)]
    constructor
    · rintro (rfl | ⟨i, ds, h⟩)
      · exact ⟨0, es, rfl⟩
      · exact ⟨i + 1, ds, by simpa using h⟩
    · rintro ⟨i, ds, h⟩
      cases i with
      | zero =>
        simp at h
        exact .inl h.1.symm
      | succ i => exact .inr ⟨i, ds, by simpa using h⟩
/-- a slot that owns nothing new is put: what is owned shrinks -/
def plain : Sl → Bool
  | .ow _ _ => false
  | _ => true
theorem owns_set_sub {t : Sl} (ht : plain t = true) : ∀ {τ : List Sl} {i : Nat}, (owns (τ.set i t)).Sublist (owns τ)
  | [], _ => by simp [owns]
  | a :: r, 0 => by
    rw [List.set_cons_zero]
    have : owns (t :: r) = owns r := by cases t <;> first | rfl | cases ht
    rw [this]
    cases a with
    | un => exact List.Sublist.refl _
    | raw _ => exact List.Sublist.refl _
    | fx _ _ => exact List.Sublist.refl _
    | im _ => exact List.Sublist.refl _
    | ow _ _ => exact List.sublist_cons_self _ _
  | a :: r, i + 1 => by
    rw [List.set_cons_succ]
    cases a with
    | un => exact owns_set_sub ht
    | raw _ => exact owns_set_sub ht
    | fx _ _ => exact owns_set_sub ht
    | im _ => exact owns_set_sub ht
    | ow p ds => exact (owns_set_sub ht).cons₂ p
theorem owns_set_ow {p : Addr} {ds es : List D} : ∀ {τ : List Sl} {i : Nat}, τ[i]? = some (.ow p ds) → owns (τ.set i (.ow p es)) = owns τ
  | [], _, h => by simp at h
  | a :: r, 0, h => by
    simp at h
    subst h
    rfl
  | a :: r, i + 1, h => by
    have ih := owns_set_ow (es := es) (τ := r) (i := i) (by simpa using h)
    rw [List.set_cons_succ]
    cases a with
    | un => exact ih
    | raw _ => exact ih
    | fx _ _ => exact ih
    | im _ => exact ih
    | ow q _ => exact congrArg (q :: ·) ih
theorem owns_set_new {p : Addr} {ds : List D} : ∀ {τ : List Sl} {i : Nat} {q : Addr}, q ∈ owns (τ.set i (.ow p ds)) → q = p ∨ q ∈ owns τ := fun {τ i q} h => by
  obtain ⟨j, es, e⟩ := owns_mem.mp h
  by_cases hj : i = j
  · subst hj
    by_cases hl : i < τ.length
    · rw [List.getElem?_set_self hl] at e
      cases e
      exact .inl rfl
    · rw [List.getElem?_eq_none (by simpa using hl)] at e
      cases e
  · rw [List.getElem?_set_ne hj] at e
    exact .inr (owns_mem.mpr ⟨j, es, e⟩)
theorem nodup_set_new {p : Addr} {ds : List D} : ∀ {τ : List Sl} {i : Nat}, (owns τ).Nodup → p ∉ owns τ → (owns (τ.set i (.ow p ds))).Nodup
  | [], _, _, _ => by simp [owns]
  | a :: r, 0, h, hp => by
    rw [List.set_cons_zero]
    cases a with
    | un => exact List.nodup_cons.mpr ⟨hp, h⟩
    | raw _ => exact List.nodup_cons.mpr ⟨hp, h⟩
    | fx _ _ => exact List.nodup_cons.mpr ⟨hp, h⟩
    | im _ => exact List.nodup_cons.mpr ⟨hp, h⟩
    | ow q es =>
      have h' := List.nodup_cons.mp h
      exact List.nodup_cons.mpr ⟨fun z => hp (List.mem_cons_of_mem _ z), h'.2⟩
  | a :: r, i + 1, h, hp => by
    rw [List.set_cons_succ]
    cases a with
    | un => exact nodup_set_new (τ := r) h hp
    | raw _ => exact nodup_set_new (τ := r) h hp
    | fx _ _ => exact nodup_set_new (τ := r) h hp
    | im _ => exact nodup_set_new (τ := r) h hp
    | ow q es =>
      have h' := List.nodup_cons.mp h
      refine List.nodup_cons.mpr ⟨fun z => ?_, nodup_set_new h'.2 fun z => hp (List.mem_cons_of_mem _ z)⟩
      rcases owns_set_new z with e | e
      · exact hp (e ▸ List.mem_cons_self)
      · exact h'.1 e
theorem nodup_at {p : Addr} {ds es : List D} : ∀ {τ : List Sl} {i j : Nat}, (owns τ).Nodup → τ[i]? = some (.ow p ds) → τ[j]? = some (.ow p es) → i = j
  | [], _, _, _, h, _ => by simp at h
  | a :: r, 0, 0, _, _, _ => rfl
  | a :: r, 0, j + 1, hn, h1, h2 => by
    simp at h1
    subst h1
    exact absurd (owns_mem.mpr ⟨j, es, by simpa using h2⟩) (List.nodup_cons.mp hn).1
  | a :: r, i + 1, 0, hn, h1, h2 => by
    simp at h2
    subst h2
    exact absurd (owns_mem.mpr ⟨i, ds, by simpa using h1⟩) (List.nodup_cons.mp hn).1
  | a :: r, i + 1, j + 1, hn, h1, h2 => by
    have hn' : (owns r).Nodup := by
      cases a with
      | un => exact hn
      | raw _ => exact hn
      | fx _ _ => exact hn
      | im _ => exact hn
      | ow _ _ => exact (List.nodup_cons.mp hn).2
    rw [nodup_at (τ := r) (i := i) (j := j) hn' (by simpa using h1) (by simpa using h2)]

def Ev (K : PySem.W.Frag) (te : TE) (τ : List Sl) (d : D) : Prop := ∀ (O : List Addr) (H : Hp) (σ : L2.St), SokE K O H σ τ → ∀ Q : VK, (∀ v H', Same H H' → Dp K (del O H') v d → Q v H') → te σ H Q
/-- a new list -/
def EvN (K : PySem.W.Frag) (te : TE) (τ : List Sl) (ds : List D) : Prop := ∀ (O : List Addr) (H : Hp) (σ : L2.St), SokE K O H σ τ → ∀ Q : VK, (∀ p vs H', H p = none → Same H H' → H' p = some (.lst vs) → DpAll K (del (p :: O) H') vs ds → Q (.ref p) H') → te σ H Q
def EvT (K : PySem.W.Frag) (tt : TT) (τ : List Sl) (b : Bool) : Prop := ∀ (O : List Addr) (H : Hp) (σ : L2.St), SokE K O H σ τ → ∀ Q : Bool → Hp → Prop, (∀ H', Same H H' → Q b H') → tt σ H Q
def EvA (K : PySem.W.Frag) (ta : TA) (τ : List Sl) (ds : List D) : Prop := ∀ (O : List Addr) (H : Hp) (σ : L2.St), SokE K O H σ τ → ∀ Q : List V → Hp → Prop, (∀ vs H', Same H H' → DpAll K (del O H') vs ds → Q vs H') → ta σ H Q
def EvO (K : PySem.W.Frag) (to : TO) (τ : List Sl) (o : Option Int) : Prop := ∀ (O : List Addr) (H : Hp) (σ : L2.St), SokE K O H σ τ → ∀ Q : Option Int → Hp → Prop, (∀ H', Same H H' → Q o H') → to σ H Q
/-- operations on values -/
def Rv (K : PySem.W.Frag) (r : R2) (a b d : D) : Prop := ∀ (O : List Addr) (H : Hp) (x y : V), (∀ a ∈ O, H a ≠ none) → Dp K (del O H) x a → Dp K (del O H) y b → ∀ Q : VK, (∀ v H', Same H H' → Dp K (del O H') v d → Q v H') → r x y H Q
def RvN (K : PySem.W.Frag) (r : R2) (a b : D) (ds : List D) : Prop := ∀ (O : List Addr) (H : Hp) (x y : V), (∀ a ∈ O, H a ≠ none) → Dp K (del O H) x a → Dp K (del O H) y b → ∀ Q : VK, (∀ p vs H', H p = none → Same H H' → H' p = some (.lst vs) → DpAll K (del (p :: O) H') vs ds → Q (.ref p) H') → r x y H Q
def Rc (K : PySem.W.Frag) (r : List V → Hp → VK → Prop) (as : List D) (d : D) : Prop := ∀ (O : List Addr) (H : Hp) (xs : List V), (∀ a ∈ O, H a ≠ none) → DpAll K (del O H) xs as → ∀ Q : VK, (∀ v H', Same H H' → Dp K (del O H') v d → Q v H') → r xs H Q
def RcN (K : PySem.W.Frag) (r : List V → Hp → VK → Prop) (as ds : List D) : Prop := ∀ (O : List Addr) (H : Hp) (xs : List V), (∀ a ∈ O, H a ≠ none) → DpAll K (del O H) xs as → ∀ Q : VK, (∀ p vs H', H p = none → Same H H' → H' p = some (.lst vs) → DpAll K (del (p :: O) H') vs ds → Q (.ref p) H') → r xs H Q

theorem fresh_out {O : List Addr} {H : Hp} (h : ∀ a ∈ O, H a ≠ none) {p : Addr} (hp : H p = none) : p ∉ O := fun z => h p z hp
/-- a new list is data -/
theorem dp_of_new {O : List Addr} {H H' : Hp} {p : Addr} {vs : List V} {ds : List D} (hd : ∀ a ∈ O, H a ≠ none) (hp : H p = none) (h : H' p = some (.lst vs)) (r : DpAll K (del (p :: O) H') vs ds) : Dp K (del O H') (.ref p) (.list ds) :=
  .lst (.inl (.inl (by rw [del_out (fresh_out hd hp)]; exact h))) (dps_same (del_sub fun a ha => List.mem_cons_of_mem _ ha) r)
theorem EvN.ev {te : TE} {τ : List Sl} {ds : List D} (h : EvN K te τ ds) : Ev K te τ (.list ds) := fun O H σ s Q q =>
  h O H σ s Q fun p vs H' hp e h1 r => q _ H' e (dp_of_new s.dom hp h1 r)
theorem dp_newtup {O : List Addr} {H : Hp} {p : Addr} {vs : List V} {ds : List D} (hd : ∀ a ∈ O, H a ≠ none) (hp : H p = none) (r : DpAll K (del O H) vs ds) : Dp K (del O (upd H p (.tup vs))) (.ref p) (.tuple ds) :=
  .tup (.inl (.inl (by rw [del_out (fresh_out hd hp)]; exact upd_same))) (dps_same (del_grow (same_upd hp)) r)
theorem dps_newlst {O : List Addr} {H : Hp} {p : Addr} {vs : List V} {ds : List D} (hp : H p = none) (r : DpAll K (del O H) vs ds) : DpAll K (del (p :: O) (upd H p (.lst vs))) vs ds := by
  refine dps_same (fun a o e => ?_) r
  by_cases ha : a ∈ O
  · rw [del_in ha] at e; cases e
  · rw [del_out ha] at e
    have hne : a ≠ p := ne_of_none e hp
    rw [del_out (by simp [ha, hne]), upd_ne hne]
    exact e
section
variable {τ : List Sl} {ta tb tc te : TE} {a b c d : D} {r r' : R2} {t u : TT}
theorem ev_var {i : Nat} (h : τ[i]? = some (.im d)) : Ev K (tVar i) τ d := fun O H σ s Q q => by
  obtain ⟨sv, h1, v, h2, h3⟩ := slsok_get s.sl h
  exact ⟨v, by rw [h1, h2], q v H (Same.refl H) h3⟩
theorem ev_int {i : Int} : Ev K (tC (.int i)) τ (.int i) := fun O H σ s Q q => q _ H (Same.refl H) (.int i)
theorem ev_bl {i : Bool} : Ev K (tC (.bl i)) τ (.bool i) := fun O H σ s Q q => q _ H (Same.refl H) (.bl i)
theorem ev_str {i : Str} : Ev K (tC (.str i)) τ (.str i) := fun O H σ s Q q => q _ H (Same.refl H) (.str i)
theorem ev_non : Ev K (tC .non) τ .none := fun O H σ s Q q => q _ H (Same.refl H) .non
theorem ev_op (ha : Ev K ta τ a) (hb : Ev K tb τ b) (hr : Rv K r a b d) : Ev K (tOp r ta tb) τ d := fun O H σ s Q q =>
  ha O H σ s _ fun v H1 e1 h1 => hb O H1 σ (s.grow e1) _ fun w H2 e2 h2 => hr O H2 v w ((s.grow e1).grow e2).dom (dp_same (del_grow e2) h1) h2 Q fun z H3 e3 h3 => q z H3 ((e1.trans e2).trans e3) h3
theorem en_op {ds : List D} (ha : Ev K ta τ a) (hb : Ev K tb τ b) (hr : RvN K r a b ds) : EvN K (tOp r ta tb) τ ds := fun O H σ s Q q =>
  ha O H σ s _ fun v H1 e1 h1 => hb O H1 σ (s.grow e1) _ fun w H2 e2 h2 => hr O H2 v w ((s.grow e1).grow e2).dom (dp_same (del_grow e2) h1) h2 Q fun p vs H3 hp e3 h3 h4 => q p vs H3 ((e1.trans e2).free hp) ((e1.trans e2).trans e3) h3 h4
theorem ev_un {r : V → Hp → VK → Prop} (ha : Ev K ta τ a) (hr : ∀ (H : Hp) (x : V) (O : List Addr), Dp K (del O H) x a → ∀ Q : VK, (∀ v, Dp K (del O H) v d → Q v H) → r x H Q) : Ev K (tUn r ta) τ d := fun O H σ s Q q =>
  ha O H σ s _ fun v H1 e1 h1 => hr H1 v O h1 Q fun w hw => q w H1 e1 hw
theorem ea_nil : EvA K tNil τ [] := fun O H σ s Q q => q [] H (Same.refl H) .nil
theorem ea_cons {tr : TA} {ds : List D} (h : Ev K ta τ a) (hr : EvA K tr τ ds) : EvA K (tCons ta tr) τ (a :: ds) := fun O H σ s Q q =>
  h O H σ s _ fun v H1 e1 h1 => hr O H1 σ (s.grow e1) _ fun vs H2 e2 h2 => q _ H2 (e1.trans e2) (.cons (dp_same (del_grow e2) h1) h2)
theorem ev_tup {tr : TA} {ds : List D} (h : EvA K tr τ ds) (hl : ds.length ≤ 100000) : Ev K (tTup tr) τ (.tuple ds) := fun O H σ s Q q =>
  h O H σ s _ fun vs H1 e1 h1 => ⟨by rw [dps_len h1]; exact Nat.le_trans hl (by decide), fun p hp => q _ _ (e1.trans (same_upd hp)) (dp_newtup (s.grow e1).dom hp h1)⟩
theorem en_lst {tr : TA} {ds : List D} (h : EvA K tr τ ds) (hl : ds.length ≤ 100000) : EvN K (tLst tr) τ ds := fun O H σ s Q q =>
  h O H σ s _ fun vs H1 e1 h1 => ⟨by rw [dps_len h1]; exact Nat.le_trans hl (by decide), fun p hp => q p vs _ (e1.free hp) (e1.trans (same_upd hp)) upd_same (dps_newlst hp h1)⟩
theorem ev_cb {r : List V → Hp → VK → Prop} {tr : TA} {ds : List D} (h : EvA K tr τ ds) (hr : Rc K r ds d) : Ev K (tCB r tr) τ d := fun O H σ s Q q =>
  h O H σ s _ fun vs H1 e1 h1 => hr O H1 vs (s.grow e1).dom h1 Q fun z H3 e3 h3 => q z H3 (e1.trans e3) h3
theorem en_cb {r : List V → Hp → VK → Prop} {tr : TA} {ds es : List D} (h : EvA K tr τ ds) (hr : RcN K r ds es) : EvN K (tCB r tr) τ es := fun O H σ s Q q =>
  h O H σ s _ fun vs H1 e1 h1 => hr O H1 vs (s.grow e1).dom h1 Q fun p vs H3 hp e3 h3 h4 => q p vs H3 (e1.free hp) (e1.trans e3) h3 h4
theorem ev_to {e : D} (h : Ev K ta τ a) (q : a = e) : Ev K ta τ e := q ▸ h
theorem et_test {b : Bool} (h : Ev K ta τ (.bool b)) : EvT K (tTest ta) τ b := fun O H σ s Q q =>
  h O H σ s _ fun v H1 e1 h1 => ⟨b, dp_bl h1, q H1 e1⟩
theorem et_B {b : Bool} (h : Ev K ta τ (.bool b)) : EvT K (tB ta) τ b := fun O H σ s Q q =>
  h O H σ s _ fun v H1 e1 h1 => ⟨b, dp_bl h1, q H1 e1⟩
theorem et_and {x y : Bool} (h1 : EvT K t τ x) (h2 : x = true → EvT K u τ y) : EvT K (tAnd t u) τ (x && y) := fun O H σ s Q q => h1 O H σ s _ fun H1 e1 => by
  cases x with
  | true => exact h2 rfl O H1 σ (s.grow e1) Q fun H2 e2 => q H2 (e1.trans e2)
  | false => exact q H1 e1
theorem et_or {x y : Bool} (h1 : EvT K t τ x) (h2 : x = false → EvT K u τ y) : EvT K (tOr t u) τ (x || y) := fun O H σ s Q q => h1 O H σ s _ fun H1 e1 => by
  cases x with
  | true => exact q H1 e1
  | false => exact h2 rfl O H1 σ (s.grow e1) Q fun H2 e2 => q H2 (e1.trans e2)
theorem et_not {x : Bool} (h1 : EvT K t τ x) : EvT K (tNot t) τ (!x) := fun O H σ s Q q => h1 O H σ s _ fun H1 e1 => q H1 e1
theorem et_to {x y : Bool} (h : EvT K t τ x) (q : x = y) : EvT K t τ y := q ▸ h
theorem ev_andV {x y : Bool} (h1 : Ev K ta τ (.bool x)) (h2 : x = true → Ev K tb τ (.bool y)) : Ev K (tAndV ta tb) τ (.bool (x && y)) := fun O H σ s Q q => h1 O H σ s _ fun v H1 e1 r1 => ⟨x, dp_bl r1, by
  cases x with
  | true => exact h2 rfl O H1 σ (s.grow e1) Q fun v H2 e2 => q v H2 (e1.trans e2)
  | false => exact q _ H1 e1 (.bl false)⟩
theorem ev_orV {x y : Bool} (h1 : Ev K ta τ (.bool x)) (h2 : x = false → Ev K tb τ (.bool y)) : Ev K (tOrV ta tb) τ (.bool (x || y)) := fun O H σ s Q q => h1 O H σ s _ fun v H1 e1 r1 => ⟨x, dp_bl r1, by
  cases x with
  | true => exact q _ H1 e1 (.bl true)
  | false => exact h2 rfl O H1 σ (s.grow e1) Q fun v H2 e2 => q v H2 (e1.trans e2)⟩
theorem ev_notV {x : Bool} (h1 : Ev K ta τ (.bool x)) : Ev K (tNotV ta) τ (.bool (!x)) := fun O H σ s Q q => h1 O H σ s _ fun v H1 e1 r1 => ⟨x, dp_bl r1, q _ H1 e1 (.bl _)⟩
theorem ev_if {x : Bool} (h : EvT K t τ x) (h1 : x = true → Ev K ta τ d) (h2 : x = false → Ev K tb τ d) : Ev K (tIf t ta tb) τ d := fun O H σ s Q q => h O H σ s _ fun H1 e1 => by
  cases x with
  | true => exact h1 rfl O H1 σ (s.grow e1) Q fun v H2 e2 => q v H2 (e1.trans e2)
  | false => exact h2 rfl O H1 σ (s.grow e1) Q fun v H2 e2 => q v H2 (e1.trans e2)
theorem ev_chain {x y : Bool} (ha : Ev K ta τ a) (hb : Ev K tb τ b) (hr : Rv K r a b (.bool x)) (hc : x = true → Ev K tc τ c) (hr' : x = true → Rv K r' b c (.bool y)) : Ev K (tChain r r' ta tb tc) τ (.bool (x && y)) := fun O H σ s Q q =>
  ha O H σ s _ fun v H1 e1 h1 => hb O H1 σ (s.grow e1) _ fun w H2 e2 h2 => hr O H2 v w ((s.grow e1).grow e2).dom (dp_same (del_grow e2) h1) h2 _ fun z H3 e3 h3 => ⟨x, dp_bl h3, by
    cases x with
    | true =>
      refine iteT ?_
      exact hc rfl O H3 σ (((s.grow e1).grow e2).grow e3) _ fun w' H4 e4 h4 => hr' rfl O H4 w w' ((((s.grow e1).grow e2).grow e3).grow e4).dom (dp_same (del_grow (e3.trans e4)) h2) h4 Q fun z H5 e5 h5 => q z H5 ((((e1.trans e2).trans e3).trans e4).trans e5) h5
    | false =>
      refine iteF ?_
      exact q _ H3 ((e1.trans e2).trans e3) (.bl false)⟩
theorem eo_none : EvO K tNoPart τ none := fun O H σ s Q q => q H (Same.refl H)
theorem eo_some {i : Int} (h : Ev K te τ (.int i)) : EvO K (tPart te) τ (some i) := fun O H σ s Q q => h O H σ s _ fun v H1 e1 h1 => ⟨i, dp_int h1, q H1 e1⟩
end
end GW

namespace GW
open PySem PySem.Spec PyProof.Rows L2
variable {K : PySem.W.Frag}

theorem set_self {α : Type} : ∀ {l : List α} {i : Nat} {x : α}, l[i]? = some x → l.set i x = l
  | [], _, _, h => by simp at h
  | a :: l, 0, x, h => by
    have e : a = x := Option.some.inj h
    rw [List.set_cons_zero, e]
  | a :: l, i + 1, x, h => by
    rw [List.set_cons_succ, set_self (l := l) (i := i) (by simpa using h)]

structure Sok (K : PySem.W.Frag) (O0 : List Addr) (F H : Hp) (σ : L2.St) (τ : List Sl) : Prop where
  e : SokE K (owns τ ++ O0) H σ τ
  base : Same F (del (owns τ) H)
  amb : ∀ a ∈ O0, F a ≠ none
  nd : (owns τ).Nodup
def Run (K : PySem.W.Frag) (O0 : List Addr) (F : Hp) (t : TS) (Dn : Ends) (τ : List Sl) : Prop := ∀ (H : Hp) (σ : L2.St), Sok K O0 F H σ τ → t Dn σ H

theorem del_app {A B : List Addr} {H : Hp} : del (A ++ B) H = del B (del A H) := funext fun a => by
  by_cases hb : a ∈ B
  · rw [del_in hb, del_in (List.mem_append_right _ hb)]
  · rw [del_out hb]
    by_cases ha : a ∈ A
    · rw [del_in ha, del_in (List.mem_append_left _ ha)]
    · rw [del_out ha, del_out (by simp [ha, hb])]
section
variable {O0 : List Addr} {F G H H' : Hp} {σ : L2.St} {τ : List Sl}
theorem Sok.same (s : Sok K O0 F H σ τ) : Same F H := s.base.trans del_same
theorem Sok.grow (s : Sok K O0 F H σ τ) (e : Same H H') : Sok K O0 F H' σ τ := ⟨s.e.grow e, s.base.trans (del_grow e), s.amb, s.nd⟩
theorem Sok.down (s : Sok K O0 G H σ τ) (e : Same F G) (a : ∀ a ∈ O0, F a ≠ none) : Sok K O0 F H σ τ := ⟨s.e, e.trans s.base, a, s.nd⟩
theorem amb_up (a : ∀ a ∈ O0, F a ≠ none) (e : Same F G) : ∀ a ∈ O0, G a ≠ none := fun b hb z => by
  cases q : F b with
  | none => exact a b hb q
  | some o => rw [e b o q] at z; cases z
/-- the heap as it stands becomes what is to be kept -/
theorem Sok.rebase (s : Sok K O0 F H σ τ) : Sok K O0 (del (owns τ) H) H σ τ := ⟨s.e, Same.refl _, amb_up s.amb s.base, s.nd⟩
theorem Sok.not_own (s : Sok K O0 F H σ τ) {p : Addr} (h : p ∈ owns τ) : F p = none := by
  cases q : F p with
  | none => rfl
  | some o =>
    have z := s.base p o q
    rw [del_in h] at z
    cases z
theorem sok_shrink {t : Sl} {s : Option V} {i : Nat} (S : Sok K O0 F H σ τ) (ht : plain t = true) (r : SlOk K (owns τ ++ O0) H s t) : Sok K O0 F H (σ.set i s) (τ.set i t) := by
  have sub : ∀ a, a ∈ owns (τ.set i t) → a ∈ owns τ := fun a ha => (owns_set_sub ht).subset ha
  have sub2 : ∀ a, a ∈ owns (τ.set i t) ++ O0 → a ∈ owns τ ++ O0 := fun a ha => by
    rcases List.mem_append.mp ha with h | h
    · exact List.mem_append_left _ (sub a h)
    · exact List.mem_append_right _ h
  exact ⟨⟨fun a ha => S.e.dom a (sub2 a ha), fun a ha => List.mem_append_left _ ha, slsok_sub sub2 (slsok_set r i S.e.sl)⟩, S.base.trans (del_sub sub), S.amb, (owns_set_sub ht).nodup S.nd⟩
theorem sok_put {v : V} {d : D} {i : Nat} (S : Sok K O0 F H σ τ) (r : Dp K (del (owns τ ++ O0) H) v d) : Sok K O0 F H (σ.set i (some v)) (τ.set i (.im d)) :=
  sok_shrink S rfl ⟨v, rfl, r⟩
/-- slots forgotten; the frame's own slots stay as they are -/
def forget (js : List Nat) (τ : List Sl) : List Sl := js.foldl (fun τ j => τ.set j .un) τ
theorem slsok_un {O : List Addr} : ∀ {σ : L2.St} {τ : List Sl} (i : Nat), SlsOk K O H σ τ → SlsOk K O H σ (τ.set i .un)
  | _, _, _, .nil => .nil
  | _, _, 0, .cons _ q => .cons trivial q
  | _, _, i + 1, .cons q p => .cons q (slsok_un i p)
theorem sok_un {i : Nat} (S : Sok K O0 F H σ τ) : Sok K O0 F H σ (τ.set i .un) := by
  have sub : ∀ a, a ∈ owns (τ.set i .un) → a ∈ owns τ := fun a ha => (owns_set_sub rfl).subset ha
  have sub2 : ∀ a, a ∈ owns (τ.set i .un) ++ O0 → a ∈ owns τ ++ O0 := fun a ha => by
    rcases List.mem_append.mp ha with h | h
    · exact List.mem_append_left _ (sub a h)
    · exact List.mem_append_right _ h
  exact ⟨⟨fun a ha => S.e.dom a (sub2 a ha), fun a ha => List.mem_append_left _ ha, slsok_sub sub2 (slsok_un i S.e.sl)⟩, S.base.trans (del_sub sub), S.amb, (owns_set_sub rfl).nodup S.nd⟩
theorem sok_forget : ∀ (js : List Nat) {τ : List Sl}, Sok K O0 F H σ τ → Sok K O0 F H σ (forget js τ)
  | [], _, S => S
  | j :: js, _, S => sok_forget js (sok_un (i := j) S)
theorem slok_up {O : List Addr} {p : Addr} (hp : H p = none) (e : Same H H') {s : Option V} : ∀ {t : Sl}, SlOk K O H s t → SlOk K (p :: O) H' s t := by
  have g : Same (del O H) (del (p :: O) H') := fun a o q => by
    by_cases ha : a ∈ O
    · rw [del_in ha] at q; cases q
    · rw [del_out ha] at q
      rw [del_out (by simp [ha, ne_of_none q hp])]
      exact e a o q
  intro t h
  cases t with
  | un => trivial
  | raw _ => exact h
  | fx v d => exact ⟨h.1, dp_same g h.2⟩
  | im d => obtain ⟨v, h1, h2⟩ := h; exact ⟨v, h1, dp_same g h2⟩
  | ow q ds => obtain ⟨h1, vs, h2, h3⟩ := h; exact ⟨h1, vs, e _ _ h2, dps_same g h3⟩
theorem slsok_up {O : List Addr} {p : Addr} (hp : H p = none) (e : Same H H') : ∀ {σ : L2.St} {τ : List Sl}, SlsOk K O H σ τ → SlsOk K (p :: O) H' σ τ
  | _, _, .nil => .nil
  | _, _, .cons r t => .cons (slok_up hp e r) (slsok_up hp e t)
/-- a new list comes into a slot -/
theorem sok_new {p : Addr} {vs : List V} {ds : List D} {i : Nat} (S : Sok K O0 F H σ τ) (hp : H p = none) (e : Same H H') (h : H' p = some (.lst vs)) (r : DpAll K (del (p :: (owns τ ++ O0)) H') vs ds) :
    Sok K O0 F H' (σ.set i (some (.ref p))) (τ.set i (.ow p ds)) := by
  have hpo : p ∉ owns τ ++ O0 := fresh_out S.e.dom hp
  have sub : ∀ a, a ∈ owns (τ.set i (.ow p ds)) → a ∈ p :: owns τ := fun a ha => by
    rcases owns_set_new ha with z | z
    · rw [z]; exact List.mem_cons_self
    · exact List.mem_cons_of_mem _ z
  have sub2 : ∀ a, a ∈ owns (τ.set i (.ow p ds)) ++ O0 → a ∈ p :: (owns τ ++ O0) := fun a ha => by
    rcases List.mem_append.mp ha with z | z
    · rcases List.mem_cons.mp (sub a z) with z | z
      · rw [z]; exact List.mem_cons_self
      · exact List.mem_cons_of_mem _ (List.mem_append_left _ z)
    · exact List.mem_cons_of_mem _ (List.mem_append_right _ z)
  have dom : ∀ a ∈ p :: (owns τ ++ O0), H' a ≠ none := fun a ha => by
    rcases List.mem_cons.mp ha with z | z
    · rw [z, h]; exact fun z => nomatch z
    · exact (S.e.grow e).dom a z
  refine ⟨⟨fun a ha => dom a (sub2 a ha), fun a ha => List.mem_append_left _ ha, slsok_sub sub2 (slsok_set (show SlOk K _ H' (some (.ref p)) (.ow p ds) from ⟨rfl, vs, h, r⟩) i (slsok_up hp e S.e.sl))⟩, fun a o q => ?_, S.amb, nodup_set_new S.nd fun z => hpo (List.mem_append_left _ z)⟩
  have q1 := S.base a o q
  have hne : a ∉ owns τ := fun z => by rw [del_in z] at q1; cases q1
  rw [del_out hne] at q1
  have hap : a ≠ p := ne_of_none q1 hp
  rw [del_out (fun z => by
    rcases List.mem_cons.mp (sub a z) with z | z
    · exact hap z
    · exact hne z)]
  exact e a o q1
theorem slsok_of {O : List Addr} : ∀ {σ : L2.St} {τ : List Sl}, σ.length = τ.length → (∀ (i : Nat) (s : Option V) (t : Sl), σ[i]? = some s → τ[i]? = some t → SlOk K O H s t) → SlsOk K O H σ τ
  | [], [], _, _ => .nil
  | [], _ :: _, h, _ => by simp at h
  | _ :: _, [], h, _ => by simp at h
  | s :: σ, t :: τ, h, f => .cons (f 0 s t rfl rfl) (slsok_of (by simpa using h) fun i s t h1 h2 => f (i + 1) s t (by simpa using h1) (by simpa using h2))
theorem slsok_len {O : List Addr} : ∀ {σ : L2.St} {τ : List Sl}, SlsOk K O H σ τ → σ.length = τ.length
  | _, _, .nil => rfl
  | _, _, .cons _ t => by rw [List.length_cons, List.length_cons, slsok_len t]
theorem slsok_both {O : List Addr} : ∀ {σ : L2.St} {τ : List Sl} {i : Nat} {s : Option V} {t : Sl}, SlsOk K O H σ τ → σ[i]? = some s → τ[i]? = some t → SlOk K O H s t := fun {σ τ i s t} h h1 h2 => by
  obtain ⟨s', e, r⟩ := slsok_get h h2
  rw [h1] at e
  cases e
  exact r
/-- an owned list is changed -/
theorem sok_upd {p : Addr} {vs : List V} {ds es : List D} {j : Nat} (S : Sok K O0 F H σ τ) (hj : τ[j]? = some (.ow p ds)) (r : DpAll K (del (owns τ ++ O0) H) vs es) :
    Sok K O0 F (upd H p (.lst vs)) σ (τ.set j (.ow p es)) := by
  have hpo : p ∈ owns τ := owns_mem.mpr ⟨j, ds, hj⟩
  have hpo2 : p ∈ owns τ ++ O0 := List.mem_append_left _ hpo
  have eo := owns_set_ow (es := es) hj
  refine ⟨⟨fun a ha => ?_, fun a ha => List.mem_append_left _ ha, slsok_of (by rw [List.length_set]; exact slsok_len S.e.sl) fun i s t h1 h2 => ?_⟩, ?_, S.amb, by rw [eo]; exact S.nd⟩
  · rw [eo] at ha
    by_cases hap : a = p
    · rw [hap, upd_same]; exact fun z => nomatch z
    · rw [upd_ne hap]; exact S.e.dom a ha
  · rw [eo]
    by_cases hij : j = i
    · subst hij
      have hl : j < τ.length := (List.getElem?_eq_some_iff.mp hj).1
      rw [List.getElem?_set_self hl] at h2
      cases h2
      obtain ⟨h3, _⟩ := slsok_both S.e.sl h1 hj
      refine ⟨h3, vs, upd_same, ?_⟩
      rw [del_upd_in hpo2]
      exact r
    · rw [List.getElem?_set_ne hij] at h2
      have q := slsok_both S.e.sl h1 h2
      cases t with
      | un => trivial
      | raw _ => exact q
      | fx v d =>
        refine ⟨q.1, ?_⟩
        rw [del_upd_in hpo2]
        exact q.2
      | im d =>
        obtain ⟨v, q1, q2⟩ := q
        refine ⟨v, q1, ?_⟩
        rw [del_upd_in hpo2]
        exact q2
      | ow a fs =>
        obtain ⟨q1, ws, q2, q3⟩ := q
        refine ⟨q1, ws, ?_, ?_⟩
        · rw [upd_ne (fun z => hij (nodup_at S.nd hj (z ▸ h2)))]
          exact q2
        · rw [del_upd_in hpo2]
          exact q3
  · rw [eo, del_upd_in hpo]
    exact S.base
theorem own_gone {p : Addr} {ds : List D} {j : Nat} {t : Sl} (hn : (owns τ).Nodup) (hj : τ[j]? = some (.ow p ds)) (ht : plain t = true) : p ∉ owns (τ.set j t) := fun z => by
  obtain ⟨i, es, e⟩ := owns_mem.mp z
  by_cases hij : j = i
  · subst hij
    rw [List.getElem?_set_self (List.getElem?_eq_some_iff.mp hj).1] at e
    cases e
    cases ht
  · rw [List.getElem?_set_ne hij] at e
    exact hij (nodup_at hn hj e)
/-- an owned list becomes data -/
theorem sok_freeze {p : Addr} {ds : List D} {j : Nat} (S : Sok K O0 F H σ τ) (hj : τ[j]? = some (.ow p ds)) : Sok K O0 F H σ (τ.set j (.im (.list ds))) := by
  obtain ⟨s, h1, h2, vs, h3, h4⟩ := slsok_get S.e.sl hj
  have sub : ∀ a, a ∈ owns (τ.set j (.im (.list ds))) → a ∈ owns τ := fun a ha => (owns_set_sub rfl).subset ha
  have sub2 : ∀ a, a ∈ owns (τ.set j (.im (.list ds))) ++ O0 → a ∈ owns τ ++ O0 := fun a ha => by
    rcases List.mem_append.mp ha with h | h
    · exact List.mem_append_left _ (sub a h)
    · exact List.mem_append_right _ h
  have hpn : p ∉ owns (τ.set j (.im (.list ds))) ++ O0 := fun z => by
    rcases List.mem_append.mp z with z | z
    · exact own_gone S.nd hj rfl z
    · exact S.amb p z (S.not_own (owns_mem.mpr ⟨j, ds, hj⟩))
  have e : σ = σ.set j s := (set_self h1).symm
  have q : SlOk K (owns (τ.set j (.im (.list ds))) ++ O0) H s (.im (.list ds)) := ⟨.ref p, h2, .lst (.inl (.inl (by rw [del_out hpn]; exact h3))) (dps_same (del_sub sub2) h4)⟩
  refine ⟨⟨fun a ha => S.e.dom a (sub2 a ha), fun a ha => List.mem_append_left _ ha, ?_⟩, S.base.trans (del_sub sub), S.amb, (owns_set_sub rfl).nodup S.nd⟩
  rw [e]
  exact slsok_set q j (slsok_sub sub2 S.e.sl)
end

def Ret (K : PySem.W.Frag) (O0 : List Addr) (F : Hp) (rt : VK) (d : D) : Prop := ∀ v H', Same F H' → Dp K (del O0 H') v d → rt v H'
def RetN (K : PySem.W.Frag) (O0 : List Addr) (F : Hp) (rt : VK) (ds : List D) : Prop := ∀ p vs H', F p = none → Same F H' → H' p = some (.lst vs) → DpAll K (del (p :: O0) H') vs ds → rt (.ref p) H'
section
variable {O0 : List Addr} {F G H H' : Hp} {τ : List Sl} {Dn : Ends} {te : TE} {t u tz tu tw : TS} {tt : TT} {d : D} {ds : List D}
theorem Ret.up {rt : VK} (h : Ret K O0 F rt d) (e : Same F G) : Ret K O0 G rt d := fun v H' e' r => h v H' (e.trans e') r
theorem RetN.up {rt : VK} (h : RetN K O0 F rt ds) (e : Same F G) : RetN K O0 G rt ds := fun p vs H' hp e' h1 r => h p vs H' (e.free hp) (e.trans e') h1 r

theorem run_freeze {p : Addr} {j : Nat} {τ' : List Sl} (hj : τ[j]? = some (.ow p ds)) (k : Run K O0 F t Dn τ') (hτ : τ.set j (.im (.list ds)) = τ' := by first | (dsimp only [List.set]; done) | (dsimp only [List.set]; rfl) | rfl) : Run K O0 F t Dn τ := fun H σ S => by
  subst hτ
  exact k H σ (sok_freeze S hj)
theorem run_forget {js : List Nat} {τ' : List Sl} (k : Run K O0 F t Dn τ') (hτ : forget js τ = τ' := by rfl) : Run K O0 F t Dn τ := fun H σ S => by
  subst hτ
  exact k H σ (sok_forget js S)
theorem run_asg {i : Nat} {τ' : List Sl} (h : Ev K te τ d) (k : Run K O0 F tz Dn τ') (hτ : τ.set i (.im d) = τ' := by first | (dsimp only [List.set]; done) | (dsimp only [List.set]; rfl) | rfl) : Run K O0 F (tSeq (tAsg te (gName i)) tz) Dn τ := fun H σ S => by
  subst hτ
  exact h _ H σ S.e _ fun v H1 e1 r => k H1 _ (sok_put (S.grow e1) r)
theorem run_asgN {i : Nat} (h : EvN K te τ ds) (k : ∀ p, Run K O0 F tz Dn (τ.set i (.ow p ds))) : Run K O0 F (tSeq (tAsg te (gName i)) tz) Dn τ := fun H σ S =>
  h _ H σ S.e _ fun p vs H1 hp e1 h1 r => k p H1 _ (sok_new S hp e1 h1 r)
theorem run_ret (h : Ev K te τ d) (k : Ret K O0 F Dn.rt d) : Run K O0 F (tSeq (tRet te) tz) Dn τ := fun H σ S =>
  h _ H σ S.e _ fun v H1 e1 r => k v H1 (S.grow e1).same (dp_same (del_sub fun a ha => List.mem_append_right _ ha) r)
theorem run_retN (h : EvN K te τ ds) (k : RetN K O0 F Dn.rt ds) : Run K O0 F (tSeq (tRet te) tz) Dn τ := fun H σ S =>
  h _ H σ S.e _ fun p vs H1 hp e1 h1 r => k p vs H1 (S.same.free hp) (S.grow e1).same h1 (dps_same (del_sub fun a ha => by
    rcases List.mem_cons.mp ha with z | z
    · rw [z]; exact List.mem_cons_self
    · exact List.mem_cons_of_mem _ (List.mem_append_right _ z)) r)
/-- return of an owned list -/
theorem run_retO {p : Addr} {j : Nat} (hj : τ[j]? = some (.ow p ds)) (k : RetN K O0 F Dn.rt ds) : Run K O0 F (tSeq (tRet (tVar j)) tz) Dn τ := fun H σ S => by
  obtain ⟨s, h1, h2, vs, h3, h4⟩ := slsok_get S.e.sl hj
  have hp : p ∈ owns τ := owns_mem.mpr ⟨j, ds, hj⟩
  refine ⟨.ref p, by rw [h1, h2], k p vs H (S.not_own hp) S.same h3 (dps_same (del_sub fun a ha => ?_) h4)⟩
  rcases List.mem_cons.mp ha with z | z
  · rw [z]; exact List.mem_append_left _ hp
  · exact List.mem_append_right _ z
theorem run_retNone (k : Ret K O0 F Dn.rt .none) : Run K O0 F (tSeq tRetN tz) Dn τ := fun H σ S => k .non H S.same .non
theorem run_drop (h : Ev K te τ d) (k : Run K O0 F tz Dn τ) : Run K O0 F (tSeq (tDrop te) tz) Dn τ := fun H σ S =>
  h _ H σ S.e _ fun v H1 e1 r => k H1 _ (S.grow e1)
/-- y = x, x an owned list: it goes over -/
theorem run_move {p : Addr} {i j : Nat} {τ' : List Sl} (hj : τ[j]? = some (.ow p ds)) (k : Run K O0 F tz Dn τ') (hτ : (τ.set j .un).set i (.ow p ds) = τ' := by first | (dsimp only [List.set]; done) | (dsimp only [List.set]; rfl) | rfl) : Run K O0 F (tSeq (tAsg (tVar j) (gName i)) tz) Dn τ := fun H σ S => by
  subst hτ
  obtain ⟨s, h1, h2, vs, h3, h4⟩ := slsok_get S.e.sl hj
  refine ⟨.ref p, by rw [h1, h2], k H _ ?_⟩
  have hp : p ∈ owns τ := owns_mem.mpr ⟨j, ds, hj⟩
  have S1 := sok_un (i := j) S
  have sub : ∀ a, a ∈ owns ((τ.set j .un).set i (.ow p ds)) → a ∈ owns τ := fun a ha => by
    rcases owns_set_new ha with z | z
    · rw [z]; exact hp
    · exact (owns_set_sub rfl).subset z
  have sub2 : ∀ a, a ∈ owns ((τ.set j .un).set i (.ow p ds)) ++ O0 → a ∈ owns τ ++ O0 := fun a ha => by
    rcases List.mem_append.mp ha with z | z
    · exact List.mem_append_left _ (sub a z)
    · exact List.mem_append_right _ z
  exact ⟨⟨fun a ha => S.e.dom a (sub2 a ha), fun a ha => List.mem_append_left _ ha, slsok_sub sub2 (slsok_set (show SlOk K _ H (some (.ref p)) (.ow p ds) from ⟨rfl, vs, h3, h4⟩) i (slsok_un j S.e.sl))⟩, S.base.trans (del_sub sub), S.amb, nodup_set_new S1.nd (own_gone S.nd hj rfl)⟩
/-- xs.append(e) -/
theorem run_app {p : Addr} {j : Nat} {τ' : List Sl} (hj : τ[j]? = some (.ow p ds)) (h : Ev K te τ d) (hz : ds.length < 100000) (k : Run K O0 F tz Dn τ') (hτ : τ.set j (.ow p (ds ++ [d])) = τ' := by first | (dsimp only [List.set]; done) | (dsimp only [List.set]; rfl) | rfl) :
    Run K O0 F (tSeq (tDrop (tBM K "list" rAppend (tVar j) (tCons te tNil))) tz) Dn τ := fun H σ S => by
  subst hτ
  obtain ⟨s, h1, h2, vs, h3, h4⟩ := slsok_get S.e.sl hj
  refine ⟨.ref p, by rw [h1, h2], .inl ⟨rfl, vs, .inl (.inl h3)⟩, h _ H σ S.e _ fun v H1 e1 r => ⟨p, vs, v, rfl, rfl, e1 _ _ h3, ?_, k _ σ (sok_upd (S.grow e1) hj (dps_app (dps_same (del_grow e1) h4) (.cons r .nil)))⟩⟩
  rw [dps_len h4]
  exact Nat.lt_of_lt_of_le hz (by decide)
/-- xs[k] = e -/
theorem run_setI {p : Addr} {j k : Nat} {ti : TE} {τ' : List Sl} (hj : τ[j]? = some (.ow p ds)) (h : Ev K te τ d) (hi : Ev K ti (τ.set j .un) (.int (k : Int))) (hk : k < ds.length) (kk : Run K O0 F tz Dn τ') (hτ : τ.set j (.ow p (ds.set k d)) = τ' := by first | (dsimp only [List.set]; done) | (dsimp only [List.set]; rfl) | rfl) :
    Run K O0 F (tSeq (tAsg te (gSub (tVar j) ti rSetL)) tz) Dn τ := fun H σ S => by
  subst hτ
  refine h _ H σ S.e _ fun v H1 e1 r => ?_
  have S1 := S.grow e1
  obtain ⟨s, h1, h2, vs, h3, h4⟩ := slsok_get S1.e.sl hj
  have SE : SokE K (owns τ ++ O0) H1 σ (τ.set j .un) := ⟨S1.e.dom, fun a ha => List.mem_append_left _ ((owns_set_sub rfl).subset ha), slsok_un j S1.e.sl⟩
  refine ⟨.ref p, by rw [h1, h2], hi _ H1 σ SE _ fun w H2 e2 r2 => ?_⟩
  have S2 := S1.grow e2
  refine ⟨p, vs, (k : Int), k, rfl, dp_int r2, e2 _ _ h3, ?_, kk _ σ (sok_upd S2 hj (dps_set k (dp_same (del_grow e2) r) (dps_same (del_grow e2) h4)))⟩
  unfold ixN
  rw [if_pos (by omega), if_pos (by rw [dps_len h4]; omega)]
  simp
theorem run_if {b : Bool} (h : EvT K tt τ b) (h1 : b = true → Run K O0 F tu { Dn with nx := tz Dn } τ) (h2 : b = false → Run K O0 F tw { Dn with nx := tz Dn } τ) : Run K O0 F (tSeq (tIfS tt tu tw) tz) Dn τ := fun H σ S =>
  h _ H σ S.e _ fun H1 e1 => by
    cases b with
    | true => exact h1 rfl H1 σ (S.grow e1)
    | false => exact h2 rfl H1 σ (S.grow e1)
/-- the end of an if's branch -/
theorem run_nx (k : Run K O0 F tz Dn τ) : Run K O0 F tNext { Dn with nx := tz Dn } τ := fun H σ S => k H σ S
/-- if c: x = e -/
theorem run_ifAsg {b : Bool} {i : Nat} {d0 : D} {τ' : List Sl} (h : EvT K tt τ b) (h0 : τ[i]? = some (.im d0)) (h1 : b = true → Ev K te τ d) (k : Run K O0 F tz Dn τ') (hτ : τ.set i (.im (if b = true then d else d0)) = τ' := by first | (dsimp only [List.set]; done) | (dsimp only [List.set]; rfl) | rfl) :
    Run K O0 F (tSeq (tIfS tt (tSeq (tAsg te (gName i)) tNext) tNext) tz) Dn τ := by
  subst hτ
  refine run_if h (fun hb => ?_) (fun hb => ?_)
  · refine run_asg (h1 hb) (run_nx ?_) rfl
    rw [if_pos hb] at k
    exact k
  · refine run_nx ?_
    rw [if_neg (by rw [hb]; decide)] at k
    have e : τ.set i (.im d0) = τ := set_self h0
    rw [e] at k
    exact k

/-- what stands between two turns -/
def NX (K : PySem.W.Frag) (O0 : List Addr) (G : Hp) (P : List Sl → Prop) : L2.St → Hp → Prop := fun σ H => ∃ τ, P τ ∧ Sok K O0 G H σ τ
theorem run_end {P : List Sl → Prop} {js : List Nat} {n c b rt} (h : P (forget js τ)) (hn : n = NX K O0 F P) : Run K O0 F tNext { nx := n, rt := rt, bk := b, ct := c } τ := fun H σ S => by
  subst hn
  exact ⟨_, h, sok_forget js S⟩
theorem run_seq {v : V} {js : List Nat} {j : Nat} {wi : TI} {g : TG} {Inv : Nat → List Sl → Prop} {xs : List V} {J : It} {σ : L2.St} {a : Addr} (S : Sok K O0 F H σ τ) (h0 : Inv 0 (forget js τ)) (ha : DpAll K (del (owns τ ++ O0) H) xs ds)
    (hs : ∀ G, Same F G → ∀ i d τ', ds[i]? = some d → Inv i τ' → Run K O0 G tu { Dn with nx := NX K O0 G (Inv (i + 1)), ct := NX K O0 G (Inv (i + 1)), bk := Dn.nx } (τ'.set j (.im d)))
    (hd : ∀ τ', Inv ds.length τ' → Run K O0 F (fun D σ H => D.nx σ H) Dn τ') :
    NX K O0 (del (owns τ) H) (Inv 0) σ H ∧ (∀ i x σ' H', xs[i]? = some x → NX K O0 (del (owns τ) H) (Inv i) σ' H' → gName j x σ' H' fun σ2 H2 => tu { Dn with nx := NX K O0 (del (owns τ) H) (Inv (i + 1)), ct := NX K O0 (del (owns τ) H) (Inv (i + 1)), bk := Dn.nx } σ2 H2) ∧
    (∀ σ' H', NX K O0 (del (owns τ) H) (Inv xs.length) σ' H' → Dn.nx σ' H') := by
  refine ⟨⟨_, h0, sok_forget js S.rebase⟩, fun i x σ' H' hx hn => ?_, fun σ' H' hn => ?_⟩
  · obtain ⟨τ', hi, S'⟩ := hn
    obtain ⟨d, hd', r⟩ := dps_get' ha hx
    refine hs _ S.base i d τ' hd' hi H' _ (sok_put S' (dp_same ?_ r))
    rw [del_app, del_app]
    exact del_grow S'.base
  · obtain ⟨τ', hi, S'⟩ := hn
    rw [dps_len ha] at hi
    exact hd τ' hi H' σ' (S'.down S.base S.amb)
theorem run_forL {tl : TE} {j : Nat} (js : List Nat) (Inv : Nat → List Sl → Prop) (h : Ev K tl τ (.list ds)) (h0 : Inv 0 (forget js τ))
    (hs : ∀ G, Same F G → ∀ i d τ', ds[i]? = some d → Inv i τ' → Run K O0 G tu { Dn with nx := NX K O0 G (Inv (i + 1)), ct := NX K O0 G (Inv (i + 1)), bk := tz Dn } (τ'.set j (.im d)))
    (hd : ∀ τ', Inv ds.length τ' → Run K O0 F tz Dn τ') : Run K O0 F (tSeq (tFor (iList K tl) (gName j) tu) tz) Dn τ := fun H σ S => by
  refine h _ H σ S.e _ fun v H1 e1 r => ?_
  obtain ⟨a, xs, rfl, hq, ha⟩ := dp_lst r
  have S1 := S.grow e1
  obtain ⟨p0, p1, p2⟩ := run_seq (v := .ref a) (wi := iList K tl) (g := gName j) (J := Itl K a) (a := a) (tu := tu) (j := j) (Dn := { Dn with nx := tz Dn }) S1 h0 ha hs fun τ' hi => hd τ' hi
  refine ⟨a, rfl, ⟨xs, sql_same del_same hq⟩, for_list (xs := xs) (fun i => NX K O0 (del (owns τ) H1) (Inv i)) p0 (fun i σ' H' _ hn => ?_) p1 p2⟩
  obtain ⟨τ', _, S'⟩ := hn
  rw [del_app] at hq
  exact sql_same ((del_same (O := O0)).trans S'.same) hq
theorem run_forT {tl : TE} {j : Nat} (js : List Nat) (Inv : Nat → List Sl → Prop) (h : Ev K tl τ (.tuple ds)) (h0 : Inv 0 (forget js τ))
    (hs : ∀ G, Same F G → ∀ i d τ', ds[i]? = some d → Inv i τ' → Run K O0 G tu { Dn with nx := NX K O0 G (Inv (i + 1)), ct := NX K O0 G (Inv (i + 1)), bk := tz Dn } (τ'.set j (.im d)))
    (hd : ∀ τ', Inv ds.length τ' → Run K O0 F tz Dn τ') : Run K O0 F (tSeq (tFor (iTup K tl) (gName j) tu) tz) Dn τ := fun H σ S => by
  refine h _ H σ S.e _ fun v H1 e1 r => ?_
  obtain ⟨a, xs, rfl, hq, ha⟩ := dp_tup r
  have S1 := S.grow e1
  obtain ⟨p0, p1, p2⟩ := run_seq (v := .ref a) (wi := iTup K tl) (g := gName j) (J := Itt K a) (a := a) (tu := tu) (j := j) (Dn := { Dn with nx := tz Dn }) S1 h0 ha hs fun τ' hi => hd τ' hi
  refine ⟨a, rfl, ⟨xs, sqt_same del_same hq⟩, for_tup (xs := xs) (fun i => NX K O0 (del (owns τ) H1) (Inv i)) p0 (fun i σ' H' _ hn => ?_) p1 p2⟩
  obtain ⟨τ', _, S'⟩ := hn
  rw [del_app] at hq
  exact sqt_same ((del_same (O := O0)).trans S'.same) hq
theorem run_forR {ta : TA} {j : Nat} {n : Int} (js : List Nat) (Inv : Nat → List Sl → Prop) (h : EvA K ta τ [.int n]) (hn : -100000 ≤ n ∧ n ≤ 100000) (h0 : Inv 0 (forget js τ))
    (hs : ∀ G, Same F G → ∀ (i : Nat) τ', (i : Int) < n → Inv i τ' → Run K O0 G tu { Dn with nx := NX K O0 G (Inv (i + 1)), ct := NX K O0 G (Inv (i + 1)), bk := tz Dn } (τ'.set j (.im (.int (i : Int)))))
    (hd : ∀ τ', Inv n.toNat τ' → Run K O0 F tz Dn τ') : Run K O0 F (tSeq (tFor (iRng1 ta) (gName j) tu) tz) Dn τ := fun H σ S => by
  refine h _ H σ S.e _ fun vs H1 e1 r => ?_
  obtain ⟨v, rfl, r1⟩ := dps1 r
  rw [dp_int r1]
  have S1 := S.grow e1
  refine ⟨n, rfl, by omega, by omega, for_range (lo := 0) (n := n.toNat) (fun i => NX K O0 (del (owns τ) H1) (Inv i)) ⟨_, h0, sok_forget js S1.rebase⟩ (fun i σ' H' hi hx => ?_) (fun σ' H' hx => ?_)⟩
  · obtain ⟨τ', hv, S'⟩ := hx
    have e0 : (0 : Int) + (i : Int) = (i : Int) := Int.zero_add _
    show tu _ (σ'.set j (some (.int ((0 : Int) + (i : Int))))) H'
    rw [e0]
    exact hs _ S1.base i τ' (by omega) hv H' _ (sok_put S' (.int _))
  · obtain ⟨τ', hv, S'⟩ := hx
    exact hd τ' hv H' σ' (S'.down S1.base S.amb)
theorem run_while {W : Nat → List Sl → Prop} (js : List Nat) (m0 : Nat) (h0 : W m0 (forget js τ))
    (hs : ∀ G, Same F G → ∀ m τ', W m τ' → ∃ b, EvT K tt τ' b ∧ (b = true → Run K O0 G tu { Dn with nx := NX K O0 G (fun τ2 => ∃ m', m' < m ∧ W m' τ2), ct := NX K O0 G (fun τ2 => ∃ m', m' < m ∧ W m' τ2), bk := tz Dn } τ') ∧ (b = false → Run K O0 F tz Dn τ')) :
    Run K O0 F (tSeq (tWhile tt tu) tz) Dn τ := fun H σ S => by
  refine ⟨fun m => NX K O0 (del (owns τ) H) (W m), ⟨m0, _, h0, sok_forget js S.rebase⟩, fun m σ' H' hx => ?_⟩
  obtain ⟨τ', hw, S'⟩ := hx
  obtain ⟨b, hb, h1, h2⟩ := hs _ S.base m τ' hw
  refine hb _ H' σ' S'.e _ fun H2 e2 => ?_
  cases b with
  | true =>
    refine ⟨NX K O0 (del (owns τ) H) (fun τ2 => ∃ m', m' < m ∧ W m' τ2), fun σ3 H3 hx => ?_, h1 rfl H2 σ' (S'.grow e2)⟩
    obtain ⟨τ3, ⟨m', hm, hw'⟩, S3⟩ := hx
    exact ⟨m', hm, τ3, hw', S3⟩
  | false => exact h2 rfl H2 σ' ((S'.grow e2).down S.base S.amb)
/-- x, y = a, b -/
theorem run_par {ta : TA} {i j : Nat} {d1 d2 : D} {τ' : List Sl} (h : EvA K ta τ [d1, d2]) (k : Run K O0 F tz Dn τ') (hτ : (τ.set i (.im d1)).set j (.im d2) = τ' := by first | (dsimp only [List.set]; done) | (dsimp only [List.set]; rfl) | rfl) : Run K O0 F (tSeq (tPar i j ta) tz) Dn τ := fun H σ S => by
  subst hτ
  refine h _ H σ S.e _ fun vs H1 e1 r => ?_
  obtain ⟨v, w, rfl, r1, r2⟩ := dps2 r
  refine ⟨v, w, rfl, k H1 _ ?_⟩
  have S1 := sok_put (i := i) (S.grow e1) r1
  refine sok_put S1 (dp_same (del_sub fun a ha => ?_) r2)
  rcases List.mem_append.mp ha with z | z
  · exact List.mem_append_left _ ((owns_set_sub rfl).subset z)
  · exact List.mem_append_right _ z
end

/-- of such data the answer is that datum -/
def spR (K : PySem.W.Frag) (n : Nat) (R : List D → D → Prop) : Sp := fun vs H Q _ => ∃ (O : List Addr) (ds : List D) (d : D), (∀ a ∈ O, H a ≠ none) ∧ DpAll K (del O H) vs ds ∧ (ds.length = n ∧ R ds d) ∧ ∀ v H', Same H H' → Dp K (del O H') v d → Q v H'
/-- .. a new list -/
def spN (K : PySem.W.Frag) (n : Nat) (R : List D → List D → Prop) : Sp := fun vs H Q _ => ∃ (O : List Addr) (ds es : List D), (∀ a ∈ O, H a ≠ none) ∧ DpAll K (del O H) vs ds ∧ (ds.length = n ∧ R ds es) ∧ ∀ p ws H', H p = none → Same H H' → H' p = some (.lst ws) → DpAll K (del (p :: O) H') ws es → Q (.ref p) H'
section
variable {O0 : List Addr} {F G H H' : Hp} {τ : List Sl} {ta : TA} {d : D} {as ds : List D} {E : XK}
theorem ev_call {n : Nat} {R : List D → D → Prop} (h : EvA K ta τ as) (hR : R as d) (hn : as.length = n := by rfl) : Ev K (tCall (spR K n R) [] E ta) τ d := fun O H σ s Q q =>
  h O H σ s _ fun vs H1 e1 r => ⟨O, as, d, (s.grow e1).dom, by rw [List.append_nil]; exact r, ⟨hn, hR⟩, fun v H2 e2 r2 => q v H2 (e1.trans e2) r2⟩
theorem en_call {n : Nat} {R : List D → List D → Prop} (h : EvA K ta τ as) (hR : R as ds) (hn : as.length = n := by rfl) : EvN K (tCall (spN K n R) [] E ta) τ ds := fun O H σ s Q q =>
  h O H σ s _ fun vs H1 e1 r => ⟨O, as, ds, (s.grow e1).dom, by rw [List.append_nil]; exact r, ⟨hn, hR⟩, fun p ws H2 hp e2 h2 r2 => q p ws H2 (e1.free hp) (e1.trans e2) h2 r2⟩
def init (n : Nat) (ds : List D) : List Sl := ds.map Sl.im ++ List.replicate (n - ds.length) .un
theorem owns_init {n : Nat} : ∀ {ds : List D}, owns (init n ds) = [] := fun {ds} => by
  apply List.eq_nil_iff_forall_not_mem.mpr
  intro a ha
  obtain ⟨i, es, e⟩ := owns_mem.mp ha
  unfold init at e
  have hm := List.mem_of_getElem? e
  rcases List.mem_append.mp hm with h | h
  · obtain ⟨d, _, z⟩ := List.mem_map.mp h
    cases z
  · have := List.eq_of_mem_replicate h
    cases this
theorem slsok_init {O : List Addr} {H : Hp} {N : List Str} {vs : List V} {ds : List D} (r : DpAll K (del O H) vs ds) : SlsOk K O H (L2.start N vs) (init N.length ds) := by
  unfold L2.start init
  rw [dps_len r]
  have h1 : ∀ {vs : List V} {ds : List D} {σ : L2.St} {τ : List Sl}, DpAll K (del O H) vs ds → SlsOk K O H σ τ → SlsOk K O H (vs.map some ++ σ) (ds.map Sl.im ++ τ) := by
    intro vs ds σ τ r s
    induction ds generalizing vs with
    | nil => cases r; exact s
    | cons d ds ih => cases r with | cons r1 r2 => exact .cons ⟨_, rfl, r1⟩ (ih r2)
  refine h1 r ?_
  generalize N.length - ds.length = k
  induction k with
  | zero => exact .nil
  | succ k ih => exact .cons trivial ih
theorem sok_init {O : List Addr} {H : Hp} {N : List Str} {vs : List V} {ds : List D} (dom : ∀ a ∈ O, H a ≠ none) (r : DpAll K (del O H) vs ds) : Sok K O H H (L2.start N vs) (init N.length ds) := by
  have e : owns (init N.length ds) = [] := owns_init
  refine ⟨⟨fun a ha => dom a (by rw [e] at ha; exact ha), fun a ha => (by rw [e] at ha; cases ha), (by rw [e]; exact slsok_init r)⟩, (by rw [e, del_nil]; exact Same.refl _), dom, (by rw [e]; exact List.nodup_nil)⟩
/-- a def's promise from its body -/
theorem body_R {m : Nat} {R : List D → D → Prop} {N : List Str} {n : Nat} {t : TS} (hn : N.length = n) (h : ∀ ds d, R ds d → ∀ (O : List Addr) (F : Hp) (Dn : Ends), (∀ σ H', Dn.rt .non H' → Dn.nx σ H') → Ret K O F Dn.rt d → Run K O F t Dn (init n ds)) (vs : List V) (H : Hp) (Q : VK) (E : XK) (q : spR K m R vs H Q E) :
    t { nx := fun _ H' => Q .non H', rt := Q } (L2.start N vs) H := by
  obtain ⟨O, ds, d, dom, r, ⟨_, hR⟩, k⟩ := q
  subst hn
  exact h ds d hR O H { nx := fun _ H' => Q .non H', rt := Q } (fun _ _ z => z) k H _ (sok_init dom r)
theorem body_N {m : Nat} {R : List D → List D → Prop} {N : List Str} {n : Nat} {t : TS} (hn : N.length = n) (h : ∀ ds es, R ds es → ∀ (O : List Addr) (F : Hp) (Dn : Ends), RetN K O F Dn.rt es → Run K O F t Dn (init n ds)) (vs : List V) (H : Hp) (Q : VK) (E : XK) (q : spN K m R vs H Q E) :
    t { nx := fun _ H' => Q .non H', rt := Q } (L2.start N vs) H := by
  obtain ⟨O, ds, es, dom, r, ⟨_, hR⟩, k⟩ := q
  subst hn
  exact h ds es hR O H { nx := fun _ H' => Q .non H', rt := Q } k H _ (sok_init dom r)
end
end GW

namespace GW
open PySem PySem.Spec PyProof.Rows L2
variable {K : PySem.W.Frag}

def rCatL (K : PySem.W.Frag) : R2 := fun x y H Q => ∃ l b xs zs, x = .ref l ∧ y = .ref b ∧ SqL K H l xs ∧ SqL K H b zs ∧ xs.length + zs.length ≤ sizeLine ∧ ∀ p, H p = none → Q (.ref p) (upd H p (.lst (xs ++ zs)))
theorem add_list2 {prog : Program} {w : World} {A : Around} {E : Value → Shared → Prop} {s : Shared} {l b : Addr} {items items2 : Array Value} {Q : Value → Shared → Prop} (hl : s.heap.IsList l items) (hb : s.heap.IsList b items2)
    (h : Q (.ref s.heap.objs.size) { s with heap := s.heap.push { cls := .type "list", data := .seq (items ++ items2) } }) (hsz : items.size + items2.size ≤ sizeLine) : wpAny (model prog w) A (binaryOp .Add (.ref l) (.ref b)) Q E s := by
  obtain ⟨⟨cls, dd, data, sl⟩, ho, hc, n, hd⟩ := id hl
  obtain ⟨⟨cls2, dd2, data2, sl2⟩, ho2, hc2, n2, hd2⟩ := id hb
  simp only at hc hd hc2 hd2
  subst hc hd hc2 hd2
  exact concat_meets ⟨_, ho, rfl⟩ ⟨_, ho2, rfl⟩ noFill_list_add seq_list_add PySem.F.slot_list_add PySem.F.entry_list_add (PySem.F.args_list_add_2 _ _) (list_addW l b items items2 n n2 dd dd2 sl sl2 hsz) ⟨ho, ho2, h⟩
section
variable {X : Cx}
theorem op_catL : OpR X (binaryOp .Add) (rCatL X.K) := by
  intro pins s σ H x y v u Q I rx ry h
  obtain ⟨l, b, xs, zs, rfl, rfl, hH, hB, hz, q⟩ := h
  cases rx
  cases ry
  obtain ⟨its, r, hl, _⟩ := I.list hH
  obtain ⟨its2, r2, hl2, _⟩ := I.list hB
  have e1 := r.length
  have e2 := r2.length
  refine add_list2 hl.isList hl2.isList ?_ (by rw [List.size_toArray, List.size_toArray]; omega)
  have ea : its.toArray ++ its2.toArray = (its ++ its2).toArray := by simp
  rw [ea]
  exact ⟨.ref _, _, I.lnew (t' := s.toks) (r.append r2) (by rw [List.length_append]; omega), rfl, q _ I.fresh⟩
def rAddI : R2 := rI0 fun i j => .int (i + j)
def rAddB : R2 := fun x y H Q => ∃ (k : Bool) (i : Int), x = .bl k ∧ y = .int i ∧ Q (.int ((if k = true then (1 : Int) else 0) + i)) H
theorem op_addB : OpR X (binaryOp .Add) rAddB := by
  intro pins s σ H x y v u Q I rx ry h
  obtain ⟨k, i, rfl, rfl, q⟩ := h
  obtain ⟨t, rfl⟩ := ry
  cases rx
  exact IntBool.add_bool_int ⟨.int ((if k = true then (1 : Int) else 0) + i), H, I.tok _, ⟨_, rfl⟩, q⟩
def rSubB : R2 := fun x y H Q => ∃ (k : Bool) (i : Int), x = .bl k ∧ y = .int i ∧ Q (.int ((if k = true then (1 : Int) else 0) - i)) H
theorem op_subB : OpR X (binaryOp .Sub) rSubB := by
  intro pins s σ H x y v u Q I rx ry h
  obtain ⟨k, i, rfl, rfl, q⟩ := h
  obtain ⟨t, rfl⟩ := ry
  cases rx
  exact IntBool.sub_bool_int ⟨.int ((if k = true then (1 : Int) else 0) - i), H, I.tok _, ⟨_, rfl⟩, q⟩
def rAdd (K : PySem.W.Frag) : R2 := fun x y H Q => rAddI x y H Q ∨ (rCatL K x y H Q ∨ (rCatA K x y H Q ∨ rAddB x y H Q))
theorem op_addK : OpR X (binaryOp .Add) (rAdd X.K) := op_add.or (op_catL.or (op_catA.or op_addB))
def rSub : R2 := fun x y H Q => rI0 (fun i j => .int (i - j)) x y H Q ∨ rSubB x y H Q
theorem op_subK : OpR X (binaryOp .Sub) rSub := op_sub.or op_subB
def CM (i j : Int) : Prop := CMul i j ∨ CMulW i j
def rMulI : R2 := rI CM fun i j => .int (i * j)
theorem op_mulI : OpR X (binaryOp .Mult) rMulI := opI fun _ _ _ _ _ _ _ hc q => mul_int q (hc.elim CMul.ok CMulW.ok)
def rMul (K : PySem.W.Frag) : R2 := fun x y H Q => rMulI x y H Q ∨ (rRep x y H Q ∨ rRepT K x y H Q)
theorem op_mulK : OpR X (binaryOp .Mult) (rMul X.K) := op_mulI.or (op_rep.or op_repT)
def rDiv : R2 := rI CDivW fun i j => .int (i / j)
theorem op_divK : OpR X (binaryOp .FloorDiv) rDiv := op_fdivW
def rMod : R2 := rI (fun _ j => 0 < j) fun i j => .int (i % j)
theorem op_modK : OpR X (binaryOp .Mod) rMod := op_mod
def rPow : R2 := rI CPow fun i j => .int (i ^ j.toNat)
theorem op_powK : OpR X (binaryOp .Pow) rPow := op_pow
def rLt : R2 := rI0 fun i j => .bl (decide (i < j))
def rLe : R2 := rI0 fun i j => .bl (decide (i ≤ j))
def rGt : R2 := rI0 fun i j => .bl (decide (j < i))
def rGe : R2 := rI0 fun i j => .bl (decide (j ≤ i))
theorem op_ltK : OpR X (compareOp .Lt) rLt := op_lt
theorem op_leK : OpR X (compareOp .LtE) rLe := op_le
theorem op_gtK : OpR X (compareOp .Gt) rGt := op_gt
theorem op_geK : OpR X (compareOp .GtE) rGe := op_ge
/-- is: None, or two bools -/
def rIs : R2 := fun x y H Q => (y = .non ∧ Q (.bl (decide (x = .non))) H) ∨ (∃ a b : Bool, x = .bl a ∧ y = .bl b ∧ Q (.bl (decide (a = b))) H)
def rNot : R2 := fun x y H Q => (y = .non ∧ Q (.bl (!decide (x = .non))) H) ∨ (∃ a b : Bool, x = .bl a ∧ y = .bl b ∧ Q (.bl (!decide (a = b))) H)
theorem op_isK : OpR X (compareOp .Is) rIs := op_isN.or op_isBl
theorem op_notK : OpR X (compareOp .IsNot) rNot := op_notN.or op_notBl
def rSl (K : PySem.W.Frag) : V → Option Int → Option Int → Hp → VK → Prop := fun x lo hi H Q => rSlL K x lo hi H Q ∨ rSlA K x lo hi H Q
theorem sl_K : SlR X (rSl X.K) := sl_list.or sl_tupA
def rLen (K : PySem.W.Frag) : List V → Hp → VK → Prop := fun xs H Q => ∃ p ys, xs = [.ref p] ∧ (SqL K H p ys ∨ SqT K H p ys) ∧ Q (.int ys.length) H
theorem cl_len : CallR X (.builtin "len") (rLen X.K) := call_len_seq
def rAbs : List V → Hp → VK → Prop := fun xs H Q => ∃ i, xs = [.int i] ∧ Q (.int (if i < 0 then -i else i)) H
theorem cl_abs : CallR X (.builtin "abs") rAbs := call_abs
def rMax2 : List V → Hp → VK → Prop := fun xs H Q => ∃ i j, xs = [.int i, .int j] ∧ Q (.int (if j > i then j else i)) H
def rMin2 : List V → Hp → VK → Prop := fun xs H Q => ∃ i j, xs = [.int i, .int j] ∧ Q (.int (if j < i then j else i)) H
theorem cl_max2 (hc : X.calm = true) : CallR X (.builtin "max") rMax2 := call_max2 hc
theorem cl_min2 (hc : X.calm = true) : CallR X (.builtin "min") rMin2 := call_min2 hc
def rInt : List V → Hp → VK → Prop := fun xs H Q => (∃ i, xs = [.int i] ∧ Q (.int i) H) ∨ ∃ k, xs = [.bl k] ∧ Q (.int (if k then 1 else 0)) H
theorem cl_int : CallR X (.type "int") rInt := call_int1
def rList (K : PySem.W.Frag) : List V → Hp → VK → Prop := fun xs H Q => ∃ p ys, xs = [.ref p] ∧ (SqL K H p ys ∨ SqT K H p ys) ∧ ∀ l, H l = none → Q (.ref l) (upd H l (.lst ys))
theorem cl_list : CallR X (.type "list") (rList X.K) := call_list_of
def rTuple (K : PySem.W.Frag) : List V → Hp → VK → Prop := fun xs H Q => ∃ p ys, xs = [.ref p] ∧ ((SqL K H p ys ∧ ∀ l, H l = none → Q (.ref l) (upd H l (.tup ys))) ∨ (SqT K H p ys ∧ Q (.ref p) H))
theorem cl_tuple : CallR X (.type "tuple") (rTuple X.K) := call_tuple_of
end

section
variable {τ : List Sl} {ta tb te : TE} {a b d : D}
theorem rv_addI {i j : Int} : Rv K (rAdd K) (.int i) (.int j) (.int (i + j)) := fun O H x y _ hx hy Q q => .inl ⟨i, j, dp_int hx, dp_int hy, q _ H (Same.refl H) (.int _)⟩
theorem rv_sub {i j : Int} : Rv K rSub (.int i) (.int j) (.int (i - j)) := fun O H x y _ hx hy Q q => .inl ⟨i, j, dp_int hx, dp_int hy, q _ H (Same.refl H) (.int _)⟩
theorem rv_addB {k : Bool} {i : Int} : Rv K (rAdd K) (.bool k) (.int i) (.int ((if k = true then (1 : Int) else 0) + i)) := fun O H x y _ hx hy Q q => .inr (.inr (.inr ⟨k, i, dp_bl hx, dp_int hy, q _ H (Same.refl H) (.int _)⟩))
theorem rv_subB {k : Bool} {i : Int} : Rv K rSub (.bool k) (.int i) (.int ((if k = true then (1 : Int) else 0) - i)) := fun O H x y _ hx hy Q q => .inr ⟨k, i, dp_bl hx, dp_int hy, q _ H (Same.refl H) (.int _)⟩
theorem rv_mulI {i j : Int} (h : CM i j) : Rv K (rMul K) (.int i) (.int j) (.int (i * j)) := fun O H x y _ hx hy Q q => .inl ⟨i, j, dp_int hx, dp_int hy, h, q _ H (Same.refl H) (.int _)⟩
theorem rv_div {i j : Int} (h : CDivW i j) : Rv K rDiv (.int i) (.int j) (.int (i / j)) := fun O H x y _ hx hy Q q => ⟨i, j, dp_int hx, dp_int hy, h, q _ H (Same.refl H) (.int _)⟩
theorem rv_mod {i j : Int} (h : 0 < j) : Rv K rMod (.int i) (.int j) (.int (i % j)) := fun O H x y _ hx hy Q q => ⟨i, j, dp_int hx, dp_int hy, h, q _ H (Same.refl H) (.int _)⟩
theorem rv_pow {i j : Int} (h : CPow i j) : Rv K rPow (.int i) (.int j) (.int (i ^ j.toNat)) := fun O H x y _ hx hy Q q => ⟨i, j, dp_int hx, dp_int hy, h, q _ H (Same.refl H) (.int _)⟩
theorem rv_lt {i j : Int} : Rv K rLt (.int i) (.int j) (.bool (decide (i < j))) := fun O H x y _ hx hy Q q => ⟨i, j, dp_int hx, dp_int hy, q _ H (Same.refl H) (.bl _)⟩
theorem rv_le {i j : Int} : Rv K rLe (.int i) (.int j) (.bool (decide (i ≤ j))) := fun O H x y _ hx hy Q q => ⟨i, j, dp_int hx, dp_int hy, q _ H (Same.refl H) (.bl _)⟩
theorem rv_gt {i j : Int} : Rv K rGt (.int i) (.int j) (.bool (decide (j < i))) := fun O H x y _ hx hy Q q => ⟨i, j, dp_int hx, dp_int hy, q _ H (Same.refl H) (.bl _)⟩
theorem rv_ge {i j : Int} : Rv K rGe (.int i) (.int j) (.bool (decide (j ≤ i))) := fun O H x y _ hx hy Q q => ⟨i, j, dp_int hx, dp_int hy, q _ H (Same.refl H) (.bl _)⟩
def isNone : D → Bool
  | .none => true
  | _ => false
theorem isNone_dp {H : Hp} {v : V} {d : D} (h : Dp K H v d) : decide (v = .non) = isNone d := by cases h <;> first | rfl | exact decide_eq_false (fun z => nomatch z)
theorem rv_isN : Rv K rIs a .none (.bool (isNone a)) := fun O H x y _ hx hy Q q => .inl ⟨dp_non hy, q _ H (Same.refl H) (by rw [isNone_dp hx]; exact .bl _)⟩
theorem rv_notN : Rv K rNot a .none (.bool (!isNone a)) := fun O H x y _ hx hy Q q => .inl ⟨dp_non hy, q _ H (Same.refl H) (by rw [isNone_dp hx]; exact .bl _)⟩
theorem rv_isB {x y : Bool} : Rv K rIs (.bool x) (.bool y) (.bool (decide (x = y))) := fun O H v w _ hx hy Q q => .inr ⟨x, y, dp_bl hx, dp_bl hy, q _ H (Same.refl H) (.bl _)⟩
theorem rv_notB {x y : Bool} : Rv K rNot (.bool x) (.bool y) (.bool (!decide (x = y))) := fun O H v w _ hx hy Q q => .inr ⟨x, y, dp_bl hx, dp_bl hy, q _ H (Same.refl H) (.bl _)⟩
theorem rv_eq (ha : SeqAt.shaped a = true) (hb : SeqAt.shaped b = true) : Rv K (rEqD K) a b (.bool (PyData.eqv a b)) := fun O H x y _ hx hy Q q => ⟨a, b, dp_same del_same hx, dp_same del_same hy, ha, hb, q _ H (Same.refl H) (.bl _)⟩
theorem rv_ne (ha : SeqAt.shaped a = true) (hb : SeqAt.shaped b = true) : Rv K (rNeD K) a b (.bool (!PyData.eqv a b)) := fun O H x y _ hx hy Q q => ⟨a, b, dp_same del_same hx, dp_same del_same hy, ha, hb, q _ H (Same.refl H) (.bl _)⟩
theorem shaped_int {i : Int} : SeqAt.shaped (.int i) = true := rfl
theorem atI_dps {H : Hp} {xs : List V} {ds : List D} {i : Int} {d : D} (r : DpAll K H xs ds) (h : atI ds i = some d) : ∃ v, atI xs i = some v ∧ Dp K H v d := by
  unfold atI at h ⊢
  rw [dps_len r]
  cases e : ixN ds.length i with
  | none => rw [e] at h; cases h
  | some j =>
    rw [e] at h
    exact dps_get r h
theorem rv_ixT {ds : List D} {i : Int} (h : atI ds i = some d) : Rv K (rIx K) (.tuple ds) (.int i) d := fun O H x y _ hx hy Q q => by
  obtain ⟨p, xs, rfl, hq, r⟩ := dp_tup hx
  obtain ⟨v, hv, rd⟩ := atI_dps r h
  exact .inr (.inl ⟨p, xs, i, v, rfl, dp_int hy, sqt_same del_same hq, hv, q v H (Same.refl H) rd⟩)
theorem rv_ixL {ds : List D} {i : Int} (h : atI ds i = some d) : Rv K (rIx K) (.list ds) (.int i) d := fun O H x y _ hx hy Q q => by
  obtain ⟨p, xs, rfl, hq, r⟩ := dp_lst hx
  obtain ⟨v, hv, rd⟩ := atI_dps r h
  exact .inl ⟨p, xs, i, v, rfl, dp_int hy, sql_same del_same hq, hv, q v H (Same.refl H) rd⟩
theorem rv_catL {ds es : List D} (h : ds.length + es.length ≤ 100000) : RvN K (rAdd K) (.list ds) (.list es) (ds ++ es) := fun O H x y dom hx hy Q q => by
  obtain ⟨p, xs, rfl, hq, r⟩ := dp_lst hx
  obtain ⟨p2, ys, rfl, hq2, r2⟩ := dp_lst hy
  exact .inr (.inl ⟨p, p2, xs, ys, rfl, rfl, sql_same del_same hq, sql_same del_same hq2, by rw [dps_len r, dps_len r2]; exact Nat.le_trans h (by decide), fun l hl => q l _ _ hl (same_upd hl) upd_same (dps_newlst hl (dps_app r r2))⟩)
theorem rv_catT {ds es : List D} (h : ds.length + es.length ≤ 100000) : Rv K (rAdd K) (.tuple ds) (.tuple es) (.tuple (ds ++ es)) := fun O H x y dom hx hy Q q => by
  obtain ⟨p, xs, rfl, hq, r⟩ := dp_tup hx
  obtain ⟨p2, ys, rfl, hq2, r2⟩ := dp_tup hy
  refine .inr (.inr (.inl ⟨p, p2, xs, ys, rfl, rfl, sqt_same del_same hq, sqt_same del_same hq2, by rw [dps_len r, dps_len r2]; exact Nat.le_trans h (by decide), fun e => ?_, fun e e2 => ?_, fun e e2 l hl => ?_⟩))
  · subst e
    cases r
    exact q _ H (Same.refl H) hy
  · subst e2
    cases r2
    rw [List.append_nil] at q
    exact q _ H (Same.refl H) hx
  · exact q _ _ (same_upd hl) (dp_newtup dom hl (dps_app r r2))
def cutD (ds : List D) (lo hi : Option Int) : List D := (ds.drop (HT.sIx ds.length 0 lo)).take (HT.sIx ds.length ds.length hi - HT.sIx ds.length 0 lo)
theorem dps_cut {H : Hp} {xs : List V} {ds : List D} {lo hi : Option Int} (r : DpAll K H xs ds) : DpAll K H (cutV xs lo hi) (cutD ds lo hi) := by
  unfold cutV cutD
  rw [dps_len r]
  exact dps_take _ (dps_drop _ r)
theorem cutD_length (xs : List D) (lo hi : Option Int) : (cutD xs lo hi).length ≤ xs.length := by
  unfold cutD
  rw [List.length_take, List.length_drop]
  omega
theorem ev_slT {tl th : TO} {ds : List D} {lo hi : Option Int} (h : Ev K te τ (.tuple ds)) (hl : EvO K tl τ lo) (hh : EvO K th τ hi) : Ev K (tSl (rSl K) te tl th) τ (.tuple (cutD ds lo hi)) := fun O H σ s Q q =>
  h O H σ s _ fun v H1 e1 r1 => hl O H1 σ (s.grow e1) _ fun H2 e2 => hh O H2 σ ((s.grow e1).grow e2) _ fun H3 e3 => by
    have S := ((s.grow e1).grow e2).grow e3
    have e4 := (e1.trans e2).trans e3
    obtain ⟨p, xs, rfl, hq, r⟩ := dp_tup (dp_same (del_grow (e2.trans e3)) r1)
    refine .inr ⟨p, xs, rfl, sqt_same del_same hq, fun hw => ?_, fun hw l hl' => q _ _ (e4.trans (same_upd hl')) (dp_newtup S.dom hl' (dps_cut r))⟩
    have e : cutD ds lo hi = ds := by
      have := dps_len r
      unfold cutD
      rw [this] at hw
      rw [hw.1, hw.2, Nat.sub_zero]
      exact List.take_length
    rw [e] at q
    exact q _ H3 e4 (.tup hq r)
theorem en_slL {tl th : TO} {ds : List D} {lo hi : Option Int} (h : Ev K te τ (.list ds)) (hl : EvO K tl τ lo) (hh : EvO K th τ hi) : EvN K (tSl (rSl K) te tl th) τ (cutD ds lo hi) := fun O H σ s Q q =>
  h O H σ s _ fun v H1 e1 r1 => hl O H1 σ (s.grow e1) _ fun H2 e2 => hh O H2 σ ((s.grow e1).grow e2) _ fun H3 e3 => by
    have S := ((s.grow e1).grow e2).grow e3
    have e4 := (e1.trans e2).trans e3
    obtain ⟨p, xs, rfl, hq, r⟩ := dp_lst (dp_same (del_grow (e2.trans e3)) r1)
    exact .inl ⟨p, xs, rfl, sql_same del_same hq, fun l hl' => q l _ _ (e4.free hl') (e4.trans (same_upd hl')) upd_same (dps_newlst hl' (dps_cut r))⟩
theorem rc_lenL {ds : List D} : Rc K (rLen K) [.list ds] (.int (ds.length : Int)) := fun O H xs dom r Q q => by
  obtain ⟨v, rfl, r1⟩ := dps1 r
  obtain ⟨p, ys, rfl, hq, ra⟩ := dp_lst r1
  exact ⟨p, ys, rfl, .inl (sql_same del_same hq), by rw [dps_len ra]; exact q _ H (Same.refl H) (.int _)⟩
theorem rc_lenT {ds : List D} : Rc K (rLen K) [.tuple ds] (.int (ds.length : Int)) := fun O H xs dom r Q q => by
  obtain ⟨v, rfl, r1⟩ := dps1 r
  obtain ⟨p, ys, rfl, hq, ra⟩ := dp_tup r1
  exact ⟨p, ys, rfl, .inr (sqt_same del_same hq), by rw [dps_len ra]; exact q _ H (Same.refl H) (.int _)⟩
theorem rc_abs {i : Int} : Rc K rAbs [.int i] (.int (if i < 0 then -i else i)) := fun O H xs dom r Q q => by
  obtain ⟨v, rfl, r1⟩ := dps1 r
  exact ⟨i, by rw [dp_int r1], q _ H (Same.refl H) (.int _)⟩
theorem rc_max2 {i j : Int} : Rc K rMax2 [.int i, .int j] (.int (if j > i then j else i)) := fun O H xs dom r Q q => by
  obtain ⟨v, w, rfl, r1, r2⟩ := dps2 r
  exact ⟨i, j, by rw [dp_int r1, dp_int r2], q _ H (Same.refl H) (.int _)⟩
theorem rc_min2 {i j : Int} : Rc K rMin2 [.int i, .int j] (.int (if j < i then j else i)) := fun O H xs dom r Q q => by
  obtain ⟨v, w, rfl, r1, r2⟩ := dps2 r
  exact ⟨i, j, by rw [dp_int r1, dp_int r2], q _ H (Same.refl H) (.int _)⟩
theorem rc_intB {x : Bool} : Rc K rInt [.bool x] (.int (if x then 1 else 0)) := fun O H xs dom r Q q => by
  obtain ⟨v, rfl, r1⟩ := dps1 r
  exact .inr ⟨x, by rw [dp_bl r1], q _ H (Same.refl H) (.int _)⟩
theorem rc_listL {ds : List D} : RcN K (rList K) [.list ds] ds := fun O H xs dom r Q q => by
  obtain ⟨v, rfl, r1⟩ := dps1 r
  obtain ⟨p, ys, rfl, hq, ra⟩ := dp_lst r1
  exact ⟨p, ys, rfl, .inl (sql_same del_same hq), fun l hl => q l _ _ hl (same_upd hl) upd_same (dps_newlst hl ra)⟩
theorem rc_listT {ds : List D} : RcN K (rList K) [.tuple ds] ds := fun O H xs dom r Q q => by
  obtain ⟨v, rfl, r1⟩ := dps1 r
  obtain ⟨p, ys, rfl, hq, ra⟩ := dp_tup r1
  exact ⟨p, ys, rfl, .inr (sqt_same del_same hq), fun l hl => q l _ _ hl (same_upd hl) upd_same (dps_newlst hl ra)⟩
theorem rc_tupleL {ds : List D} : Rc K (rTuple K) [.list ds] (.tuple ds) := fun O H xs dom r Q q => by
  obtain ⟨v, rfl, r1⟩ := dps1 r
  obtain ⟨p, ys, rfl, hq, ra⟩ := dp_lst r1
  exact ⟨p, ys, rfl, .inl ⟨sql_same del_same hq, fun l hl => q _ _ (same_upd hl) (dp_newtup dom hl ra)⟩⟩
theorem rc_tupleT {ds : List D} : Rc K (rTuple K) [.tuple ds] (.tuple ds) := fun O H xs dom r Q q => by
  obtain ⟨v, rfl, r1⟩ := dps1 r
  obtain ⟨p, ys, rfl, hq, ra⟩ := dp_tup r1
  exact ⟨p, ys, rfl, .inr ⟨sqt_same del_same hq, q _ H (Same.refl H) r1⟩⟩
def rNeg : V → Hp → VK → Prop := rU fun i => .int (-i)
theorem ev_neg {i : Int} (h : Ev K te τ (.int i)) : Ev K (tUn rNeg te) τ (.int (-i)) := ev_un h fun H x O hx Q q => ⟨i, dp_int hx, q _ (.int _)⟩
def cls : D → String
  | .none => "NoneType"
  | .bool _ => "bool"
  | .int _ => "int"
  | .str _ => "str"
  | .list _ => "list"
  | .tuple _ => "tuple"
  | .dict _ => "dict"
def tyOf (n : String) : Value := .type n
theorem tyx_of {H : Hp} {v : V} {d : D} (h : Dp K H v d) (hn : cls d ≠ "NoneType") : TyX K H v (.type (cls d)) := by
  cases h with
  | non => exact absurd rfl hn
  | bl b => exact .base (.bl b)
  | int i => exact .base (.int i)
  | str x => exact .base (.str x)
  | lst hq _ =>
    rcases hq with (h | ⟨o, h⟩) | ⟨o, its, n, h, c, _⟩
    · exact .base (.lst h)
    · exact .base (.frz h)
    · exact .kList h c
  | tup hq _ =>
    rcases hq with (h | ⟨o, h⟩) | ⟨o, its, n, h, c, _⟩
    · exact .base (.tup h)
    · exact .fTuple h
    · exact .kTuple h c
theorem ev_isi {n : String} {b : Bool} (h : Ev K te τ d) (hn : cls d ≠ "NoneType") (hk : kitB (cls d) n = some b) : Ev K (tCB (rIsi K) (tCons te (tCons (tC (.ty n)) tNil))) τ (.bool b) := fun O H σ s Q q =>
  h O H σ s _ fun v H1 e1 r1 => ⟨v, .ty n, .type (cls d), .type n, b, rfl, .ty n, tyx_of (dp_same del_same r1) hn, kit_ty hk, q _ H1 e1 (.bl b)⟩
end
end GW
namespace GW
open PySem PySem.Spec PyProof.Rows L2
variable {K : PySem.W.Frag}
theorem eqv_int {i j : Int} : PyData.eqv (.int i) (.int j) = decide (i = j) := by
  unfold PyData.eqv
  rw [Bool.beq_eq_decide_eq]
theorem rv_eqI {i j : Int} : Rv K (rEqD K) (.int i) (.int j) (.bool (decide (i = j))) := by
  have h := rv_eq (K := K) (a := .int i) (b := .int j) rfl rfl
  rw [eqv_int] at h
  exact h
theorem rv_neI {i j : Int} : Rv K (rNeD K) (.int i) (.int j) (.bool (!decide (i = j))) := by
  have h := rv_ne (K := K) (a := .int i) (b := .int j) rfl rfl
  rw [eqv_int] at h
  exact h
end GW
namespace GW
open PySem PySem.Spec PyProof.Rows L2
variable {K : PySem.W.Frag} {τ : List Sl} {ta tb te : TE} {a b d : D}
theorem RvN.rv {r : R2} {ds : List D} (h : RvN K r a b ds) : Rv K r a b (.list ds) := fun O H x y dom hx hy Q q =>
  h O H x y dom hx hy Q fun p vs H' hp e h1 rr => q _ H' e (dp_of_new dom hp h1 rr)
theorem rv_catL' {ds es : List D} (h : ds.length + es.length ≤ 100000) : Rv K (rAdd K) (.list ds) (.list es) (.list (ds ++ es)) := (rv_catL h).rv
theorem RcN.rc {r : List V → Hp → VK → Prop} {as ds : List D} (h : RcN K r as ds) : Rc K r as (.list ds) := fun O H xs dom hx Q q =>
  h O H xs dom hx Q fun p vs H' hp e h1 rr => q _ H' e (dp_of_new dom hp h1 rr)
theorem rc_listL' {ds : List D} : Rc K (rList K) [.list ds] (.list ds) := rc_listL.rc
theorem rc_listT' {ds : List D} : Rc K (rList K) [.tuple ds] (.list ds) := rc_listT.rc
theorem ev_lst {tr : TA} {ds : List D} (h : EvA K tr τ ds) (hl : ds.length ≤ 100000) : Ev K (tLst tr) τ (.list ds) := (en_lst h hl).ev
theorem ev_callN {n : Nat} {R : List D → List D → Prop} {E : XK} {ta : TA} {as ds : List D} (h : EvA K ta τ as) (hR : R as ds) (hn : as.length = n := by rfl) : Ev K (tCall (spN K n R) [] E ta) τ (.list ds) := (en_call h hR hn).ev
/-- d[lo:hi] is e -/
inductive SlD : D → Option Int → Option Int → D → Prop
  | lst {ds : List D} {lo hi : Option Int} : SlD (.list ds) lo hi (.list (cutD ds lo hi))
  | tup {ds : List D} {lo hi : Option Int} : SlD (.tuple ds) lo hi (.tuple (cutD ds lo hi))
theorem ev_sl {tl th : TO} {lo hi : Option Int} {e : D} (h : Ev K te τ d) (hl : EvO K tl τ lo) (hh : EvO K th τ hi) (hs : SlD d lo hi e) : Ev K (tSl (rSl K) te tl th) τ e := by
  cases hs with
  | lst => exact (en_slL h hl hh).ev
  | tup => exact ev_slT h hl hh
end GW

namespace GW
open PySem PySem.Spec PyProof.Rows L2
variable {K : PySem.W.Frag}
structure Fn (P : Program) (w : World) (K : PySem.W.Frag) (mg : Str → Option Value) (base : Heap) (x : Str) (ps : List Str) (k : Nat) (sp : Sp) : Prop where
  ex : ∃ f fd, FnOk P w K mg base CX0 k f fd ps sp ∧ mg x = some (.ref f) ∧ PySem.W.keepIn K (.ref f) = true ∧ Binds K fd ps []
section
variable {X : Cx} {x : Str} {ps : List Str} {k : Nat} {sp : Sp} {e : Expr} {es : List Expr} {p pos : Pos} {t : TA}
theorem pe_fn (G : Fn X.prog X.w X.K X.mg X.base x ps k sp) (hr : Room k X.A) (ha : PA X (e :: es) t) (hg : Gl X x := by rfl)
    (hdb : (x == ("__debug__" : Str)) = false := by decide) (he : starEach (e :: es) X.env = (false, eval e X.env) :: starEach es X.env := by rfl) (hpl : (backTo pos (starEach es X.env)).any (·.1) = false := by rfl) :
    PE X (.Call (.Name x p) (e :: es) [] pos) (tCall sp [] E0 t) := by
  obtain ⟨f, fd, F, hm, hk, hb⟩ := G.ex
  exact pe_call F hr hg hm hk hb .nil pass0 ha hdb he hpl
/-- what a for, a comprehension walks: a list or a tuple -/
def iSeq (K : PySem.W.Frag) (tl : TE) : TI := fun σ H R => tl σ H fun x H1 => ∃ a, x = .ref a ∧ (((∃ xs, SqL K H1 a xs) ∧ R (Itl K a) H1) ∨ ((∃ xs, SqT K H1 a xs) ∧ R (Itt K a) H1))
theorem pi_seq {tg l : Expr} {tl : TE} (hl : PE X l tl) : PI X tg l (iSeq X.K tl) := by
  refine ⟨fun pins s σ H R I h => ?_⟩
  refine thn (hl.run pins s σ H _ I h) fun v s1 ⟨x, H1, I1, r1, q1⟩ => ?_
  obtain ⟨a, e, q⟩ := q1
  subst e
  cases r1
  rcases q with ⟨⟨xs, hq⟩, q⟩ | ⟨⟨xs, hq⟩, q⟩
  · obtain ⟨its, rv, p, hz⟩ := I1.list hq
    refine wpAny_pyIter_list p.isList ?_
    refine ⟨s1.heap.objs.size, [s1.heap.objs.size], _, _, H1, rfl, I1.kept (t' := s1.toks) fun b o e => Heap.get?_push_of_some _ e, turn_list a _, ⟨_, Heap.get?_push_size _ rfl, rfl, rfl⟩, fun b hb => ?_, q⟩
    have e : b = s1.heap.objs.size := by simpa using hb
    subst e
    exact I1.fpOk (Nat.le_refl _) (I1.hok.fresh (Nat.le_refl _))
  · obtain ⟨its, rv, p, hz⟩ := I1.tuple hq
    refine wpAny_pyIter_tuple (show s1.heap.IsTuple a its.toArray from p) ?_
    refine ⟨s1.heap.objs.size, [s1.heap.objs.size], _, _, H1, rfl, I1.kept (t' := s1.toks) fun b o e => Heap.get?_push_of_some _ e, turn_tuple a _, ⟨_, Heap.get?_push_size _ rfl, rfl, rfl⟩, fun b hb => ?_, q⟩
    have e : b = s1.heap.objs.size := by simpa using hb
    subst e
    exact I1.fpOk (Nat.le_refl _) (I1.hok.fresh (Nat.le_refl _))
end
/-- a list or a tuple of such data -/
def IsSeq (d : D) (ds : List D) : Prop := d = .list ds ∨ d = .tuple ds
section
variable {O0 : List Addr} {F : Hp} {τ : List Sl} {Dn : Ends} {te : TE} {t u tz tu tw : TS} {tt : TT} {d : D} {ds : List D}
/-- for x in e: the store between the turns is f of the turn -/
theorem run_for {tl : TE} {j : Nat} (js : List Nat) (Inv : Nat → List Sl → Prop) (h : Ev K tl τ d) (hd' : IsSeq d ds) (h0 : Inv 0 (forget js τ))
    (hs : ∀ G, Same F G → ∀ i d τ', ds[i]? = some d → Inv i τ' → Run K O0 G tu { Dn with nx := NX K O0 G (Inv (i + 1)), ct := NX K O0 G (Inv (i + 1)), bk := tz Dn } (τ'.set j (.im d)))
    (hd : ∀ τ', Inv ds.length τ' → Run K O0 F tz Dn τ') : Run K O0 F (tSeq (tFor (iSeq K tl) (gName j) tu) tz) Dn τ := fun H σ S => by
  refine h _ H σ S.e _ fun v H1 e1 r => ?_
  have S1 := S.grow e1
  rcases hd' with rfl | rfl
  · obtain ⟨a, xs, rfl, hq, ha⟩ := dp_lst r
    obtain ⟨p0, p1, p2⟩ := run_seq (v := .ref a) (wi := iList K tl) (g := gName j) (J := Itl K a) (a := a) (tu := tu) (j := j) (Dn := { Dn with nx := tz Dn }) S1 h0 ha hs fun τ' hi => hd τ' hi
    refine ⟨a, rfl, .inl ⟨⟨xs, sql_same del_same hq⟩, for_list (xs := xs) (fun i => NX K O0 (del (owns τ) H1) (Inv i)) p0 (fun i σ' H' _ hn => ?_) p1 p2⟩⟩
    obtain ⟨τ', _, S'⟩ := hn
    rw [del_app] at hq
    exact sql_same ((del_same (O := O0)).trans S'.same) hq
  · obtain ⟨a, xs, rfl, hq, ha⟩ := dp_tup r
    obtain ⟨p0, p1, p2⟩ := run_seq (v := .ref a) (wi := iTup K tl) (g := gName j) (J := Itt K a) (a := a) (tu := tu) (j := j) (Dn := { Dn with nx := tz Dn }) S1 h0 ha hs fun τ' hi => hd τ' hi
    refine ⟨a, rfl, .inr ⟨⟨xs, sqt_same del_same hq⟩, for_tup (xs := xs) (fun i => NX K O0 (del (owns τ) H1) (Inv i)) p0 (fun i σ' H' _ hn => ?_) p1 p2⟩⟩
    obtain ⟨τ', _, S'⟩ := hn
    rw [del_app] at hq
    exact sqt_same ((del_same (O := O0)).trans S'.same) hq
/-- return of a comparison etc. needs no more; the end of a def without return -/
theorem run_noret (h : ∀ σ H', Dn.rt .non H' → Dn.nx σ H') (k : Ret K O0 F Dn.rt .none) : Run K O0 F tNext Dn τ := fun H σ S => h σ H (k .non H S.same .non)
end
end GW

namespace GW
open PySem PySem.Spec PyProof.Rows L2
variable {K : PySem.W.Frag}
def maxL (ns : List Int) : Int := match ns with
  | [] => 0
  | n :: r => r.foldl (fun a y => if a < y then y else a) n
theorem foldl_max : ∀ (r : List Int) (n : Int), r.foldl (fun a y => if a < y then y else a) n ∈ n :: r ∧ ∀ y ∈ n :: r, y ≤ r.foldl (fun a y => if a < y then y else a) n
  | [], n => ⟨List.mem_cons_self, fun y hy => by simp at hy; subst hy; exact Int.le_refl _⟩
  | z :: r, n => by
    rw [List.foldl_cons]
    obtain ⟨h1, h2⟩ := foldl_max r (if n < z then z else n)
    refine ⟨?_, fun y hy => ?_⟩
    · rcases List.mem_cons.mp h1 with e | e
      · rw [e]; split <;> simp
      · simp [e]
    · have h3 := h2 _ List.mem_cons_self
      have hm1 : n ≤ (if n < z then z else n) := by split <;> omega
      have hm2 : z ≤ (if n < z then z else n) := by split <;> omega
      rcases List.mem_cons.mp hy with e | e
      · subst e; exact Int.le_trans hm1 h3
      · rcases List.mem_cons.mp e with e | e
        · subst e; exact Int.le_trans hm2 h3
        · exact h2 y (List.mem_cons_of_mem _ e)
theorem maxL_mem {ns : List Int} (h : ns ≠ []) : maxL ns ∈ ns := by
  cases ns with
  | nil => exact absurd rfl h
  | cons n r => exact (foldl_max r n).1
theorem maxL_ge {ns : List Int} {y : Int} (h : y ∈ ns) : y ≤ maxL ns := by
  cases ns with
  | nil => cases h
  | cons n r => exact (foldl_max r n).2 y h
theorem maxL_of {ns : List Int} {m : Int} (h : m ∈ ns) (g : ∀ y ∈ ns, y ≤ m) : m = maxL ns :=
  Int.le_antisymm (maxL_ge h) (g _ (maxL_mem (fun e => by rw [e] at h; cases h)))
section
variable {X : Cx}
def rMax1 (K : PySem.W.Frag) : List V → Hp → VK → Prop := fun vs H Q => ∃ (a : Addr) (ns : List Int), vs = [V.ref a] ∧ SqL K H a (ns.map V.int) ∧ 0 < ns.length ∧ ∀ m, m ∈ ns → (∀ y, y ∈ ns → y ≤ m) → Q (.int m) H
theorem cl_max1 (hc : X.calm = true) : CallR X (.builtin "max") (rMax1 X.K) := cr_max hc
theorem reads_ints {pins : List (Addr × Obj)} {σ : L2.St} {H : Hp} {s : Shared} (I : Inv X pins σ H s) {ns : List Int} {its : List Value} (r : Vals (ns.map V.int) its) : PySem.W.HoldAll s.heap its ns := Dp.readsAll I _ _ _ (ints_dps ns) r
theorem bls_dps {K : PySem.W.Frag} {H : Hp} : ∀ (bs : List Bool), DpAll K H (bs.map V.bl) (bs.map PyData.bool)
  | [] => .nil
  | b :: bs => .cons (.bl b) (bls_dps bs)
theorem dps_bls {H : Hp} : ∀ {vs : List V} {bs : List Bool}, DpAll K H vs (bs.map PyData.bool) → vs = bs.map V.bl
  | _, [], h => by cases h; rfl
  | _, b :: bs, h => by
    cases h with
    | cons r t =>
      rw [dp_bl r, dps_bls t]
      rfl
theorem reads_bls {pins : List (Addr × Obj)} {σ : L2.St} {H : Hp} {s : Shared} (I : Inv X pins σ H s) {bs : List Bool} {its : List Value} (r : Vals (bs.map V.bl) its) : PySem.W.HoldAll s.heap its bs := Dp.readsAll I _ _ _ (bls_dps bs) r
/-- max(xs, default=d) -/
def rMaxD (K : PySem.W.Frag) : List V → List V → Hp → VK → Prop := fun vs zs H Q => ∃ (a : Addr) (ns : List Int) (y : V), vs = [V.ref a] ∧ zs = [y] ∧ SqL K H a (ns.map V.int) ∧ (ns = [] → Q y H) ∧ ∀ m, m ∈ ns → (∀ y, y ∈ ns → y ≤ m) → Q (.int m) H
theorem maxOf_eq (n : Int) (r : List Int) : PySem.W.maxOf n r = maxL (n :: r) := by
  show r.foldl (fun a y => if decide (a < y) = true then y else a) n = r.foldl (fun a y => if a < y then y else a) n
  congr 1
  funext a y
  by_cases h : a < y <;> simp [h]
theorem cl_maxD (hc : X.calm = true) (hu : X.A.units + 64 < cLine) : CallRK X (.builtin "max") ["default"] (rMaxD X.K) := by
  intro pins s σ H xs zs us ws Q I rx rz h
  obtain ⟨a, ns, y, rfl, rfl, hs, h0, h1⟩ := h
  obtain ⟨its, rv, hl, hz⟩ := I.list hs
  obtain ⟨u, rfl, ru⟩ := vals1 rz
  rw [Vals.ref1 rx]
  refine PySem.W.max_list_datum_default (α := Int) (xs := ns) (I.ok.hd hc) hl.isList (reads_ints I rv) (by show X.A.units + 1 + 0 < cLine; omega) (fun e h' tk hk => ⟨y, H, I.kept hk, ru, h0 e⟩) (fun n r i v h' tk e hi hv hk => ?_)
  subst e
  obtain ⟨as, hr⟩ := hv
  rw [maxOf_eq] at hr
  have e : ∃ t, v = Value.int (maxL (n :: r)) t := by
    cases hr with
    | int i t => exact ⟨t, rfl⟩
  obtain ⟨t, rfl⟩ := e
  exact ⟨.int _, H, I.kept hk, ⟨t, rfl⟩, h1 _ (maxL_mem (fun e => nomatch e)) fun y hy => maxL_ge hy⟩
theorem sum_intTupG {prog : Program} {w : World} {A : Around} {E : Value → Shared → Prop} {s : Shared} {l : Addr} {xs : Array (Int × Tok)} {Q : Value → Shared → Prop} (hh : A.handled = none) (hl : s.heap.IsTuple l (intItems xs))
    (h : ∀ h' tk t', (∀ b o, s.heap.get? b = some o → h'.get? b = some o) → Q (.int (preSum (numAt xs) xs.size) t') { s with heap := h', toks := tk }) :
    wpAny (model prog w) A (call (.builtin "sum") [.ref l]) Q E s := by
  have hlt : l < s.heap.objs.size := by obtain ⟨_, e, _⟩ := hl; exact Heap.lt_size e
  refine call_sum_walkG (wpAny_pyIter_tuple hl ?_)
  refine ⟨_, [_, l], [_], _, _, _, numAt xs, rfl, Walks.tuple (A := A.in1) hh _ l (Nat.ne_of_lt hlt) (intItems xs), ⟨⟨_, Heap.get?_push_size _ rfl, rfl, rfl⟩, hl.push _⟩, fun c hc => ?_, (fun _ _ => intItems_at), fun h' tk t' hk => ?_⟩
  · show c < (s.heap.push _).objs.size
    rw [Heap.size_push]
    rcases List.mem_cons.mp hc with rfl | hc
    · exact Nat.lt_succ_self _
    · rcases List.mem_cons.mp hc with rfl | hc
      · exact Nat.lt_succ_of_lt hlt
      · cases hc
  · have := h h' tk t' fun b o e => hk b o (fun hm => by
      rcases List.mem_cons.mp hm with e1 | hm
      · exact absurd (e1 ▸ Heap.lt_size e) (Nat.lt_irrefl _)
      · cases hm) (Heap.get?_push_of_some _ e)
    simpa [intItems] using this
def rSum1 (K : PySem.W.Frag) : List V → Hp → VK → Prop := fun vs H Q => ∃ (a : Addr) (ns : List Int), vs = [V.ref a] ∧ (SqL K H a (ns.map V.int) ∨ SqT K H a (ns.map V.int)) ∧ Q (.int ns.sum) H
theorem cl_sum (hc : X.calm = true) : CallR X (.builtin "sum") (rSum1 X.K) := by
  intro pins s σ H vs us Q I r h
  obtain ⟨a, ns, rfl, hs | hs, q⟩ := h
  · exact cr_sum hc pins s σ H _ us Q I r ⟨a, ns, rfl, hs, q⟩
  · obtain ⟨its, rv, hl, _⟩ := I.tuple hs
    rw [Vals.ref1 r]
    have hi := rv.ints
    obtain ⟨xs, e⟩ := hi.allInts.items
    have hn : numsOf (intItems xs).toList = ns := by rw [← e]; exact hi.numsOf
    rw [nums_intItems] at hn
    have hl' : s.heap.IsTuple a (intItems xs) := by
      have z : s.heap.IsTuple a its.toArray := hl
      rw [e] at z
      exact z
    refine sum_intTupG (I.ok.hd hc) hl' fun h' tk t' hk => ⟨.int _, H, I.kept hk, ⟨t', rfl⟩, ?_⟩
    rw [preSum_eq, List.take_of_length_le (by simp), hn]
    exact q
def rIndexK (K : PySem.W.Frag) : V → List V → Hp → VK → Prop := fun x vs H Q =>
  (∃ (a : Addr) (ns : List Int) (n : Int), x = .ref a ∧ vs = [.int n] ∧ SqL K H a (ns.map V.int) ∧ n ∈ ns ∧ Q (.int (ns.idxOf n : Nat)) H) ∨
  (∃ (a : Addr) (bs : List Bool) (b : Bool), x = .ref a ∧ vs = [.bl b] ∧ SqL K H a (bs.map V.bl) ∧ b ∈ bs ∧ Q (.int (bs.idxOf b : Nat)) H)
theorem mt_indexK (hu : X.A.units + 64 < cLine) : MtR X "list.index" (rIndexK X.K) := by
  intro pins s σ H x xs v us Q I rx rxs h
  rcases h with ⟨a, ns, n, rfl, rfl, hs, hm, q⟩ | ⟨a, ns, n, rfl, rfl, hs, hm, q⟩
  · cases rx
    obtain ⟨u, rfl, t, rfl⟩ := vals1 rxs
    obtain ⟨its, rv, hl, hz⟩ := I.list hs
    rw [List.length_map] at hz
    exact PySem.W.index_list_datum (α := Int) hl.isList (reads_ints I rv) ⟨[], .int n t⟩ (by show X.A.units + 1 + 0 < cLine; omega) hz hm ⟨.int _, H, I.tok _, ⟨_, rfl⟩, q⟩
  · cases rx
    obtain ⟨u, rfl, ru⟩ := vals1 rxs
    cases ru
    obtain ⟨its, rv, hl, hz⟩ := I.list hs
    rw [List.length_map] at hz
    exact PySem.W.index_list_datum (α := Bool) hl.isList (reads_bls I rv) ⟨[], .bool n⟩ (by show X.A.units + 1 + 0 < cLine; omega) hz hm ⟨.int _, H, I.tok _, ⟨_, rfl⟩, q⟩
def rCountK (K : PySem.W.Frag) : V → List V → Hp → VK → Prop := fun x vs H Q =>
  ∃ (a : Addr) (bs : List Bool) (b : Bool), x = .ref a ∧ vs = [.bl b] ∧ SqL K H a (bs.map V.bl) ∧ Q (.int ((bs.countP fun y => decide (y = b) : Nat) : Int)) H
theorem mt_countK (hu : X.A.units + 64 < cLine) : MtR X "list.count" (rCountK X.K) := by
  intro pins s σ H x xs v us Q I rx rxs h
  obtain ⟨a, ns, n, rfl, rfl, hs, q⟩ := h
  cases rx
  obtain ⟨u, rfl, ru⟩ := vals1 rxs
  cases ru
  obtain ⟨its, rv, hl, hz⟩ := I.list hs
  exact PySem.W.count_list_datum (α := Bool) hl.isList (by simpa using reads_bls I rv) ⟨[], .bool n⟩ (by show X.A.units + 1 + 0 < cLine; omega) ⟨.int _, H, I.tok _, ⟨_, rfl⟩, q⟩
end
section
variable {τ : List Sl} {ta tb te tl to : TE} {tt : TT} {a b d : D} {ds : List D}
theorem rc_max1 {ns : List Int} (h : ns ≠ []) : Rc K (rMax1 K) [.list (ns.map PyData.int)] (.int (maxL ns)) := fun O H xs dom r Q q => by
  obtain ⟨v, rfl, r1⟩ := dps1 r
  obtain ⟨p, ys, rfl, hq, ra⟩ := dp_lst r1
  rw [dps_ints ra] at hq
  exact ⟨p, ns, rfl, sql_same del_same hq, List.length_pos_iff.mpr h, fun m hm hg => by rw [maxL_of hm hg]; exact q _ H (Same.refl H) (.int _)⟩
def optD (o : Option Int) : D := match o with
  | none => .none
  | some i => .int i
theorem ev_maxD {ns : List Int} {e : D} (ha : Ev K ta τ (.list (ns.map PyData.int))) (hb : Ev K tb τ e) : Ev K (tCKw (rMaxD K) (tCons ta tNil) (tCons tb tNil)) τ (if ns = [] then e else .int (maxL ns)) := fun O H σ s Q q =>
  ha O H σ s _ fun v H1 e1 r1 => hb O H1 σ (s.grow e1) _ fun w H2 e2 r2 => by
    obtain ⟨p, ys, rfl, hq, ra⟩ := dp_lst r1
    rw [dps_ints ra] at hq
    refine ⟨p, ns, w, rfl, rfl, sql_same (del_same.trans e2) hq, fun h0 => ?_, fun m hm hg => ?_⟩
    · rw [if_pos h0] at q
      exact q w H2 (e1.trans e2) r2
    · rw [if_neg (fun e => by rw [e] at hm; cases hm)] at q
      rw [maxL_of hm hg]
      exact q _ H2 (e1.trans e2) (.int _)
theorem rc_sumL {ns : List Int} : Rc K (rSum1 K) [.list (ns.map PyData.int)] (.int ns.sum) := fun O H xs dom r Q q => by
  obtain ⟨v, rfl, r1⟩ := dps1 r
  obtain ⟨p, ys, rfl, hq, ra⟩ := dp_lst r1
  rw [dps_ints ra] at hq
  exact ⟨p, ns, rfl, .inl (sql_same del_same hq), q _ H (Same.refl H) (.int _)⟩
theorem rc_sumT {ns : List Int} : Rc K (rSum1 K) [.tuple (ns.map PyData.int)] (.int ns.sum) := fun O H xs dom r Q q => by
  obtain ⟨v, rfl, r1⟩ := dps1 r
  obtain ⟨p, ys, rfl, hq, ra⟩ := dp_tup r1
  rw [dps_ints ra] at hq
  exact ⟨p, ns, rfl, .inr (sqt_same del_same hq), q _ H (Same.refl H) (.int _)⟩
theorem tyv_lst {H : Hp} {p : Addr} {xs : List V} (h : SqL K H p xs) : tyV K "list" (.ref p) H := by
  refine .inl ⟨rfl, xs, ?_⟩
  exact h
theorem ev_index {ns : List Int} {n : Int} (ha : Ev K to τ (.list (ns.map PyData.int))) (hb : Ev K te τ (.int n)) (hm : n ∈ ns) : Ev K (tBM K "list" (rIndexK K) to (tCons te tNil)) τ (.int ((ns.idxOf n : Nat) : Int)) := fun O H σ s Q q =>
  ha O H σ s _ fun v H1 e1 r1 => by
    obtain ⟨p, ys, rfl, hq, ra⟩ := dp_lst r1
    rw [dps_ints ra] at hq
    refine ⟨tyv_lst (sql_same del_same hq), hb O H1 σ (s.grow e1) _ fun w H2 e2 r2 => .inl ⟨p, ns, n, rfl, by rw [dp_int r2], sql_same (del_same.trans e2) hq, hm, q _ H2 (e1.trans e2) (.int _)⟩⟩
theorem ev_indexB {ns : List Bool} {n : Bool} (ha : Ev K to τ (.list (ns.map PyData.bool))) (hb : Ev K te τ (.bool n)) (hm : n ∈ ns) : Ev K (tBM K "list" (rIndexK K) to (tCons te tNil)) τ (.int ((ns.idxOf n : Nat) : Int)) := fun O H σ s Q q =>
  ha O H σ s _ fun v H1 e1 r1 => by
    obtain ⟨p, ys, rfl, hq, ra⟩ := dp_lst r1
    rw [dps_bls ra] at hq
    refine ⟨tyv_lst (sql_same del_same hq), hb O H1 σ (s.grow e1) _ fun w H2 e2 r2 => .inr ⟨p, ns, n, rfl, by rw [dp_bl r2], sql_same (del_same.trans e2) hq, hm, q _ H2 (e1.trans e2) (.int _)⟩⟩
theorem ev_countB {ns : List Bool} {n : Bool} (ha : Ev K to τ (.list (ns.map PyData.bool))) (hb : Ev K te τ (.bool n)) : Ev K (tBM K "list" (rCountK K) to (tCons te tNil)) τ (.int ((ns.countP fun y => decide (y = n) : Nat) : Int)) := fun O H σ s Q q =>
  ha O H σ s _ fun v H1 e1 r1 => by
    obtain ⟨p, ys, rfl, hq, ra⟩ := dp_lst r1
    rw [dps_bls ra] at hq
    refine ⟨tyv_lst (sql_same del_same hq), hb O H1 σ (s.grow e1) _ fun w H2 e2 r2 => ⟨p, ns, n, rfl, by rw [dp_bl r2], sql_same (del_same.trans e2) hq, q _ H2 (e1.trans e2) (.int _)⟩⟩
theorem inV_int {m : Int} {ns : List Int} : inV (.int m) (ns.map V.int) = decide (m ∈ ns) := by
  unfold inV
  induction ns with
  | nil => rfl
  | cons n r ih =>
    rw [List.map_cons, List.any_cons, ih]
    have e : eqV (.int n) (.int m) = decide (n = m) := by
      show (n == m) = decide (n = m)
      exact Bool.beq_eq_decide_eq n m
    rw [e]
    by_cases h : n = m
    · subst h; simp
    · simp [h, Ne.symm h]
theorem flat_ints {ns : List Int} : (ns.map V.int).all flatV = true := by
  rw [List.all_eq_true]
  intro x hx
  obtain ⟨n, _, rfl⟩ := List.mem_map.mp hx
  rfl
theorem rv_inL {neg : Bool} {m : Int} {ns : List Int} : Rv K (rIn K neg) (.int m) (.list (ns.map PyData.int)) (.bool (if neg then !decide (m ∈ ns) else decide (m ∈ ns))) := fun O H x y dom hx hy Q q => by
  obtain ⟨p, ys, rfl, hq, ra⟩ := dp_lst hy
  rw [dps_ints ra] at hq
  rw [dp_int hx]
  exact ⟨p, ns.map V.int, rfl, .inl (sql_same del_same hq), rfl, flat_ints, by rw [inV_int]; exact q _ H (Same.refl H) (.bl _)⟩
theorem rv_inT {neg : Bool} {m : Int} {ns : List Int} : Rv K (rIn K neg) (.int m) (.tuple (ns.map PyData.int)) (.bool (if neg then !decide (m ∈ ns) else decide (m ∈ ns))) := fun O H x y dom hx hy Q q => by
  obtain ⟨p, ys, rfl, hq, ra⟩ := dp_tup hy
  rw [dps_ints ra] at hq
  rw [dp_int hx]
  exact ⟨p, ns.map V.int, rfl, .inr (sqt_same del_same hq), rfl, flat_ints, by rw [inV_int]; exact q _ H (Same.refl H) (.bl _)⟩
theorem rv_in1L {m : Int} {ns : List Int} : Rv K (rIn K false) (.int m) (.list (ns.map PyData.int)) (.bool (decide (m ∈ ns))) := rv_inL
theorem rv_in1T {m : Int} {ns : List Int} : Rv K (rIn K false) (.int m) (.tuple (ns.map PyData.int)) (.bool (decide (m ∈ ns))) := rv_inT
theorem rv_in0L {m : Int} {ns : List Int} : Rv K (rIn K true) (.int m) (.list (ns.map PyData.int)) (.bool (!decide (m ∈ ns))) := rv_inL
theorem rv_in0T {m : Int} {ns : List Int} : Rv K (rIn K true) (.int m) (.tuple (ns.map PyData.int)) (.bool (!decide (m ∈ ns))) := rv_inT

theorem lc_turn {g : D → Option D} {O : List Addr} {H1 H' : Hp} {σ : L2.St} {Dl : Addr} {vs : List V} {es : List D} {j : Nat} {x : V} {e : D} {R : Hp → Prop} (S : SokE K O H1 σ τ) (hD : H1 Dl = none) (e1 : Same H1 H') (hv : H' Dl = some (.lst vs)) (rv : DpAll K (del (Dl :: O) H') vs es) (hz : es.length < 100000)
    (rx : Dp K (del O H1) x e) (ht : EvT K tt (τ.set j (.im e)) (g e).isSome) (he : ∀ r, g e = some r → Ev K te (τ.set j (.im e)) r)
    (k : ∀ ws H2, Same H1 H2 → H2 Dl = some (.lst ws) → DpAll K (del (Dl :: O) H2) ws (es ++ (g e).toList) → R H2) :
    wipe ((wipe σ [j]).set j (some x)) [j] = wipe σ [j] ∧ tt ((wipe σ [j]).set j (some x)) H' fun b H3 => if b = true then te ((wipe σ [j]).set j (some x)) H3 fun y H4 => ∃ acc, H4 Dl = some (.lst acc) ∧ acc.length < sizeLine ∧ R (upd H4 Dl (.lst (acc ++ [y]))) else R H3 := by
  have w1 : (wipe σ [j]).set j (some x) = σ.set j (some x) := by
    show (σ.set j none).set j (some x) = _
    rw [List.set_set]
  have up : Same (del O H1) (del (Dl :: O) H') := fun a o q => by
    by_cases ha : a ∈ O
    · rw [del_in ha] at q; cases q
    · rw [del_out ha] at q
      rw [del_out (by simp [ha, ne_of_none q hD])]
      exact e1 a o q
  refine ⟨?_, ?_⟩
  · show ((wipe σ [j]).set j (some x)).set j none = σ.set j none
    rw [w1, List.set_set]
  · rw [w1]
    have S' : SokE K (Dl :: O) H' (σ.set j (some x)) (τ.set j (.im e)) := by
      refine ⟨fun a ha z => ?_, fun a ha => List.mem_cons_of_mem _ (S.sub a ((owns_set_sub rfl).subset ha)), slsok_set (show SlOk K _ H' (some x) (.im e) from ⟨x, rfl, dp_same up rx⟩) j (slsok_up hD e1 S.sl)⟩
      rcases List.mem_cons.mp ha with h | h
      · rw [h, hv] at z; cases z
      · exact (S.grow e1).dom a h z
    refine ht _ H' _ S' _ fun H3 e3 => ?_
    cases hg : g e with
    | none =>
      rw [hg] at k
      refine iteF (k vs H3 (e1.trans e3) (e3 _ _ hv) ?_)
      show DpAll K _ vs (es ++ [])
      rw [List.append_nil]
      exact dps_same (del_grow e3) rv
    | some r =>
      rw [hg] at k
      refine iteT (he r hg _ H3 _ (S'.grow e3) _ fun y H4 e4 ry => ⟨vs, e4 _ _ (e3 _ _ hv), ?_, k _ _ (fun a o q => ?_) upd_same ?_⟩)
      · rw [dps_len rv]
        exact Nat.lt_of_lt_of_le hz (by decide)
      · rw [upd_ne (ne_of_none q hD)]
        exact ((e1.trans e3).trans e4) a o q
      · rw [del_upd_in List.mem_cons_self]
        exact dps_app (dps_same (del_grow (e3.trans e4)) rv) (.cons ry .nil)
theorem fm_take {g : D → Option D} {ds : List D} {i : Nat} {e : D} (h : ds[i]? = some e) : (ds.take (i + 1)).filterMap g = (ds.take i).filterMap g ++ (g e).toList := by
  rw [List.take_add_one, h, List.filterMap_append]
  congr 1
theorem fm_none {ds : List D} : ds.filterMap (fun _ => (none : Option D)) = [] := by
  induction ds with
  | nil => rfl
  | cons d ds ih => rw [List.filterMap_cons_none rfl, ih]
theorem fm_some {g : D → D} {ds : List D} : ds.filterMap (fun d => some (g d)) = ds.map g := by
  rw [← List.filterMap_eq_map]
  rfl
theorem fm_len {g : D → Option D} {ds : List D} {i n : Nat} (h : ds.length ≤ n) : ((ds.take i).filterMap g).length ≤ n := by
  have h1 := List.length_filterMap_le g (ds.take i)
  rw [List.length_take] at h1
  omega
/-- [e for x in xs if t]: g says which are taken, and what becomes of them -/
theorem en_lc {j : Nat} (g : D → Option D) (h : Ev K tl τ d) (hs : IsSeq d ds) (hz : ds.length ≤ 50000) (ht : ∀ e ∈ ds, EvT K tt (τ.set j (.im e)) (g e).isSome) (he : ∀ e ∈ ds, ∀ r, g e = some r → Ev K te (τ.set j (.im e)) r) :
    EvN K (tLc (iSeq K tl) (gName j) tt te [j]) τ (ds.filterMap g) := fun O H σ s Q q =>
  h O H σ s _ fun v H1 e1 r1 => by
    have S := s.grow e1
    rcases hs with rfl | rfl
    · obtain ⟨a, xs, rfl, hq, ra⟩ := dp_lst r1
      refine ⟨a, rfl, .inl ⟨⟨xs, sql_same del_same hq⟩, fun Dl hD => lc_list (xs := xs) (fun i H' => Same H1 H' ∧ ∃ vs, H' Dl = some (.lst vs) ∧ DpAll K (del (Dl :: O) H') vs ((ds.take i).filterMap g)) ⟨same_upd hD, [], upd_same, .nil⟩ (fun i H' _ p => sql_same (del_same.trans p.1) hq) (fun i x H' hi p => ?_) (fun H' p => ?_)⟩⟩
      · obtain ⟨e2, vs, hv, rv⟩ := p
        obtain ⟨e, hd, rx⟩ := dps_get' ra hi
        refine lc_turn (g := g) S hD e2 hv rv (Nat.lt_of_le_of_lt (fm_len hz) (by decide)) rx (ht e (List.mem_of_getElem? hd)) (he e (List.mem_of_getElem? hd)) fun ws H2 e3 h3 r3 => ⟨e3, ws, h3, ?_⟩
        rw [fm_take hd]
        exact r3
      · obtain ⟨e2, vs, hv, rv⟩ := p
        rw [dps_len ra, List.take_length] at rv
        exact q Dl vs H' (e1.free hD) (e1.trans e2) hv rv
    · obtain ⟨a, xs, rfl, hq, ra⟩ := dp_tup r1
      refine ⟨a, rfl, .inr ⟨⟨xs, sqt_same del_same hq⟩, fun Dl hD => lc_tup (xs := xs) (fun i H' => Same H1 H' ∧ ∃ vs, H' Dl = some (.lst vs) ∧ DpAll K (del (Dl :: O) H') vs ((ds.take i).filterMap g)) ⟨same_upd hD, [], upd_same, .nil⟩ (fun i H' _ p => sqt_same (del_same.trans p.1) hq) (fun i x H' hi p => ?_) (fun H' p => ?_)⟩⟩
      · obtain ⟨e2, vs, hv, rv⟩ := p
        obtain ⟨e, hd, rx⟩ := dps_get' ra hi
        refine lc_turn (g := g) S hD e2 hv rv (Nat.lt_of_le_of_lt (fm_len hz) (by decide)) rx (ht e (List.mem_of_getElem? hd)) (he e (List.mem_of_getElem? hd)) fun ws H2 e3 h3 r3 => ⟨e3, ws, h3, ?_⟩
        rw [fm_take hd]
        exact r3
      · obtain ⟨e2, vs, hv, rv⟩ := p
        rw [dps_len ra, List.take_length] at rv
        exact q Dl vs H' (e1.free hD) (e1.trans e2) hv rv
/-- .. over range(n) -/
def rangeD (n : Nat) : List D := (List.range n).map fun (i : Nat) => PyData.int (i : Int)
theorem rangeD_get {n i : Nat} (h : i < n) : (rangeD n)[i]? = some (.int (i : Int)) := by
  unfold rangeD
  rw [List.getElem?_map, List.getElem?_range h]
  rfl
theorem en_lcR {ta : TA} {j : Nat} {n : Int} (g : D → Option D) (h : EvA K ta τ [.int n]) (hz : -100000 ≤ n ∧ n ≤ 50000) (ht : ∀ i : Nat, i < n.toNat → EvT K tt (τ.set j (.im (.int (i : Int)))) (g (.int (i : Int))).isSome) (he : ∀ i : Nat, i < n.toNat → ∀ r, g (.int (i : Int)) = some r → Ev K te (τ.set j (.im (.int (i : Int)))) r) :
    EvN K (tLc (iRng1 ta) (gName j) tt te [j]) τ ((rangeD n.toNat).filterMap g) := fun O H σ s Q q =>
  h O H σ s _ fun vs0 H1 e1 r0 => by
    have S := s.grow e1
    obtain ⟨v, rfl, r1⟩ := dps1 r0
    rw [dp_int r1]
    have hl : (rangeD n.toNat).length = n.toNat := by
      unfold rangeD
      rw [List.length_map, List.length_range]
    refine ⟨n, rfl, by omega, by omega, fun Dl hD => lc_range (lo := 0) (n := n.toNat) (fun i H' => Same H1 H' ∧ ∃ vs, H' Dl = some (.lst vs) ∧ DpAll K (del (Dl :: O) H') vs (((rangeD n.toNat).take i).filterMap g)) ⟨same_upd hD, [], upd_same, .nil⟩ (fun i H' hi p => ?_) (fun H' p => ?_)⟩
    · obtain ⟨e2, vs, hv, rv⟩ := p
      have e0 : (0 : Int) + (i : Int) = (i : Int) := Int.zero_add _
      show wipe ((wipe σ [j]).set j (some (.int ((0 : Int) + (i : Int))))) [j] = wipe σ [j] ∧ tt ((wipe σ [j]).set j (some (.int ((0 : Int) + (i : Int))))) H' fun b H3 => if b = true then te ((wipe σ [j]).set j (some (.int ((0 : Int) + (i : Int))))) H3 fun y H4 => ∃ acc, H4 Dl = some (.lst acc) ∧ acc.length < sizeLine ∧ _ else _
      rw [e0]
      refine lc_turn (g := g) S hD e2 hv rv (Nat.lt_of_le_of_lt (fm_len (by omega : _ ≤ 50000)) (by decide)) (.int (i : Int)) (ht i hi) (he i hi) fun ws H2 e3 h3 r3 => ⟨e3, ws, h3, ?_⟩
      rw [fm_take (rangeD_get hi)]
      exact r3
    · obtain ⟨e2, vs, hv, rv⟩ := p
      rw [List.take_of_length_le (by omega)] at rv
      exact q Dl vs H' (e1.free hD) (e1.trans e2) hv rv
theorem et_yes : EvT K tYes τ true := fun O H σ s Q q => q H (Same.refl H)
end
def Shp (n : Nat) (d : D) : Prop := d.canLay0 = true ∧ d.depth ≤ n
theorem shp_int {n : Nat} {i : Int} : Shp n (.int i) := ⟨rfl, Nat.zero_le _⟩
theorem shp_bool {n : Nat} {i : Bool} : Shp n (.bool i) := ⟨rfl, Nat.zero_le _⟩
theorem shp_none {n : Nat} : Shp n .none := ⟨rfl, Nat.zero_le _⟩
theorem shp_str {n : Nat} {x : Str} (h : PyData.canLay0 (.str x) = true) : Shp n (.str x) := ⟨h, Nat.zero_le _⟩
theorem shp_all {n : Nat} : ∀ {ds : List D}, (∀ e ∈ ds, Shp n e) → PyData.canLayAll0 ds = true ∧ PyData.depthAll ds ≤ n
  | [], _ => ⟨rfl, Nat.zero_le _⟩
  | d :: ds, h => by
    obtain ⟨h1, h2⟩ := shp_all (ds := ds) fun e he => h e (List.mem_cons_of_mem _ he)
    obtain ⟨h3, h4⟩ := h d List.mem_cons_self
    refine ⟨?_, ?_⟩
    · show (d.canLay0 && PyData.canLayAll0 ds) = true
      rw [h1, h3]
      rfl
    · show max d.depth (PyData.depthAll ds) ≤ n
      omega
theorem shp_list {n : Nat} {ds : List D} (h : ∀ e ∈ ds, Shp n e) : Shp (n + 1) (.list ds) := ⟨(shp_all h).1, Nat.succ_le_succ (shp_all h).2⟩
theorem shp_tuple {n : Nat} {ds : List D} (h : ∀ e ∈ ds, Shp n e) : Shp (n + 1) (.tuple ds) := ⟨(shp_all h).1, Nat.succ_le_succ (shp_all h).2⟩
theorem shp_ints {n : Nat} {l : List Int} : ∀ e ∈ l.map PyData.int, Shp n e := fun e he => by
  obtain ⟨i, _, rfl⟩ := List.mem_map.mp he
  exact shp_int
theorem shp_mono {n m : Nat} {d : D} (h : Shp n d) (hm : n ≤ m) : Shp m d := ⟨h.1, Nat.le_trans h.2 hm⟩
theorem Shp.shaped {n : Nat} {d : D} (h : Shp n d) (hn : n ≤ 64) : SeqAt.shaped d = true := by
  unfold SeqAt.shaped
  rw [h.1, decide_eq_true (Nat.le_trans h.2 hn)]
  rfl
theorem Shp.eqv {n : Nat} {d : D} (h : Shp n d) : PyData.eqv d d = true := SeqAt.eqv_refl d h.1
theorem rv_eqS {n : Nat} {d : D} (h : Shp n d) (hn : n ≤ 64) : Rv K (rEqD K) d d (.bool true) := by
  have := rv_eq (K := K) (h.shaped hn) (h.shaped hn)
  rw [h.eqv] at this
  exact this
theorem rv_neS {n : Nat} {d : D} (h : Shp n d) (hn : n ≤ 64) : Rv K (rNeD K) d d (.bool false) := by
  have := rv_ne (K := K) (h.shaped hn) (h.shaped hn)
  rw [h.eqv] at this
  exact this
end GW

namespace GW
open PySem PySem.Spec PyProof.Rows L2
variable {K : PySem.W.Frag}
def shD (r : Rat) : D := .tuple [.int r.num, .int (r.den : Int)]
theorem gcd_step (a b : Int) (ha : 0 ≤ a) (hb : 0 ≤ b) : Int.gcd b (a % b) = Int.gcd a b := by
  obtain ⟨m, rfl⟩ := Int.eq_ofNat_of_zero_le ha
  obtain ⟨n, rfl⟩ := Int.eq_ofNat_of_zero_le hb
  rw [← Int.natCast_emod]
  show Nat.gcd n (m % n) = Nat.gcd m n
  rw [Nat.gcd_comm m n, Nat.gcd_rec n m, Nat.gcd_comm]
theorem num_fr {t b : Int} (hb : 0 < b) : (Rat.divInt t b).num = t / ((Int.gcd t b : Nat) : Int) := by
  rw [Rat.num_divInt, Int.sign_eq_one_of_pos hb, Int.one_mul, Int.gcd_comm]
theorem den_fr {t b : Int} (hb : 0 < b) : (((Rat.divInt t b).den : Nat) : Int) = b / ((Int.gcd t b : Nat) : Int) := by
  rw [Rat.den_divInt, if_neg (by omega), Int.gcd_comm, Int.natCast_ediv, Int.natAbs_of_nonneg (Int.le_of_lt hb)]
theorem gcd_pos {t b : Int} (hb : 0 < b) : 0 < ((Int.gcd t b : Nat) : Int) := by
  have := Int.gcd_pos_of_ne_zero_right t (show b ≠ 0 by omega)
  omega
theorem gcd_le {t b : Int} (hb : 0 < b) : ((Int.gcd t b : Nat) : Int) ≤ b := Int.le_of_dvd hb (Int.gcd_dvd_right t b)
theorem shD_fr {t b : Int} (hb : 0 < b) : shD (Rat.divInt t b) = .tuple [.int (t / ((Int.gcd t b : Nat) : Int)), .int (b / ((Int.gcd t b : Nat) : Int))] := by
  unfold shD
  rw [num_fr hb, den_fr hb]
theorem gcd_abs (t b : Int) : Int.gcd (if t < 0 then -t else t) b = Int.gcd t b := by
  split
  · exact Int.neg_gcd
  · rfl
/-- below 2 ^ 4000 -/
def Sm (x : Int) : Prop := x.natAbs < 2 ^ 4000
def Sz (r : Rat) : Prop := Sm r.num ∧ Sm (r.den : Int)
theorem natAbs_ediv_le (t g : Int) : (t / g).natAbs ≤ t.natAbs := by
  exact Int.natAbs_ediv_le_natAbs t g
theorem Sm.fr {t b : Int} (hb : 0 < b) (h1 : Sm t) (h2 : Sm b) : Sz (Rat.divInt t b) := by
  constructor
  · rw [num_fr hb]
    exact Nat.lt_of_le_of_lt (natAbs_ediv_le _ _) h1
  · rw [den_fr hb]
    exact Nat.lt_of_le_of_lt (natAbs_ediv_le _ _) h2
theorem Sm.of {x : Int} {n : Nat} (h : x.natAbs ≤ n) (hn : n < 2 ^ 4000) : Sm x := Nat.lt_of_le_of_lt h hn
theorem sm_small {x : Int} (h1 : -1000000000000000000 ≤ x) (h2 : x ≤ 1000000000000000000) : Sm x :=
  Nat.lt_of_le_of_lt (show x.natAbs ≤ 1000000000000000000 by omega) (Nat.lt_of_lt_of_le (show 1000000000000000000 < 2 ^ 60 by decide) (Nat.pow_le_pow_right (by decide) (by decide)))
theorem CM.sm {i j : Int} (h1 : Sm i) (h2 : Sm j) : CM i j := .inr (wide_mul h1 h2 (by decide) (by decide) (by decide))
theorem CM.left {i j : Int} (h1 : -(2 ^ 64) < i) (h2 : i < 2 ^ 64) : CM i j := .inl (.inl ⟨h1, h2⟩)
theorem CM.right {i j : Int} (h1 : -(2 ^ 64) < j) (h2 : j < 2 ^ 64) : CM i j := .inl (.inr ⟨h1, h2⟩)
theorem div_small {i j : Int} (h1 : 0 < j) (h2 : j < 2 ^ 64) : CDivW i j := wide_div (b := 64) h1 (by omega) (by decide) (by decide)
theorem div_8000 {i j : Int} (h1 : 0 < j) (h2 : j.natAbs < 2 ^ 8000) : CDivW i j := wide_div (b := 8000) h1 h2 (by decide) (by decide)
theorem Sm.mul {x y : Int} (h1 : Sm x) (h2 : Sm y) : (x * y).natAbs < 2 ^ 8000 := by
  have := wide_lt h1 h2
  exact this

abbrev sp_divisor (K : PySem.W.Frag) : Sp := spR K 2 fun ds d => ∃ a b : Int, ds = [.int a, .int b] ∧ 0 ≤ a ∧ 0 ≤ b ∧ d = .int ((Int.gcd a b : Nat) : Int)
/-- bottoms below 2 ^ 8000 -/
abbrev sp_share (K : PySem.W.Frag) : Sp := spR K 2 fun ds d => ∃ t b : Int, ds = [.int t, .int b] ∧ 0 < b ∧ b.natAbs < 2 ^ 8000 ∧ d = shD (Rat.divInt t b)
abbrev sp_plus (K : PySem.W.Frag) : Sp := spR K 2 fun ds d => ∃ r q : Rat, ds = [shD r, shD q] ∧ Sz r ∧ Sz q ∧ d = shD (r + q)
abbrev sp_times (K : PySem.W.Frag) : Sp := spR K 3 fun ds d => ∃ (r : Rat) (n o : Int), ds = [shD r, .int n, .int o] ∧ Sz r ∧ Sm n ∧ Sm o ∧ 0 < o ∧ d = shD (r * Rat.divInt n o)
abbrev sp_less (K : PySem.W.Frag) : Sp := spR K 2 fun ds d => ∃ r q : Rat, ds = [shD r, shD q] ∧ Sz r ∧ Sz q ∧ d = .bool (decide (r < q))
/-- the script's cells -/
def cell (ns : List Int) (k : Int) : Int := if ns.length = 0 then k else ns.getD (k % (ns.length : Int)).toNat 0 + 3 * (k / (ns.length : Int))
abbrev sp_l_cell_at (K : PySem.W.Frag) : Sp := spR K 2 fun ds d => ∃ (ns : List Int) (k : Int), ds = [.list (ns.map PyData.int), .int k] ∧ ns.length ≤ 63 ∧ d = .int (cell ns k)
abbrev sp_l_whole (K : PySem.W.Frag) : Sp := spR K 1 fun ds d => ∃ i : Int, ds = [.int i] ∧ d = .bool true
abbrev sp_l_share (K : PySem.W.Frag) : Sp := spR K 1 fun ds d => ∃ i j : Int, ds = [.tuple [.int i, .int j]] ∧ d = .bool true
abbrev sp_l_low (K : PySem.W.Frag) : Sp := spR K 2 fun ds d => ∃ t b : Int, ds = [.int t, .int b] ∧ 0 < b ∧ b.natAbs < 2 ^ 8000 ∧ d = shD (Rat.divInt t b)
def lnum (c lo hi : Int) : Int := if c % 3 = 0 then lo + c / 3 * 48271 % (hi * 10 ^ 9 - lo) else lo + c / 3 % (hi - lo + 1)
abbrev sp_l_number (K : PySem.W.Frag) : Sp := spR K 3 fun ds d => ∃ c lo hi : Int, ds = [.int c, .int lo, .int hi] ∧ 0 ≤ lo ∧ lo ≤ hi ∧ 1 ≤ hi ∧ hi ≤ 1000 ∧ d = .int (lnum c lo hi)
abbrev sp_l_right (K : PySem.W.Frag) : Sp := spR K 3 fun ds d => ∃ t b : Int, ds = [shD (Rat.divInt t b), .int t, .int b] ∧ 0 < b ∧ b.natAbs < 2 ^ 8000 ∧ d = .bool true
abbrev sp_law_k01 (K : PySem.W.Frag) : Sp := spR K 1 fun ds d => ∃ ns : List Int, ds = [.list (ns.map PyData.int)] ∧ ns.length ≤ 63 ∧ d = .bool true
theorem len_R {R : List D → D → Prop} {n : Nat} {vs : List V} {H : Hp} {Q : VK} {E : XK} (h : spR K n R vs H Q E) : vs.length = n := by
  obtain ⟨O, ds, d, _, r, ⟨q, _⟩, _⟩ := h
  rw [dps_len r, q]
theorem len_N {R : List D → List D → Prop} {n : Nat} {vs : List V} {H : Hp} {Q : VK} {E : XK} (h : spN K n R vs H Q E) : vs.length = n := by
  obtain ⟨O, ds, d, _, r, ⟨q, _⟩, _⟩ := h
  rw [dps_len r, q]
theorem law_pre {R : List D → D → Prop} {H : Hp} {a : Addr} {ns : List Int} {E : XK} (hl : ns.length ≤ 63) (hS : SqL K H a (ns.map V.int)) (hR : ∀ ns : List Int, ns.length ≤ 63 → R [.list (ns.map PyData.int)] (.bool true)) :
    spR K 1 R [.ref a] H (fun v _ => v = .bl true) E :=
  ⟨[], [.list (ns.map PyData.int)], .bool true, fun a ha => (by cases ha), .cons (.lst (by rw [del_nil]; exact hS) (ints_dps ns)) .nil, ⟨rfl, hR ns hl⟩, fun v H' _ r => dp_bl r⟩
end GW

namespace GW
open PySem PySem.Spec PyProof.Rows L2
variable {K : PySem.W.Frag}
structure Task where
  w : Int
  m : Int
  c : Int
  tries : List Int
def Task.d (t : Task) : D := .tuple [.int t.w, .int t.m, .int t.c, .tuple (t.tries.map PyData.int)]
structure Task.Ok (t : Task) : Prop where
  w1 : 1 ≤ t.w
  w2 : t.w ≤ 1000
  m1 : 1 ≤ t.m
  m2 : t.m ≤ 1000000
  c1 : 0 ≤ t.c
  c2 : t.c ≤ t.m
  n : t.tries.length ≤ 13
  tr : ∀ x ∈ t.tries, 0 ≤ x ∧ x ≤ t.m
def capd (c p : Int) : Int := if c < p then c else p
def Task.gives (t : Task) : List Int := match t.tries with
  | [] => []
  | p :: r => p :: r.map (capd t.c)
def Task.mark (t : Task) : Option Int := if t.gives = [] then none else some (maxL t.gives)
def Task.chosen (t : Task) : Option Int := if t.gives = [] then none else some ((t.gives.idxOf (maxL t.gives) : Nat) : Int)
theorem gives_eq (t : Task) : t.gives = t.tries.take 1 ++ (t.tries.drop 1).map (capd t.c) := by
  unfold Task.gives
  cases t.tries with
  | nil => rfl
  | cons p r => rfl
theorem gives_len (t : Task) : t.gives.length = t.tries.length := by
  unfold Task.gives
  cases t.tries with
  | nil => rfl
  | cons p r => simp
theorem gives_nil {t : Task} : t.gives = [] ↔ t.tries = [] := by
  rw [← List.length_eq_zero_iff, gives_len, List.length_eq_zero_iff]
theorem gives_get {t : Task} {k : Nat} {p : Int} (h : t.tries[k]? = some p) : t.gives[k]? = some (if k = 0 then p else capd t.c p) := by
  unfold Task.gives
  cases e : t.tries with
  | nil => rw [e] at h; simp at h
  | cons a r =>
    rw [e] at h
    cases k with
    | zero => simpa using h
    | succ k =>
      have h' : r[k]? = some p := by simpa using h
      simp [h']
theorem maxL_snoc {l : List Int} {y : Int} (h : l ≠ []) : maxL (l ++ [y]) = if maxL l < y then y else maxL l := by
  cases l with
  | nil => exact absurd rfl h
  | cons n r =>
    show (r ++ [y]).foldl _ n = _
    rw [List.foldl_append]
    rfl
theorem take_snoc {α : Type} {l : List α} {i : Nat} {x : α} (h : l[i]? = some x) : l.take (i + 1) = l.take i ++ [x] := by
  rw [List.take_add_one, h]
  rfl
theorem cut_to (ds : List D) (k : Nat) : cutD ds none (some (k : Int)) = ds.take k := by
  unfold cutD
  rw [HT.sIx_none, HT.sIx_nat, Nat.sub_zero, List.drop_zero, List.take_eq_take_iff]
  omega
theorem cut_from (ds : List D) (k : Nat) : cutD ds (some (k : Int)) none = ds.drop k := by
  unfold cutD
  rw [HT.sIx_none, HT.sIx_nat]
  by_cases h : k ≤ ds.length
  · rw [Nat.min_eq_left h, List.take_of_length_le (by rw [List.length_drop]; omega)]
  · rw [Nat.min_eq_right (by omega), List.drop_of_length_le (by omega : ds.length ≤ ds.length), List.drop_of_length_le (by omega : ds.length ≤ k)]
    simp
theorem cut_part (ds : List D) (a b : Nat) (h : a ≤ b) : cutD ds (some (a : Int)) (some (b : Int)) = (ds.drop a).take (b - a) := by
  unfold cutD
  rw [HT.sIx_nat, HT.sIx_nat]
  by_cases h1 : a ≤ ds.length
  · rw [Nat.min_eq_left h1, List.take_eq_take_iff, List.length_drop]
    omega
  · rw [Nat.min_eq_right (by omega), Nat.min_eq_right (by omega), List.drop_of_length_le (by omega : ds.length ≤ ds.length), List.drop_of_length_le (by omega : ds.length ≤ a)]
    simp
def sN (x : Int) : Nat → Int
  | 0 => x
  | i + 1 => (sN x i * sN x i + 48271 * sN x i + 7 * (i : Int) + 1) % 2147483647
theorem sN_bd {x : Int} (h0 : 0 ≤ x) (h1 : x < 2200000000) : ∀ i, 0 ≤ sN x i ∧ sN x i < 2200000000
  | 0 => ⟨h0, h1⟩
  | i + 1 => by
    have a := Int.emod_nonneg (sN x i * sN x i + 48271 * sN x i + 7 * (i : Int) + 1) (show (2147483647 : Int) ≠ 0 by decide)
    have b := Int.emod_lt_of_pos (sN x i * sN x i + 48271 * sN x i + 7 * (i : Int) + 1) (show (0 : Int) < 2147483647 by decide)
    show 0 ≤ (sN x i * sN x i + 48271 * sN x i + 7 * (i : Int) + 1) % 2147483647 ∧ (sN x i * sN x i + 48271 * sN x i + 7 * (i : Int) + 1) % 2147483647 < 2200000000
    omega
def stream (c : Int) (many : Nat) : List Int := (List.range many).map fun j => sN (c % 2147483647 + 48271) (j + 2)
theorem stream_len (c : Int) (many : Nat) : (stream c many).length = many := by
  unfold stream
  rw [List.length_map, List.length_range]
theorem c0_bd (c : Int) : 0 ≤ c % 2147483647 + 48271 ∧ c % 2147483647 + 48271 < 2200000000 := by
  have a := Int.emod_nonneg c (show (2147483647 : Int) ≠ 0 by decide)
  have b := Int.emod_lt_of_pos c (show (0 : Int) < 2147483647 by decide)
  omega
theorem stream_bd {c : Int} {many : Nat} {x : Int} (h : x ∈ stream c many) : 0 ≤ x := by
  obtain ⟨j, _, rfl⟩ := List.mem_map.mp h
  exact (sN_bd (c0_bd c).1 (c0_bd c).2 _).1
def pick (l : List Int) (i : Int) : Int := l.getD i.toNat 0
theorem pick_at {l : List Int} {i : Int} (h0 : 0 ≤ i) (h1 : i < (l.length : Int)) : atI (l.map PyData.int) i = some (.int (pick l i)) := by
  obtain ⟨j, rfl⟩ := Int.eq_ofNat_of_zero_le h0
  have hj : j < l.length := by omega
  refine atI_nat ?_
  unfold pick
  rw [List.getElem?_map, List.getElem?_eq_getElem hj, List.getD_eq_getElem?_getD, Int.toNat_natCast, List.getElem?_eq_getElem hj]
  rfl
def tWeight (x : Int) : Int := if x / 5 % 5 = 0 then 1 + x / 25 % 1000 else 1 + x % 5
def tMost (x : Int) : Int := pick [1, 10, 100, 1 + x / 6 % 20, 1 + x / 6 % 1000000, 1000000] (x % 6)
def tCap (m x : Int) : Int := pick [m, 0, m / 2, x / 4 % (m + 1)] (x % 4)
def tMany (x : Int) : Int := pick [0, 1, 1, 2, 3, 1, 0, 12, 11] (x % 9)
def tTry (m c x : Int) : Int := pick [x / 5 % (m + 1), x / 5 % (m + 1), 0, m, c] (x % 5)
/-- the drawn task of the numbers xs (sixteen, none below 0) -/
def taskBy (xs : List Int) : Task :=
  let m := tMost (pick xs 1)
  let c := tCap m (pick xs 2)
  { w := tWeight (pick xs 0), m := m, c := c, tries := (List.range (tMany (pick xs 3)).toNat).map fun (k : Nat) => tTry m c (pick xs (4 + (k : Int))) }
theorem pick_mem {l : List Int} {i : Int} {P : Int → Prop} (h : ∀ x ∈ l, P x) (h0 : 0 ≤ i) (h1 : i < (l.length : Int)) : P (pick l i) := by
  unfold pick
  have hj : i.toNat < l.length := by omega
  rw [List.getD_eq_getElem?_getD, List.getElem?_eq_getElem hj]
  exact h _ (List.getElem_mem hj)
theorem mod_bd (x : Int) {k : Int} (h : 0 < k) : 0 ≤ x % k ∧ x % k < k := ⟨Int.emod_nonneg x (by omega), Int.emod_lt_of_pos x h⟩
theorem tWeight_bd (x : Int) : 1 ≤ tWeight x ∧ tWeight x ≤ 1000 := by
  unfold tWeight
  have a := mod_bd (x / 25) (show (0 : Int) < 1000 by decide)
  have b := mod_bd x (show (0 : Int) < 5 by decide)
  split <;> omega
theorem tMost_bd (x : Int) : 1 ≤ tMost x ∧ tMost x ≤ 1000000 := by
  unfold tMost
  have a := mod_bd (x / 6) (show (0 : Int) < 20 by decide)
  have b := mod_bd (x / 6) (show (0 : Int) < 1000000 by decide)
  have c := mod_bd x (show (0 : Int) < 6 by decide)
  refine pick_mem (P := fun z => 1 ≤ z ∧ z ≤ 1000000) (fun z hz => ?_) c.1 c.2
  simp only [List.mem_cons, List.not_mem_nil, or_false] at hz
  rcases hz with h | h | h | h | h | h <;> omega
theorem tCap_bd {m x : Int} (h1 : 1 ≤ m) : 0 ≤ tCap m x ∧ tCap m x ≤ m := by
  unfold tCap
  have a := mod_bd (x / 4) (show (0 : Int) < m + 1 by omega)
  have c := mod_bd x (show (0 : Int) < 4 by decide)
  refine pick_mem (P := fun z => 0 ≤ z ∧ z ≤ m) (fun z hz => ?_) c.1 c.2
  simp only [List.mem_cons, List.not_mem_nil, or_false] at hz
  rcases hz with h | h | h | h <;> omega
theorem tMany_bd (x : Int) : 0 ≤ tMany x ∧ tMany x ≤ 12 := by
  unfold tMany
  have c := mod_bd x (show (0 : Int) < 9 by decide)
  refine pick_mem (P := fun z => 0 ≤ z ∧ z ≤ 12) (fun z hz => ?_) c.1 c.2
  simp only [List.mem_cons, List.not_mem_nil, or_false] at hz
  rcases hz with h | h | h | h | h | h | h | h | h <;> omega
theorem tTry_bd {m c x : Int} (h1 : 1 ≤ m) (h2 : 0 ≤ c) (h3 : c ≤ m) : 0 ≤ tTry m c x ∧ tTry m c x ≤ m := by
  unfold tTry
  have a := mod_bd (x / 5) (show (0 : Int) < m + 1 by omega)
  have d := mod_bd x (show (0 : Int) < 5 by decide)
  refine pick_mem (P := fun z => 0 ≤ z ∧ z ≤ m) (fun z hz => ?_) d.1 d.2
  simp only [List.mem_cons, List.not_mem_nil, or_false] at hz
  rcases hz with h | h | h | h | h <;> omega
theorem taskBy_n (xs : List Int) : (taskBy xs).tries.length ≤ 12 := by
  have := tMany_bd (pick xs 3)
  show ((List.range (tMany (pick xs 3)).toNat).map _).length ≤ 12
  rw [List.length_map, List.length_range]
  omega
theorem taskBy_ok (xs : List Int) : (taskBy xs).Ok := by
  have hm := tMost_bd (pick xs 1)
  have hc := tCap_bd (x := pick xs 2) hm.1
  refine ⟨(tWeight_bd _).1, (tWeight_bd _).2, hm.1, hm.2, hc.1, hc.2, Nat.le_succ_of_le (taskBy_n xs), fun x hx => ?_⟩
  obtain ⟨k, _, rfl⟩ := List.mem_map.mp hx
  exact tTry_bd hm.1 hc.1 hc.2
abbrev sp_gives (K : PySem.W.Frag) : Sp := spN K 1 fun ds es => ∃ t : Task, ds = [t.d] ∧ t.tries.length ≤ 100 ∧ es = t.gives.map PyData.int
abbrev sp_mark (K : PySem.W.Frag) : Sp := spR K 1 fun ds d => ∃ t : Task, ds = [t.d] ∧ t.tries.length ≤ 100 ∧ d = optD t.mark
abbrev sp_chosen (K : PySem.W.Frag) : Sp := spR K 1 fun ds d => ∃ t : Task, ds = [t.d] ∧ t.tries.length ≤ 100 ∧ d = optD t.chosen
abbrev sp_l_stream (K : PySem.W.Frag) : Sp := spN K 2 fun ds es => ∃ (c n : Int), ds = [.int c, .int n] ∧ 0 ≤ n ∧ n ≤ 1000 ∧ es = (stream c n.toNat).map PyData.int
abbrev sp_l_task_by (K : PySem.W.Frag) : Sp := spR K 1 fun ds d => ∃ xs : List Int, ds = [.list (xs.map PyData.int)] ∧ 16 ≤ xs.length ∧ d = (taskBy xs).d
abbrev sp_l_mark (K : PySem.W.Frag) : Sp := spR K 1 fun ds d => ∃ t : Task, ds = [t.d] ∧ t.tries.length ≤ 100 ∧ d = optD t.mark
abbrev sp_l_gives (K : PySem.W.Frag) : Sp := spN K 1 fun ds es => ∃ t : Task, ds = [t.d] ∧ t.tries.length ≤ 100 ∧ es = t.gives.map PyData.int
abbrev sp_law_k02 (K : PySem.W.Frag) : Sp := spR K 1 fun ds d => ∃ ns : List Int, ds = [.list (ns.map PyData.int)] ∧ ns.length ≤ 63 ∧ d = .bool true
end GW

namespace GW
open PySem PySem.Spec PyProof.Rows L2
variable {K : PySem.W.Frag}
def tSortedSet (K : PySem.W.Frag) (ta : TE) : TE := fun σ H Q => ta σ H fun x H1 => ∃ (p : Addr) (ns : List Int), x = .ref p ∧ SqT K H1 p (ns.map V.int) ∧ ns.length < 64 ∧
  ∀ (a : Addr) (o : HO) (q : Addr) (ns' : List Int), ns'.Pairwise (· < ·) → (∀ k, k ∈ ns' ↔ k ∈ ns) → H1 a = none → (upd H1 a o) q = none → Q (.ref q) (upd (upd H1 a o) q (.lst (ns'.map V.int)))
section
variable {X : Cx}
def rSetT (w : World) (K : PySem.W.Frag) : List V → Hp → VK → Prop := fun vs H Q => ∃ (p : Addr) (ns : List Int), vs = [.ref p] ∧ SqT K H p (ns.map V.int) ∧ ns.length ≤ 1000 ∧ ∀ (a : Addr) (c : Nat), c ≤ ns.length → H a = none → Q (.ref a) (upd H a (SetO w a (fun j => decide (j ∈ ns)) c))
theorem cl_setT (hc : X.calm = true) : CallR X (.type "set") (rSetT X.w X.K) := by
  intro pins s σ H vs us Q I r h
  obtain ⟨p0, ns, rfl, hq, hl, q⟩ := h
  rw [Vals.ref1 r]
  obtain ⟨its, rv, pt, hz⟩ := I.tuple hq
  refine call_set_tupI ns (I.ok.hd hc) (show s.heap.IsTuple p0 its.toArray from pt) (by simpa using rv.ints) (by unfold scanBound; omega) fun h' tk c R1 hcn k => ?_
  have hf : H s.heap.objs.size = none := I.hok.fresh (Nat.le_refl _)
  exact ⟨.ref s.heap.objs.size, upd H s.heap.objs.size (SetO X.w s.heap.objs.size (fun j => decide (j ∈ ns)) c), I.laid k (Nat.le_refl _) (setO_new R1), rfl, q _ c hcn hf⟩
theorem PE.imp {e : Expr} {t t' : TE} (h : PE X e t) (i : ∀ σ H Q, t' σ H Q → t σ H Q) : PE X e t' := ⟨fun pins s σ H Q I hw => h.run pins s σ H Q I (i σ H Q hw)⟩
def tUp (t : TE) : TE := fun σ H Q => ∃ Q0 : VK, t σ H Q0 ∧ ∀ v H', Q0 v H' → Q v H'
theorem PE.up {e : Expr} {t : TE} (h : PE X e t) : PE X e (tUp t) := ⟨fun pins s σ H Q I hw => by
  obtain ⟨Q0, h0, i⟩ := hw
  exact thn (h.run pins s σ H Q0 I h0) fun v s1 ⟨x, H1, I1, r1, q1⟩ => ⟨x, H1, I1, r1, i _ _ q1⟩⟩
theorem pe_sortedSet {e : Expr} {ta : TE} {p1 p2 q1 q2 : Pos} (hc : X.calm = true) (hm1 : X.mg "sorted" = none) (hm2 : X.mg "set" = none) (ha : PE X e ta) (hg1 : Gl X "sorted" := by rfl) (hg2 : Gl X "set" := by rfl)
    (he1 : starEach ((Expr.Call (.Name "set" p1) [e] [] p2) :: []) X.env = (false, eval (Expr.Call (.Name "set" p1) [e] [] p2) X.env) :: starEach [] X.env := by rfl)
    (he2 : starEach (e :: []) X.env = (false, eval e X.env) :: starEach [] X.env := by rfl) (hpl : (backTo q2 (starEach [] X.env)).any (·.1) = false := by rfl) (hpl2 : (backTo p2 (starEach [] X.env)).any (·.1) = false := by rfl) :
    PE X (.Call (.Name "sorted" q1) [.Call (.Name "set" p1) [e] [] p2] [] q2) (tSortedSet X.K ta) := by
  refine PE.imp (pe_callB (cr_sortedSet hc) hg1 hm1 (by decide +kernel) (pa_cons (pe_callTy (cl_setT hc) hg2 hm2 (by decide +kernel) (pa_cons (PE.up ha) pa_nil he2) (he := he2) (hpl := hpl2)) pa_nil he1) (he := he1) (hpl := hpl)) fun σ H Q h => ?_
  refine ⟨_, h, fun x H1 h1 => ?_⟩
  obtain ⟨p, ns, rfl, hq, hl, q⟩ := h1
  refine ⟨p, ns, rfl, hq, by omega, fun a c hcl hf => ?_⟩
  exact ⟨a, fun j => decide (j ∈ ns), c, rfl, upd_same, by omega, fun ns' p' hpw hmem _ hp => q a _ p' ns' hpw (fun k => by simpa using hmem k) hf hp⟩
end
section
variable {τ : List Sl} {ta : TE}
theorem inc_uniq : ∀ {l m : List Int}, l.Pairwise (· < ·) → m.Pairwise (· < ·) → (∀ k, k ∈ l ↔ k ∈ m) → l = m
  | [], [], _, _, _ => rfl
  | [], y :: m, _, _, h => absurd ((h y).mpr (by simp)) (by simp)
  | x :: l, [], _, _, h => absurd ((h x).mp (by simp)) (by simp)
  | x :: l, y :: m, hl, hm, h => by
    rw [List.pairwise_cons] at hl hm
    have e : x = y := by
      have a := (h x).mp (by simp)
      have b := (h y).mpr (by simp)
      rw [List.mem_cons] at a b
      rcases a with a | a
      · exact a
      · rcases b with b | b
        · exact b.symm
        · have := hl.1 y b
          have := hm.1 x a
          omega
    subst e
    rw [inc_uniq hl.2 hm.2 fun k => ?_]
    constructor
    · intro hk
      have a := (h k).mp (by simp [hk])
      rw [List.mem_cons] at a
      rcases a with a | a
      · have := hl.1 k hk
        omega
      · exact a
    · intro hk
      have a := (h k).mpr (by simp [hk])
      rw [List.mem_cons] at a
      rcases a with a | a
      · have := hm.1 k hk
        omega
      · exact a
theorem dom_up {O : List Addr} {H H' : Hp} (h : ∀ a ∈ O, H a ≠ none) (e : Same H H') : ∀ a ∈ O, H' a ≠ none := fun a ha z => by
  cases hh : H a with
  | none => exact h a ha hh
  | some o => rw [e a o hh] at z; cases z
theorem ev_sortedSet {ns : List Int} (ha : Ev K ta τ (.tuple (ns.map PyData.int))) (hp : ns.Pairwise (· < ·)) (hl : ns.length < 64) : Ev K (tSortedSet K ta) τ (.list (ns.map PyData.int)) := fun O H σ s Q q =>
  ha O H σ s _ fun v H1 e1 r => by
    obtain ⟨p, xs, rfl, hq, hx⟩ := dp_tup r
    rw [dps_ints hx] at hq
    refine ⟨p, ns, rfl, sqt_same del_same hq, hl, fun a o q' ns' hpw hm hf hf2 => ?_⟩
    rw [inc_uniq hpw hp hm]
    have e2 : Same H1 (upd H1 a o) := same_upd hf
    have e3 := same_upd (o := HO.lst (ns.map V.int)) hf2
    refine q _ _ (e1.trans (e2.trans e3)) ?_
    refine .lst (.inl (.inl ?_)) (ints_dps ns)
    rw [del_out (fresh_out (dom_up (dom_up s.dom e1) e2) hf2)]
    exact upd_same
end
section
variable {O0 : List Addr} {F : Hp} {τ : List Sl} {Dn : Ends} {te : TE} {tz : TS}
theorem run_asg2 {i j : Nat} {d1 d2 : D} {τ' : List Sl} (h : Ev K te τ (.tuple [d1, d2])) (k : Run K O0 F tz Dn τ') (hτ : (τ.set i (.im d1)).set j (.im d2) = τ' := by first | (dsimp only [List.set]; done) | (dsimp only [List.set]; rfl) | rfl) :
    Run K O0 F (tSeq (tAsg te (gTup K 2 (gCons (gName i) (gCons (gName j) gNil)))) tz) Dn τ := fun H σ S => by
  subst hτ
  refine h _ H σ S.e _ fun v H1 e1 r => ?_
  obtain ⟨a, xs, rfl, hq, ha⟩ := dp_tup r
  obtain ⟨v, w, rfl, r1, r2⟩ := dps2 ha
  refine ⟨a, [v, w], rfl, sqt_same del_same hq, rfl, v, [w], rfl, w, [], rfl, rfl, k H1 _ ?_⟩
  have S1 := sok_put (i := i) (S.grow e1) r1
  refine sok_put S1 (dp_same (del_sub fun a ha => ?_) r2)
  rcases List.mem_append.mp ha with z | z
  · exact List.mem_append_left _ ((owns_set_sub rfl).subset z)
  · exact List.mem_append_right _ z
end
end GW

namespace GW
open PySem PySem.Spec PyProof.Rows L2
variable {K : PySem.W.Frag}
def sumR : List Rat → Rat
  | [] => 0
  | x :: r => x + sumR r
theorem sumR_app : ∀ (l m : List Rat), sumR (l ++ m) = sumR l + sumR m
  | [], m => by show _ = 0 + _; rw [Rat.zero_add]; rfl
  | x :: l, m => by
    show x + sumR (l ++ m) = x + sumR l + sumR m
    rw [sumR_app l m, Rat.add_assoc]
def sumI : List Int → Int
  | [] => 0
  | x :: r => x + sumI r
theorem sumI_app : ∀ (l m : List Int), sumI (l ++ m) = sumI l + sumI m
  | [], m => by show _ = 0 + _; rw [Int.zero_add]; rfl
  | x :: l, m => by
    show x + sumI (l ++ m) = x + sumI l + sumI m
    rw [sumI_app l m, Int.add_assoc]
theorem sumI_eq : ∀ (l : List Int), l.sum = sumI l
  | [] => rfl
  | x :: l => by rw [List.sum_cons, sumI_eq l]; rfl
abbrev S {α : Type} (l : List α) (f : α → Rat) : Rat := sumR (l.map f)
theorem S_cons {α : Type} (a : α) (l : List α) (f : α → Rat) : S (a :: l) f = f a + S l f := rfl
theorem S_nil {α : Type} (f : α → Rat) : S [] f = 0 := rfl
theorem S_app {α : Type} (l m : List α) (f : α → Rat) : S (l ++ m) f = S l f + S m f := by
  unfold S
  rw [List.map_append, sumR_app]
theorem S_congr {α : Type} {f g : α → Rat} : ∀ {l : List α}, (∀ n ∈ l, f n = g n) → S l f = S l g
  | [], _ => rfl
  | a :: l, h => by
    rw [S_cons, S_cons, h a (by simp), S_congr fun n hn => h n (by simp [hn])]
theorem S_le {α : Type} {f g : α → Rat} : ∀ {l : List α}, (∀ n ∈ l, f n ≤ g n) → S l f ≤ S l g
  | [], _ => Rat.le_refl
  | a :: l, h => by
    have h1 := h a (by simp)
    have h2 := S_le (f := f) (g := g) (l := l) fun n hn => h n (by simp [hn])
    rw [S_cons, S_cons]
    grind
theorem S_nonneg {α : Type} {f : α → Rat} {l : List α} (h : ∀ n ∈ l, 0 ≤ f n) : 0 ≤ S l f := by
  induction l with
  | nil => exact Rat.le_refl
  | cons a l ih =>
    have h1 := h a (by simp)
    have h2 := ih fun n hn => h n (by simp [hn])
    rw [S_cons]
    grind
theorem S_filter {α : Type} (p : α → Bool) (f : α → Rat) : ∀ (l : List α), S (l.filter p) f = S l fun n => if p n = true then f n else 0
  | [] => rfl
  | a :: l => by
    rw [S_cons]
    by_cases h : p a = true
    · rw [List.filter_cons_of_pos h, S_cons, if_pos h, S_filter p f l]
    · rw [List.filter_cons_of_neg h, if_neg h, S_filter p f l, Rat.zero_add]
theorem S_upd {α : Type} [DecidableEq α] {g g' : α → Rat} {i : α} : ∀ {l : List α}, l.Nodup → i ∈ l → (∀ n ∈ l, n ≠ i → g' n = g n) → S l g' = S l g - g i + g' i
  | [], _, h, _ => by simp at h
  | a :: l, hn, hi, h => by
    rw [List.nodup_cons] at hn
    rw [S_cons, S_cons]
    by_cases e : a = i
    · subst e
      rw [S_congr (f := g') (g := g) fun n hnl => h n (by simp [hnl]) fun z => hn.1 (z ▸ hnl)]
      grind
    · have hi' : i ∈ l := by
        rcases List.mem_cons.mp hi with z | z
        · exact absurd z.symm e
        · exact z
      rw [S_upd hn.2 hi' fun n hnl => h n (by simp [hnl]), h a (by simp) e]
      grind
theorem S_one {α : Type} : ∀ (l : List α), S l (fun _ => 1) = (l.length : Rat)
  | [] => rfl
  | a :: l => by
    rw [S_cons, S_one l, List.length_cons]
    have : ((l.length + 1 : Nat) : Rat) = (l.length : Rat) + 1 := by simp [Rat.natCast_add]
    rw [this]
    grind
/-- one out, one in -/
def swapP (p : Int → Bool) (i j : Int) : Int → Bool := fun n => if n = i then false else if n = j then true else p n
theorem S_swap {p : Int → Bool} {i j : Int} {N : List Int} (f : Int → Rat) (hN : N.Nodup) (hi : i ∈ N) (hj : j ∈ N) (pi : p i = true) (pj : p j = false) : S (N.filter (swapP p i j)) f = S (N.filter p) f - f i + f j := by
  have hij : i ≠ j := fun e => by rw [e, pj] at pi; cases pi
  rw [S_filter, S_filter]
  rw [S_upd (g := fun n => if n = j then f j else if p n = true then f n else 0) (i := i) hN hi, S_upd (g := fun n => if p n = true then f n else 0) (g' := fun n => if n = j then f j else if p n = true then f n else 0) (i := j) hN hj]
  · simp only [swapP, if_pos rfl, if_neg hij, pi, pj]
    grind
  · intro n hn hne
    simp only [if_neg hne]
  · intro n hn hne
    simp only [swapP, if_neg hne]
    by_cases e : n = j
    · simp [e]
    · simp [e]
theorem len_swap {p : Int → Bool} {i j : Int} {N : List Int} (hN : N.Nodup) (hi : i ∈ N) (hj : j ∈ N) (pi : p i = true) (pj : p j = false) : (N.filter (swapP p i j)).length = (N.filter p).length := by
  have := S_swap (fun _ => 1) hN hi hj pi pj
  rw [S_one, S_one] at this
  have e : ((N.filter (swapP p i j)).length : Rat) = ((N.filter p).length : Rat) := by grind
  exact Rat.natCast_inj.mp e
theorem len_not (p : Int → Bool) : ∀ (N : List Int), (N.filter p).length + (N.filter fun n => !p n).length = N.length
  | [] => rfl
  | a :: l => by
    have := len_not p l
    by_cases h : p a = true
    · rw [List.filter_cons_of_pos h, List.filter_cons_of_neg (by simp [h]), List.length_cons, List.length_cons]
      omega
    · rw [List.filter_cons_of_neg h, List.filter_cons_of_pos (by simpa using h), List.length_cons, List.length_cons]
      omega
def lways : List Int → Nat → List (List Int)
  | _, 0 => [[]]
  | [], _ + 1 => []
  | n :: r, k + 1 => (lways r k).map (n :: ·) ++ lways r (k + 1)
theorem lways_iff : ∀ {N : List Int} {k : Nat} {l : List Int}, l ∈ lways N k ↔ l.Sublist N ∧ l.length = k
  | N, 0, l => by
    cases N <;> simp [lways] <;> (rintro rfl; simp)
  | [], k + 1, l => by
    simp only [lways, List.not_mem_nil, false_iff]
    rintro ⟨h1, h2⟩
    rw [List.sublist_nil] at h1
    subst h1
    simp at h2
  | n :: r, k + 1, l => by
    simp only [lways, List.mem_append, List.mem_map, lways_iff (N := r)]
    constructor
    · rintro (⟨a, ⟨h1, h2⟩, rfl⟩ | ⟨h1, h2⟩)
      · exact ⟨h1.cons_cons n, by simp [h2]⟩
      · exact ⟨h1.cons n, h2⟩
    · rintro ⟨h1, h2⟩
      cases h1 with
      | cons _ h => exact .inr ⟨h, h2⟩
      | cons_cons _ h => exact .inl ⟨_, ⟨h, by simpa using h2⟩, rfl⟩
theorem lways_len : ∀ {N : List Int} {k : Nat}, (lways N k).length ≤ 2 ^ N.length
  | N, 0 => by cases N <;> simp [lways, Nat.one_le_two_pow]
  | [], k + 1 => by simp [lways]
  | n :: r, k + 1 => by
    have h1 := lways_len (N := r) (k := k)
    have h2 := lways_len (N := r) (k := k + 1)
    simp only [lways, List.length_append, List.length_map, List.length_cons, Nat.pow_succ]
    omega
def lastI : List Int → Int
  | [] => 0
  | [a] => a
  | _ :: b :: l => lastI (b :: l)
theorem last_mem : ∀ {l : List Int}, l ≠ [] → lastI l ∈ l
  | [], h => absurd rfl h
  | [a], _ => by simp [lastI]
  | a :: b :: l, _ => by
    have := last_mem (l := b :: l) (by simp)
    exact List.mem_cons_of_mem _ this
/-- the ways a step longer -/
def ext1 (N : List Int) (w : List Int) : List (List Int) := (N.filter fun n => decide (w = [] ∨ lastI w < n)).map fun n => w ++ [n]
theorem flatMap_map' {α β γ : Type} (f : α → β) (g : β → List γ) (l : List α) : (l.map f).flatMap g = l.flatMap fun a => g (f a) := by
  induction l with
  | nil => rfl
  | cons a l ih => rw [List.map_cons, List.flatMap_cons, List.flatMap_cons, ih]
theorem flatMap_congr' {α β : Type} {f g : α → List β} {l : List α} (h : ∀ a ∈ l, f a = g a) : l.flatMap f = l.flatMap g := by
  induction l with
  | nil => rfl
  | cons a l ih => rw [List.flatMap_cons, List.flatMap_cons, h a (by simp), ih fun b hb => h b (by simp [hb])]
theorem map_flatMap' {α β γ : Type} (f : α → List β) (g : β → γ) (l : List α) : (l.flatMap f).map g = l.flatMap fun a => (f a).map g := by
  induction l with
  | nil => rfl
  | cons a l ih => rw [List.flatMap_cons, List.flatMap_cons, List.map_append, ih]
theorem lways_succ : ∀ {N : List Int} {k : Nat}, N.Pairwise (· < ·) → lways N (k + 1) = (lways N k).flatMap (ext1 N)
  | [], 0, _ => by simp [lways, ext1]
  | [], k + 1, _ => by simp [lways]
  | n :: r, 0, h => by
    rw [List.pairwise_cons] at h
    have ih := lways_succ (N := r) (k := 0) h.2
    show (lways r 0).map (n :: ·) ++ lways r 1 = _
    rw [ih]
    have e : ∀ N : List Int, lways N 0 = [[]] := fun N => by cases N <;> rfl
    rw [e, e]
    simp [ext1]
  | n :: r, k + 1, h => by
    rw [List.pairwise_cons] at h
    have i1 := lways_succ (N := r) (k := k) h.2
    have i2 := lways_succ (N := r) (k := k + 1) h.2
    show (lways r (k + 1)).map (n :: ·) ++ lways r (k + 2) = ((lways r k).map (n :: ·) ++ lways r (k + 1)).flatMap (ext1 (n :: r))
    rw [List.flatMap_append, flatMap_map']
    congr 1
    · rw [i1, map_flatMap']
      refine flatMap_congr' fun w hw => ?_
      have hs := (lways_iff.mp hw).1
      unfold ext1
      rw [List.map_map]
      by_cases e : w = []
      · subst e
        rw [List.filter_cons_of_neg (by simp [lastI])]
        rw [List.filter_eq_self.mpr (by simp), List.filter_eq_self.mpr (fun a ha => by simpa [lastI] using h.1 a ha)]
        rfl
      · have hl : n < lastI w := h.1 _ (hs.subset (last_mem e))
        have e2 : lastI (n :: w) = lastI w := by
          cases w with
          | nil => exact absurd rfl e
          | cons a w => rfl
        rw [List.filter_cons_of_neg (by rw [e2]; simp; omega)]
        have e3 : (r.filter fun m => decide (n :: w = [] ∨ lastI (n :: w) < m)) = r.filter fun m => decide (w = [] ∨ lastI w < m) := by
          rw [e2]
          simp [e]
        rw [e3]
        rfl
    · rw [i2]
      refine flatMap_congr' fun w hw => ?_
      have hs := lways_iff.mp hw
      have e : w ≠ [] := fun z => by rw [z] at hs; simp at hs
      have hl : n < lastI w := h.1 _ (hs.1.subset (last_mem e))
      unfold ext1
      rw [List.filter_cons_of_neg (by simp [e]; omega)]
def stepB (f : List Int → Rat) (s : List Int × Option Rat) (w : List Int) : List Int × Option Rat := match s.2 with
  | none => (w, some (f w))
  | some x => if x < f w then (w, some (f w)) else s
def best (f : List Int → Rat) (ws : List (List Int)) : List Int × Option Rat := ws.foldl (stepB f) ([], none)
def IsBest (f : List Int → Rat) (pre : List (List Int)) (s : List Int × Option Rat) : Prop := (pre = [] ∧ s = ([], none)) ∨ (s.1 ∈ pre ∧ s.2 = some (f s.1) ∧ ∀ w ∈ pre, f w ≤ f s.1)
theorem best_inv {f : List Int → Rat} : ∀ (ws pre : List (List Int)) (s : List Int × Option Rat), IsBest f pre s → IsBest f (pre ++ ws) (ws.foldl (stepB f) s)
  | [], pre, s, h => by rw [List.append_nil]; exact h
  | w :: ws, pre, s, h => by
    rw [List.append_cons, List.foldl_cons]
    refine best_inv ws _ _ ?_
    right
    rcases h with ⟨rfl, rfl⟩ | ⟨h1, h2, h3⟩
    · simp [stepB, Rat.le_refl]
    · unfold stepB
      rw [h2]
      by_cases c : f s.1 < f w
      · simp only [c, if_true]
        refine ⟨by simp, trivial, fun v hv => ?_⟩
        rcases List.mem_append.mp hv with z | z
        · have := h3 v z
          grind
        · simp only [List.mem_singleton] at z
          rw [z]
          exact Rat.le_refl
      · simp only [c, if_false]
        refine ⟨by simp [h1], h2, fun v hv => ?_⟩
        rcases List.mem_append.mp hv with z | z
        · exact h3 v z
        · simp only [List.mem_singleton] at z
          rw [z]
          exact Rat.not_lt.mp c
theorem best_of {f : List Int → Rat} {ws : List (List Int)} (h : ws ≠ []) : (best f ws).1 ∈ ws ∧ (best f ws).2 = some (f (best f ws).1) ∧ ∀ w ∈ ws, f w ≤ f (best f ws).1 := by
  have := best_inv (f := f) ws [] ([], none) (.inl ⟨rfl, rfl⟩)
  rcases this with ⟨h1, _⟩ | h1
  · exact absurd h1 h
  · exact h1
def Szk (n : Nat) (r : Rat) : Prop := r.num.natAbs < 2 ^ n ∧ r.den < 2 ^ n
theorem Szk.mono {n m : Nat} {r : Rat} (h : Szk n r) (e : n ≤ m) : Szk m r := ⟨Nat.lt_of_lt_of_le h.1 (Nat.pow_le_pow_right (by decide) e), Nat.lt_of_lt_of_le h.2 (Nat.pow_le_pow_right (by decide) e)⟩
theorem Szk.sz {n : Nat} {r : Rat} (h : Szk n r) (e : n ≤ 4000) : Sz r := (h.mono e)
theorem Szk.fr {n : Nat} {t b : Int} (hb : 0 < b) (h1 : t.natAbs < 2 ^ n) (h2 : b.natAbs < 2 ^ n) : Szk n (Rat.divInt t b) := by
  constructor
  · rw [num_fr hb]
    exact Nat.lt_of_le_of_lt (natAbs_ediv_le _ _) h1
  · have := den_fr (t := t) hb
    have h3 : ((Rat.divInt t b).den : Int).natAbs ≤ b.natAbs := by rw [this]; exact natAbs_ediv_le _ _
    rw [Int.natAbs_natCast] at h3
    omega
theorem add_fr (r q : Rat) : r + q = Rat.divInt (r.num * (q.den : Int) + q.num * (r.den : Int)) ((r.den : Int) * (q.den : Int)) := by
  rw [← Rat.divInt_add_divInt _ _ (by have := r.den_pos; omega) (by have := q.den_pos; omega), Rat.num_divInt_den, Rat.num_divInt_den]
theorem mul_fr (r : Rat) (t b : Int) : r * Rat.divInt t b = Rat.divInt (r.num * t) ((r.den : Int) * b) := by
  rw [← Rat.divInt_mul_divInt, Rat.num_divInt_den]
theorem Szk.add {n m : Nat} {r q : Rat} (h1 : Szk n r) (h2 : Szk m q) : Szk (n + m + 1) (r + q) := by
  have e : 2 ^ (n + m + 1) = 2 ^ n * 2 ^ m + 2 ^ n * 2 ^ m := by rw [Nat.pow_succ, Nat.pow_add]; omega
  have a1 := Nat.mul_lt_mul'' h1.1 h2.2
  have a2 := Nat.mul_lt_mul'' h1.2 h2.1
  have a3 := Nat.mul_lt_mul'' h1.2 h2.2
  have d1 := r.den_pos
  have d2 := q.den_pos
  have d3 : 0 < (r.den : Int) * (q.den : Int) := Int.mul_pos (by omega) (by omega)
  rw [add_fr]
  refine Szk.fr d3 ?_ ?_
  · have := Int.natAbs_add_le (r.num * (q.den : Int)) (q.num * (r.den : Int))
    rw [Int.natAbs_mul, Int.natAbs_mul, Int.natAbs_natCast, Int.natAbs_natCast] at this
    rw [Nat.mul_comm q.num.natAbs] at this
    omega
  · rw [Int.natAbs_mul, Int.natAbs_natCast, Int.natAbs_natCast]
    omega
theorem Szk.mulI {n m : Nat} {r : Rat} {t b : Int} (h1 : Szk n r) (hb : 0 < b) (ht : t.natAbs < 2 ^ m) (hb2 : b.natAbs < 2 ^ m) : Szk (n + m) (r * Rat.divInt t b) := by
  have a1 := Nat.mul_lt_mul'' h1.1 ht
  have a2 := Nat.mul_lt_mul'' h1.2 hb2
  have d1 := r.den_pos
  rw [mul_fr]
  refine Szk.fr (Int.mul_pos (by omega) hb) ?_ ?_
  · rw [Int.natAbs_mul, Nat.pow_add]; exact a1
  · rw [Int.natAbs_mul, Int.natAbs_natCast, Nat.pow_add]; exact a2
theorem szk_zero {n : Nat} (h : 1 ≤ n) : Szk n 0 := by
  have : 2 ^ 1 ≤ 2 ^ n := Nat.pow_le_pow_right (by decide) h
  exact ⟨by show 0 < _; omega, by show 1 < _; omega⟩
theorem szk_sum {k : Nat} : ∀ {l : List Rat}, (∀ x ∈ l, Szk k x) → Szk ((k + 1) * l.length + 1) (sumR l)
  | [], _ => szk_zero (by omega)
  | x :: l, h => by
    have h1 := h x (by simp)
    have h2 := szk_sum (l := l) fun y hy => h y (by simp [hy])
    refine (h1.add h2).mono ?_
    rw [List.length_cons, Nat.mul_succ]
    omega
theorem fr_div (a : Int) {b c : Int} (hb : b ≠ 0) (hc : c ≠ 0) : Rat.divInt a (b * c) = Rat.divInt a b / (c : Rat) := by
  rw [Rat.divInt_eq_div, Rat.divInt_eq_div, Rat.intCast_mul]
  grind
theorem self_div (r : Rat) {c : Int} (hc : c ≠ 0) : Rat.divInt r.num ((r.den : Int) * c) = r / (c : Rat) := by
  rw [fr_div _ (by have := r.den_pos; omega) hc, Rat.num_divInt_den]
theorem Szk.over {n m : Nat} {r : Rat} {c : Int} (h1 : Szk n r) (hc : 0 < c) (h : c.natAbs < 2 ^ m) : Szk (n + m) (r / (c : Rat)) := by
  rw [← self_div r (by omega)]
  have d1 := r.den_pos
  have a2 := Nat.mul_lt_mul'' h1.2 h
  refine Szk.fr (Int.mul_pos (by omega) hc) ?_ ?_
  · exact Nat.lt_of_lt_of_le h1.1 (Nat.pow_le_pow_right (by decide) (by omega))
  · rw [Int.natAbs_mul, Int.natAbs_natCast, Nat.pow_add]; exact a2
theorem castpos {b : Int} (hb : 0 < b) : (0 : Rat) < (b : Rat) := by
  have : ((0 : Int) : Rat) < (b : Rat) := Rat.intCast_lt_intCast.mpr hb
  simpa using this
theorem castnn {b : Int} (hb : 0 ≤ b) : (0 : Rat) ≤ (b : Rat) := by
  have : ((0 : Int) : Rat) ≤ (b : Rat) := Rat.intCast_le_intCast.mpr hb
  simpa using this
theorem fr_lt' {a b c d : Int} (hb : 0 < b) (hd : 0 < d) : (Rat.divInt a b < Rat.divInt c d) ↔ a * d < c * b := by
  rw [Rat.divInt_eq_div, Rat.divInt_eq_div]
  rw [Rat.div_lt_iff (castpos hb), Rat.div_def, Rat.mul_assoc, Rat.mul_comm (d : Rat)⁻¹, ← Rat.mul_assoc, ← Rat.div_def, Rat.lt_div_iff (castpos hd), ← Rat.intCast_mul, ← Rat.intCast_mul, Rat.intCast_lt_intCast]
instance : Inhabited Task := ⟨⟨0, 0, 0, []⟩⟩
structure Part where
  w : Int
  worst : Int
  top : Int
  tasks : List Task
  extras : List Int
def Part.d (P : Part) : D := .tuple [.int P.w, .int P.worst, .int P.top, .tuple (P.tasks.map Task.d), .tuple (P.extras.map PyData.int)]
structure Part.Ok (P : Part) : Prop where
  w1 : 1 ≤ P.w
  w2 : P.w ≤ 1000
  o1 : 0 ≤ P.worst
  o2 : P.worst ≤ 3
  t1 : 0 ≤ P.top
  t2 : P.top ≤ 1000
  n : P.tasks.length ≤ 9
  tk : ∀ t ∈ P.tasks, t.Ok
  ne : P.extras.length ≤ 13
  ex : ∀ x ∈ P.extras, 0 ≤ x ∧ x ≤ 1000
def Part.at (P : Part) (n : Int) : Task := P.tasks.getD n.toNat default
def rangeI (n : Nat) : List Int := (List.range n).map fun (i : Nat) => (i : Int)
def Part.isDone (P : Part) (n : Int) : Bool := decide ((P.at n).tries ≠ [])
def Part.marked (P : Part) : List Int := (rangeI P.tasks.length).filter P.isDone
def Task.pts (t : Task) : Int := maxL t.gives
def Task.term (t : Task) : Rat := Rat.divInt (t.w * t.pts) t.m
def Part.tsum (P : Part) (l : List Int) : Rat := S l fun n => (P.at n).term
def Part.wsum (P : Part) (l : List Int) : Int := sumI (l.map fun n => (P.at n).w)
def Part.mean (P : Part) (l : List Int) : Rat := P.tsum l / (P.wsum l : Rat)
def Part.many (P : Part) : Nat := min P.worst.toNat (P.marked.length - 1)
def Part.kept (P : Part) (W : List Int) : List Int := P.marked.filter fun n => !decide (n ∈ W)
def Part.left (P : Part) : List Int := (best (fun W => P.mean (P.kept W)) (lways P.marked P.many)).1
def Part.ext (P : Part) : Rat := Rat.divInt (min P.top P.extras.sum) 1000
def Part.share (P : Part) : Option Rat := if P.kept P.left = [] then none else some (let f := P.mean (P.kept P.left) + P.ext; if 1 < f then 1 else f)
def optS : Option Rat → D
  | none => .none
  | some r => shD r
theorem rangeI_inc (n : Nat) : (rangeI n).Pairwise (· < ·) := by
  unfold rangeI
  rw [List.pairwise_map]
  exact List.pairwise_lt_range.imp fun h => by omega
theorem rangeI_mem {n : Nat} {i : Int} : i ∈ rangeI n ↔ 0 ≤ i ∧ i < (n : Int) := by
  unfold rangeI
  rw [List.mem_map]
  constructor
  · rintro ⟨k, hk, rfl⟩
    rw [List.mem_range] at hk
    omega
  · rintro ⟨h1, h2⟩
    exact ⟨i.toNat, List.mem_range.mpr (by omega), by omega⟩
theorem inc_nodup {l : List Int} (h : l.Pairwise (· < ·)) : l.Nodup := h.imp fun h => by omega
theorem marked_inc (P : Part) : P.marked.Pairwise (· < ·) := (rangeI_inc _).filter _
theorem marked_mem {P : Part} {i : Int} : i ∈ P.marked ↔ (0 ≤ i ∧ i < (P.tasks.length : Int)) ∧ (P.at i).tries ≠ [] := by
  unfold Part.marked
  rw [List.mem_filter, rangeI_mem]
  unfold Part.isDone
  rw [decide_eq_true_iff]
theorem marked_len (P : Part) : P.marked.length ≤ P.tasks.length := by
  refine Nat.le_trans (List.length_filter_le _ _) ?_
  unfold rangeI
  rw [List.length_map, List.length_range]
  exact Nat.le_refl _
theorem at_mem {P : Part} {i : Int} (h0 : 0 ≤ i) (h1 : i < (P.tasks.length : Int)) : P.at i ∈ P.tasks := by
  unfold Part.at
  have hj : i.toNat < P.tasks.length := by omega
  rw [List.getD_eq_getElem?_getD, List.getElem?_eq_getElem hj]
  exact List.getElem_mem hj
theorem at_get {P : Part} {i : Int} (h0 : 0 ≤ i) (h1 : i < (P.tasks.length : Int)) : P.tasks[i.toNat]? = some (P.at i) := by
  unfold Part.at
  have hj : i.toNat < P.tasks.length := by omega
  rw [List.getD_eq_getElem?_getD, List.getElem?_eq_getElem hj]
  rfl
theorem at_atI {P : Part} {i : Int} (h0 : 0 ≤ i) (h1 : i < (P.tasks.length : Int)) : atI (P.tasks.map Task.d) i = some (P.at i).d := by
  have := at_get h0 h1
  obtain ⟨j, rfl⟩ := Int.eq_ofNat_of_zero_le h0
  refine atI_nat ?_
  rw [List.getElem?_map]
  rw [Int.toNat_natCast] at this
  rw [this]
  rfl
theorem Part.Ok.at {P : Part} (h : P.Ok) {i : Int} (hi : i ∈ P.marked) : (P.at i).Ok ∧ (P.at i).tries ≠ [] := ⟨h.tk _ (at_mem (marked_mem.mp hi).1.1 (marked_mem.mp hi).1.2), (marked_mem.mp hi).2⟩
theorem gives_ne {t : Task} (h : t.tries ≠ []) : t.gives ≠ [] := fun e => h (gives_nil.mp e)
theorem Task.Ok.gives {t : Task} (h : t.Ok) : ∀ x ∈ t.gives, 0 ≤ x ∧ x ≤ t.m := by
  intro x hx
  unfold Task.gives at hx
  have tr := h.tr
  cases e : t.tries with
  | nil => rw [e] at hx; simp at hx
  | cons p r =>
    rw [e] at hx tr
    rcases List.mem_cons.mp hx with rfl | hx
    · exact tr _ (by simp)
    · obtain ⟨y, hy, rfl⟩ := List.mem_map.mp hx
      have := tr y (by simp [hy])
      have := h.c1
      have := h.c2
      unfold capd
      split <;> omega
theorem Task.Ok.pts {t : Task} (h : t.Ok) (hn : t.tries ≠ []) : 0 ≤ t.pts ∧ t.pts ≤ t.m := h.gives _ (maxL_mem (gives_ne hn))
theorem mark_pts {t : Task} (h : t.tries ≠ []) : t.mark = some t.pts := by
  unfold Task.mark
  rw [if_neg (gives_ne h)]
  rfl
theorem mark_none {t : Task} : t.mark = none ↔ t.tries = [] := by
  unfold Task.mark
  rw [← gives_nil]
  split <;> simp [*]
theorem Task.Ok.prod {t : Task} (h : t.Ok) (hn : t.tries ≠ []) : 0 ≤ t.w * t.pts ∧ t.w * t.pts ≤ 1000000000 := by
  have a := h.pts hn
  have b := h.w1
  have c := h.w2
  have d := h.m2
  constructor
  · exact Int.mul_nonneg (by omega) a.1
  · have := Int.mul_le_mul_of_nonneg_right c a.1
    omega
theorem Task.Ok.term_sz {t : Task} (h : t.Ok) (hn : t.tries ≠ []) : Szk 30 t.term := by
  have a := h.prod hn
  have b := h.m1
  have c := h.m2
  refine Szk.fr (by omega) ?_ ?_
  · have : (2:Nat) ^ 30 = 1073741824 := by decide
    omega
  · have : (2:Nat) ^ 30 = 1073741824 := by decide
    omega
theorem Task.Ok.term_eq {t : Task} (h : t.Ok) : t.term * (t.m : Rat) = (t.w : Rat) * (t.pts : Rat) := by
  unfold Task.term
  have := castpos (show 0 < t.m from h.m1)
  rw [Rat.divInt_eq_div, Rat.intCast_mul, Rat.div_mul_cancel (by grind)]
theorem Task.Ok.term_bd {t : Task} (h : t.Ok) (hn : t.tries ≠ []) : 0 ≤ t.term ∧ t.term ≤ (t.w : Rat) := by
  have e := h.term_eq
  have m := castpos (show 0 < t.m from h.m1)
  have p := h.pts hn
  have w := castpos (show 0 < t.w from h.w1)
  have p0 := castnn p.1
  have p1 : (t.pts : Rat) ≤ (t.m : Rat) := Rat.intCast_le_intCast.mpr p.2
  constructor
  · refine Rat.le_of_mul_le_mul_right (c := (t.m : Rat)) ?_ m
    rw [e, Rat.zero_mul]
    exact Rat.mul_nonneg (by grind) p0
  · refine Rat.le_of_mul_le_mul_right (c := (t.m : Rat)) ?_ m
    rw [e]
    exact Rat.mul_le_mul_of_nonneg_left p1 (by grind)
theorem tsum_sz {P : Part} (h : P.Ok) {l : List Int} (hl : ∀ n ∈ l, n ∈ P.marked) : Szk (31 * l.length + 1) (P.tsum l) := by
  have := szk_sum (k := 30) (l := l.map fun n => (P.at n).term) fun x hx => by
    obtain ⟨n, hn, rfl⟩ := List.mem_map.mp hx
    have := h.at (hl n hn)
    exact this.1.term_sz this.2
  rw [List.length_map] at this
  exact this
theorem wsum_bd {P : Part} (h : P.Ok) : ∀ {l : List Int}, (∀ n ∈ l, n ∈ P.marked) → (l.length : Int) ≤ P.wsum l ∧ P.wsum l ≤ 1000 * (l.length : Int)
  | [], _ => by simp [Part.wsum, sumI]
  | a :: l, hl => by
    have h1 := (h.at (hl a (by simp))).1
    have h2 := wsum_bd h (l := l) fun n hn => hl n (by simp [hn])
    have := h1.w1
    have := h1.w2
    have e : P.wsum (a :: l) = (P.at a).w + P.wsum l := rfl
    rw [e, List.length_cons]
    omega
theorem wsum_S {P : Part} : ∀ {l : List Int}, (P.wsum l : Rat) = S l fun n => ((P.at n).w : Rat)
  | [] => rfl
  | a :: l => by
    have e : P.wsum (a :: l) = (P.at a).w + P.wsum l := rfl
    rw [S_cons, ← wsum_S, e, Rat.intCast_add]
theorem wsum_pos {P : Part} (h : P.Ok) {l : List Int} (hl : ∀ n ∈ l, n ∈ P.marked) (h0 : l ≠ []) : 0 < P.wsum l := by
  have := wsum_bd h hl
  have : 0 < l.length := List.length_pos_iff.mpr h0
  omega
theorem mean_sz {P : Part} (h : P.Ok) {l : List Int} (hl : ∀ n ∈ l, n ∈ P.marked) (h0 : l ≠ []) (h9 : l.length ≤ 9) : Szk 300 (P.mean l) := by
  have a := tsum_sz h hl
  have b := wsum_bd h hl
  have c := wsum_pos h hl h0
  refine (a.over (c := P.wsum l) (m := 14) c ?_).mono (by omega)
  have : (2:Nat) ^ 14 = 16384 := by decide
  omega
theorem mean_mul {P : Part} (h : P.Ok) {l : List Int} (hl : ∀ n ∈ l, n ∈ P.marked) (h0 : l ≠ []) : P.mean l * (P.wsum l : Rat) = P.tsum l := by
  have := castpos (wsum_pos h hl h0)
  exact Rat.div_mul_cancel (by grind)
theorem mean_bd {P : Part} (h : P.Ok) {l : List Int} (hl : ∀ n ∈ l, n ∈ P.marked) (h0 : l ≠ []) : 0 ≤ P.mean l ∧ P.mean l ≤ 1 := by
  have w := castpos (wsum_pos h hl h0)
  have e := mean_mul h hl h0
  have a : 0 ≤ P.tsum l := S_nonneg fun n hn => ((h.at (hl n hn)).1.term_bd (h.at (hl n hn)).2).1
  have b : P.tsum l ≤ (P.wsum l : Rat) := by
    rw [wsum_S]
    exact S_le fun n hn => ((h.at (hl n hn)).1.term_bd (h.at (hl n hn)).2).2
  constructor
  · refine Rat.le_of_mul_le_mul_right (c := (P.wsum l : Rat)) ?_ w
    rw [e, Rat.zero_mul]
    exact a
  · refine Rat.le_of_mul_le_mul_right (c := (P.wsum l : Rat)) ?_ w
    rw [e, Rat.one_mul]
    exact b
end GW

namespace GW
open PySem PySem.Spec PyProof.Rows L2
variable {K : PySem.W.Frag}
theorem many_le (P : Part) : P.many ≤ P.marked.length - 1 := Nat.min_le_right _ _
theorem ways_ne (P : Part) : lways P.marked P.many ≠ [] := by
  intro e
  have : P.marked.take P.many ∈ lways P.marked P.many := lways_iff.mpr ⟨List.take_sublist _ _, by rw [List.length_take]; have := many_le P; omega⟩
  rw [e] at this
  simp at this
theorem left_best (P : Part) : P.left ∈ lways P.marked P.many ∧ ∀ w ∈ lways P.marked P.many, P.mean (P.kept w) ≤ P.mean (P.kept P.left) := by
  have := best_of (f := fun W => P.mean (P.kept W)) (ways_ne P)
  exact ⟨this.1, this.2.2⟩
theorem way_mem {P : Part} {w : List Int} (h : w ∈ lways P.marked P.many) : ∀ n ∈ w, n ∈ P.marked := fun n hn => (lways_iff.mp h).1.subset hn
theorem way_inc {P : Part} {w : List Int} (h : w ∈ lways P.marked P.many) : w.Pairwise (· < ·) := (marked_inc P).sublist (lways_iff.mp h).1
theorem kept_mem {P : Part} {w : List Int} : ∀ n ∈ P.kept w, n ∈ P.marked := fun n hn => (List.mem_filter.mp hn).1
theorem kept_len {P : Part} {w : List Int} : (P.kept w).length ≤ P.marked.length := List.length_filter_le _ _
theorem filter_in {N w : List Int} (h : N.Pairwise (· < ·)) (hs : w.Sublist N) : N.filter (fun n => decide (n ∈ w)) = w := by
  refine inc_uniq (h.filter _) (h.sublist hs) fun k => ?_
  rw [List.mem_filter, decide_eq_true_iff]
  exact ⟨fun z => z.2, fun z => ⟨hs.subset z, z⟩⟩
theorem kept_count {P : Part} {w : List Int} (h : w ∈ lways P.marked P.many) : (P.kept w).length = P.marked.length - P.many := by
  have := len_not (fun n => decide (n ∈ w)) P.marked
  rw [filter_in (marked_inc P) (lways_iff.mp h).1, (lways_iff.mp h).2] at this
  unfold Part.kept
  omega
theorem kept_ne {P : Part} {w : List Int} (h : w ∈ lways P.marked P.many) (hm : P.marked ≠ []) : P.kept w ≠ [] := by
  intro e
  have := kept_count h
  have a := many_le P
  have : 0 < P.marked.length := List.length_pos_iff.mpr hm
  rw [e, List.length_nil] at *
  omega
/-- no task left out is worth more than a kept one -/
theorem exchange {P : Part} (h : P.Ok) {i j : Int} (hi : i ∈ P.kept P.left) (hj : j ∈ P.left) :
    (P.at j).term - (P.at j).w * P.mean (P.kept P.left) ≤ (P.at i).term - (P.at i).w * P.mean (P.kept P.left) := by
  obtain ⟨hb, hmax⟩ := left_best P
  have hN := marked_inc P
  have hn := inc_nodup hN
  have hjm := way_mem hb j hj
  have him := kept_mem i hi
  let p : Int → Bool := fun n => !decide (n ∈ P.left)
  have pi : p i = true := (List.mem_filter.mp hi).2
  have pj : p j = false := by simp [p, hj]
  let w' := P.marked.filter fun n => !swapP p i j n
  have hk : P.kept P.left = P.marked.filter p := rfl
  have hk' : P.kept w' = P.marked.filter (swapP p i j) := by
    unfold Part.kept
    refine List.filter_congr fun n hnm => ?_
    cases e : swapP p i j n with
    | true =>
      have : n ∉ w' := fun z => by have := (List.mem_filter.mp z).2; rw [e] at this; cases this
      simp [this]
    | false =>
      have : n ∈ w' := List.mem_filter.mpr ⟨hnm, by rw [e]; rfl⟩
      simp [this]
  have hl1 := len_swap hn him hjm pi pj
  have hw' : w' ∈ lways P.marked P.many := by
    refine lways_iff.mpr ⟨List.filter_sublist, ?_⟩
    have a := len_not (swapP p i j) P.marked
    have b := kept_count hb
    have c := many_le P
    have d : 0 < P.marked.length := List.length_pos_of_mem him
    rw [hk] at b
    show (P.marked.filter fun n => !swapP p i j n).length = _
    omega
  have hm := hmax w' hw'
  have k0 : P.marked ≠ [] := List.ne_nil_of_mem him
  have e1 := mean_mul h (kept_mem (w := P.left)) (kept_ne hb k0)
  have e2 := mean_mul h (kept_mem (w := w')) (kept_ne hw' k0)
  have p2 := castpos (wsum_pos h (kept_mem (w := w')) (kept_ne hw' k0))
  have s1 : P.tsum (P.kept w') = P.tsum (P.kept P.left) - (P.at i).term + (P.at j).term := by
    rw [hk', hk]
    exact S_swap _ hn him hjm pi pj
  have s2 : (P.wsum (P.kept w') : Rat) = (P.wsum (P.kept P.left) : Rat) - ((P.at i).w : Rat) + ((P.at j).w : Rat) := by
    rw [wsum_S, wsum_S, hk', hk]
    exact S_swap _ hn him hjm pi pj
  have e3 := Rat.mul_le_mul_of_nonneg_right hm (Rat.le_of_lt p2)
  rw [e2, s1, s2, ← e1] at e3
  grind
/-- what the law compares -/
theorem worth_le {t u : Task} {L : Rat} (ht : t.Ok) (hu : u.Ok) (h : u.term - u.w * L ≤ t.term - t.w * L) :
    ¬ (t.w * (t.pts * (L.den : Int) - L.num * t.m)) * u.m < (u.w * (u.pts * (L.den : Int) - L.num * u.m)) * t.m := by
  have a := ht.term_eq
  have b := hu.term_eq
  have c := castpos (show 0 < t.m from ht.m1)
  have d := castpos (show 0 < u.m from hu.m1)
  have e : (0 : Rat) < ((L.den : Int) : Rat) := castpos (by have := L.den_pos; omega)
  have f : L * ((L.den : Int) : Rat) = (L.num : Rat) := by
    have : L = Rat.divInt L.num (L.den : Int) := (Rat.num_divInt_den L).symm
    rw [Rat.divInt_eq_div] at this
    rw [show L * ((L.den : Int) : Rat) = (L.num : Rat) / ((L.den : Int) : Rat) * ((L.den : Int) : Rat) by rw [← this]]
    exact Rat.div_mul_cancel (by grind)
  intro hlt
  have h2 := Rat.intCast_lt_intCast.mpr hlt
  simp only [Rat.intCast_mul, Rat.intCast_sub] at h2
  have m1 := Rat.mul_le_mul_of_nonneg_right h (Rat.le_of_lt (Rat.mul_pos (Rat.mul_pos c d) e))
  have e1 : (u.term - u.w * L) * ((t.m : Rat) * u.m * ((L.den : Int) : Rat)) = (u.w : Rat) * ((u.pts : Rat) * ((L.den : Int) : Rat) - L.num * u.m) * t.m := by
    rw [← f]
    grind
  have e2 : (t.term - t.w * L) * ((t.m : Rat) * u.m * ((L.den : Int) : Rat)) = (t.w : Rat) * ((t.pts : Rat) * ((L.den : Int) : Rat) - L.num * t.m) * u.m := by
    rw [← f]
    grind
  rw [e1, e2] at m1
  grind
/-- the mean doesn't ask for the order -/
theorem sumR_rev : ∀ (l : List Rat), sumR l.reverse = sumR l
  | [] => rfl
  | a :: l => by
    rw [List.reverse_cons, sumR_app, sumR_rev l]
    show _ + (a + 0) = a + _
    grind
theorem sumI_rev : ∀ (l : List Int), sumI l.reverse = sumI l
  | [] => rfl
  | a :: l => by
    rw [List.reverse_cons, sumI_app, sumI_rev l]
    show _ + (a + 0) = a + _
    omega
theorem mean_rev (P : Part) (l : List Int) : P.mean l.reverse = P.mean l := by
  unfold Part.mean Part.tsum Part.wsum S
  rw [List.map_reverse, List.map_reverse, sumR_rev, sumI_rev]
def pMany (x : Int) : Int := pick [0, 0, 1, 1, 2, 3, 4, 12] (x % 8)
def pBase (x : Int) : Int := pick [1001, 30] (x / 8 % 2)
def pTop (x : Int) : Int := pick [0, 50, 1000, x / 4 % 1001] (x % 4)
def pTasks (xs : List Int) (n : Nat) : List Task := (List.range n).map fun k => taskBy ((xs.drop (20 + 16 * k)).take 16)
def pExtras (xs : List Int) (n : Nat) : List Int := (List.range n).map fun (k : Nat) => pick xs (5 + (k : Int)) % pBase (pick xs 4)
def partBy (c : Int) (k : Nat) : Part :=
  let xs := stream c (20 + 16 * k)
  { w := tWeight (pick xs 0), worst := pick xs 1 % 4, top := pTop (pick xs 2), tasks := pTasks xs (pick xs 3 % ((k : Int) + 1)).toNat, extras := pExtras xs (pMany (pick xs 4)).toNat }
theorem pMany_bd (x : Int) : 0 ≤ pMany x ∧ pMany x ≤ 12 := by
  unfold pMany
  have c := mod_bd x (show (0 : Int) < 8 by decide)
  refine pick_mem (P := fun z => 0 ≤ z ∧ z ≤ 12) (fun z hz => ?_) c.1 c.2
  simp only [List.mem_cons, List.not_mem_nil, or_false] at hz
  rcases hz with h | h | h | h | h | h | h | h <;> omega
theorem pBase_bd (x : Int) : 1 ≤ pBase x ∧ pBase x ≤ 1001 := by
  unfold pBase
  have c := mod_bd (x / 8) (show (0 : Int) < 2 by decide)
  refine pick_mem (P := fun z => 1 ≤ z ∧ z ≤ 1001) (fun z hz => ?_) c.1 c.2
  simp only [List.mem_cons, List.not_mem_nil, or_false] at hz
  rcases hz with h | h <;> omega
theorem pTop_bd (x : Int) : 0 ≤ pTop x ∧ pTop x ≤ 1000 := by
  unfold pTop
  have a := mod_bd (x / 4) (show (0 : Int) < 1001 by decide)
  have c := mod_bd x (show (0 : Int) < 4 by decide)
  refine pick_mem (P := fun z => 0 ≤ z ∧ z ≤ 1000) (fun z hz => ?_) c.1 c.2
  simp only [List.mem_cons, List.not_mem_nil, or_false] at hz
  rcases hz with h | h | h | h <;> omega
theorem partBy_n (c : Int) (k : Nat) : (partBy c k).tasks.length ≤ k := by
  have := mod_bd (pick (stream c (20 + 16 * k)) 3) (show (0 : Int) < (k : Int) + 1 by omega)
  show (pTasks _ _).length ≤ k
  unfold pTasks
  rw [List.length_map, List.length_range]
  omega
theorem partBy_ne (c : Int) (k : Nat) : (partBy c k).extras.length ≤ 12 := by
  have := pMany_bd (pick (stream c (20 + 16 * k)) 4)
  show (pExtras _ _).length ≤ 12
  unfold pExtras
  rw [List.length_map, List.length_range]
  omega
theorem partBy_task {c : Int} {k : Nat} {t : Task} (h : t ∈ (partBy c k).tasks) : t.Ok ∧ t.tries.length ≤ 12 := by
  obtain ⟨i, _, rfl⟩ := List.mem_map.mp h
  exact ⟨taskBy_ok _, taskBy_n _⟩
theorem partBy_ok {c : Int} {k : Nat} (hk : k ≤ 9) : (partBy c k).Ok := by
  have m4 := mod_bd (pick (stream c (20 + 16 * k)) 1) (show (0 : Int) < 4 by decide)
  refine ⟨(tWeight_bd _).1, (tWeight_bd _).2, m4.1, ?_, (pTop_bd _).1, (pTop_bd _).2, Nat.le_trans (partBy_n c k) hk, fun t ht => (partBy_task ht).1, Nat.le_succ_of_le (partBy_ne c k), fun x hx => ?_⟩
  · show pick _ 1 % 4 ≤ 3
    omega
  · obtain ⟨i, _, rfl⟩ := List.mem_map.mp hx
    have b := pBase_bd (pick (stream c (20 + 16 * k)) 4)
    have := mod_bd (pick (stream c (20 + 16 * k)) (5 + (i : Int))) (show (0 : Int) < pBase (pick (stream c (20 + 16 * k)) 4) by omega)
    exact ⟨by omega, by omega⟩
def lureTasks (xs : List Int) : List Task :=
  [⟨1 + pick xs 0 % 2, 100, 100, [pick xs 1 % 6]⟩, ⟨9 + pick xs 2 % 3, 100, 50, [78 + pick xs 4 % 5]⟩, ⟨9 + pick xs 3 % 3, 100, 50, [78 + pick xs 5 % 5]⟩, ⟨9 + pick xs 6 % 3, 100, 50, [97 + pick xs 7 % 4]⟩]
def lureBy (c : Int) : Part :=
  let xs := stream c 9
  { w := 1, worst := 2, top := 0, tasks := (lureTasks xs).drop (pick xs 8 % 4).toNat ++ (lureTasks xs).take (pick xs 8 % 4).toNat, extras := [] }
theorem lureTasks_ok {xs : List Int} {t : Task} (h : t ∈ lureTasks xs) : t.Ok ∧ t.tries.length ≤ 12 := by
  have a0 := mod_bd (pick xs 0) (show (0 : Int) < 2 by decide)
  have a1 := mod_bd (pick xs 1) (show (0 : Int) < 6 by decide)
  have a2 := mod_bd (pick xs 2) (show (0 : Int) < 3 by decide)
  have a3 := mod_bd (pick xs 3) (show (0 : Int) < 3 by decide)
  have a4 := mod_bd (pick xs 4) (show (0 : Int) < 5 by decide)
  have a5 := mod_bd (pick xs 5) (show (0 : Int) < 5 by decide)
  have a6 := mod_bd (pick xs 6) (show (0 : Int) < 3 by decide)
  have a7 := mod_bd (pick xs 7) (show (0 : Int) < 4 by decide)
  unfold lureTasks at h
  simp only [List.mem_cons, List.not_mem_nil, or_false] at h
  rcases h with rfl | rfl | rfl | rfl <;> refine ⟨⟨?_, ?_, ?_, ?_, ?_, ?_, ?_, ?_⟩, ?_⟩ <;> simp only [List.mem_singleton, List.length_singleton, forall_eq] <;> omega
theorem lureBy_mem {c : Int} {t : Task} (h : t ∈ (lureBy c).tasks) : t ∈ lureTasks (stream c 9) := by
  rcases List.mem_append.mp h with z | z
  · exact List.mem_of_mem_drop z
  · exact List.mem_of_mem_take z
theorem lureBy_n (c : Int) : (lureBy c).tasks.length = 4 := by
  have := mod_bd (pick (stream c 9) 8) (show (0 : Int) < 4 by decide)
  show (List.drop _ _ ++ List.take _ _).length = 4
  rw [List.length_append, List.length_drop, List.length_take]
  show 4 - _ + min _ 4 = 4
  omega
theorem lureBy_ok (c : Int) : (lureBy c).Ok := by
  refine ⟨by show (1 : Int) ≤ 1; decide, by show (1 : Int) ≤ 1000; decide, by show (0 : Int) ≤ 2; decide, by show (2 : Int) ≤ 3; decide, by show (0 : Int) ≤ 0; decide, by show (0 : Int) ≤ 1000; decide, by rw [lureBy_n]; decide, fun t ht => (lureTasks_ok (lureBy_mem ht)).1, by show 0 ≤ 13; decide, fun x hx => by cases hx⟩
theorem ext_bd {P : Part} (h : P.Ok) : 0 ≤ min P.top P.extras.sum ∧ min P.top P.extras.sum ≤ 1000 := by
  have a := h.t1
  have b := h.t2
  have : 0 ≤ P.extras.sum := by
    rw [sumI_eq]
    have : ∀ l : List Int, (∀ x ∈ l, 0 ≤ x) → 0 ≤ sumI l := by
      intro l
      induction l with
      | nil => intro _; exact Int.le_refl _
      | cons a l ih =>
        intro hl
        have := hl a (by simp)
        have := ih fun x hx => hl x (by simp [hx])
        show 0 ≤ a + sumI l
        omega
    exact this _ fun x hx => (h.ex x hx).1
  omega
theorem ext_sz {P : Part} (h : P.Ok) : Szk 10 P.ext := by
  have := ext_bd h
  have e : (2 : Nat) ^ 10 = 1024 := by decide
  exact Szk.fr (by decide) (by omega) (by decide)
theorem one_sz : Szk 2 1 := ⟨by decide, by decide⟩
theorem share_sz {P : Part} (h : P.Ok) {r : Rat} (hr : P.share = some r) : Szk 320 r ∧ 0 ≤ r ∧ r ≤ 1 := by
  unfold Part.share at hr
  by_cases e : P.kept P.left = []
  · rw [if_pos e] at hr; cases hr
  · rw [if_neg e] at hr
    have hm := mean_sz h (kept_mem (w := P.left)) e (Nat.le_trans kept_len (Nat.le_trans (marked_len P) h.n))
    have hb := mean_bd h (kept_mem (w := P.left)) e
    have he : 0 ≤ P.ext := Rat.divInt_nonneg (ext_bd h).1 (by decide)
    by_cases c : 1 < P.mean (P.kept P.left) + P.ext
    · simp only [c, if_true, Option.some.injEq] at hr
      subst hr
      exact ⟨one_sz.mono (by decide), by decide, Rat.le_refl⟩
    · simp only [c, if_false, Option.some.injEq] at hr
      subst hr
      exact ⟨(hm.add (ext_sz h)).mono (by decide), by grind, Rat.not_lt.mp c⟩
theorem share_none {P : Part} (h : P.Ok) : P.share = none ↔ P.marked = [] := by
  unfold Part.share
  constructor
  · intro e
    by_cases c : P.marked = []
    · exact c
    · rw [if_neg (kept_ne (left_best P).1 c)] at e
      cases e
  · intro e
    rw [if_pos (by unfold Part.kept; rw [e]; rfl)]
end GW

namespace GW
open PySem PySem.Spec PyProof.Rows L2
variable {K : PySem.W.Frag}
def wayD (w : List Int) : D := .tuple (w.map PyData.int)
abbrev sp_marked (K : PySem.W.Frag) : Sp := spN K 1 fun ds es => ∃ P : Part, ds = [P.d] ∧ P.Ok ∧ es = P.marked.map PyData.int
abbrev sp_mean (K : PySem.W.Frag) : Sp := spR K 2 fun ds d => ∃ (P : Part) (l : List Int) (e : D), ds = [P.d, e] ∧ IsSeq e (l.map PyData.int) ∧ P.Ok ∧ (∀ n ∈ l, n ∈ P.marked) ∧ l ≠ [] ∧ l.length ≤ 9 ∧ d = shD (P.mean l)
abbrev sp_choices (K : PySem.W.Frag) : Sp := spN K 2 fun ds es => ∃ (N : List Int) (k : Nat), ds = [.list (N.map PyData.int), .int (k : Int)] ∧ N.Pairwise (· < ·) ∧ N.length ≤ 9 ∧ k ≤ 3 ∧ es = (lways N k).map wayD
abbrev sp_left_out (K : PySem.W.Frag) : Sp := spR K 1 fun ds d => ∃ P : Part, ds = [P.d] ∧ P.Ok ∧ d = wayD P.left
abbrev sp_part_share (K : PySem.W.Frag) : Sp := spR K 1 fun ds d => ∃ P : Part, ds = [P.d] ∧ P.Ok ∧ d = optS P.share
abbrev sp_l_part_by (K : PySem.W.Frag) : Sp := spR K 2 fun ds d => ∃ (c : Int) (k : Nat), ds = [.int c, .int (k : Int)] ∧ k ≤ 9 ∧ d = (partBy c k).d
abbrev sp_l_lure_by (K : PySem.W.Frag) : Sp := spR K 1 fun ds d => ∃ c : Int, ds = [.int c] ∧ d = (lureBy c).d
abbrev sp_l_mean (K : PySem.W.Frag) : Sp := spR K 2 fun ds d => ∃ (P : Part) (l : List Int), ds = [P.d, .list (l.map PyData.int)] ∧ P.Ok ∧ (∀ n ∈ l, n ∈ P.marked) ∧ l ≠ [] ∧ l.length ≤ 9 ∧ d = shD (P.mean l)
abbrev sp_l_worth (K : PySem.W.Frag) : Sp := spR K 2 fun ds d => ∃ (t : Task) (L : Rat), ds = [t.d, shD L] ∧ t.Ok ∧ t.tries ≠ [] ∧ Sz L ∧ d = .tuple [.int (t.w * (t.pts * (L.den : Int) - L.num * t.m)), .int t.m]
abbrev sp_l_tuple (K : PySem.W.Frag) : Sp := spR K 2 fun ds d => ∃ (w N : List Int), ds = [wayD w, .list (N.map PyData.int)] ∧ w.Pairwise (· < ·) ∧ w.length < 64 ∧ (∀ n ∈ w, n ∈ N) ∧ d = .bool true
abbrev sp_law_k03 (K : PySem.W.Frag) : Sp := spR K 1 fun ds d => ∃ ns : List Int, ds = [.list (ns.map PyData.int)] ∧ ns.length ≤ 63 ∧ d = .bool true
end GW

namespace GW
open PySem PySem.Spec PyProof.Rows L2
variable {K : PySem.W.Frag} {τ : List Sl} {te ti tl : TE} {ta : TA} {tt : TT} {E : XK}
section
variable {t : Task} {P : Part} {r : Rat}
theorem ev_tw (h : Ev K te τ t.d) : Ev K (tOp (rIx K) te (tC (.int 0))) τ (.int t.w) := ev_op h ev_int (rv_ixT rfl)
theorem ev_tm (h : Ev K te τ t.d) : Ev K (tOp (rIx K) te (tC (.int 1))) τ (.int t.m) := ev_op h ev_int (rv_ixT rfl)
theorem ev_tc (h : Ev K te τ t.d) : Ev K (tOp (rIx K) te (tC (.int 2))) τ (.int t.c) := ev_op h ev_int (rv_ixT rfl)
theorem ev_tt (h : Ev K te τ t.d) : Ev K (tOp (rIx K) te (tC (.int 3))) τ (.tuple (t.tries.map PyData.int)) := ev_op h ev_int (rv_ixT rfl)
theorem ev_pw (h : Ev K te τ P.d) : Ev K (tOp (rIx K) te (tC (.int 0))) τ (.int P.w) := ev_op h ev_int (rv_ixT rfl)
theorem ev_po (h : Ev K te τ P.d) : Ev K (tOp (rIx K) te (tC (.int 1))) τ (.int P.worst) := ev_op h ev_int (rv_ixT rfl)
theorem ev_pt (h : Ev K te τ P.d) : Ev K (tOp (rIx K) te (tC (.int 2))) τ (.int P.top) := ev_op h ev_int (rv_ixT rfl)
theorem ev_pk (h : Ev K te τ P.d) : Ev K (tOp (rIx K) te (tC (.int 3))) τ (.tuple (P.tasks.map Task.d)) := ev_op h ev_int (rv_ixT rfl)
theorem ev_px (h : Ev K te τ P.d) : Ev K (tOp (rIx K) te (tC (.int 4))) τ (.tuple (P.extras.map PyData.int)) := ev_op h ev_int (rv_ixT rfl)
theorem ev_pat {n : Int} (h : Ev K te τ P.d) (hi : Ev K ti τ (.int n)) (hn : 0 ≤ n ∧ n < (P.tasks.length : Int)) : Ev K (tOp (rIx K) (tOp (rIx K) te (tC (.int 3))) ti) τ (P.at n).d := ev_op (ev_pk h) hi (rv_ixT (at_atI hn.1 hn.2))
theorem ev_nu (h : Ev K te τ (shD r)) : Ev K (tOp (rIx K) te (tC (.int 0))) τ (.int r.num) := ev_op h ev_int (rv_ixT rfl)
theorem ev_de (h : Ev K te τ (shD r)) : Ev K (tOp (rIx K) te (tC (.int 1))) τ (.int (r.den : Int)) := ev_op h ev_int (rv_ixT rfl)
theorem ev_mark (h : Ev K te τ t.d) (hl : t.tries.length ≤ 100) : Ev K (tCall (sp_mark K) [] E (tCons te tNil)) τ (optD t.mark) := ev_call (ea_cons h ea_nil) ⟨_, rfl, hl, rfl⟩
theorem ev_lmark (h : Ev K te τ t.d) (hl : t.tries.length ≤ 100) : Ev K (tCall (sp_l_mark K) [] E (tCons te tNil)) τ (optD t.mark) := ev_call (ea_cons h ea_nil) ⟨_, rfl, hl, rfl⟩
theorem ev_pts (h : Ev K te τ t.d) (ho : t.Ok) (hn : t.tries ≠ []) : Ev K (tCall (sp_mark K) [] E (tCons te tNil)) τ (.int t.pts) := ev_to (ev_mark h (Nat.le_trans ho.n (by decide))) (by rw [mark_pts hn]; rfl)
theorem ev_lpts (h : Ev K te τ t.d) (ho : t.Ok) (hn : t.tries ≠ []) : Ev K (tCall (sp_l_mark K) [] E (tCons te tNil)) τ (.int t.pts) := ev_to (ev_lmark h (Nat.le_trans ho.n (by decide))) (by rw [mark_pts hn]; rfl)
theorem isNone_opt {o : Option Int} : isNone (optD o) = decide (o = none) := by cases o <;> rfl
theorem isNone_optS {o : Option Rat} : isNone (optS o) = decide (o = none) := by cases o <;> rfl
end
theorem fm_filter (p : Int → Bool) : ∀ (l : List Int), (l.map PyData.int).filterMap (fun d => match d with | .int n => if p n = true then some d else none | _ => none) = (l.filter p).map PyData.int
  | [] => rfl
  | a :: l => by
    have ih := fm_filter p l
    by_cases h : p a = true
    · rw [List.filter_cons_of_pos h, List.map_cons, List.map_cons, List.filterMap_cons, ih]
      simp only [h, if_true]
    · rw [List.filter_cons_of_neg h, List.map_cons, List.filterMap_cons, ih]
      simp [h]
theorem en_filter {d : D} {l : List Int} {j : Nat} (p : Int → Bool) (h : Ev K tl τ d) (hs : IsSeq d (l.map PyData.int)) (hz : l.length ≤ 50000) (hj : ∀ s, (τ.set j s)[j]? = some s) (ht : ∀ n ∈ l, EvT K tt (τ.set j (.im (.int n))) (p n)) :
    EvN K (tLc (iSeq K tl) (gName j) tt (tVar j) [j]) τ ((l.filter p).map PyData.int) := by
  rw [← fm_filter]
  refine en_lc _ h hs (by rw [List.length_map]; exact hz) (fun e he => ?_) fun e he r hr => ?_
  · obtain ⟨n, hn, rfl⟩ := List.mem_map.mp he
    have := ht n hn
    dsimp only
    cases hp : p n <;> rw [hp] at this <;> exact this
  · obtain ⟨n, hn, rfl⟩ := List.mem_map.mp he
    dsimp only at hr
    cases hp : p n with
    | true => rw [hp] at hr; simp at hr; subst hr; exact ev_var (hj _)
    | false => rw [hp] at hr; simp at hr
theorem rangeD_I (n : Nat) : rangeD n = (rangeI n).map PyData.int := by
  unfold rangeD rangeI
  rw [List.map_map]
  rfl
theorem en_filterR {j : Nat} {n : Nat} (p : Int → Bool) (h : EvA K ta τ [.int (n : Int)]) (hz : n ≤ 50000) (hj : ∀ s, (τ.set j s)[j]? = some s) (ht : ∀ i ∈ rangeI n, EvT K tt (τ.set j (.im (.int i))) (p i)) :
    EvN K (tLc (iRng1 ta) (gName j) tt (tVar j) [j]) τ (((rangeI n).filter p).map PyData.int) := by
  have e := fm_filter p (rangeI n)
  rw [← rangeD_I] at e
  rw [← e, show n = ((n : Int)).toNat from rfl]
  refine en_lcR _ h (by omega) (fun i hi => ?_) fun i hi r hr => ?_
  · have := ht i (rangeI_mem.mpr (by omega))
    dsimp only
    cases hp : p i <;> rw [hp] at this <;> exact this
  · dsimp only at hr
    cases hp : p i with
    | true => rw [hp] at hr; simp at hr; subst hr; exact ev_var (hj _)
    | false => rw [hp] at hr; simp at hr
theorem lastI_get : ∀ {l : List Int}, l ≠ [] → l[l.length - 1]? = some (lastI l)
  | [], h => absurd rfl h
  | [a], _ => rfl
  | a :: b :: l, _ => by
    have := lastI_get (l := b :: l) (by simp)
    show (a :: b :: l)[l.length + 1]? = some (lastI (b :: l))
    simpa using this
theorem atI_neg {α : Type} {l : List α} {k : Nat} (h : k < l.length) : atI l (-1 - (k : Int)) = l[l.length - 1 - k]? := by
  have e : ixN l.length (-1 - (k : Int)) = some (l.length - 1 - k) := by
    unfold ixN
    rw [if_neg (by omega)]
    have : ((-1 - (k : Int)) + (l.length : Int)).toNat = l.length - 1 - k := by omega
    first
      | (rw [if_pos (by omega)]; congr 1; omega)
      | (split <;> simp <;> omega)
  unfold atI
  rw [e]
  rfl
theorem atI_last {l : List Int} (h : l ≠ []) : atI (l.map PyData.int) (-1) = some (.int (lastI l)) := by
  have h0 : 0 < l.length := List.length_pos_iff.mpr h
  have := atI_neg (l := l.map PyData.int) (k := 0) (by rw [List.length_map]; exact h0)
  rw [show (-1 - ((0 : Nat) : Int)) = -1 from rfl] at this
  rw [this, List.getElem?_map, List.length_map, Nat.sub_zero, lastI_get h]
  rfl
end GW

namespace GW
open PySem PySem.Spec PyProof.Rows L2
variable {K : PySem.W.Frag}
abbrev sp_l_ways_lt (K : PySem.W.Frag) (n : Nat) : Sp := spN K 2 fun ds es => ∃ (N : List Int) (k : Nat), ds = [.list (N.map PyData.int), .int (k : Int)] ∧ N.length ≤ 9 ∧ k < n ∧ es = (lways N k).map wayD
abbrev sp_l_ways (K : PySem.W.Frag) : Sp := sp_l_ways_lt K 4
theorem no_l_ways {vs : List V} {H : Hp} {Q : VK} {E : XK} (h : sp_l_ways_lt K 0 vs H Q E) : False := by
  obtain ⟨_, _, _, _, _, ⟨_, _, _, _, _, h, _⟩, _⟩ := h
  omega
abbrev sp_l_marked (K : PySem.W.Frag) : Sp := spN K 1 fun ds es => ∃ P : Part, ds = [P.d] ∧ P.Ok ∧ es = P.marked.map PyData.int
abbrev sp_l_left (K : PySem.W.Frag) : Sp := spR K 1 fun ds d => ∃ P : Part, ds = [P.d] ∧ P.Ok ∧ d = wayD P.left
abbrev sp_law_k04 (K : PySem.W.Frag) : Sp := spR K 1 fun ds d => ∃ ns : List Int, ds = [.list (ns.map PyData.int)] ∧ ns.length ≤ 63 ∧ d = .bool true
abbrev sp_law_k05 (K : PySem.W.Frag) : Sp := spR K 1 fun ds d => ∃ ns : List Int, ds = [.list (ns.map PyData.int)] ∧ ns.length ≤ 63 ∧ d = .bool true
abbrev sp_law_k06 (K : PySem.W.Frag) : Sp := spR K 1 fun ds d => ∃ ns : List Int, ds = [.list (ns.map PyData.int)] ∧ ns.length ≤ 63 ∧ d = .bool true
abbrev sp_law_k11 (K : PySem.W.Frag) : Sp := spR K 1 fun ds d => ∃ ns : List Int, ds = [.list (ns.map PyData.int)] ∧ ns.length ≤ 63 ∧ d = .bool true
/-- the ways that begin with one of the first i -/
def wpre (N : List Int) (m i : Nat) : List (List Int) := (List.range i).flatMap fun j => (lways (N.drop (j + 1)) m).map (N.getD j 0 :: ·)
theorem wpre_all {N : List Int} {m : Nat} : ∀ {i : Nat}, i ≤ N.length → wpre N m i ++ lways (N.drop i) (m + 1) = lways N (m + 1)
  | 0, _ => by unfold wpre; simp
  | i + 1, h => by
    have ih := wpre_all (N := N) (m := m) (i := i) (by omega)
    have hi : i < N.length := by omega
    rw [List.drop_eq_getElem_cons hi] at ih
    unfold wpre at ih ⊢
    rw [List.range_succ, List.flatMap_append, List.flatMap_cons, List.flatMap_nil, List.append_nil, List.append_assoc]
    have e : N.getD i 0 = N[i] := by simp [List.getD_eq_getElem?_getD, List.getElem?_eq_getElem hi]
    rw [e]
    exact ih
theorem wpre_len {N : List Int} {m i : Nat} (h : i ≤ N.length) (h9 : N.length ≤ 9) : (wpre N m i).length ≤ 512 := by
  have a := congrArg List.length (wpre_all (m := m) h)
  have b := lways_len (N := N) (k := m + 1)
  have c : 2 ^ N.length ≤ 2 ^ 9 := Nat.pow_le_pow_right (by decide) h9
  have d : (2 : Nat) ^ 9 = 512 := by decide
  rw [List.length_append] at a
  omega
theorem mean_nil (P : Part) : P.mean [] = 0 := by
  show (0 : Rat) / ((0 : Int) : Rat) = 0
  rw [Rat.div_def, Rat.zero_mul]
/-- the best so far, as the law keeps it -/
def optM : Option Rat → Rat
  | none => -1
  | some x => x
/-- the tasks as the law of the first way changes them -/
def alike (t u : Task) : Task := ⟨u.w, t.m, t.c, t.tries⟩
def chg1 (c : Int) (T : List Task) : List Task := if c % 4 = 0 ∧ 0 < T.length ∧ T.length < 8 then T ++ (T.drop (c / 4 % (T.length : Int)).toNat).take 1 else T
def chg2 (c : Int) (T : List Task) : List Task := if c % 4 = 1 ∧ 0 < T.length then T.map (alike (T.headD default)) else T
theorem chg_ok {c : Int} {T : List Task} (h : T.length ≤ 8) (ho : ∀ t ∈ T, t.Ok) : (chg2 c (chg1 c T)).length ≤ 9 ∧ ∀ t ∈ chg2 c (chg1 c T), t.Ok := by
  have h1 : (chg1 c T).length ≤ 9 ∧ ∀ t ∈ chg1 c T, t.Ok := by
    unfold chg1
    split
    · refine ⟨?_, fun t ht => ?_⟩
      · rw [List.length_append, List.length_take]; omega
      · rcases List.mem_append.mp ht with z | z
        · exact ho t z
        · exact ho t (List.mem_of_mem_drop (List.mem_of_mem_take z))
    · exact ⟨by omega, ho⟩
  generalize chg1 c T = U at *
  unfold chg2
  split
  · rename_i hc
    refine ⟨by rw [List.length_map]; exact h1.1, fun t ht => ?_⟩
    obtain ⟨u, hu, rfl⟩ := List.mem_map.mp ht
    have hh : U.headD default ∈ U := by
      cases U with
      | nil => simp at hc
      | cons a r => simp
    have a := h1.2 _ hh
    have b := h1.2 u hu
    exact ⟨b.w1, b.w2, a.m1, a.m2, a.c1, a.c2, a.n, a.tr⟩
  · exact h1
end GW

namespace GW
open PySem PySem.Spec PyProof.Rows L2
variable {K : PySem.W.Frag}
def Part.sw (P : Part) : Rat := match P.share with
  | none => 0
  | some r => r * (P.w : Rat)
def Part.wt (P : Part) : Int := match P.share with
  | none => 0
  | some _ => P.w
def gT (C : List Part) : Rat := S C Part.sw
def gW (C : List Part) : Int := sumI (C.map Part.wt)
def grade (C : List Part) : Option Rat := if gW C = 0 then none else some (gT C / (gW C : Rat))
structure COk (C : List Part) : Prop where
  n : C.length ≤ 6
  ok : ∀ P ∈ C, P.Ok
theorem divInt_one (w : Int) : Rat.divInt w 1 = (w : Rat) := by
  rw [Rat.divInt_eq_div]
  show (w : Rat) / ((1 : Int) : Rat) = _
  have : ((1 : Int) : Rat) = 1 := rfl
  rw [this]
  grind
theorem sw_sz {P : Part} (h : P.Ok) : Szk 330 P.sw := by
  unfold Part.sw
  cases e : P.share with
  | none => exact szk_zero (by decide)
  | some r =>
    have a := (share_sz h e).1
    have b := h.w1
    have c := h.w2
    have p : (2 : Nat) ^ 10 = 1024 := by decide
    have := a.mulI (m := 10) (t := P.w) (b := 1) (by decide) (by omega) (by decide)
    rw [divInt_one] at this
    exact this
theorem gT_sz {C : List Part} (h : ∀ P ∈ C, P.Ok) : Szk (331 * C.length + 1) (gT C) := by
  have := szk_sum (k := 330) (l := C.map Part.sw) fun x hx => by
    obtain ⟨P, hP, rfl⟩ := List.mem_map.mp hx
    exact sw_sz (h P hP)
  rw [List.length_map] at this
  exact this
theorem wt_bd {P : Part} (h : P.Ok) : 0 ≤ P.wt ∧ P.wt ≤ 1000 := by
  have b := h.w1
  have c := h.w2
  unfold Part.wt
  split <;> omega
theorem gW_bd : ∀ {C : List Part}, (∀ P ∈ C, P.Ok) → 0 ≤ gW C ∧ gW C ≤ 1000 * (C.length : Int)
  | [], _ => by simp [gW, sumI]
  | P :: C, h => by
    have a := wt_bd (h P (by simp))
    have b := gW_bd (C := C) fun Q hQ => h Q (by simp [hQ])
    have e : gW (P :: C) = P.wt + gW C := rfl
    rw [e, List.length_cons]
    omega
theorem gT_snoc {C : List Part} {i : Nat} {P : Part} (h : C[i]? = some P) : gT (C.take (i + 1)) = gT (C.take i) + P.sw := by
  unfold gT
  rw [take_snoc h, S_app, S_cons, S_nil, Rat.add_zero]
theorem gW_snoc {C : List Part} {i : Nat} {P : Part} (h : C[i]? = some P) : gW (C.take (i + 1)) = gW (C.take i) + P.wt := by
  unfold gW
  rw [take_snoc h, List.map_append, sumI_app]
  show sumI ((C.take i).map Part.wt) + (P.wt + 0) = _
  omega
theorem grade_sz {C : List Part} (h : COk C) {r : Rat} (hr : grade C = some r) : Szk 2000 r := by
  unfold grade at hr
  have b := gW_bd h.ok
  have n := h.n
  by_cases e : gW C = 0
  · rw [if_pos e] at hr; cases hr
  · rw [if_neg e] at hr
    cases hr
    have a := gT_sz h.ok
    refine (a.over (c := gW C) (m := 13) (by omega) ?_).mono (by omega)
    have : (2 : Nat) ^ 13 = 8192 := by decide
    omega
def cMany (c : Int) : Int := if c / 4 % 9 = 1 then 4 + c / 36 % 3 else c % 4
def courseBy (ns : List Int) (f : Int) (k : Nat) : List Part := (List.range (cMany (cell ns 0)).toNat).map fun (j : Nat) => partBy (cell ns (f + (j : Int))) k
theorem cMany_bd (c : Int) : 0 ≤ cMany c ∧ cMany c ≤ 6 := by
  have a := mod_bd (c / 36) (show (0 : Int) < 3 by decide)
  have b := mod_bd c (show (0 : Int) < 4 by decide)
  unfold cMany
  split <;> omega
theorem courseBy_ok {ns : List Int} {f : Int} {k : Nat} (hk : k ≤ 9) : COk (courseBy ns f k) := by
  have := cMany_bd (cell ns 0)
  refine ⟨?_, fun P hP => ?_⟩
  · unfold courseBy
    rw [List.length_map, List.length_range]
    omega
  · obtain ⟨j, _, rfl⟩ := List.mem_map.mp hP
    exact partBy_ok hk
theorem shp_task {t : Task} : Shp 2 t.d := shp_tuple fun e he => by
  simp only [List.mem_cons, List.not_mem_nil, or_false] at he
  rcases he with rfl | rfl | rfl | rfl
  · exact shp_int
  · exact shp_int
  · exact shp_int
  · exact shp_tuple (n := 0) shp_ints
theorem shp_part {P : Part} : Shp 4 P.d := shp_tuple fun e he => by
  simp only [List.mem_cons, List.not_mem_nil, or_false] at he
  rcases he with rfl | rfl | rfl | rfl | rfl
  · exact shp_int
  · exact shp_int
  · exact shp_int
  · refine shp_tuple fun e he => ?_
    obtain ⟨t, _, rfl⟩ := List.mem_map.mp he
    exact shp_task
  · exact shp_mono (shp_tuple (n := 0) shp_ints) (by decide)
theorem shp_course {C : List Part} : Shp 5 (.list (C.map Part.d)) := shp_list fun e he => by
  obtain ⟨P, _, rfl⟩ := List.mem_map.mp he
  exact shp_part
theorem shp_sh {r : Rat} : Shp 1 (shD r) := shp_tuple fun e he => by
  simp only [List.mem_cons, List.not_mem_nil, or_false] at he
  rcases he with rfl | rfl <;> exact shp_int
theorem shp_opt {o : Option Rat} : Shp 1 (optS o) := by
  cases o with
  | none => exact shp_none
  | some r => exact shp_sh
def unI (ds : List D) : List Int := ds.filterMap fun d => match d with | .int i => some i | _ => none
theorem unI_map (l : List Int) : unI (l.map PyData.int) = l := by
  unfold unI
  rw [List.filterMap_map]
  simp [Function.comp_def]
def Task.un : D → Option Task
  | .tuple [.int w, .int m, .int c, .tuple tr] => some ⟨w, m, c, unI tr⟩
  | _ => none
theorem Task.un_d (t : Task) : Task.un t.d = some t := by
  show some (Task.mk t.w t.m t.c (unI (t.tries.map PyData.int))) = _
  rw [unI_map]
def Part.un : D → Option Part
  | .tuple [.int w, .int o, .int t, .tuple ts, .tuple xs] => some ⟨w, o, t, ts.filterMap Task.un, unI xs⟩
  | _ => none
theorem Part.un_d (P : Part) : Part.un P.d = some P := by
  show some (Part.mk P.w P.worst P.top ((P.tasks.map Task.d).filterMap Task.un) (unI (P.extras.map PyData.int))) = _
  rw [unI_map, List.filterMap_map]
  have : (Task.un ∘ Task.d) = some := funext Task.un_d
  rw [this, List.filterMap_some]
section
variable {τ : List Sl} {te ti tl : TE} {ta : TA} {tt : TT}
theorem fm_un {α : Type} (un : D → Option α) (f : α → D) (hun : ∀ a, un (f a) = some a) (p : α → Bool) (e : α → D) : ∀ (l : List α), (l.map f).filterMap (fun d => (un d).bind fun a => if p a = true then some (e a) else none) = (l.filter p).map e
  | [] => rfl
  | a :: l => by
    have ih := fm_un un f hun p e l
    by_cases h : p a = true
    · rw [List.filter_cons_of_pos h, List.map_cons, List.map_cons, List.filterMap_cons, ih, hun]
      simp [h]
    · rw [List.filter_cons_of_neg h, List.map_cons, List.filterMap_cons, ih, hun]
      simp [h]
/-- [e for x in l if p] of data of f -/
theorem en_lcM {α : Type} {un : D → Option α} {f : α → D} (hun : ∀ a, un (f a) = some a) {d : D} {l : List α} {j : Nat} (p : α → Bool) (e : α → D) (h : Ev K tl τ d) (hs : IsSeq d (l.map f)) (hz : l.length ≤ 50000) (ht : ∀ a ∈ l, EvT K tt (τ.set j (.im (f a))) (p a)) (he : ∀ a ∈ l, p a = true → Ev K te (τ.set j (.im (f a))) (e a)) :
    EvN K (tLc (iSeq K tl) (gName j) tt te [j]) τ ((l.filter p).map e) := by
  rw [← fm_un un f hun p e]
  refine en_lc _ h hs (by rw [List.length_map]; exact hz) (fun x hx => ?_) fun x hx r hr => ?_
  · obtain ⟨a, ha, rfl⟩ := List.mem_map.mp hx
    have := ht a ha
    rw [hun]
    cases hp : p a <;> rw [hp] at this <;> simpa [hp] using this
  · obtain ⟨a, ha, rfl⟩ := List.mem_map.mp hx
    rw [hun] at hr
    cases hp : p a with
    | true => simp [hp] at hr; subst hr; exact he a ha hp
    | false => simp [hp] at hr
theorem filter_all {α : Type} (l : List α) : l.filter (fun _ => true) = l := by simp
theorem en_mapM {α : Type} {un : D → Option α} {f : α → D} (hun : ∀ a, un (f a) = some a) {d : D} {l : List α} {j : Nat} (e : α → D) (h : Ev K tl τ d) (hs : IsSeq d (l.map f)) (hz : l.length ≤ 50000) (he : ∀ a ∈ l, Ev K te (τ.set j (.im (f a))) (e a)) :
    EvN K (tLc (iSeq K tl) (gName j) tYes te [j]) τ (l.map e) := by
  have := en_lcM hun (tt := tYes) (te := te) (fun _ => true) e h hs hz (fun a _ => et_yes) (fun a ha _ => he a ha)
  rw [filter_all] at this
  exact this
theorem fm_rg (p : Nat → Bool) (e : Nat → D) (n : Nat) : (rangeD n).filterMap (fun d => match d with | .int i => if p i.toNat = true then some (e i.toNat) else none | _ => none) = ((List.range n).filter p).map e := by
  unfold rangeD
  rw [List.filterMap_map]
  generalize List.range n = l
  induction l with
  | nil => rfl
  | cons a l ih =>
    by_cases h : p a = true
    · rw [List.filter_cons_of_pos h, List.map_cons, List.filterMap_cons, ih]
      simp [h]
    · rw [List.filter_cons_of_neg h, List.filterMap_cons, ih]
      simp [h]
/-- [e for k in range(n) if p] -/
theorem en_lcN {j n : Nat} (p : Nat → Bool) (e : Nat → D) (h : EvA K ta τ [.int (n : Int)]) (hz : n ≤ 50000) (ht : ∀ i : Nat, i < n → EvT K tt (τ.set j (.im (.int (i : Int)))) (p i)) (he : ∀ i : Nat, i < n → p i = true → Ev K te (τ.set j (.im (.int (i : Int)))) (e i)) :
    EvN K (tLc (iRng1 ta) (gName j) tt te [j]) τ (((List.range n).filter p).map e) := by
  rw [← fm_rg]
  have : n = ((n : Int)).toNat := rfl
  rw [this]
  refine en_lcR _ h (by omega) (fun i hi => ?_) fun i hi r hr => ?_
  · have := ht i (by omega)
    dsimp only
    rw [Int.toNat_natCast]
    cases hp : p i <;> rw [hp] at this <;> exact this
  · dsimp only at hr
    rw [Int.toNat_natCast] at hr
    cases hp : p i with
    | true => simp [hp] at hr; subst hr; exact he i (by omega) hp
    | false => simp [hp] at hr
theorem en_mapN {j n : Nat} (e : Nat → D) (h : EvA K ta τ [.int (n : Int)]) (hz : n ≤ 50000) (he : ∀ i : Nat, i < n → Ev K te (τ.set j (.im (.int (i : Int)))) (e i)) :
    EvN K (tLc (iRng1 ta) (gName j) tYes te [j]) τ ((List.range n).map e) := by
  have := en_lcN (tt := tYes) (te := te) (fun _ => true) e h hz (fun i _ => et_yes) (fun i hi _ => he i hi)
  rw [filter_all] at this
  exact this
end
theorem eqv_empty (l : List D) : PyData.eqv (.list l) (.list []) = decide (l = []) := by
  cases l <;> rfl
theorem eqv_bool (a b : Bool) : PyData.eqv (.bool a) (.bool b) = decide (a = b) := by
  cases a <;> cases b <;> rfl
theorem marked_nil {P : Part} : P.marked = [] ↔ P.tasks.filter (fun t => decide (t.tries ≠ [])) = [] := by
  rw [List.filter_eq_nil_iff, List.eq_nil_iff_forall_not_mem]
  constructor
  · intro h t ht
    obtain ⟨i, hi, rfl⟩ := List.mem_iff_getElem.mp ht
    have hg : P.at (i : Int) = P.tasks[i] := by
      unfold Part.at
      rw [Int.toNat_natCast, List.getD_eq_getElem?_getD, List.getElem?_eq_getElem hi]
      rfl
    have := h (i : Int)
    rw [marked_mem, hg] at this
    intro c
    exact this ⟨by omega, of_decide_eq_true c⟩
  · intro h i hi
    have hm := marked_mem.mp hi
    exact h _ (at_mem hm.1.1 hm.1.2) (decide_eq_true hm.2)
theorem fr_add (r : Rat) (e : Int) {b : Int} (hb : b ≠ 0) : Rat.divInt (r.num * b + e * (r.den : Int)) ((r.den : Int) * b) = r + Rat.divInt e b := by
  rw [← Rat.divInt_add_divInt _ _ (by have := r.den_pos; omega) hb, Rat.num_divInt_den]
theorem rat_one_lt (r : Rat) : (1 < r) ↔ (r.den : Int) < r.num := by
  rw [Rat.lt_iff]
  show 1 * (r.den : Int) < r.num * 1 ↔ _
  rw [Int.one_mul, Int.mul_one]
abbrev sp_grade (K : PySem.W.Frag) : Sp := spR K 1 fun ds d => ∃ (C : List Part) (e : D), ds = [e] ∧ IsSeq e (C.map Part.d) ∧ COk C ∧ d = optS (grade C)
abbrev sp_l_grade (K : PySem.W.Frag) : Sp := spR K 1 fun ds d => ∃ (C : List Part) (e : D), ds = [e] ∧ IsSeq e (C.map Part.d) ∧ COk C ∧ d = optS (grade C)
abbrev sp_l_part_share (K : PySem.W.Frag) : Sp := spR K 1 fun ds d => ∃ P : Part, ds = [P.d] ∧ P.Ok ∧ d = optS P.share
abbrev sp_l_course_by (K : PySem.W.Frag) : Sp := spN K 3 fun ds es => ∃ (ns : List Int) (f : Int) (k : Nat), ds = [.list (ns.map PyData.int), .int f, .int (k : Int)] ∧ ns.length ≤ 63 ∧ k ≤ 9 ∧ es = (courseBy ns f k).map Part.d
end GW

namespace GW
open PySem PySem.Spec PyProof.Rows L2
variable {K : PySem.W.Frag}
structure TUp (t u : Task) : Prop where
  w : u.w = t.w
  m : u.m = t.m
  o : t.tries = [] ↔ u.tries = []
  p : t.tries ≠ [] → t.pts ≤ u.pts
theorem TUp.refl (t : Task) : TUp t t := ⟨rfl, rfl, Iff.rfl, fun _ => Int.le_refl _⟩
theorem TUp.term {t u : Task} (h : TUp t u) (ht : t.Ok) (hu : u.Ok) (hn : t.tries ≠ []) : t.term ≤ u.term := by
  have a := ht.term_eq
  have b := hu.term_eq
  have m0 := castpos (show 0 < t.m from ht.m1)
  have w0 := castpos (show 0 < t.w from ht.w1)
  rw [h.m, h.w] at b
  refine Rat.le_of_mul_le_mul_right (c := (t.m : Rat)) ?_ m0
  rw [a, b]
  exact Rat.mul_le_mul_of_nonneg_left (Rat.intCast_le_intCast.mpr (h.p hn)) (Rat.le_of_lt w0)
structure PUp (P Q : Part) : Prop where
  w : Q.w = P.w
  worst : Q.worst = P.worst
  top : Q.top = P.top
  n : Q.tasks.length = P.tasks.length
  tk : ∀ i : Int, 0 ≤ i → i < (P.tasks.length : Int) → TUp (P.at i) (Q.at i)
  ex : P.extras.sum ≤ Q.extras.sum
theorem PUp.refl (P : Part) : PUp P P := ⟨rfl, rfl, rfl, rfl, fun _ _ _ => .refl _, Int.le_refl _⟩
section
variable {P Q : Part}
theorem PUp.marked (h : PUp P Q) : Q.marked = P.marked := by
  unfold Part.marked
  rw [h.n]
  refine List.filter_congr fun i hi => ?_
  have hi' := rangeI_mem.mp hi
  have := (h.tk i hi'.1 hi'.2).o
  unfold Part.isDone
  rw [decide_eq_decide, ne_eq, ne_eq, this]
theorem PUp.many (h : PUp P Q) : Q.many = P.many := by
  unfold Part.many
  rw [h.marked, h.worst]
theorem PUp.kept (h : PUp P Q) (w : List Int) : Q.kept w = P.kept w := by
  unfold Part.kept
  rw [h.marked]
theorem PUp.wsum (h : PUp P Q) {l : List Int} (hl : ∀ n ∈ l, n ∈ P.marked) : Q.wsum l = P.wsum l := by
  unfold Part.wsum
  congr 1
  refine List.map_congr_left fun n hn => ?_
  have := (marked_mem.mp (hl n hn)).1
  exact (h.tk n this.1 this.2).w
theorem PUp.mean (h : PUp P Q) (hp : P.Ok) (hq : Q.Ok) {l : List Int} (hl : ∀ n ∈ l, n ∈ P.marked) (h0 : l ≠ []) : P.mean l ≤ Q.mean l := by
  have w := castpos (wsum_pos hp hl h0)
  have e1 := mean_mul hp hl h0
  have e2 := mean_mul hq (l := l) (fun n hn => by rw [h.marked]; exact hl n hn) h0
  rw [h.wsum hl] at e2
  refine Rat.le_of_mul_le_mul_right (c := (P.wsum l : Rat)) ?_ w
  rw [e1, e2]
  refine S_le fun n hn => ?_
  have hm := marked_mem.mp (hl n hn)
  exact (h.tk n hm.1.1 hm.1.2).term (hp.at (hl n hn)).1 (hq.at (by rw [h.marked]; exact hl n hn)).1 hm.2
theorem PUp.share_none (h : PUp P Q) (hp : P.Ok) (hq : Q.Ok) : P.share = none ↔ Q.share = none := by
  rw [GW.share_none hp, GW.share_none hq, h.marked]
theorem PUp.share (h : PUp P Q) (hp : P.Ok) (hq : Q.Ok) {r s : Rat} (hr : P.share = some r) (hs : Q.share = some s) : r ≤ s := by
  have hm : P.marked ≠ [] := fun e => by rw [(GW.share_none hp).mpr e] at hr; cases hr
  have hkp := kept_ne (left_best P).1 hm
  have hkq := kept_ne (left_best Q).1 (by rw [h.marked]; exact hm)
  have lp : P.left ∈ lways Q.marked Q.many := by rw [h.marked, h.many]; exact (left_best P).1
  have h1 := h.mean hp hq (kept_mem (w := P.left)) hkp
  have h2 := (left_best Q).2 _ lp
  rw [h.kept] at h2
  have h3 : P.ext ≤ Q.ext := by
    unfold Part.ext
    rw [h.top, Rat.divInt_eq_div, Rat.divInt_eq_div, Rat.div_def, Rat.div_def]
    refine Rat.mul_le_mul_of_nonneg_right (Rat.intCast_le_intCast.mpr ?_) (Rat.le_of_lt (Rat.inv_pos.mpr (castpos (by decide))))
    have := h.ex
    omega
  unfold Part.share at hr hs
  rw [if_neg hkp] at hr
  rw [if_neg hkq] at hs
  cases hr
  cases hs
  rw [h.kept] at *
  dsimp only
  split <;> split <;> grind
end
/-- the same for courses -/
def CUp (C E : List Part) : Prop := C.length = E.length ∧ ∀ (i : Nat) (P Q : Part), C[i]? = some P → E[i]? = some Q → PUp P Q
theorem cup_grade {C E : List Part} (h : CUp C E) (hc : ∀ P ∈ C, P.Ok) (he : ∀ P ∈ E, P.Ok) : gW C = gW E ∧ gT C ≤ gT E := by
  induction C generalizing E with
  | nil =>
    cases E with
    | nil => exact ⟨rfl, Rat.le_refl⟩
    | cons Q E => have := h.1; simp at this
  | cons P C ih =>
    cases E with
    | nil => have := h.1; simp at this
    | cons Q E =>
      have hPQ := h.2 0 P Q rfl rfl
      obtain ⟨i1, i2⟩ := ih (E := E) ⟨by simpa using h.1, fun i P Q a b => h.2 (i + 1) P Q (by simpa using a) (by simpa using b)⟩ (fun P hP => hc P (by simp [hP])) (fun P hP => he P (by simp [hP]))
      have hp := hc P (by simp)
      have hq := he Q (by simp)
      have e1 : gW (P :: C) = P.wt + gW C := rfl
      have e2 : gW (Q :: E) = Q.wt + gW E := rfl
      have e3 : gT (P :: C) = P.sw + gT C := rfl
      have e4 : gT (Q :: E) = Q.sw + gT E := rfl
      have hn := hPQ.share_none hp hq
      rw [e1, e2, e3, e4]
      unfold Part.wt Part.sw
      cases a : P.share with
      | none =>
        rw [hn.mp a]
        dsimp only
        exact ⟨by omega, by grind⟩
      | some r =>
        cases b : Q.share with
        | none => rw [hn.mpr b] at a; cases a
        | some s =>
          dsimp only
          rw [hPQ.w]
          have := hPQ.share hp hq a b
          have w0 := castpos (show 0 < P.w from hp.w1)
          have := Rat.mul_le_mul_of_nonneg_right this (Rat.le_of_lt w0)
          exact ⟨by omega, by grind⟩
theorem grade_none {C : List Part} : grade C = none ↔ gW C = 0 := by
  unfold grade
  split <;> simp [*]
theorem grade_le {C E : List Part} (h : CUp C E) (hc : COk C) (he : COk E) : (grade C = none ↔ grade E = none) ∧ ∀ r s, grade C = some r → grade E = some s → r ≤ s := by
  obtain ⟨a, b⟩ := cup_grade h hc.ok he.ok
  refine ⟨by rw [grade_none, grade_none, a], fun r s hr hs => ?_⟩
  have w := gW_bd hc.ok
  unfold grade at hr hs
  by_cases e : gW C = 0
  · rw [if_pos e] at hr; cases hr
  · rw [if_neg e] at hr
    rw [if_neg (by rw [← a]; exact e)] at hs
    cases hr
    cases hs
    have w0 := castpos (show 0 < gW C by omega)
    rw [← a, Rat.div_def, Rat.div_def]
    refine Rat.mul_le_mul_of_nonneg_right b ?_
    have := Rat.inv_pos.mpr w0
    grind
theorem sw_bd {P : Part} (h : P.Ok) : 0 ≤ P.sw ∧ P.sw ≤ (P.wt : Rat) := by
  unfold Part.sw Part.wt
  cases e : P.share with
  | none => exact ⟨Rat.le_refl, Rat.le_refl⟩
  | some r =>
    have b := (share_sz h e).2
    have w0 := castpos (show 0 < P.w from h.w1)
    constructor
    · exact Rat.mul_nonneg b.1 (Rat.le_of_lt w0)
    · have := Rat.mul_le_mul_of_nonneg_right b.2 (Rat.le_of_lt w0)
      rw [Rat.one_mul] at this
      exact this
theorem gW_S : ∀ {C : List Part}, (gW C : Rat) = S C fun P => (P.wt : Rat)
  | [] => rfl
  | P :: C => by
    have e : gW (P :: C) = P.wt + gW C := rfl
    rw [S_cons, ← gW_S, e, Rat.intCast_add]
theorem grade_bd {C : List Part} (h : COk C) {r : Rat} (hr : grade C = some r) : 0 ≤ r ∧ r ≤ 1 := by
  have w := gW_bd h.ok
  unfold grade at hr
  by_cases e : gW C = 0
  · rw [if_pos e] at hr; cases hr
  · rw [if_neg e] at hr
    cases hr
    have w0 := castpos (show 0 < gW C by omega)
    have e1 : gT C / (gW C : Rat) * (gW C : Rat) = gT C := Rat.div_mul_cancel (by grind)
    have a : 0 ≤ gT C := S_nonneg fun P hP => (sw_bd (h.ok P hP)).1
    have b : gT C ≤ (gW C : Rat) := by
      rw [gW_S]
      exact S_le fun P hP => (sw_bd (h.ok P hP)).2
    constructor
    · refine Rat.le_of_mul_le_mul_right (c := (gW C : Rat)) ?_ w0
      rw [e1, Rat.zero_mul]
      exact a
    · refine Rat.le_of_mul_le_mul_right (c := (gW C : Rat)) ?_ w0
      rw [e1, Rat.one_mul]
      exact b
theorem gW_zero {C : List Part} (h : ∀ P ∈ C, P.Ok) : gW C = 0 ↔ ∀ P ∈ C, P.share = none := by
  induction C with
  | nil => simp [gW, sumI]
  | cons P C ih =>
    have a := gW_bd (C := C) fun Q hQ => h Q (by simp [hQ])
    have b := ih fun Q hQ => h Q (by simp [hQ])
    have w := (h P (by simp)).w1
    have e : gW (P :: C) = P.wt + gW C := rfl
    rw [e]
    unfold Part.wt
    cases es : P.share with
    | none => simp [es, b]
    | some r =>
      simp only [List.mem_cons, forall_eq_or_imp, es]
      constructor
      · intro z; omega
      · rintro ⟨z, _⟩; cases z
theorem maxL_mono {l m : List Int} (hl : l ≠ []) (h : ∀ x ∈ l, ∃ y ∈ m, x ≤ y) : maxL l ≤ maxL m := by
  obtain ⟨y, hy, hxy⟩ := h _ (maxL_mem hl)
  exact Int.le_trans hxy (maxL_ge hy)
theorem capd_mono {c x y : Int} (h : x ≤ y) : capd c x ≤ capd c y := by
  unfold capd
  split <;> split <;> omega
theorem gives_at {t : Task} {k : Nat} {g : Int} (h : t.gives[k]? = some g) : ∃ p, t.tries[k]? = some p ∧ g = if k = 0 then p else capd t.c p := by
  have hk : k < t.tries.length := by rw [← gives_len]; exact (List.getElem?_eq_some_iff.mp h).1
  refine ⟨t.tries[k], List.getElem?_eq_getElem hk, ?_⟩
  have := gives_get (List.getElem?_eq_getElem hk)
  rw [this] at h
  exact (Option.some.inj h).symm
theorem tup_set {t : Task} {k : Nat} {x v : Int} (hx : t.tries[k]? = some x) (h : x ≤ v) : TUp t { t with tries := t.tries.set k v } := by
  refine ⟨rfl, rfl, ?_, fun hn => maxL_mono (gives_ne hn) fun g hg => ?_⟩
  · show t.tries = [] ↔ t.tries.set k v = []
    rw [List.set_eq_nil_iff]
  · obtain ⟨j, hj, rfl⟩ := List.mem_iff_getElem.mp hg
    obtain ⟨p, hp, e⟩ := gives_at (List.getElem?_eq_getElem hj)
    have hjl := (List.getElem?_eq_some_iff.mp hp).1
    rw [e]
    by_cases c : k = j
    · subst c
      rw [hx] at hp
      cases hp
      have hs : ({ t with tries := t.tries.set k v } : Task).tries[k]? = some v := by
        show (t.tries.set k v)[k]? = some v
        rw [List.getElem?_set_self hjl]
      refine ⟨_, List.mem_of_getElem? (gives_get hs), ?_⟩
      split
      · exact h
      · exact capd_mono h
    · have hs : ({ t with tries := t.tries.set k v } : Task).tries[j]? = some p := by
        show (t.tries.set k v)[j]? = some p
        rw [List.getElem?_set_ne c]
        exact hp
      exact ⟨_, List.mem_of_getElem? (gives_get hs), Int.le_refl _⟩
theorem tup_app {t : Task} (v : Int) (hn : t.tries ≠ []) : TUp t { t with tries := t.tries ++ [v] } := by
  refine ⟨rfl, rfl, ?_, fun hn => maxL_mono (gives_ne hn) fun g hg => ?_⟩
  · show t.tries = [] ↔ t.tries ++ [v] = []
    simp [hn]
  · obtain ⟨j, hj, rfl⟩ := List.mem_iff_getElem.mp hg
    obtain ⟨p, hp, e⟩ := gives_at (List.getElem?_eq_getElem hj)
    have hjl := (List.getElem?_eq_some_iff.mp hp).1
    have hs : ({ t with tries := t.tries ++ [v] } : Task).tries[j]? = some p := by
      show (t.tries ++ [v])[j]? = some p
      rw [List.getElem?_append_left hjl]
      exact hp
    exact ⟨_, List.mem_of_getElem? (gives_get hs), by rw [e]; exact Int.le_refl _⟩
def mAdd (room q : Int) : Int := pick [min room (1 + q / 6 % 3), q / 6 % (room + 1)] (q / 3 % 2)
theorem mAdd_bd {room q : Int} (h : 0 ≤ room) : 0 ≤ mAdd room q ∧ mAdd room q ≤ room := by
  unfold mAdd
  have a := mod_bd (q / 6) (show (0 : Int) < 3 by decide)
  have b := mod_bd (q / 6) (show (0 : Int) < room + 1 by omega)
  have c := mod_bd (q / 3) (show (0 : Int) < 2 by decide)
  refine pick_mem (P := fun z => 0 ≤ z ∧ z ≤ room) (fun z hz => ?_) c.1 c.2
  simp only [List.mem_cons, List.not_mem_nil, or_false] at hz
  rcases hz with h | h <;> omega
def mPts (t : Task) (r : Int) : Task :=
  if t.tries = [] then t else
  if r / (t.tries.length : Int) % 3 = 0 ∧ (t.tries.length : Int) < 12 then { t with tries := t.tries ++ [r / (t.tries.length : Int) / 3 % (t.m + 1)] }
  else { t with tries := t.tries.set (r % (t.tries.length : Int)).toNat (pick t.tries (r % (t.tries.length : Int)) + mAdd (t.m - pick t.tries (r % (t.tries.length : Int))) (r / (t.tries.length : Int))) }
theorem pick_get {l : List Int} {i : Int} (h0 : 0 ≤ i) (h1 : i < (l.length : Int)) : l[i.toNat]? = some (pick l i) := by
  unfold pick
  have hj : i.toNat < l.length := by omega
  rw [List.getD_eq_getElem?_getD, List.getElem?_eq_getElem hj]
  rfl
theorem mPts_ok {t : Task} (r : Int) (h : t.Ok) : (mPts t r).Ok ∧ TUp t (mPts t r) := by
  unfold mPts
  by_cases c : t.tries = []
  · rw [if_pos c]
    exact ⟨h, .refl t⟩
  · rw [if_neg c]
    have hl : 0 < t.tries.length := List.length_pos_iff.mpr c
    have m1 := h.m1
    by_cases d : r / (t.tries.length : Int) % 3 = 0 ∧ (t.tries.length : Int) < 12
    · rw [if_pos d]
      have b := mod_bd (r / (t.tries.length : Int) / 3) (show (0 : Int) < t.m + 1 by omega)
      refine ⟨⟨h.w1, h.w2, h.m1, h.m2, h.c1, h.c2, ?_, fun x hx => ?_⟩, tup_app _ c⟩
      · show (t.tries ++ [_]).length ≤ 13
        rw [List.length_append]
        show t.tries.length + 1 ≤ 13
        omega
      · rcases List.mem_append.mp hx with z | z
        · exact h.tr x z
        · rw [List.mem_singleton] at z
          rw [z]
          exact ⟨b.1, by show _ ≤ t.m; omega⟩
    · rw [if_neg d]
      have a := mod_bd r (show (0 : Int) < (t.tries.length : Int) by omega)
      have hg := pick_get a.1 a.2
      have hx := h.tr _ (List.mem_of_getElem? hg)
      generalize pick t.tries (r % (t.tries.length : Int)) = x at *
      have hb := mAdd_bd (room := t.m - x) (q := r / (t.tries.length : Int)) (by omega)
      refine ⟨⟨h.w1, h.w2, h.m1, h.m2, h.c1, h.c2, ?_, fun y hy => ?_⟩, tup_set hg (by omega)⟩
      · show (t.tries.set _ _).length ≤ 13
        rw [List.length_set]
        exact h.n
      · rcases List.mem_or_eq_of_mem_set hy with z | z
        · exact h.tr y z
        · rw [z]
          exact ⟨by omega, by show _ ≤ t.m; omega⟩
def mEx (l : List Int) (r : Int) : List Int :=
  if ((l.length : Int) < 12 ∧ r % 2 = 0) ∨ l = [] then l ++ [r / 2 % 1001]
  else l.set (r / 2 % (l.length : Int)).toNat (pick l (r / 2 % (l.length : Int)) + r / 24 % (1001 - pick l (r / 2 % (l.length : Int))))
theorem sum_set : ∀ {l : List Int} {k : Nat} {x v : Int}, l[k]? = some x → x ≤ v → sumI l ≤ sumI (l.set k v)
  | [], _, _, _, h, _ => by simp at h
  | a :: l, 0, x, v, h, hv => by
    have : a = x := by simpa using h
    show a + sumI l ≤ v + sumI l
    omega
  | a :: l, k + 1, x, v, h, hv => by
    have := sum_set (l := l) (k := k) (x := x) (v := v) (by simpa using h) hv
    show a + sumI l ≤ a + sumI (l.set k v)
    omega
theorem mEx_ok {l : List Int} (r : Int) (hl : l.length ≤ 13) (h : ∀ x ∈ l, 0 ≤ x ∧ x ≤ 1000) : (mEx l r).length ≤ 13 ∧ (∀ x ∈ mEx l r, 0 ≤ x ∧ x ≤ 1000) ∧ l.sum ≤ (mEx l r).sum := by
  unfold mEx
  rw [sumI_eq, sumI_eq]
  by_cases c : ((l.length : Int) < 12 ∧ r % 2 = 0) ∨ l = []
  · rw [if_pos c]
    have b := mod_bd (r / 2) (show (0 : Int) < 1001 by decide)
    refine ⟨?_, fun x hx => ?_, ?_⟩
    · rw [List.length_append]
      show l.length + 1 ≤ 13
      rcases c with c | c
      · omega
      · rw [c]; decide
    · rcases List.mem_append.mp hx with z | z
      · exact h x z
      · rw [List.mem_singleton] at z
        omega
    · rw [sumI_app]
      show _ ≤ _ + (_ + 0)
      omega
  · rw [if_neg c]
    have hn : 0 < l.length := List.length_pos_iff.mpr fun e => c (.inr e)
    have a := mod_bd (r / 2) (show (0 : Int) < (l.length : Int) by omega)
    have hg := pick_get a.1 a.2
    have hx := h _ (List.mem_of_getElem? hg)
    generalize pick l (r / 2 % (l.length : Int)) = x at *
    have b := mod_bd (r / 24) (show (0 : Int) < 1001 - x by omega)
    refine ⟨by rw [List.length_set]; exact hl, fun y hy => ?_, sum_set hg (by omega)⟩
    rcases List.mem_or_eq_of_mem_set hy with z | z
    · exact h y z
    · omega
def better (P : Part) (c : Int) : Part :=
  if c % 3 = 0 ∨ P.tasks = [] then { P with extras := mEx P.extras (c / 3) }
  else { P with tasks := P.tasks.set (c / 3 % (P.tasks.length : Int)).toNat (mPts (P.at (c / 3 % (P.tasks.length : Int))) (c / 3 / (P.tasks.length : Int))) }
theorem pup_set {P : Part} {k : Int} {u : Task} (h0 : 0 ≤ k) (h1 : k < (P.tasks.length : Int)) (hu : TUp (P.at k) u) : PUp P { P with tasks := P.tasks.set k.toNat u } := by
  refine ⟨rfl, rfl, rfl, by show (P.tasks.set _ _).length = _; rw [List.length_set], fun i hi1 hi2 => ?_, Int.le_refl _⟩
  have hk : k.toNat < P.tasks.length := by omega
  by_cases e : k = i
  · subst e
    have : ({ P with tasks := P.tasks.set k.toNat u } : Part).at k = u := by
      show (P.tasks.set k.toNat u).getD k.toNat default = u
      rw [List.getD_eq_getElem?_getD, List.getElem?_set_self hk]
      rfl
    rw [this]
    exact hu
  · have : ({ P with tasks := P.tasks.set k.toNat u } : Part).at i = P.at i := by
      show (P.tasks.set k.toNat u).getD i.toNat default = P.tasks.getD i.toNat default
      rw [List.getD_eq_getElem?_getD, List.getElem?_set_ne (by omega), ← List.getD_eq_getElem?_getD]
    rw [this]
    exact .refl _
theorem set_ok {P : Part} {k : Nat} {u : Task} (h : P.Ok) (hu : u.Ok) : ({ P with tasks := P.tasks.set k u } : Part).Ok :=
  ⟨h.w1, h.w2, h.o1, h.o2, h.t1, h.t2, by show (P.tasks.set _ _).length ≤ 9; rw [List.length_set]; exact h.n, fun t ht => by
    rcases List.mem_or_eq_of_mem_set ht with z | z
    · exact h.tk t z
    · rw [z]; exact hu, h.ne, h.ex⟩
theorem better_ok {P : Part} (c : Int) (h : P.Ok) : (better P c).Ok ∧ PUp P (better P c) := by
  unfold better
  by_cases d : c % 3 = 0 ∨ P.tasks = []
  · rw [if_pos d]
    have := mEx_ok (c / 3) h.ne h.ex
    exact ⟨⟨h.w1, h.w2, h.o1, h.o2, h.t1, h.t2, h.n, h.tk, this.1, this.2.1⟩, ⟨rfl, rfl, rfl, rfl, fun _ _ _ => .refl _, this.2.2⟩⟩
  · rw [if_neg d]
    have hn : 0 < P.tasks.length := List.length_pos_iff.mpr fun e => d (.inr e)
    have a := mod_bd (c / 3) (show (0 : Int) < (P.tasks.length : Int) by omega)
    have ht := h.tk _ (at_mem a.1 a.2)
    have := mPts_ok (c / 3 / (P.tasks.length : Int)) ht
    exact ⟨set_ok h this.1, pup_set a.1 a.2 this.2⟩
theorem cup_set {C : List Part} {k : Nat} {P Q : Part} (hP : C[k]? = some P) (h : PUp P Q) : CUp C (C.set k Q) := by
  refine ⟨by rw [List.length_set], fun i A B hA hB => ?_⟩
  have hk := (List.getElem?_eq_some_iff.mp hP).1
  by_cases e : k = i
  · subst e
    rw [List.getElem?_set_self hk] at hB
    rw [hP] at hA
    cases hA
    cases hB
    exact h
  · rw [List.getElem?_set_ne e] at hB
    rw [hA] at hB
    cases hB
    exact .refl _
theorem cup_refl (C : List Part) : CUp C C := ⟨rfl, fun i P Q a b => by rw [a] at b; cases b; exact .refl P⟩
theorem cok_set {C : List Part} {k : Nat} {Q : Part} (h : COk C) (hQ : Q.Ok) : COk (C.set k Q) := ⟨by rw [List.length_set]; exact h.n, fun P hP => by
  rcases List.mem_or_eq_of_mem_set hP with z | z
  · exact h.ok P z
  · rw [z]; exact hQ⟩
def closeW (x : Int) : Int := pick [1, 1000, 7, 50, 1 + x / 20 % 1000] (x % 5)
def closeTask (xs : List Int) (k : Nat) : Task := ⟨closeW (pick xs (2 + (k : Int))), 100, 50, [pick xs 1 % 95 + pick xs (2 + (k : Int)) / 5 % 4]⟩
def closeBy (c : Int) : Part :=
  let xs := stream c 12
  { w := 1 + pick xs 8 % 9, worst := 1 + pick xs 9 % 3, top := 0, tasks := (List.range (2 + pick xs 0 % 4).toNat).map (closeTask xs), extras := [] }
theorem closeTask_ok (xs : List Int) (k : Nat) : (closeTask xs k).Ok := by
  have a := mod_bd (pick xs 1) (show (0 : Int) < 95 by decide)
  have b := mod_bd (pick xs (2 + (k : Int)) / 5) (show (0 : Int) < 4 by decide)
  have c := mod_bd (pick xs (2 + (k : Int)) / 20) (show (0 : Int) < 1000 by decide)
  have d := mod_bd (pick xs (2 + (k : Int))) (show (0 : Int) < 5 by decide)
  have w : 1 ≤ closeW (pick xs (2 + (k : Int))) ∧ closeW (pick xs (2 + (k : Int))) ≤ 1000 := by
    unfold closeW
    refine pick_mem (P := fun z => 1 ≤ z ∧ z ≤ 1000) (fun z hz => ?_) d.1 d.2
    simp only [List.mem_cons, List.not_mem_nil, or_false] at hz
    rcases hz with h | h | h | h | h <;> omega
  refine ⟨w.1, w.2, ?_, ?_, ?_, ?_, ?_, fun x hx => ?_⟩
  · show (1 : Int) ≤ 100; decide
  · show (100 : Int) ≤ 1000000; decide
  · show (0 : Int) ≤ 50; decide
  · show (50 : Int) ≤ 100; decide
  · show 1 ≤ 13; decide
  · have hx' : x = pick xs 1 % 95 + pick xs (2 + (k : Int)) / 5 % 4 := by simpa [closeTask] using hx
    rw [hx']
    exact ⟨by omega, by show _ ≤ (100 : Int); omega⟩
theorem closeBy_ok (c : Int) : (closeBy c).Ok := by
  have a := mod_bd (pick (stream c 12) 8) (show (0 : Int) < 9 by decide)
  have b := mod_bd (pick (stream c 12) 9) (show (0 : Int) < 3 by decide)
  have d := mod_bd (pick (stream c 12) 0) (show (0 : Int) < 4 by decide)
  refine ⟨?_, ?_, ?_, ?_, by show (0 : Int) ≤ 0; decide, by show (0 : Int) ≤ 1000; decide, ?_, fun t ht => ?_, by show 0 ≤ 13; decide, fun x hx => by cases hx⟩
  · show 1 ≤ 1 + _ % 9; omega
  · show 1 + _ % 9 ≤ 1000; omega
  · show 0 ≤ 1 + _ % 3; omega
  · show 1 + _ % 3 ≤ 3; omega
  · show ((List.range _).map _).length ≤ 9
    rw [List.length_map, List.length_range]; omega
  · obtain ⟨k, _, rfl⟩ := List.mem_map.mp ht
    exact closeTask_ok _ k
theorem rat_le (r s : Rat) : r ≤ s ↔ r.num * (s.den : Int) ≤ s.num * (r.den : Int) := Rat.le_iff _ _
abbrev sp_l_more_points (K : PySem.W.Frag) : Sp := spR K 2 fun ds d => ∃ (t : Task) (r : Int), ds = [t.d, .int r] ∧ t.Ok ∧ d = (mPts t r).d
abbrev sp_l_more_extra (K : PySem.W.Frag) : Sp := spR K 2 fun ds d => ∃ (l : List Int) (r : Int), ds = [.tuple (l.map PyData.int), .int r] ∧ l.length ≤ 13 ∧ (∀ x ∈ l, 0 ≤ x ∧ x ≤ 1000) ∧ d = .tuple ((mEx l r).map PyData.int)
abbrev sp_l_better (K : PySem.W.Frag) : Sp := spR K 2 fun ds d => ∃ (P : Part) (c : Int), ds = [P.d, .int c] ∧ P.Ok ∧ d = (better P c).d
abbrev sp_l_close_by (K : PySem.W.Frag) : Sp := spR K 1 fun ds d => ∃ c : Int, ds = [.int c] ∧ d = (closeBy c).d
abbrev sp_l_no_less (K : PySem.W.Frag) : Sp := spR K 2 fun ds d => ∃ (o p : Option Rat), ds = [optS o, optS p] ∧ (∀ r, o = some r → Sz r ∧ 0 ≤ r ∧ r ≤ 1) ∧ (∀ r, p = some r → Sz r) ∧ (p = none → o = none) ∧ (∀ r, p = some r → ∃ s, o = some s ∧ r ≤ s) ∧ d = .bool true
abbrev sp_l_all_open (K : PySem.W.Frag) : Sp := spR K 1 fun ds d => ∃ (C : List Part), ds = [.list (C.map Part.d)] ∧ COk C ∧ d = .bool (decide (grade C = none))
abbrev sp_law_k08 (K : PySem.W.Frag) : Sp := spR K 1 fun ds d => ∃ ns : List Int, ds = [.list (ns.map PyData.int)] ∧ ns.length ≤ 63 ∧ d = .bool true
section
variable {O0 : List Addr} {F : Hp} {τ : List Sl} {Dn : Ends} {tz tu tw : TS} {tt : TT}
/-- both ways of an if meet again: what holds then is P -/
theorem run_join {b : Bool} (P : List Sl → Prop) (h : EvT K tt τ b)
    (h1 : b = true → ∀ n, (∀ σ H, NX K O0 F P σ H → n σ H) → Run K O0 F tu { Dn with nx := n } τ)
    (h2 : b = false → ∀ n, (∀ σ H, NX K O0 F P σ H → n σ H) → Run K O0 F tw { Dn with nx := n } τ) (k : ∀ τ', P τ' → Run K O0 F tz Dn τ') : Run K O0 F (tSeq (tIfS tt tu tw) tz) Dn τ :=
  run_if h (fun hb => h1 hb _ fun σ H ⟨τ', p, s⟩ => k τ' p H σ s) (fun hb => h2 hb _ fun σ H ⟨τ', p, s⟩ => k τ' p H σ s)
theorem run_met {P : List Sl → Prop} {js : List Nat} {n : L2.St → Hp → Prop} {c b rt} (h : P (forget js τ)) (hn : ∀ σ H, NX K O0 F P σ H → n σ H) : Run K O0 F tNext { nx := n, rt := rt, bk := b, ct := c } τ := fun H σ S => hn σ H ⟨_, h, sok_forget js S⟩
end
end GW

namespace GW
open PySem PySem.Spec PyProof.Rows L2
variable {K : PySem.W.Frag}
def Sl.im1 : Sl → Sl
  | .ow _ ds => .im (.list ds)
  | t => t
def imm (τ : List Sl) : List Sl := τ.map Sl.im1
theorem owns_imm : ∀ {τ : List Sl}, owns (imm τ) = []
  | [] => rfl
  | .un :: r => owns_imm (τ := r)
  | .raw _ :: r => owns_imm (τ := r)
  | .fx _ _ :: r => owns_imm (τ := r)
  | .im _ :: r => owns_imm (τ := r)
  | .ow _ _ :: r => owns_imm (τ := r)
theorem slok_imm {O : List Addr} {H : Hp} {s : Option V} : ∀ {t : Sl}, SlOk K O H s t → SlOk K [] H s t.im1
  | .un, _ => trivial
  | .raw _, h => h
  | .fx _ _, ⟨h1, h2⟩ => ⟨h1, dp_same (del_sub fun a z => by cases z) h2⟩
  | .im _, ⟨v, h1, h2⟩ => ⟨v, h1, dp_same (del_sub fun a z => by cases z) h2⟩
  | .ow p ds, ⟨h1, vs, h2, h3⟩ => ⟨_, h1, .lst (.inl (.inl (by rw [del_nil]; exact h2))) (dps_same (del_sub fun a z => by cases z) h3)⟩
theorem slsok_imm {O : List Addr} {H : Hp} : ∀ {σ : L2.St} {τ : List Sl}, SlsOk K O H σ τ → SlsOk K [] H σ (imm τ)
  | _, _, .nil => .nil
  | _, _, .cons r t => .cons (slok_imm r) (slsok_imm t)
theorem SokE.imm {O : List Addr} {H : Hp} {σ : L2.St} {τ : List Sl} (s : SokE K O H σ τ) : SokE K [] H σ (GW.imm τ) := ⟨fun a z => (by cases z), fun a z => (by rw [owns_imm] at z; cases z), slsok_imm s.sl⟩
def Flat : D → Prop
  | .int _ => True
  | .bool _ => True
  | .none => True
  | .str _ => True
  | _ => False
theorem Flat.dp {d : D} (h : Flat d) {H H' : Hp} {v : V} (r : Dp K H v d) : Dp K H' v d := by
  cases r with
  | non => exact .non
  | bl b => exact .bl b
  | int i => exact .int i
  | str x => exact .str x
  | lst _ _ => cases h
  | tup _ _ => cases h
section
variable {τ : List Sl} {te ti : TE} {tt : TT} {d : D} {ds : List D} {p : Addr} {j : Nat}
theorem ev_full (h : Ev K te (imm τ) d) (hf : Flat d) : Ev K te τ d := fun O H σ s Q q => h [] H σ s.imm Q fun v H' e r => q v H' e (hf.dp r)
theorem et_full {b : Bool} (h : EvT K tt (imm τ) b) : EvT K tt τ b := fun O H σ s Q q => h [] H σ s.imm Q q
theorem ev_ixOw {i : Int} (hj : τ[j]? = some (.ow p ds)) (hi : Ev K ti τ (.int i)) (ha : atI ds i = some d) : Ev K (tOp (rIx K) (tVar j) ti) τ d := fun O H σ s Q q => by
  obtain ⟨sv, h1, h2, vs, h3, h4⟩ := slsok_get s.sl hj
  refine ⟨.ref p, by rw [h1, h2], hi O H σ s _ fun w H2 e2 r2 => ?_⟩
  have hq : SqL K H2 p vs := .inl (.inl (e2 _ _ h3))
  obtain ⟨v, hv, rd⟩ := atI_dps (dps_same (del_grow e2) h4) ha
  rw [dp_int r2]
  exact .inl ⟨p, vs, i, v, rfl, rfl, hq, hv, q v H2 e2 rd⟩
theorem en_listOw (hj : τ[j]? = some (.ow p ds)) : EvN K (tCB (rList K) (tCons (tVar j) tNil)) τ ds := fun O H σ s Q q => by
  obtain ⟨sv, h1, h2, vs, h3, h4⟩ := slsok_get s.sl hj
  refine ⟨.ref p, by rw [h1, h2], ?_⟩
  have hq : SqL K H p vs := .inl (.inl h3)
  exact ⟨p, vs, rfl, .inl hq, fun l hl => q l _ _ hl (same_upd hl) upd_same (dps_newlst hl h4)⟩
end
end GW

namespace GW
open PySem PySem.Spec PyProof.Rows L2
variable {K : PySem.W.Frag}
def withTry (P : Part) (t : Nat) (x : Int) : Part := { P with tasks := P.tasks.set t { P.at (t : Int) with tries := (P.at (t : Int)).tries ++ [x] } }
def triedC (C : List Part) (p t : Nat) (x : Int) : List Part := C.set p (withTry (C.getD p ⟨0, 0, 0, [], []⟩) t x)
def reachedC (C : List Part) (w : Rat) : Bool := match grade C with
  | none => false
  | some g => decide (w ≤ g)
/-- tasks with at most n tries -/
def Few (n : Nat) (C : List Part) : Prop := ∀ P ∈ C, ∀ t ∈ P.tasks, t.tries.length ≤ n
theorem courseBy_few {ns : List Int} {f : Int} {k : Nat} : Few 12 (courseBy ns f k) := fun P hP t ht => by
  obtain ⟨j, _, rfl⟩ := List.mem_map.mp hP
  exact (partBy_task ht).2
theorem at_nat {P : Part} {t : Nat} (h : t < P.tasks.length) : P.at (t : Int) ∈ P.tasks := at_mem (by omega) (by omega)
theorem withTry_ok {P : Part} {t : Nat} {x : Int} (h : P.Ok) (ht : t < P.tasks.length) (hf : (P.at (t : Int)).tries.length ≤ 12) (hx : 0 ≤ x ∧ x ≤ (P.at (t : Int)).m) : (withTry P t x).Ok := by
  have o := h.tk _ (at_nat ht)
  refine set_ok h ⟨o.w1, o.w2, o.m1, o.m2, o.c1, o.c2, ?_, fun y hy => ?_⟩
  · show ((P.at (t : Int)).tries ++ [x]).length ≤ 13
    rw [List.length_append]
    show _ + 1 ≤ 13
    omega
  · rcases List.mem_append.mp hy with z | z
    · exact o.tr y z
    · rw [List.mem_singleton] at z
      rw [z]
      exact hx
theorem getD_get {C : List Part} {p : Nat} {P : Part} (h : C[p]? = some P) : C.getD p ⟨0, 0, 0, [], []⟩ = P := by
  rw [List.getD_eq_getElem?_getD, h]
  rfl
theorem triedC_ok {C : List Part} {p t : Nat} {x : Int} {P : Part} (h : COk C) (hp : C[p]? = some P) (ht : t < P.tasks.length) (hf : (P.at (t : Int)).tries.length ≤ 12) (hx : 0 ≤ x ∧ x ≤ (P.at (t : Int)).m) : COk (triedC C p t x) := by
  unfold triedC
  rw [getD_get hp]
  exact cok_set h (withTry_ok (h.ok P (List.mem_of_getElem? hp)) ht hf hx)
theorem withTry_up {P : Part} {t : Nat} {x y : Int} (ht : t < P.tasks.length) (h : x ≤ y) : PUp (withTry P t x) (withTry P t y) := by
  have key := pup_set (P := withTry P t x) (k := (t : Int)) (u := { P.at (t : Int) with tries := (P.at (t : Int)).tries ++ [y] }) (by omega) (by show (t : Int) < ((P.tasks.set _ _).length : Int); rw [List.length_set]; omega) ?_
  · have e : ({ withTry P t x with tasks := (withTry P t x).tasks.set (t : Int).toNat { P.at (t : Int) with tries := (P.at (t : Int)).tries ++ [y] } } : Part) = withTry P t y := by
      unfold withTry
      simp only [Int.toNat_natCast, List.set_set]
    rw [e] at key
    exact key
  · have e : (withTry P t x).at (t : Int) = { P.at (t : Int) with tries := (P.at (t : Int)).tries ++ [x] } := by
      show (P.tasks.set t _).getD (t : Int).toNat default = _
      rw [Int.toNat_natCast, List.getD_eq_getElem?_getD, List.getElem?_set_self ht]
      rfl
    rw [e]
    have := tup_set (t := { P.at (t : Int) with tries := (P.at (t : Int)).tries ++ [x] }) (k := (P.at (t : Int)).tries.length) (x := x) (v := y) (by simp) h
    simpa using this
theorem triedC_up {C : List Part} {p t : Nat} {x y : Int} {P : Part} (hp : C[p]? = some P) (ht : t < P.tasks.length) (h : x ≤ y) : CUp (triedC C p t x) (triedC C p t y) := by
  unfold triedC
  rw [getD_get hp]
  have hk := (List.getElem?_eq_some_iff.mp hp).1
  have key := cup_set (C := C.set p (withTry P t x)) (k := p) (List.getElem?_set_self hk) (withTry_up (y := y) ht h)
  rw [List.set_set] at key
  exact key
theorem reached_up {C E : List Part} {w : Rat} (h : CUp C E) (hc : COk C) (he : COk E) (hr : reachedC C w = true) : reachedC E w = true := by
  have g := grade_le h hc he
  unfold reachedC at hr ⊢
  cases a : grade C with
  | none => rw [a] at hr; cases hr
  | some r =>
    cases b : grade E with
    | none => rw [g.1.mpr b] at a; cases a
    | some s =>
      rw [a] at hr
      have h1 := g.2 r s a b
      have h2 := of_decide_eq_true hr
      exact decide_eq_true (by grind)
def bsr (f : Nat → Bool) (lo hi : Nat) : Nat :=
  if h : lo < hi then if f ((lo + hi) / 2) = true then bsr f lo ((lo + hi) / 2) else bsr f ((lo + hi) / 2 + 1) hi else lo
termination_by hi - lo
decreasing_by all_goals omega
theorem bsr_yes {f : Nat → Bool} {lo hi : Nat} (h : lo < hi) (hf : f ((lo + hi) / 2) = true) : bsr f lo hi = bsr f lo ((lo + hi) / 2) := by
  rw [bsr, dif_pos h, if_pos hf]
theorem bsr_no {f : Nat → Bool} {lo hi : Nat} (h : lo < hi) (hf : f ((lo + hi) / 2) = false) : bsr f lo hi = bsr f ((lo + hi) / 2 + 1) hi := by
  rw [bsr, dif_pos h, if_neg (by rw [hf]; decide)]
theorem bsr_end {f : Nat → Bool} {lo hi : Nat} (h : ¬ lo < hi) : bsr f lo hi = lo := by
  rw [bsr, dif_neg h]
theorem bsr_spec {f : Nat → Bool} {top : Nat} (hm : ∀ x y, x ≤ y → y ≤ top → f x = true → f y = true) : ∀ {n lo hi : Nat}, hi - lo = n → lo ≤ hi → hi ≤ top → f hi = true → (lo = 0 ∨ f (lo - 1) = false) → (bsr f lo hi ≤ hi ∧ f (bsr f lo hi) = true ∧ (bsr f lo hi = 0 ∨ f (bsr f lo hi - 1) = false)) := by
  intro n
  induction n using Nat.strongRecOn with
  | _ n ih =>
    intro lo hi e h1 h2 hf hl
    by_cases c : lo < hi
    · cases q : f ((lo + hi) / 2) with
      | true =>
        rw [bsr_yes c q]
        have := ih (((lo + hi) / 2) - lo) (by omega) rfl (by omega) (by omega) q hl
        exact ⟨by omega, this.2⟩
      | false =>
        rw [bsr_no c q]
        have := ih (hi - ((lo + hi) / 2 + 1)) (by omega) rfl (by omega) h2 hf (.inr (by simpa using q))
        exact this
    · rw [bsr_end c]
      have : lo = hi := by omega
      subst this
      exact ⟨Nat.le_refl _, hf, hl⟩
def least (f : Nat → Bool) (top : Nat) : Option Int := if f top = true then some ((bsr f 0 top : Nat) : Int) else none
theorem least_yes {f : Nat → Bool} {top : Nat} (h : f top = true) : least f top = some ((bsr f 0 top : Nat) : Int) := if_pos h
theorem least_no {f : Nat → Bool} {top : Nat} (h : f top = false) : least f top = none := if_neg (by rw [h]; decide)
def pairD (q : Nat × Nat) : D := .tuple [.int (q.1 : Int), .int (q.2 : Int)]
def placesAt (P : Part) (p n : Nat) : List (Nat × Nat) := ((List.range n).filter fun (t : Nat) => decide ((P.at (t : Int)).tries.length < 12)).map fun t => (p, t)
def placesOf (C : List Part) (i : Nat) : List (Nat × Nat) := (List.range i).flatMap fun p => placesAt (C.getD p ⟨0, 0, 0, [], []⟩) p (C.getD p ⟨0, 0, 0, [], []⟩).tasks.length
theorem places_mem {C : List Part} {q : Nat × Nat} (h : q ∈ placesOf C C.length) : ∃ P, C[q.1]? = some P ∧ q.2 < P.tasks.length ∧ (P.at (q.2 : Int)).tries.length < 12 := by
  obtain ⟨p, hp, hq⟩ := List.mem_flatMap.mp h
  rw [List.mem_range] at hp
  obtain ⟨t, ht, rfl⟩ := List.mem_map.mp hq
  rw [List.mem_filter, List.mem_range, decide_eq_true_iff] at ht
  have hg : C[p]? = some (C.getD p ⟨0, 0, 0, [], []⟩) := by
    rw [List.getD_eq_getElem?_getD, List.getElem?_eq_getElem hp]
    rfl
  exact ⟨_, hg, ht.1, ht.2⟩
def wishBy (g : Option Rat) (c : Int) : Rat :=
  if c % 4 = 0 ∧ g ≠ none then g.getD 0
  else if c % 4 = 1 ∧ g ≠ none then g.getD 0 + Rat.divInt (c / 4 % 3) 1000
  else if c % 4 = 2 then (if c / 4 % 4 = 0 then 0 else if c / 4 % 4 = 1 then 1 else if c / 4 % 4 = 2 then Rat.divInt 1001 1000 else Rat.divInt 1 2)
  else Rat.divInt (c / 4 % 1001) 1000
theorem frk {t b : Int} (h0 : 0 < b) (h1 : 0 ≤ t) (h2 : t ≤ 2000) (h3 : b ≤ 2000) : Szk 11 (Rat.divInt t b) ∧ 0 ≤ Rat.divInt t b := by
  have : (2 : Nat) ^ 11 = 2048 := by decide
  exact ⟨Szk.fr h0 (by omega) (by omega), Rat.divInt_nonneg h1 (by omega)⟩
theorem wishBy_ok {g : Option Rat} {c : Int} (h : ∀ r, g = some r → Szk 2000 r ∧ 0 ≤ r) : Szk 2020 (wishBy g c) ∧ 0 ≤ wishBy g c := by
  unfold wishBy
  have a := mod_bd (c / 4) (show (0 : Int) < 3 by decide)
  have b := mod_bd (c / 4) (show (0 : Int) < 1001 by decide)
  split
  · cases g with
    | none => simp at *
    | some r => exact ⟨(h r rfl).1.mono (by decide), (h r rfl).2⟩
  · split
    · cases g with
      | none => simp at *
      | some r =>
        have f := frk (t := c / 4 % 3) (b := 1000) (by decide) a.1 (by omega) (by decide)
        exact ⟨((h r rfl).1.add f.1).mono (by decide), Rat.add_nonneg (h r rfl).2 f.2⟩
    · split
      · split
        · exact ⟨szk_zero (by decide), Rat.le_refl⟩
        · split
          · exact ⟨one_sz.mono (by decide), by decide⟩
          · split
            · have f := frk (t := 1001) (b := 1000) (by decide) (by decide) (by decide) (by decide)
              exact ⟨f.1.mono (by decide), f.2⟩
            · have f := frk (t := 1) (b := 2) (by decide) (by decide) (by decide) (by decide)
              exact ⟨f.1.mono (by decide), f.2⟩
      · have f := frk (t := c / 4 % 1001) (b := 1000) (by decide) b.1 (by omega) (by decide)
        exact ⟨f.1.mono (by decide), f.2⟩
def oneT (k : Int) (t : Task) : Task := if t.tries = [] then { t with tries := [(t.m * k + 999) / 1000] } else t
def allP (k : Int) (P : Part) : Part := { P with tasks := P.tasks.map (oneT k) }
def allC (k : Int) (C : List Part) : List Part := C.map (allP k)
theorem oneT_ok {k : Int} {t : Task} (h : t.Ok) (h0 : 0 ≤ k) (h1 : k ≤ 1000) : (oneT k t).Ok := by
  unfold oneT
  split
  · have m1 := h.m1
    have a : 0 ≤ t.m * k := Int.mul_nonneg (by omega) h0
    have b : t.m * k ≤ t.m * 1000 := Int.mul_le_mul_of_nonneg_left h1 (by omega)
    refine ⟨h.w1, h.w2, h.m1, h.m2, h.c1, h.c2, by show 1 ≤ 13; decide, fun x hx => ?_⟩
    have : x = (t.m * k + 999) / 1000 := by simpa using hx
    rw [this]
    exact ⟨by omega, by show _ ≤ t.m; omega⟩
  · exact h
theorem allP_ok {k : Int} {P : Part} (h : P.Ok) (h0 : 0 ≤ k) (h1 : k ≤ 1000) : (allP k P).Ok := ⟨h.w1, h.w2, h.o1, h.o2, h.t1, h.t2, by show (P.tasks.map _).length ≤ 9; rw [List.length_map]; exact h.n, fun t ht => by
  obtain ⟨u, hu, rfl⟩ := List.mem_map.mp ht
  exact oneT_ok (h.tk u hu) h0 h1, h.ne, h.ex⟩
theorem allC_ok {k : Int} {C : List Part} (h : COk C) (h0 : 0 ≤ k) (h1 : k ≤ 1000) : COk (allC k C) := ⟨by unfold allC; rw [List.length_map]; exact h.n, fun P hP => by
  obtain ⟨Q, hQ, rfl⟩ := List.mem_map.mp hP
  exact allP_ok (h.ok Q hQ) h0 h1⟩
theorem oneT_up {k l : Int} {t : Task} (h : t.Ok) (hk : k ≤ l) : TUp (oneT k t) (oneT l t) := by
  unfold oneT
  split
  · have m1 := h.m1
    have b : t.m * k ≤ t.m * l := Int.mul_le_mul_of_nonneg_left hk (by omega)
    exact tup_set (t := { t with tries := [(t.m * k + 999) / 1000] }) (k := 0) (x := (t.m * k + 999) / 1000) (v := (t.m * l + 999) / 1000) rfl (by omega)
  · exact .refl t
theorem allC_up {k l : Int} {C : List Part} (h : COk C) (hk : k ≤ l) : CUp (allC k C) (allC l C) := by
  refine ⟨by unfold allC; rw [List.length_map, List.length_map], fun i P Q hP hQ => ?_⟩
  unfold allC at hP hQ
  rw [List.getElem?_map] at hP hQ
  obtain ⟨R, hR, rfl⟩ := Option.map_eq_some_iff.mp hP
  rw [hR] at hQ
  cases hQ
  have ho := h.ok R (List.mem_of_getElem? hR)
  refine ⟨rfl, rfl, rfl, by show (R.tasks.map _).length = (R.tasks.map _).length; rw [List.length_map, List.length_map], fun j hj1 hj2 => ?_, Int.le_refl _⟩
  have hj3 : j < (R.tasks.length : Int) := by
    have : ((R.tasks.map (oneT k)).length : Int) = R.tasks.length := by rw [List.length_map]
    rw [← this]
    exact hj2
  have e : ∀ k, (allP k R).at j = oneT k (R.at j) := fun k => by
    show (R.tasks.map (oneT k)).getD j.toNat default = oneT k (R.tasks.getD j.toNat default)
    have hj : j.toNat < R.tasks.length := by omega
    rw [List.getD_eq_getElem?_getD, List.getD_eq_getElem?_getD, List.getElem?_map, List.getElem?_eq_getElem hj]
    rfl
  rw [e, e]
  exact oneT_up (ho.tk _ (at_mem hj1 hj3)) hk
def partT (k : Int) (P : Part) (j : Nat) : Part := { P with tasks := (P.tasks.take j).map (oneT k) ++ P.tasks.drop j }
def courseT (k : Int) (C : List Part) (i : Nat) : List Part := (C.take i).map (allP k) ++ C.drop i
theorem partT_zero (k : Int) (P : Part) : partT k P 0 = P := by
  unfold partT
  simp
theorem partT_all (k : Int) (P : Part) : partT k P P.tasks.length = allP k P := by
  unfold partT allP
  simp
theorem partT_at {k : Int} {P : Part} {j : Nat} (h : j < P.tasks.length) : (partT k P j).at (j : Int) = P.at (j : Int) := by
  show ((P.tasks.take j).map (oneT k) ++ P.tasks.drop j).getD (j : Int).toNat default = P.tasks.getD (j : Int).toNat default
  rw [Int.toNat_natCast, List.getD_eq_getElem?_getD, List.getD_eq_getElem?_getD, List.getElem?_append_right (by rw [List.length_map, List.length_take]; omega), List.length_map, List.length_take, List.getElem?_drop]
  congr 2
  omega
theorem partT_len {k : Int} {P : Part} {j : Nat} (h : j ≤ P.tasks.length) : (partT k P j).tasks.length = P.tasks.length := by
  show ((P.tasks.take j).map (oneT k) ++ P.tasks.drop j).length = _
  rw [List.length_append, List.length_map, List.length_take, List.length_drop]
  omega
theorem partT_set {k : Int} {P : Part} {j : Nat} (h : j < P.tasks.length) : partT k P (j + 1) = { P with tasks := (partT k P j).tasks.set j (oneT k (P.at (j : Int))) } := by
  have hat : P.tasks[j]? = some (P.at (j : Int)) := by have := at_get (P := P) (i := (j : Int)) (by omega) (by omega); rw [Int.toNat_natCast] at this; exact this
  unfold partT
  congr 1
  show _ = ((P.tasks.take j).map (oneT k) ++ P.tasks.drop j).set j _
  have hd : P.tasks.drop j = P.at (j : Int) :: P.tasks.drop (j + 1) := by
    rw [List.drop_eq_getElem_cons h]
    rw [List.getElem?_eq_getElem h] at hat
    rw [Option.some.inj hat]
  rw [take_snoc hat, hd, List.map_append, List.append_assoc]
  rw [List.set_append_right _ _ (by rw [List.length_map, List.length_take]; omega), List.length_map, List.length_take, show j - min j P.tasks.length = 0 by omega]
  rfl
theorem courseT_at {k : Int} {C : List Part} {i : Nat} {P : Part} (h : C[i]? = some P) : (courseT k C i)[i]? = some P := by
  have hi := (List.getElem?_eq_some_iff.mp h).1
  unfold courseT
  rw [List.getElem?_append_right (by rw [List.length_map, List.length_take]; omega), List.length_map, List.length_take, List.getElem?_drop]
  rw [show i + (i - min i C.length) = i by omega]
  exact h
theorem courseT_set {k : Int} {C : List Part} {i : Nat} {P : Part} (h : C[i]? = some P) : (courseT k C i).set i (allP k P) = courseT k C (i + 1) := by
  have hi := (List.getElem?_eq_some_iff.mp h).1
  unfold courseT
  have hd : C.drop i = P :: C.drop (i + 1) := by
    rw [List.drop_eq_getElem_cons hi]
    rw [List.getElem?_eq_getElem hi] at h
    cases h
    rfl
  rw [take_snoc h, hd, List.map_append, List.append_assoc, List.set_append_right _ _ (by rw [List.length_map, List.length_take]; omega), List.length_map, List.length_take, show i - min i C.length = 0 by omega]
  rfl
theorem courseT_len {k : Int} {C : List Part} {i : Nat} : (courseT k C i).length = C.length := by
  unfold courseT
  rw [List.length_append, List.length_map, List.length_take, List.length_drop]
  omega
theorem partT_ok {k : Int} {P : Part} {j : Nat} (h : P.Ok) (h0 : 0 ≤ k) (h1 : k ≤ 1000) : (partT k P j).Ok := ⟨h.w1, h.w2, h.o1, h.o2, h.t1, h.t2, by
  show ((P.tasks.take j).map (oneT k) ++ P.tasks.drop j).length ≤ 9
  rw [List.length_append, List.length_map, List.length_take, List.length_drop]
  have := h.n
  omega, fun t ht => by
  rcases List.mem_append.mp ht with z | z
  · obtain ⟨u, hu, rfl⟩ := List.mem_map.mp z
    exact oneT_ok (h.tk u (List.mem_of_mem_take hu)) h0 h1
  · exact h.tk t (List.mem_of_mem_drop z), h.ne, h.ex⟩
theorem courseT_ok {k : Int} {C : List Part} {i : Nat} (h : COk C) (h0 : 0 ≤ k) (h1 : k ≤ 1000) : COk (courseT k C i) := ⟨by rw [courseT_len]; exact h.n, fun P hP => by
  rcases List.mem_append.mp hP with z | z
  · obtain ⟨Q, hQ, rfl⟩ := List.mem_map.mp z
    exact allP_ok (h.ok Q (List.mem_of_mem_take hQ)) h0 h1
  · exact h.ok P (List.mem_of_mem_drop z)⟩
abbrev sp_with_try (K : PySem.W.Frag) : Sp := spR K 3 fun ds d => ∃ (P : Part) (t : Nat) (x : Int), ds = [P.d, .int (t : Int), .int x] ∧ P.Ok ∧ t < P.tasks.length ∧ d = (withTry P t x).d
abbrev sp_tried (K : PySem.W.Frag) : Sp := spN K 4 fun ds es => ∃ (C : List Part) (e : D) (p t : Nat) (x : Int) (P : Part), ds = [e, .int (p : Int), .int (t : Int), .int x] ∧ IsSeq e (C.map Part.d) ∧ COk C ∧ C[p]? = some P ∧ t < P.tasks.length ∧ es = (triedC C p t x).map Part.d
abbrev sp_l_tried (K : PySem.W.Frag) : Sp := spN K 4 fun ds es => ∃ (C : List Part) (e : D) (p t : Nat) (x : Int) (P : Part), ds = [e, .int (p : Int), .int (t : Int), .int x] ∧ IsSeq e (C.map Part.d) ∧ COk C ∧ C[p]? = some P ∧ t < P.tasks.length ∧ es = (triedC C p t x).map Part.d
abbrev sp_reached (K : PySem.W.Frag) : Sp := spR K 2 fun ds d => ∃ (C : List Part) (e : D) (w : Rat), ds = [e, shD w] ∧ IsSeq e (C.map Part.d) ∧ COk C ∧ Sz w ∧ d = .bool (reachedC C w)
abbrev sp_l_reached (K : PySem.W.Frag) : Sp := spR K 2 fun ds d => ∃ (C : List Part) (e : D) (w : Rat), ds = [e, shD w] ∧ IsSeq e (C.map Part.d) ∧ COk C ∧ Sz w ∧ d = .bool (reachedC C w)
abbrev sp_l_wish_by (K : PySem.W.Frag) : Sp := spR K 2 fun ds d => ∃ (C : List Part) (c : Int), ds = [.list (C.map Part.d), .int c] ∧ COk C ∧ d = shD (wishBy (grade C) c)
abbrev sp_l_places (K : PySem.W.Frag) : Sp := spN K 1 fun ds es => ∃ (C : List Part), ds = [.list (C.map Part.d)] ∧ COk C ∧ es = (placesOf C C.length).map pairD
abbrev sp_l_told9 (K : PySem.W.Frag) : Sp := spN K 4 fun ds es => ∃ (C : List Part) (e : D) (p t : Nat) (x : Int) (P : Part), ds = [e, .int (p : Int), .int (t : Int), .int x] ∧ IsSeq e (C.map Part.d) ∧ COk C ∧ C[p]? = some P ∧ t < P.tasks.length ∧ es = (triedC C p t x).map Part.d
abbrev sp_need_wish (K : PySem.W.Frag) : Sp := spR K 1 fun ds d => ∃ w : Rat, ds = [shD w] ∧ 0 ≤ w ∧ Sz w ∧ d = .none
abbrev sp_need_place (K : PySem.W.Frag) : Sp := spR K 3 fun ds d => ∃ (C : List Part) (e : D) (p t : Nat) (P : Part), ds = [e, .int (p : Int), .int (t : Int)] ∧ IsSeq e (C.map Part.d) ∧ COk C ∧ C[p]? = some P ∧ t < P.tasks.length ∧ (P.at (t : Int)).tries.length < 12 ∧ d = .none
def leastPts (C : List Part) (p t : Nat) (m : Int) (w : Rat) : Option Int := least (fun x => reachedC (triedC C p t (x : Int)) w) m.toNat
abbrev sp_least_points (K : PySem.W.Frag) : Sp := spR K 4 fun ds d => ∃ (C : List Part) (e : D) (p t : Nat) (P : Part) (w : Rat), ds = [e, .int (p : Int), .int (t : Int), shD w] ∧ IsSeq e (C.map Part.d) ∧ COk C ∧ C[p]? = some P ∧ t < P.tasks.length ∧ (P.at (t : Int)).tries.length < 12 ∧ 0 ≤ w ∧ Sz w ∧ d = optD (leastPts C p t (P.at (t : Int)).m w)
abbrev sp_all_tried (K : PySem.W.Frag) : Sp := spN K 2 fun ds es => ∃ (C : List Part) (e : D) (k : Int), ds = [e, .int k] ∧ IsSeq e (C.map Part.d) ∧ COk C ∧ 0 ≤ k ∧ k ≤ 1000 ∧ es = (allC k C).map Part.d
abbrev sp_l_all_tried (K : PySem.W.Frag) : Sp := spR K 2 fun ds d => ∃ (C : List Part) (k : Int), ds = [.list (C.map Part.d), .int k] ∧ COk C ∧ 0 ≤ k ∧ k ≤ 1000 ∧ d = .list ((allC k C).map Part.d)
def leastShr (C : List Part) (w : Rat) : Option Int := least (fun x => reachedC (allC (x : Int) C) w) 1000
abbrev sp_least_share (K : PySem.W.Frag) : Sp := spR K 2 fun ds d => ∃ (C : List Part) (e : D) (w : Rat), ds = [e, shD w] ∧ IsSeq e (C.map Part.d) ∧ COk C ∧ 0 ≤ w ∧ Sz w ∧ d = optD (leastShr C w)
abbrev sp_law_k09 (K : PySem.W.Frag) : Sp := spR K 1 fun ds d => ∃ ns : List Int, ds = [.list (ns.map PyData.int)] ∧ ns.length ≤ 63 ∧ d = .bool true
abbrev sp_law_k10 (K : PySem.W.Frag) : Sp := spR K 1 fun ds d => ∃ ns : List Int, ds = [.list (ns.map PyData.int)] ∧ ns.length ≤ 63 ∧ d = .bool true
end GW

namespace GW
open PySem PySem.Spec PyProof.Rows L2
variable {K : PySem.W.Frag}
inductive Cn where
  | grade | many | weight | worst | top | most | cap | mark | extra | place | wish | step
deriving DecidableEq
abbrev Cv := Cn → Addr
inductive Res where
  | ok (d : D)
  | err (c : Cn)
def spX (K : PySem.W.Frag) (cv : Cv) (n : Nat) (R : List D → Res → Prop) : Sp := fun vs H Q E => ∃ (O : List Addr) (ds : List D) (r : Res), (∀ a ∈ O, H a ≠ none) ∧ DpAll K (del O H) vs ds ∧ (ds.length = n ∧ R ds r) ∧
  (∀ d, r = .ok d → ∀ v H', Same H H' → Dp K (del O H') v d → Q v H') ∧ (∀ c, r = .err c → ∀ H', Same H H' → E (.ref (cv c)) none H')
theorem len_X {cv : Cv} {n : Nat} {R : List D → Res → Prop} {vs : List V} {H : Hp} {Q : VK} {E : XK} (h : spX K cv n R vs H Q E) : vs.length = n := by
  obtain ⟨O, ds, r, _, hd, ⟨hl, _⟩, _⟩ := h
  rw [dps_len hd, hl]
/-- an expression that raises -/
def Er (K : PySem.W.Frag) (W : WX) (v : Value) (te : TE) (τ : List Sl) : Prop := ∀ (O : List Addr) (H : Hp) (σ : L2.St), SokE K O H σ τ → (∀ H', Same H H' → W v none σ H') → ∀ Q : VK, te σ H Q
def ErA (K : PySem.W.Frag) (W : WX) (v : Value) (ta : TA) (τ : List Sl) : Prop := ∀ (O : List Addr) (H : Hp) (σ : L2.St), SokE K O H σ τ → (∀ H', Same H H' → W v none σ H') → ∀ Q : List V → Hp → Prop, ta σ H Q
section
variable {τ : List Sl} {W : WX} {v : Value} {te ta tb : TE} {tr : TA} {tt : TT} {cv : Cv} {n : Nat} {R : List D → Res → Prop} {as : List D} {d : D}
theorem ev_callX (h : EvA K tr τ as) (hR : R as (.ok d)) (hn : as.length = n := by rfl) : Ev K (tCallS (spX K cv n R) (WE W) tr) τ d := fun O H σ s Q q =>
  h O H σ s _ fun vs H1 e1 r => ⟨O, as, .ok d, (s.grow e1).dom, r, ⟨hn, hR⟩, fun d' hd v H' e r' => by cases hd; exact q v H' (e1.trans e) r', fun c hc => by cases hc⟩
theorem er_callX {c : Cn} (h : EvA K tr τ as) (hR : R as (.err c)) (hn : as.length = n := by rfl) : Er K W (.ref (cv c)) (tCallS (spX K cv n R) (WE W) tr) τ := fun O H σ s w Q =>
  h O H σ s _ fun vs H1 e1 r => ⟨O, as, .err c, (s.grow e1).dom, r, ⟨hn, hR⟩, fun d' hd => (by cases hd), fun c' hc H' e => by cases hc; exact w H' (e1.trans e)⟩
theorem era_cons1 (h : Er K W v te τ) : ErA K W v (tCons te tr) τ := fun O H σ s w Q => h O H σ s w _
theorem era_cons2 (h : Ev K te τ d) (h2 : ErA K W v tr τ) : ErA K W v (tCons te tr) τ := fun O H σ s w Q =>
  h O H σ s _ fun x H1 e1 r => h2 O H1 σ (s.grow e1) (fun H' e => w H' (e1.trans e)) _
theorem er_tup (h : ErA K W v tr τ) : Er K W v (tTup tr) τ := fun O H σ s w Q => h O H σ s w _
theorem er_cb {r : List V → Hp → VK → Prop} (h : ErA K W v tr τ) : Er K W v (tCB r tr) τ := fun O H σ s w Q => h O H σ s w _
theorem er_op1 {r : R2} (h : Er K W v ta τ) : Er K W v (tOp r ta tb) τ := fun O H σ s w Q => h O H σ s w _
theorem er_op2 {r : R2} (h : Ev K ta τ d) (h2 : Er K W v tb τ) : Er K W v (tOp r ta tb) τ := fun O H σ s w Q =>
  h O H σ s _ fun x H1 e1 r => h2 O H1 σ (s.grow e1) (fun H' e => w H' (e1.trans e)) _
/-- a name that holds exactly v -/
theorem evr_raw {i : Nat} {x : V} (h : τ[i]? = some (.raw x)) {O : List Addr} {H : Hp} {σ : L2.St} (s : SokE K O H σ τ) {Q : VK} (q : Q x H) : tVar i σ H Q := by
  obtain ⟨sv, h1, h2⟩ := slsok_get s.sl h
  exact ⟨x, by rw [h1, h2], q⟩
end
section
variable {O0 : List Addr} {F : Hp} {τ : List Sl} {Dn : Ends} {te : TE} {t tz : TS} {W : WX} {v : Value} {g : TG}
def tRaise (W : WX) (v : Value) : TS := fun _ σ H => W v none σ H
def Wish (K : PySem.W.Frag) (O0 : List Addr) (F : Hp) (W : WX) (v : Value) (τ : List Sl) : Prop := ∀ (H : Hp) (σ : L2.St), Sok K O0 F H σ τ → W v none σ H
theorem run_raise (k : Wish K O0 F W v τ) : Run K O0 F (tSeq (tRaise W v) tz) Dn τ := fun H σ S => k H σ S
theorem run_retE (h : Er K W v te τ) (k : Wish K O0 F W v τ) : Run K O0 F (tSeq (tRet te) tz) Dn τ := fun H σ S => h _ H σ S.e (fun H' e => k H' σ (S.grow e)) _
theorem run_dropE (h : Er K W v te τ) (k : Wish K O0 F W v τ) : Run K O0 F (tSeq (tDrop te) tz) Dn τ := fun H σ S => h _ H σ S.e (fun H' e => k H' σ (S.grow e)) _
theorem run_asgE (h : Er K W v te τ) (k : Wish K O0 F W v τ) : Run K O0 F (tSeq (tAsg te g) tz) Dn τ := fun H σ S => h _ H σ S.e (fun H' e => k H' σ (S.grow e)) _
/-- in a def: its own way out -/
abbrev wOf (E : XK) : WX := fun c d _ H => E c d H
theorem wish_def {E : XK} (k : ∀ H', Same F H' → E v none H') : Wish K O0 F (wOf E) v τ := fun H σ S => k H S.same
def tTryAs (K : PySem.W.Frag) (c : Value) (i : Nat) (tb : WX → TS) (ts : Addr → Value → Option Addr → TS) : TS := fun D σ H => tb (wAs K c i ts (fun _ _ _ _ => False) D) D σ H
abbrev wTry (K : PySem.W.Frag) (c : Value) (i : Nat) (ts : Addr → Value → Option Addr → TS) (D : Ends) : WX := wAs K c i ts (fun _ _ _ _ => False) D
theorem run_try {c : Value} {i : Nat} {tb : WX → TS} {ts : Addr → Value → Option Addr → TS} (h : Run K O0 F (tb (wTry K c i ts { Dn with nx := tz Dn })) { Dn with nx := tz Dn } τ) : Run K O0 F (tSeq (tTryAs K c i tb ts) tz) Dn τ := h
/-- the clause takes it: slot i holds it, the suite goes on -/
theorem wish_as {c : Value} {i : Nat} {ts : Addr → Value → Option Addr → TS} {rt : VK} {nx : L2.St → Hp → Prop} {bk ct : L2.St → Hp → Prop} (he : PySem.W.exmOne K v c = some true)
    (h : ∀ a, Run K O0 F (ts a v none) { nx := fun σ' H' => nx (σ'.set i none) H', rt := rt, bk := fun σ' H' => bk (σ'.set i none) H', ct := fun σ' H' => ct (σ'.set i none) H' } (τ.set i (.raw (.ref a)))) : Wish K O0 F (wTry K c i ts ⟨nx, rt, bk, ct⟩) v τ := fun H σ S => by
  refine ⟨true, he, fun _ a ha => ?_, fun z => by cases z⟩
  refine h a H _ ?_
  refine sok_shrink S rfl ?_
  exact rfl
def tTryMany (K : PySem.W.Frag) (l : List (Value × (Addr → Value → Option Addr → TS))) (tb : WX → TS) : TS := fun D σ H => tb (wMany K (fun _ _ _ _ => False) D l) D σ H
theorem run_tryMany {l : List (Value × (Addr → Value → Option Addr → TS))} {tb : WX → TS} (h : Run K O0 F (tb (wMany K (fun _ _ _ _ => False) { Dn with nx := tz Dn } l)) { Dn with nx := tz Dn } τ) : Run K O0 F (tSeq (tTryMany K l tb) tz) Dn τ := h
theorem wish_hit {Wo : WX} {c : Value} {ts : Addr → Value → Option Addr → TS} {l : List (Value × (Addr → Value → Option Addr → TS))} (he : PySem.W.exmOne K v c = some true) (h : ∀ a, Run K O0 F (ts a v none) Dn τ) : Wish K O0 F (wMany K Wo Dn ((c, ts) :: l)) v τ := fun H σ S =>
  ⟨true, he, fun _ a _ => h a H σ S, fun z => by cases z⟩
theorem wish_miss {Wo : WX} {c : Value} {ts : Addr → Value → Option Addr → TS} {l : List (Value × (Addr → Value → Option Addr → TS))} (he : PySem.W.exmOne K v c = some false) (h : Wish K O0 F (wMany K Wo Dn l) v τ) : Wish K O0 F (wMany K Wo Dn ((c, ts) :: l)) v τ := fun H σ S =>
  ⟨false, he, fun z => (by cases z), fun _ => h H σ S⟩
end
theorem body_X {cv : Cv} {m : Nat} {R : List D → Res → Prop} {N : List Str} {n : Nat} {t : XK → TS} (hn : N.length = n) (h : ∀ ds r, R ds r → ∀ (O : List Addr) (F : Hp) (Dn : Ends) (E : XK), (∀ σ H', Dn.rt .non H' → Dn.nx σ H') → (∀ d, r = .ok d → Ret K O F Dn.rt d) → (∀ c, r = .err c → ∀ H', Same F H' → E (.ref (cv c)) none H') → Run K O F (t E) Dn (init n ds)) (vs : List V) (H : Hp) (Q : VK) (E : XK) (q : spX K cv m R vs H Q E) :
    t E { nx := fun _ H' => Q .non H', rt := Q } (L2.start N vs) H := by
  obtain ⟨O, ds, r, dom, hd, ⟨hl, hR⟩, k1, k2⟩ := q
  subst hn
  exact h ds r hR O H { nx := fun _ H' => Q .non H', rt := Q } E (fun _ _ z => z) k1 k2 H _ (sok_init dom hd)
def rIsX (K : PySem.W.Frag) (a : Addr) (cls : Value) (dx : Option Addr) : List V → Hp → VK → Prop := fun xs H Q => ∃ D, cls = .ref D ∧ dx = none ∧ ExcC K D ∧ ∃ (c : V) (u : Value) (b : Bool), xs = [.ref a, c] ∧ ClsV c u ∧ PySem.W.kitOne K (.ref D) u = some b ∧ Q (.bl b) H
def rIsXT (K : PySem.W.Frag) (a : Addr) (cls : Value) (dx : Option Addr) : List V → Hp → VK → Prop := fun xs H Q => ∃ D, cls = .ref D ∧ dx = none ∧ ExcC K D ∧ ∃ (tp : Addr) (cs : List V) (us : List Value) (b : Bool), xs = [.ref a, .ref tp] ∧ H tp = some (.tup cs) ∧ Paired ClsV cs us ∧ PySem.W.kitAny K (.ref D) us = some b ∧ Q (.bl b) H
section
variable {X : Cx} {a : Addr} {oe : Obj} {pn : List (Addr × Obj)} {cls : Value} {dx : Option Addr}
theorem call_isX (hz : Zc cls dx oe) (hf : ∃ vs, oe.data = .fields vs) : CallR (X.suite a ((a, oe) :: pn)) (.builtin "isinstance") (rIsX X.K a cls dx) := by
  intro pins s σ H xs us Q I r h
  obtain ⟨D, rfl, rfl, C, c, u, b, rfl, k, e, q⟩ := h
  exact call_isE C hz hf pins s σ H _ us Q I r ⟨c, u, b, rfl, fun w rw => k.eq rw, e, q⟩
theorem call_isXT (hz : Zc cls dx oe) (hf : ∃ vs, oe.data = .fields vs) : CallR (X.suite a ((a, oe) :: pn)) (.builtin "isinstance") (rIsXT X.K a cls dx) := by
  intro pins s σ H xs us Q I r h
  obtain ⟨D, rfl, rfl, C, tp, cs, ws, b, rfl, hT, k, e, q⟩ := h
  obtain ⟨u1, u2, rfl, r1, r2⟩ := vals2 r
  cases (show u2 = Value.ref tp from r2)
  cases (show u1 = Value.ref a from r1)
  obtain ⟨hget, _⟩ := I.pin (a, oe) (List.mem_append.mpr (.inl List.mem_cons_self))
  obtain ⟨vs, hv⟩ := hf
  have J : PySem.W.InstAt s.heap a oe D none := by
    obtain ⟨oc, od, oda, osl⟩ := oe
    obtain ⟨h1, h2⟩ := hz
    dsimp only at h1 h2 hv
    subst h1 h2 hv
    exact ⟨hget, rfl, rfl, trivial⟩
  obtain ⟨_, its, rv, o, h1, h2, n, h3⟩ := (show ObjOk X.prog X.w H s.heap tp (.tup cs) from I.hok tp _ hT)
  have e3 := ClsV.all k rv
  subst e3
  obtain ⟨oc, od, dt, sl⟩ := o
  simp only at h2 h3
  subst h2 h3
  exact PySem.W.kia_tup (PySem.W.handS_kitx_exc C.hg C.hk C.hs C.hd C.ha C.hn C.ht C.hm) I.kIn J h1 e (fun z => nomatch z) fun tk => ⟨.bl b, H, I.kept (t' := tk) fun _ _ z => z, rfl, q⟩
end
section
variable {τ : List Sl} {a D0 : Addr}
theorem ev_isX {i : Nat} {c : V} {u : Value} {b : Bool} (h : τ[i]? = some (.raw (.ref a))) (C : ExcC K D0) (k : ClsV c u) (e : PySem.W.kitOne K (.ref D0) u = some b) : Ev K (tCB (rIsX K a (.ref D0) none) (tCons (tVar i) (tCons (tC c) tNil))) τ (.bool b) := fun O H σ s Q q =>
  evr_raw h s ⟨D0, rfl, rfl, C, c, u, b, rfl, k, e, q _ H (Same.refl H) (.bl b)⟩
theorem ev_isXT {i : Nat} {cs : List V} {us : List Value} {b : Bool} {tr : TA} (h : τ[i]? = some (.raw (.ref a))) (C : ExcC K D0) (ht : ∀ σ H Q, tr σ H Q = Q cs H) (hl : cs.length ≤ 100000) (k : Paired ClsV cs us) (e : PySem.W.kitAny K (.ref D0) us = some b) : Ev K (tCB (rIsXT K a (.ref D0) none) (tCons (tVar i) (tCons (tTup tr) tNil))) τ (.bool b) := fun O H σ s Q q => by
  show tVar i σ H (fun x H1 => tTup tr σ H1 fun y H2 => rIsXT K a (.ref D0) none [x, y] H2 Q)
  refine evr_raw h s ?_
  unfold tTup
  rw [ht]
  refine ⟨Nat.le_trans hl (by decide), fun p hp => ?_⟩
  exact ⟨D0, rfl, rfl, C, p, cs, us, b, rfl, upd_same, k, e, q _ _ (same_upd hp) (.bl b)⟩
end
structure FnX (P : Program) (w : World) (K : PySem.W.Frag) (mg : Str → Option Value) (base : Heap) (x : Str) (ps : List Str) (k : Nat) (sp : Sp) : Prop where
  ex : ∃ f fd, FnOk P w K mg base (L2.CX P w) k f fd ps sp ∧ mg x = some (.ref f) ∧ PySem.W.keepIn K (.ref f) = true ∧ Binds K fd ps []
section
variable {X : Cx} {x : Str} {ps : List Str} {k : Nat} {sp : Sp} {e : Expr} {es : List Expr} {p pos : Pos} {t : TA} {W : WX}
theorem pe_fnX (G : FnX X.prog X.w X.K X.mg X.base x ps k sp) (hr : Room k X.A) (tk : Takes X W) (ha : PA X (e :: es) t) (hg : Gl X x := by rfl)
    (hdb : (x == ("__debug__" : Str)) = false := by decide) (he : starEach (e :: es) X.env = (false, eval e X.env) :: starEach es X.env := by rfl) (hpl : (backTo pos (starEach es X.env)).any (·.1) = false := by rfl) :
    PE X (.Call (.Name x p) (e :: es) [] pos) (tCallS sp (WE W) t) := by
  obtain ⟨f, fd, F, hm, hk, hb⟩ := G.ex
  exact pe_callS F hr hg hm hk hb (fun σ => passAt tk σ) ha hdb he hpl
end
section
variable {x y : Addr}
theorem kit_self : PySem.W.kitOne K (.ref x) (.ref x) = some true := by
  unfold PySem.W.kitOne
  rw [if_pos (beq_self_eq_true _)]
theorem kit_ne (hd : PySem.W.hasDictIn K y = true) (ht : PySem.W.typeIn K (.ref y) = some (.type "type")) (hyy : PySem.W.subIn K (.ref y) (.ref y) = some true) (h : PySem.W.subIn K (.ref x) (.ref y) = some false) : PySem.W.kitOne K (.ref x) (.ref y) = some false := by
  have hne : x ≠ y := fun e => by rw [e, hyy] at h; cases h
  unfold PySem.W.kitOne
  have hb : ((Value.ref x == Value.ref y) : Bool) = false := beq_eq_false_iff_ne.mpr fun e => hne (Value.ref.inj e)
  rw [hb, if_neg Bool.false_ne_true]
  obtain ⟨cd, hc, _⟩ := PySem.W.any_some hd
  show (if ((PySem.W.clsIn K y).isSome && PySem.W.typeIn K (.ref y) == some (.type "type")) = true then PySem.W.subIn K (.ref x) (.ref y) else none) = some false
  rw [hc, ht, h]
  rfl
theorem kit_ve (h : PySem.W.subIn K (.ref x) (.type "ValueError") = some true) : PySem.W.kitOne K (.ref x) (.type "ValueError") = some true := by
  unfold PySem.W.kitOne
  have hb : ((Value.ref x == Value.type "ValueError") : Bool) = false := beq_eq_false_iff_ne.mpr fun e => nomatch e
  rw [hb, if_neg Bool.false_ne_true]
  show (if PySem.W.kitMeta "ValueError" = true then PySem.W.subIn K (.ref x) (.type "ValueError") else none) = some true
  rw [if_pos (by decide +kernel), h]
end
end GW

namespace GW
open PySem PySem.Spec PyProof.Rows L2
variable {K : PySem.W.Frag}
def g2 (K : PySem.W.Frag) (i j : Nat) : TG := gTup K 2 (gCons (gName i) (gCons (gName j) gNil))
section
variable {O0 : List Addr} {F G H H' : Hp} {τ : List Sl} {Dn : Ends} {te : TE} {t u tz tu tw : TS} {tt : TT} {d : D} {ds : List D}
theorem g2_put {x : V} {d1 d2 : D} {i j : Nat} {σ : L2.St} {C : L2.St → Hp → Prop} (S : Sok K O0 F H σ τ) (r : Dp K (del (owns τ ++ O0) H) x (.tuple [d1, d2])) (k : ∀ σ', Sok K O0 F H σ' ((τ.set i (.im d1)).set j (.im d2)) → C σ' H) : gTup K 2 (gCons (gName i) (gCons (gName j) gNil)) x σ H C := by
  obtain ⟨a, xs, rfl, hq, ha⟩ := dp_tup r
  obtain ⟨v, w, rfl, r1, r2⟩ := dps2 ha
  refine ⟨a, [v, w], rfl, sqt_same del_same hq, rfl, v, [w], rfl, w, [], rfl, rfl, k _ ?_⟩
  have S1 := sok_put (i := i) S r1
  refine sok_put S1 (dp_same (del_sub fun a ha => ?_) r2)
  rcases List.mem_append.mp ha with z | z
  · exact List.mem_append_left _ ((owns_set_sub rfl).subset z)
  · exact List.mem_append_right _ z
theorem run_for2 {α : Type} {l : List α} {f1 f2 : α → D} {tl : TE} {i1 i2 : Nat} (js : List Nat) (Inv : Nat → List Sl → Prop) (h : Ev K tl τ d) (hd' : IsSeq d (l.map fun a => PyData.tuple [f1 a, f2 a])) (h0 : Inv 0 (forget js τ))
    (hs : ∀ G, Same F G → ∀ i a τ', l[i]? = some a → Inv i τ' → Run K O0 G tu { Dn with nx := NX K O0 G (Inv (i + 1)), ct := NX K O0 G (Inv (i + 1)), bk := tz Dn } ((τ'.set i1 (.im (f1 a))).set i2 (.im (f2 a))))
    (hd : ∀ τ', Inv l.length τ' → Run K O0 F tz Dn τ') : Run K O0 F (tSeq (tFor (iSeq K tl) (gTup K 2 (gCons (gName i1) (gCons (gName i2) gNil))) tu) tz) Dn τ := fun H σ S => by
  refine h _ H σ S.e _ fun v H1 e1 r => ?_
  have S1 := S.grow e1
  have turn : ∀ {xs : List V}, DpAll K (del (owns τ ++ O0) H1) xs (l.map fun a => PyData.tuple [f1 a, f2 a]) → ∀ i x σ' H', xs[i]? = some x → NX K O0 (del (owns τ) H1) (Inv i) σ' H' → gTup K 2 (gCons (gName i1) (gCons (gName i2) gNil)) x σ' H' fun σ2 H2 => tu { Dn with nx := NX K O0 (del (owns τ) H1) (Inv (i + 1)), ct := NX K O0 (del (owns τ) H1) (Inv (i + 1)), bk := tz Dn } σ2 H2 := fun {xs} ha i x σ' H' hx hn => by
    obtain ⟨τ', hi, S'⟩ := hn
    obtain ⟨d, hdd, r⟩ := dps_get' ha hx
    rw [List.getElem?_map] at hdd
    obtain ⟨a, hal, rfl⟩ := Option.map_eq_some_iff.mp hdd
    refine g2_put S' (dp_same ?_ r) fun σ2 S2 => hs _ S1.base i a τ' hal hi H' _ S2
    rw [del_app, del_app]
    exact del_grow S'.base
  have fin : ∀ {xs : List V}, DpAll K (del (owns τ ++ O0) H1) xs (l.map fun a => PyData.tuple [f1 a, f2 a]) → ∀ σ' H', NX K O0 (del (owns τ) H1) (Inv xs.length) σ' H' → tz Dn σ' H' := fun {xs} ha σ' H' hn => by
    obtain ⟨τ', hi, S'⟩ := hn
    rw [dps_len ha, List.length_map] at hi
    exact hd τ' hi H' σ' (S'.down S1.base S1.amb)
  rcases hd' with rfl | rfl
  · obtain ⟨a, xs, rfl, hq, ha⟩ := dp_lst r
    refine ⟨a, rfl, .inl ⟨⟨xs, sql_same del_same hq⟩, for_list (xs := xs) (fun i => NX K O0 (del (owns τ) H1) (Inv i)) ⟨_, h0, sok_forget js S1.rebase⟩ (fun i σ' H' _ hn => ?_) (turn ha) (fin ha)⟩⟩
    obtain ⟨τ', _, S'⟩ := hn
    rw [del_app] at hq
    exact sql_same ((del_same (O := O0)).trans S'.same) hq
  · obtain ⟨a, xs, rfl, hq, ha⟩ := dp_tup r
    refine ⟨a, rfl, .inr ⟨⟨xs, sqt_same del_same hq⟩, for_tup (xs := xs) (fun i => NX K O0 (del (owns τ) H1) (Inv i)) ⟨_, h0, sok_forget js S1.rebase⟩ (fun i σ' H' _ hn => ?_) (turn ha) (fin ha)⟩⟩
    obtain ⟨τ', _, S'⟩ := hn
    rw [del_app] at hq
    exact sqt_same ((del_same (O := O0)).trans S'.same) hq
theorem en_lc2 {α : Type} {l : List α} {f1 f2 : α → D} {tl : TE} {i j : Nat} (hij : i ≠ j) (p : α → Bool) (e : α → D) (h : Ev K tl τ d) (hs : IsSeq d (l.map fun a => PyData.tuple [f1 a, f2 a])) (hz : l.length ≤ 50000)
    (ht : ∀ a ∈ l, EvT K tt ((τ.set i (.im (f1 a))).set j (.im (f2 a))) (p a)) (he : ∀ a ∈ l, p a = true → Ev K te ((τ.set i (.im (f1 a))).set j (.im (f2 a))) (e a)) :
    EvN K (tLc (iSeq K tl) (gTup K 2 (gCons (gName i) (gCons (gName j) gNil))) tt te [i, j]) τ ((l.filter p).map e) := fun O H σ s Q q =>
  h O H σ s _ fun v H1 e1 r1 => by
    have S := s.grow e1
    let es : Nat → List D := fun m => ((l.take m).filter p).map e
    have hlen : ∀ m, (es m).length < 100000 := fun m => by
      show (((l.take m).filter p).map e).length < _
      rw [List.length_map]
      have := List.length_filter_le p (l.take m)
      rw [List.length_take] at this
      omega
    have turn : ∀ {Dl : Addr} {xs : List V}, H1 Dl = none → DpAll K (del O H1) xs (l.map fun a => PyData.tuple [f1 a, f2 a]) → ∀ m x H', xs[m]? = some x → (Same H1 H' ∧ ∃ vs, H' Dl = some (.lst vs) ∧ DpAll K (del (Dl :: O) H') vs (es m)) →
        gTup K 2 (gCons (gName i) (gCons (gName j) gNil)) x (wipe σ [i, j]) H' fun σ2 H2 => wipe σ2 [i, j] = wipe σ [i, j] ∧ tt σ2 H2 fun b H3 => if b = true then te σ2 H3 fun y H4 => ∃ acc, H4 Dl = some (.lst acc) ∧ acc.length < sizeLine ∧ (Same H1 (upd H4 Dl (.lst (acc ++ [y]))) ∧ ∃ vs, (upd H4 Dl (.lst (acc ++ [y]))) Dl = some (.lst vs) ∧ DpAll K (del (Dl :: O) (upd H4 Dl (.lst (acc ++ [y])))) vs (es (m + 1))) else (Same H1 H3 ∧ ∃ vs, H3 Dl = some (.lst vs) ∧ DpAll K (del (Dl :: O) H3) vs (es (m + 1))) := fun {Dl xs} hD ra m x H' hx pv => by
      obtain ⟨e2, vs, hv, rv⟩ := pv
      obtain ⟨dd, hdd, rx⟩ := dps_get' ra hx
      rw [List.getElem?_map] at hdd
      obtain ⟨a, hal, rfl⟩ := Option.map_eq_some_iff.mp hdd
      have ham := List.mem_of_getElem? hal
      have up : Same (del O H1) (del (Dl :: O) H') := fun b o z => by
        by_cases hb : b ∈ O
        · rw [del_in hb] at z; cases z
        · rw [del_out hb] at z
          rw [del_out (by simp [hb, ne_of_none z hD])]
          exact e2 b o z
      obtain ⟨q0, ys, rfl, hq, hy⟩ := dp_tup (dp_same up rx)
      obtain ⟨v1, v2, rfl, r1, r2⟩ := dps2 hy
      have w1 : ((wipe σ [i, j]).set i (some v1)).set j (some v2) = (σ.set i (some v1)).set j (some v2) := by
        show (((σ.set j none).set i none).set i (some v1)).set j (some v2) = _
        rw [List.set_set, List.set_comm _ _ (Ne.symm hij), List.set_set]
      refine ⟨q0, [v1, v2], rfl, sqt_same del_same hq, rfl, v1, [v2], rfl, v2, [], rfl, rfl, ?_⟩
      rw [w1]
      refine ⟨?_, ?_⟩
      · show (((σ.set i (some v1)).set j (some v2)).set j none).set i none = (σ.set j none).set i none
        rw [List.set_set, List.set_comm _ _ hij, List.set_set, List.set_comm _ _ (Ne.symm hij)]
      · have S' : SokE K (Dl :: O) H' ((σ.set i (some v1)).set j (some v2)) ((τ.set i (.im (f1 a))).set j (.im (f2 a))) := by
          refine ⟨fun b hb z => ?_, fun b hb => List.mem_cons_of_mem _ (S.sub b ((owns_set_sub rfl).subset ((owns_set_sub rfl).subset hb))), slsok_set (show SlOk K _ H' (some v2) (.im (f2 a)) from ⟨v2, rfl, r2⟩) j (slsok_set (show SlOk K _ H' (some v1) (.im (f1 a)) from ⟨v1, rfl, r1⟩) i (slsok_up hD e2 S.sl))⟩
          rcases List.mem_cons.mp hb with h | h
          · rw [h, hv] at z; cases z
          · exact (S.grow e2).dom b h z
        have hes : es (m + 1) = es m ++ (if p a = true then [e a] else []) := by
          show ((l.take (m + 1)).filter p).map e = _
          rw [take_snoc hal, List.filter_append, List.map_append]
          cases hp : p a <;> simp [es, hp]
        refine ht a ham _ H' _ S' _ fun H3 e3 => ?_
        cases hp : p a with
        | false =>
          rw [hp] at hes
          rw [if_neg (by decide)]
          refine ⟨e2.trans e3, vs, e3 _ _ hv, ?_⟩
          rw [hes]
          simp only [Bool.false_eq_true, if_false, List.append_nil]
          exact dps_same (del_grow e3) rv
        | true =>
          rw [hp] at hes
          rw [if_pos rfl]
          refine he a ham hp _ H3 _ (S'.grow e3) _ fun y H4 e4 ry => ?_
          have hv4 := e4 _ _ (e3 _ _ hv)
          refine ⟨vs, hv4, ?_, ?_, _, upd_same, ?_⟩
          · rw [dps_len rv]
            exact Nat.lt_trans (hlen m) (by decide)
          · intro b o z
            rw [upd_ne (ne_of_none z hD)]
            exact e4 _ _ (e3 _ _ (e2 _ _ z))
          · rw [hes, del_upd_in List.mem_cons_self]
            simp only [if_true]
            exact dps_app (dps_same (del_grow (e3.trans e4)) rv) (.cons ry .nil)
    rcases hs with rfl | rfl
    · obtain ⟨a, xs, rfl, hq, ra⟩ := dp_lst r1
      refine ⟨a, rfl, .inl ⟨⟨xs, sql_same del_same hq⟩, fun Dl hD => lc_list (xs := xs) (fun m H' => Same H1 H' ∧ ∃ vs, H' Dl = some (.lst vs) ∧ DpAll K (del (Dl :: O) H') vs (es m)) ⟨same_upd hD, [], upd_same, .nil⟩ (fun m H' _ p => sql_same (del_same.trans p.1) hq) (turn hD ra) (fun H' pv => ?_)⟩⟩
      obtain ⟨e2, vs, hv, rv⟩ := pv
      rw [dps_len ra, List.length_map] at rv
      have : es l.length = (l.filter p).map e := by show ((l.take l.length).filter p).map e = _; rw [List.take_length]
      rw [this] at rv
      exact q Dl vs H' (e1.free hD) (e1.trans e2) hv rv
    · obtain ⟨a, xs, rfl, hq, ra⟩ := dp_tup r1
      refine ⟨a, rfl, .inr ⟨⟨xs, sqt_same del_same hq⟩, fun Dl hD => lc_tup (xs := xs) (fun m H' => Same H1 H' ∧ ∃ vs, H' Dl = some (.lst vs) ∧ DpAll K (del (Dl :: O) H') vs (es m)) ⟨same_upd hD, [], upd_same, .nil⟩ (fun m H' _ p => sqt_same (del_same.trans p.1) hq) (turn hD ra) (fun H' pv => ?_)⟩⟩
      obtain ⟨e2, vs, hv, rv⟩ := pv
      rw [dps_len ra, List.length_map] at rv
      have : es l.length = (l.filter p).map e := by show ((l.take l.length).filter p).map e = _; rw [List.take_length]
      rw [this] at rv
      exact q Dl vs H' (e1.free hD) (e1.trans e2) hv rv
end
end GW

namespace GW
open PySem PySem.Spec PyProof.Rows L2
variable {K : PySem.W.Frag}
theorem roomH_units {k : Nat} {A : Around} (r : L2H.RoomH k A) : A.units + 64 < cLine := by
  have := r.un
  omega
/-- a promise of the object at an address, an exception of that class -/
abbrev SpE := Addr → Value → Sp
def Held (outer : List Env) (H : Hp) (s : Shared) (p : Addr × Obj) (cls : Value) : Prop := L2H.PinOk outer H s p ∧ Zc cls none p.2 ∧ ∃ ws, p.2.data = .fields ws
def RunE (P : Program) (w : World) (K : PySem.W.Frag) (mg : Str → Option Value) (base : Heap) (k : Nat) (f : Addr) (fd : FuncData) (ps : List Str) (sp : SpE) : Prop :=
  ∀ (A : Around) (o : List Env) (s : Shared) (H : Hp) (us : List Value) (vs : List V) (Q : VK) (p : Addr × Obj) (c : Value), L2H.RoomH k A → Held o H s p c → Env0 P w K mg base A o s H → BindsTo s fd ⟨us, []⟩ (ps.zip us) → Vals vs us → sp p.1 c vs H Q E0 → codeAny (model P w) A (.call (.ref f) ⟨us, []⟩) (CR CX0 o P w H s Q E0) s
structure FnE (P : Program) (w : World) (K : PySem.W.Frag) (mg : Str → Option Value) (base : Heap) (x : Str) (ps : List Str) (k : Nat) (sp : SpE) : Prop where
  len : ∀ a c vs H Q E, sp a c vs H Q E → vs.length = ps.length
  ex : ∃ f fd, RunE P w K mg base k f fd ps sp ∧ mg x = some (.ref f) ∧ PySem.W.keepIn K (.ref f) = true ∧ Binds K fd ps []
/-- the context of its body: the exception's object is one of the things that stay -/
abbrev cxE (P : Program) (w : World) (K : PySem.W.Frag) (mg : Str → Option Value) (base : Heap) (N : List Str) (qual : Str) (sc : Scope) (f : Addr) (cdv : Value) (A : Around) (o : List Env) (s : Shared) (H : Hp) (p : Addr × Obj) : Cx := (L2H.cxH CX0 P w K mg base N qual sc f cdv A o s H E0 p).nox
section
variable {P : Program} {w : World} {mg : Str → Option Value} {base : Heap} {N ps : List Str} {x qual : Str} {st : Stmt} {f : Addr} {fd : FuncData} {k : Nat} {sp : SpE}
theorem runE_of (F : Fun K x qual st f fd) (S : FnScope N ps (defScope st)) (len : ∀ a c vs H Q E, sp a c vs H Q E → vs.length = ps.length)
    (body : ∀ (cdv : Value) (A : Around) (o : List Env) (s : Shared) (H : Hp) (vs : List V) (Q : VK) (p : Addr × Obj) (c : Value), L2H.RoomH k (A.deeper (envOfC qual (defScope st) s.heap.objs.size f cdv)) → Zc c none p.2 → (∃ ws, p.2.data = .fields ws) → sp p.1 c vs H Q E0 →
      ∃ t, PSs (cxE P w K mg base N qual (defScope st) f cdv A o s H p) (defBody st) t ∧ t { nx := fun _ H' => Q .non H', rt := Q } (L2.start N vs) H) : RunE P w K mg base (k + 1) f fd ps sp := by
  obtain ⟨oc, od, kV, doc, pm, an, cdv, ct, osl, rfl, lk, hcd⟩ := F.ex
  intro A o s H us vs Q p c hr hp e0 hb r h
  have stay : ∀ b ob, base.get? b = some ob → s.heap.get? b = some ob := fun b ob e => (e0.bs b ob e).1
  have kx : K.In s.heap := e0.mod.kin.keeps stay
  have kinds : ∀ y ∈ ps.zip us, (defScope st).names.lookup y.1 = some .local ∨ ((defScope st).names.lookup y.1 = some .cell ∧ ((cellsFrom (s.heap.objs.size + 1) (defScope st).names []).lookup y.1).isSome = true) := by
    intro y hy
    rcases S.par y.1 (List.of_mem_zip (show (y.1, y.2) ∈ _ from hy)).1 with z | z
    · exact .inl z
    · exact .inr ⟨z, PySem.W.cellsFrom_some _ _ _ (.inl z)⟩
  refine codeAny_call_function hr.depth (kx _ _ lk) rfl S.co S.gen rfl (PySem.W.codeRec_of kx hcd) (hb _ _ _ _ (wpAny_newFunctionEnv_cells S.kind kinds fun env he s1 ic => ?_))
  subst he
  obtain ⟨t, ht, hq⟩ := body cdv A o s H vs Q p c (hr.deeper _) hp.2.1 hp.2.2 h
  have J := L2H.inv_startH (CX := CX0) (cd := cdv) (E := E0) S hp.1 e0 (len _ _ _ _ _ _ h) r ic
  refine ⟨(e0.mod.nolimit.keeps stay).keeps ic.toInCall.keep, codeAny_func (wpAny_mono (ht.nox.run [] s1 (L2.start N vs) H _ J hq) (fun fl s2 g => ?_) fun e s2 g => g)⟩
  match fl, g with
  | .ret u, ⟨v, _, H2, J2, rv, q⟩ => exact ⟨v, H2, J2.os, J2.bare, J2.base, J2.hok, rv, q⟩
  | .next, ⟨_, H2, J2, q⟩ => exact ⟨.non, H2, J2.os, J2.bare, J2.base, J2.hok, rfl, q⟩
  | .brk, ⟨_, _, _, q⟩ => exact q.elim
  | .cont, ⟨_, _, _, q⟩ => exact q.elim
end
/-- f(e, ..) in a suite that holds the object at a -/
def tCallE (sp : SpE) (a : Addr) (cls : Value) (d : Option Addr) (t : TA) : TE := fun σ H Q => d = none ∧ t σ H fun vs H1 => sp a cls vs H1 Q E0
section
variable {X : Cx} {x : Str} {ps : List Str} {k : Nat} {sp : SpE} {e : Expr} {es : List Expr} {p pos : Pos} {t : TA} {a : Addr} {oe : Obj} {pn : List (Addr × Obj)} {cls : Value} {d : Option Addr}
theorem pe_fnE (G : FnE X.prog X.w X.K X.mg X.base x ps k sp) (hr : Room k X.A) (hz : Zc cls d oe) (hf : ∃ ws, oe.data = .fields ws) (ha : PA (X.suite a ((a, oe) :: pn)) (e :: es) t) (hg : Gl (X.suite a ((a, oe) :: pn)) x := by rfl)
    (hdb : (x == ("__debug__" : Str)) = false := by decide) (he : starEach (e :: es) X.env = (false, eval e X.env) :: starEach es X.env := by rfl) (hpl : (backTo pos (starEach es X.env)).any (·.1) = false := by rfl) :
    PE (X.suite a ((a, oe) :: pn)) (.Call (.Name x p) (e :: es) [] pos) (tCallE sp a cls d t) := ⟨fun pins s σ H Q I h => by
  obtain ⟨hd, h⟩ := h; subst hd
  obtain ⟨f, fd, run, hm, hk, hb⟩ := G.ex
  exact wpAny_Call_Name_kw (ld_glob I hg hm (PySem.W.callWith_K (h₀ := X.base) I.ok.mod.kin hk (thn (ha.run pos pins s σ H _ I h) fun us s1 z => by
    obtain ⟨vs, H1, J, r, q⟩ := z
    have hl : us.length = ps.length := r.length.symm.trans (G.len _ _ _ _ _ _ q)
    have b := hb s1 us J.kIn (by rw [List.append_nil]; exact hl)
    rw [List.append_nil] at b
    obtain ⟨p1, p2, p3, p4, p5⟩ := J.pin (a, oe) (List.mem_append_left _ List.mem_cons_self)
    refine ⟨J.kIn, wpAny_call (codeAny_mono (run (X.suite a ((a, oe) :: pn)).A X.stack s1 H1 us vs Q (a, oe) cls ⟨hr.dp, hr.un⟩ ⟨⟨p1, p2, fun z => (List.mem_cons.mp (J.stkSub a z)).elim p3 p4, p5⟩, hz, hf⟩ J.env0 b r q) fun rs s2 g => ?_)⟩
    match rs, g with
    | .ok (.ret u), g => exact J.after g) he hpl) hdb)⟩
end
section
variable {X : Cx} {a : Addr} {oe : Obj} {cls : Value}
theorem call_isP (hp : (a, oe) ∈ X.pn) (hz : Zc cls none oe) (hf : ∃ vs, oe.data = .fields vs) : CallR X (.builtin "isinstance") (fun xs H Q => rIsX X.K a cls none xs H Q ∨ rIsXT X.K a cls none xs H Q) := by
  intro pins s σ H xs us Q I r h
  have J : ∀ D, cls = .ref D → PySem.W.InstAt s.heap a oe D none := fun D hD => by
    obtain ⟨hget, _⟩ := I.pin (a, oe) (List.mem_append_left _ hp)
    obtain ⟨vs, hv⟩ := hf
    obtain ⟨oc, od, oda, osl⟩ := oe
    obtain ⟨h1, h2⟩ := hz
    dsimp only at h1 h2 hv
    subst h1 h2 hv hD
    exact ⟨hget, rfl, rfl, trivial⟩
  rcases h with ⟨D, hD, _, C, c, u, b, rfl, k, e, q⟩ | ⟨D, hD, _, C, tp, cs, ws, b, rfl, hT, k, e, q⟩
  · obtain ⟨u1, u2, rfl, r1, r2⟩ := vals2 r
    cases (show u1 = Value.ref a from r1)
    cases k.eq r2
    exact PySem.W.kia_one (PySem.W.handS_kitx_exc C.hg C.hk C.hs C.hd C.ha C.hn C.ht C.hm) I.kIn (J D hD) e (fun z => nomatch z) fun tk => ⟨.bl b, H, I.kept (t' := tk) fun _ _ z => z, rfl, q⟩
  · obtain ⟨u1, u2, rfl, r1, r2⟩ := vals2 r
    cases (show u2 = Value.ref tp from r2)
    cases (show u1 = Value.ref a from r1)
    obtain ⟨_, its, rv, o, h1, h2, n, h3⟩ := (show ObjOk X.prog X.w H s.heap tp (.tup cs) from I.hok tp _ hT)
    have e3 := ClsV.all k rv
    subst e3
    obtain ⟨oc, od, dt, sl⟩ := o
    simp only at h2 h3
    subst h2 h3
    exact PySem.W.kia_tup (PySem.W.handS_kitx_exc C.hg C.hk C.hs C.hd C.ha C.hn C.ht C.hm) I.kIn (J D hD) h1 e (fun z => nomatch z) fun tk => ⟨.bl b, H, I.kept (t' := tk) fun _ _ z => z, rfl, q⟩
abbrev rIsP (K : PySem.W.Frag) (a : Addr) (cls : Value) : List V → Hp → VK → Prop := fun xs H Q => rIsX K a cls none xs H Q ∨ rIsXT K a cls none xs H Q
end
section
variable {τ : List Sl} {a D0 : Addr}
theorem ev_isP {i : Nat} {c : V} {u : Value} {b : Bool} (h : τ[i]? = some (.raw (.ref a))) (C : ExcC K D0) (k : ClsV c u) (e : PySem.W.kitOne K (.ref D0) u = some b) : Ev K (tCB (rIsP K a (.ref D0)) (tCons (tVar i) (tCons (tC c) tNil))) τ (.bool b) := fun O H σ s Q q =>
  evr_raw h s (.inl ⟨D0, rfl, rfl, C, c, u, b, rfl, k, e, q _ H (Same.refl H) (.bl b)⟩)
theorem ev_isPT {i : Nat} {cs : List V} {us : List Value} {b : Bool} {tr : TA} (h : τ[i]? = some (.raw (.ref a))) (C : ExcC K D0) (ht : ∀ σ H Q, tr σ H Q = Q cs H) (hl : cs.length ≤ 100000) (k : Paired ClsV cs us) (e : PySem.W.kitAny K (.ref D0) us = some b) : Ev K (tCB (rIsP K a (.ref D0)) (tCons (tVar i) (tCons (tTup tr) tNil))) τ (.bool b) := fun O H σ s Q q => by
  show tVar i σ H (fun x H1 => tTup tr σ H1 fun y H2 => rIsP K a (.ref D0) [x, y] H2 Q)
  refine evr_raw h s ?_
  unfold tTup
  rw [ht]
  exact ⟨Nat.le_trans hl (by decide), fun p hp => .inr ⟨D0, rfl, rfl, C, p, cs, us, b, rfl, upd_same, k, e, q _ _ (same_upd hp) (.bl b)⟩⟩
theorem ev_callE {sp : SpE} {cls : Value} {tr : TA} {d : D} (h : ∀ (O : List Addr) (H : Hp) (σ : L2.St), SokE K O H σ τ → ∀ Q : VK, (∀ v H', Same H H' → Dp K (del O H') v d → Q v H') → tr σ H fun vs H1 => sp a cls vs H1 Q E0) : Ev K (tCallE sp a cls none tr) τ d := fun O H σ s Q q => ⟨rfl, h O H σ s Q q⟩
end
/-- the start of a body that is handed such an object -/
theorem sok_held {O : List Addr} {H : Hp} {a : Addr} (dom : ∀ b ∈ O, H b ≠ none) : Sok K O H H [some (.ref a), none] [.raw (.ref a), .un] :=
  ⟨⟨dom, fun b hb => (by cases hb), .cons rfl (.cons trivial .nil)⟩, (by rw [show owns [Sl.raw (.ref a), .un] = [] from rfl, del_nil]; exact Same.refl _), dom, List.nodup_nil⟩
end GW

namespace GW
open PySem PySem.Spec PyProof.Rows L2
variable {K : PySem.W.Frag}
abbrev Wi := Int × Int
def wD (w : Wi) : D := .tuple [.int w.1, .int w.2]
def wGood (w : Wi) : Bool := decide (1 ≤ w.2) && (decide (0 ≤ w.1) && decide (Int.gcd w.1 w.2 = 1))
def wR (w : Wi) : Rat := Rat.divInt w.1 w.2
structure WOk (w : Wi) : Prop where
  a1 : -100000 ≤ w.1
  a2 : w.1 ≤ 100000
  b1 : -100000 ≤ w.2
  b2 : w.2 ≤ 100000
theorem wGood_iff {w : Wi} : wGood w = true ↔ 1 ≤ w.2 ∧ 0 ≤ w.1 ∧ Int.gcd w.1 w.2 = 1 := by
  unfold wGood
  simp only [Bool.and_eq_true, decide_eq_true_eq]
theorem wD_good {w : Wi} (h : wGood w = true) : wD w = shD (wR w) := by
  obtain ⟨h1, _, h3⟩ := wGood_iff.mp h
  unfold wR
  rw [shD_fr (by omega), h3]
  unfold wD
  simp
theorem wR_ok {w : Wi} (h : wGood w = true) (ho : WOk w) : 0 ≤ wR w ∧ Sz (wR w) := by
  obtain ⟨h1, h2, _⟩ := wGood_iff.mp h
  obtain ⟨a1, a2, b1, b2⟩ := ho
  exact ⟨Rat.divInt_nonneg h2 (by omega), Sm.fr (by omega) (sm_small (by omega) (by omega)) (sm_small (by omega) (by omega))⟩
theorem eqv_pair (a b c d : Int) : PyData.eqv (.tuple [.int a, .int b]) (.tuple [.int c, .int d]) = (decide (a = c) && decide (b = d)) := by
  simp only [PyData.eqv, PyData.eqvAll, Bool.and_true, Bool.beq_eq_decide_eq]
theorem wish_test (w : Wi) : (decide (w.2 < 1) || (decide (w.1 < 0) || !PyData.eqv (shD (wR w)) (wD w))) = !wGood w := by
  by_cases h1 : w.2 < 1
  · have : wGood w = false := Bool.eq_false_iff.mpr fun z => by have := (wGood_iff.mp z).1; omega
    rw [decide_eq_true h1, this]; rfl
  · by_cases h2 : w.1 < 0
    · have : wGood w = false := Bool.eq_false_iff.mpr fun z => by have := (wGood_iff.mp z).2.1; omega
      rw [decide_eq_true h2, this]; simp
    · rw [decide_eq_false h1, decide_eq_false h2, Bool.false_or, Bool.false_or]
      congr 1
      unfold wR
      rw [shD_fr (by omega)]
      show PyData.eqv (.tuple [.int (w.1 / _), .int (w.2 / _)]) (.tuple [.int w.1, .int w.2]) = _
      rw [eqv_pair]
      have gp := gcd_pos (t := w.1) (b := w.2) (by omega)
      by_cases hg : Int.gcd w.1 w.2 = 1
      · rw [wGood_iff.mpr ⟨by omega, by omega, hg⟩, hg]
        simp
      · have hz : wGood w = false := Bool.eq_false_iff.mpr fun z => hg (wGood_iff.mp z).2.2
        rw [hz, Bool.and_eq_false_iff]
        right
        refine decide_eq_false fun z => hg ?_
        have q := Int.ediv_mul_le w.2 (show ((Int.gcd w.1 w.2 : Nat) : Int) ≠ 0 by omega)
        rw [z] at q
        have q2 : w.2 * 1 < w.2 * 2 := by omega
        have : ¬ (2 : Int) ≤ ((Int.gcd w.1 w.2 : Nat) : Int) := fun z2 => by
          have := Int.mul_le_mul_of_nonneg_left z2 (show 0 ≤ w.2 by omega)
          omega
        omega
def wish7 : List Wi := [(0, 1), (1, 2), (9, 10), (1, 1), (3, 2), (333, 1000), (17, 20)]
def wish0 (c : Int) : Wi := wish7.getD (c / 3 % 7).toNat (0, 1)
def wishAt (c : Int) : Wi :=
  if 0 < c % 3 then wish0 c
  else if c / 21 % 5 = 0 then ((wish0 c).1 * (2 + c / 21 % 9), (wish0 c).2 * (2 + c / 21 % 9))
  else if c / 21 % 5 = 1 then ((wish0 c).1, 0)
  else if c / 21 % 5 = 2 then ((wish0 c).1, -(wish0 c).2)
  else if c / 21 % 5 = 3 then (-1 - (wish0 c).1, (wish0 c).2)
  else (0, 2 + c / 21 % 9)
theorem seven (c : Int) : c / 3 % 7 = 0 ∨ c / 3 % 7 = 1 ∨ c / 3 % 7 = 2 ∨ c / 3 % 7 = 3 ∨ c / 3 % 7 = 4 ∨ c / 3 % 7 = 5 ∨ c / 3 % 7 = 6 := by omega
theorem wish0_bd (c : Int) : 0 ≤ (wish0 c).1 ∧ (wish0 c).1 ≤ 333 ∧ 1 ≤ (wish0 c).2 ∧ (wish0 c).2 ≤ 1000 := by
  unfold wish0
  rcases seven c with e | e | e | e | e | e | e <;> rw [e] <;> decide
theorem wish0_at (c : Int) : atI (wish7.map wD) (c / 3 % 7) = some (wD (wish0 c)) := by
  unfold wish0
  rcases seven c with e | e | e | e | e | e | e <;> rw [e] <;> rfl
theorem wishAt_ok (c : Int) : WOk (wishAt c) := by
  obtain ⟨a, b, d, e⟩ := wish0_bd c
  have m := mod_bd (c / 21) (show (0 : Int) < 9 by decide)
  unfold wishAt
  generalize wish0 c = w at *
  generalize hb : 2 + c / 21 % 9 = y at *
  have y1 : 2 ≤ y := by omega
  have y2 : y ≤ 10 := by omega
  split
  · exact ⟨by omega, by omega, by omega, by omega⟩
  split
  · have p0 : 0 ≤ w.1 * y := Int.mul_nonneg a (by omega)
    have p1 : w.1 * y ≤ 333 * y := Int.mul_le_mul_of_nonneg_right b (by omega)
    have p2 : 0 ≤ w.2 * y := Int.mul_nonneg (by omega) (by omega)
    have p3 : w.2 * y ≤ 1000 * y := Int.mul_le_mul_of_nonneg_right e (by omega)
    exact ⟨by show _ ≤ w.1 * y; omega, by show w.1 * y ≤ _; omega, by show _ ≤ w.2 * y; omega, by show w.2 * y ≤ _; omega⟩
  split
  · exact ⟨by show _ ≤ w.1; omega, by show w.1 ≤ _; omega, by show (-100000 : Int) ≤ 0; decide, by show (0 : Int) ≤ 100000; decide⟩
  split
  · exact ⟨by show _ ≤ w.1; omega, by show w.1 ≤ _; omega, by show _ ≤ -w.2; omega, by show -w.2 ≤ _; omega⟩
  split
  · exact ⟨by show _ ≤ -1 - w.1; omega, by show -1 - w.1 ≤ _; omega, by show _ ≤ w.2; omega, by show w.2 ≤ _; omega⟩
  · exact ⟨by show (-100000 : Int) ≤ 0; decide, by show (0 : Int) ≤ 100000; decide, by show _ ≤ y; omega, by show y ≤ _; omega⟩
def num13 (c m : Int) : Int :=
  if c % 3 = 0 ∨ m = 0 then (if c / 54 % 4 = 0 then -1 - c / 6 % 9 else if c / 54 % 4 = 1 then m + c / 6 % 9 else if c / 54 % 4 = 2 then 1000000000 else -1000000000)
  else c / 3 % m
def dP : Part := ⟨0, 0, 0, [], []⟩
def tasksAt (C : List Part) (p : Int) : List Task := if 0 ≤ p ∧ p < (C.length : Int) then (C.getD p.toNat dP).tasks else []
def placeRes (C : List Part) (p t : Int) : Res :=
  if 0 ≤ p ∧ p < (C.length : Int) then (if 0 ≤ t ∧ t < ((C.getD p.toNat dP).tasks.length : Int) then (if ((C.getD p.toNat dP).at t).tries.length < 12 then .ok .none else .err .many) else .err .place) else .err .place
def wishRes (w : Wi) : Res := if wGood w = true then .ok .none else .err .wish
def shrRes (C : List Part) (w : Wi) : Res := if wGood w = true then .ok (optD (leastShr C (wR w))) else .err .wish
def ptsRes (C : List Part) (p t : Int) (w : Wi) : Res := match placeRes C p t with
  | .err c => .err c
  | .ok _ => if wGood w = true then .ok (optD (leastPts C p.toNat t.toNat ((C.getD p.toNat dP).at t).m (wR w))) else .err .wish
def clsW : Cn → Str
  | .place => "place"
  | .many => "many"
  | .wish => "wish"
  | _ => "other"
def wordOf : Res → Str
  | .ok _ => "told"
  | .err c => clsW c
def toldD : Res → D
  | .ok d => .tuple [.str "told", d]
  | .err c => .tuple [.str (clsW c)]
theorem told_at (r : Res) : ∃ ds, toldD r = .tuple ds ∧ atI ds 0 = some (.str (wordOf r)) := by
  cases r with
  | ok d => exact ⟨_, rfl, rfl⟩
  | err c => exact ⟨_, rfl, rfl⟩
theorem shp_word (r : Res) : Shp 0 (.str (wordOf r)) := by
  refine shp_str ?_
  have h : ∀ x : Str, x = "told" ∨ x = "place" ∨ x = "many" ∨ x = "wish" ∨ x = "other" → PyData.canLay0 (.str x) = true := fun x hx => by
    rcases hx with rfl | rfl | rfl | rfl | rfl <;> decide +kernel
  refine h _ ?_
  cases r with
  | ok d => exact .inl rfl
  | err c => cases c <;> first | exact .inr (.inl rfl) | exact .inr (.inr (.inl rfl)) | exact .inr (.inr (.inr (.inl rfl))) | exact .inr (.inr (.inr (.inr rfl)))
theorem shp_optN {n : Nat} {o : Option Int} : Shp n (optD o) := by
  cases o with
  | none => exact shp_none
  | some i => exact shp_int
theorem shr_good {C : List Part} {w : Wi} (h : wGood w = true) : shrRes C w = .ok (optD (leastShr C (wR w))) := if_pos h
theorem shr_bad {C : List Part} {w : Wi} (h : wGood w = false) : shrRes C w = .err .wish := if_neg (by rw [h]; decide)
theorem shp_toldShr {C : List Part} {w : Wi} : Shp 1 (toldD (shrRes C w)) := by
  have key : ∀ r : Res, (∀ d, r = .ok d → Shp 0 d) → Shp 1 (toldD r) := fun r h => by
    cases r with
    | ok d =>
      refine shp_tuple fun e he => ?_
      simp only [List.mem_cons, List.not_mem_nil, or_false] at he
      rcases he with rfl | rfl
      · exact shp_word (.ok .none)
      · exact h _ rfl
    | err c =>
      refine shp_tuple fun e he => ?_
      simp only [List.mem_cons, List.not_mem_nil, or_false] at he
      rw [he]
      exact shp_word (.err c)
  refine key _ fun d hd => ?_
  cases h : wGood w with
  | true => rw [shr_good h] at hd; cases hd; exact shp_optN
  | false => rw [shr_bad h] at hd; cases hd
theorem shr_word {C : List Part} {w : Wi} : wordOf (shrRes C w) = (if (!wGood w) = true then ("wish" : Str) else "told") := by
  cases h : wGood w with
  | true => rw [shr_good h]; rfl
  | false => rw [shr_bad h]; rfl
abbrev L13 : List Cn := [.place, .many, .wish]
abbrev M13 : List Cn := [.place, .many, .wish, .cap, .extra, .mark, .most, .step, .top, .weight, .worst]
theorem shrRes_err {C : List Part} {w : Wi} {c : Cn} (h : shrRes C w = .err c) : c ∈ L13 := by
  cases g : wGood w with
  | true => rw [shr_good g] at h; cases h
  | false => rw [shr_bad g] at h; cases h; decide
theorem placeRes_err {C : List Part} {p t : Int} {c : Cn} (h : placeRes C p t = .err c) : c ∈ L13 := by
  unfold placeRes at h
  split at h
  · split at h
    · split at h
      · cases h
      · cases h; decide
    · cases h; decide
  · cases h; decide
theorem ptsRes_err {C : List Part} {p t : Int} {w : Wi} {c : Cn} (h : ptsRes C p t w = .err c) : c ∈ L13 := by
  unfold ptsRes at h
  split at h
  · rename_i c' h'
    cases h
    exact placeRes_err h'
  · split at h
    · cases h
    · cases h; decide
/-- a place that there is, or what is said of one that there is not -/
theorem place_cases (C : List Part) (p t : Int) : (∃ c, placeRes C p t = .err c ∧ ∀ w, ptsRes C p t w = .err c) ∨ (∃ (i j : Nat) (P : Part), p = (i : Int) ∧ t = (j : Int) ∧ C[i]? = some P ∧ j < P.tasks.length ∧ (P.at (j : Int)).tries.length < 12 ∧ placeRes C p t = .ok .none ∧
    ∀ w, ptsRes C p t w = if wGood w = true then .ok (optD (leastPts C i j (P.at (j : Int)).m (wR w))) else .err .wish) := by
  have key : ∀ c, placeRes C p t = .err c → ∀ w, ptsRes C p t w = .err c := fun c h w => by unfold ptsRes; rw [h]
  by_cases h1 : 0 ≤ p ∧ p < (C.length : Int)
  · by_cases h2 : 0 ≤ t ∧ t < ((C.getD p.toNat dP).tasks.length : Int)
    · by_cases h3 : ((C.getD p.toNat dP).at t).tries.length < 12
      · obtain ⟨i, rfl⟩ := Int.eq_ofNat_of_zero_le h1.1
        obtain ⟨j, rfl⟩ := Int.eq_ofNat_of_zero_le h2.1
        have e : placeRes C (i : Int) (j : Int) = .ok .none := by
          unfold placeRes
          rw [if_pos h1, if_pos h2, if_pos h3]
        have hg : C[i]? = some (C.getD i dP) := by
          rw [List.getD_eq_getElem?_getD, List.getElem?_eq_getElem (show i < C.length by omega)]
          rfl
        refine .inr ⟨i, j, C.getD i dP, rfl, rfl, hg, ?_, h3, e, fun w => ?_⟩
        · have := h2.2
          simp only [Int.toNat_natCast] at this
          omega
        · unfold ptsRes
          rw [e]
          rfl
      · have e : placeRes C p t = .err .many := by unfold placeRes; rw [if_pos h1, if_pos h2, if_neg h3]
        exact .inl ⟨_, e, key _ e⟩
    · have e : placeRes C p t = .err .place := by unfold placeRes; rw [if_pos h1, if_neg h2]
      exact .inl ⟨_, e, key _ e⟩
  · have e : placeRes C p t = .err .place := by unfold placeRes; rw [if_neg h1]
    exact .inl ⟨_, e, key _ e⟩
/-- the law's word of it -/
theorem pts_word {C : List Part} {p t : Int} {w : Wi} : wordOf (ptsRes C p t w) =
    if 0 ≤ t ∧ t < ((tasksAt C p).length : Int) then (if 11 < (((tasksAt C p).getD t.toNat default).tries.length : Int) then ("many" : Str) else wordOf (shrRes C w)) else ("place" : Str) := by
  unfold tasksAt ptsRes placeRes
  by_cases h1 : 0 ≤ p ∧ p < (C.length : Int)
  · rw [if_pos h1, if_pos h1]
    by_cases h2 : 0 ≤ t ∧ t < ((C.getD p.toNat dP).tasks.length : Int)
    · rw [if_pos h2, if_pos h2]
      by_cases h3 : ((C.getD p.toNat dP).at t).tries.length < 12
      · rw [if_pos h3]
        have h4 : ¬ 11 < ((((C.getD p.toNat dP).tasks).getD t.toNat default).tries.length : Int) := by
          have : (((C.getD p.toNat dP).tasks).getD t.toNat default).tries.length < 12 := h3
          omega
        rw [if_neg h4]
        dsimp only
        cases h : wGood w with
        | true => rw [shr_good h]; rfl
        | false => rw [shr_bad h]; rfl
      · rw [if_neg h3]
        have h4 : 11 < ((((C.getD p.toNat dP).tasks).getD t.toNat default).tries.length : Int) := by
          have : ¬ (((C.getD p.toNat dP).tasks).getD t.toNat default).tries.length < 12 := h3
          omega
        rw [if_pos h4]
        rfl
    · rw [if_neg h2, if_neg h2]
      rfl
  · rw [if_neg h1, if_neg h1]
    rw [if_neg (fun z : 0 ≤ t ∧ t < (([] : List Task).length : Int) => by have := z.2; simp at this; omega)]
    rfl
structure EF_k13 (K : PySem.W.Frag) (cv : Cv) : Prop where
  c : ∀ x, x ∈ L13 → ExcC K (cv x)
  g : ∀ x, x ∈ L13 → PySem.W.exmOne K (.ref (cv x)) (.ref (cv .grade)) = some true
  e : True
  k : ∀ x y, x ∈ L13 → y ∈ M13 → PySem.W.kitOne K (.ref (cv x)) (.ref (cv y)) = some (decide (x = y))
  v : ∀ x, x ∈ L13 → PySem.W.kitOne K (.ref (cv x)) (.type "ValueError") = some true
theorem kit_none {cv : Cv} (EF : EF_k13 K cv) {c : Cn} (hc : c ∈ L13) : ∀ ys : List Cn, (∀ y ∈ ys, y ∈ M13 ∧ y ∉ L13) → PySem.W.kitAny K (.ref (cv c)) (ys.map fun y => Value.ref (cv y)) = some false
  | [], _ => by unfold PySem.W.kitAny; rfl
  | y :: ys, h => by
    have hy := h y List.mem_cons_self
    have hne : decide (c = y) = false := decide_eq_false fun z => hy.2 (z ▸ hc)
    rw [List.map_cons]
    unfold PySem.W.kitAny
    rw [EF.k c y hc hy.1, hne]
    dsimp only
    exact kit_none EF hc ys fun z hz => h z (List.mem_cons_of_mem _ hz)
abbrev sp_l_stream13 (K : PySem.W.Frag) : Sp := sp_l_stream K
abbrev sp_need_wishX (K : PySem.W.Frag) (cv : Cv) : Sp := spX K cv 1 fun ds r => ∃ w : Wi, ds = [wD w] ∧ WOk w ∧ r = wishRes w
abbrev sp_need_placeX (K : PySem.W.Frag) (cv : Cv) : Sp := spX K cv 3 fun ds r => ∃ (C : List Part) (e : D) (p t : Int), ds = [e, .int p, .int t] ∧ IsSeq e (C.map Part.d) ∧ COk C ∧ r = placeRes C p t
abbrev sp_least_pointsX (K : PySem.W.Frag) (cv : Cv) : Sp := spX K cv 4 fun ds r => ∃ (C : List Part) (e : D) (p t : Int) (w : Wi), ds = [e, .int p, .int t, wD w] ∧ IsSeq e (C.map Part.d) ∧ COk C ∧ WOk w ∧ r = ptsRes C p t w
abbrev sp_least_shareX (K : PySem.W.Frag) (cv : Cv) : Sp := spX K cv 2 fun ds r => ∃ (C : List Part) (e : D) (w : Wi), ds = [e, wD w] ∧ IsSeq e (C.map Part.d) ∧ COk C ∧ WOk w ∧ r = shrRes C w
abbrev sp_l_points13 (K : PySem.W.Frag) : Sp := spR K 4 fun ds d => ∃ (C : List Part) (e : D) (p t : Int) (w : Wi), ds = [e, .int p, .int t, wD w] ∧ IsSeq e (C.map Part.d) ∧ COk C ∧ WOk w ∧ d = toldD (ptsRes C p t w)
abbrev sp_l_least (K : PySem.W.Frag) : Sp := spR K 2 fun ds d => ∃ (C : List Part) (e : D) (w : Wi), ds = [e, wD w] ∧ IsSeq e (C.map Part.d) ∧ COk C ∧ WOk w ∧ d = toldD (shrRes C w)
abbrev sp_l_wish (K : PySem.W.Frag) : Sp := spR K 1 fun ds d => ∃ c : Int, ds = [.int c] ∧ d = wD (wishAt c)
abbrev sp_l_wish_bad (K : PySem.W.Frag) : Sp := spR K 1 fun ds d => ∃ w : Wi, ds = [wD w] ∧ WOk w ∧ d = .bool (!wGood w)
abbrev sp_l_number13 (K : PySem.W.Frag) : Sp := spR K 2 fun ds d => ∃ (c : Int) (m : Nat), ds = [.int c, .int (m : Int)] ∧ d = .int (num13 c (m : Int))
def sp_l_class (K : PySem.W.Frag) (cv : Cv) : SpE := fun a cls vs H Q _ => ∃ (O : List Addr) (c : Cn), (∀ b ∈ O, H b ≠ none) ∧ vs = [.ref a] ∧ cls = .ref (cv c) ∧ c ∈ L13 ∧ ∀ v H', Same H H' → Dp K (del O H') v (toldD (.err c)) → Q v H'
theorem len_class {cv : Cv} {a : Addr} {cls : Value} {vs : List V} {H : Hp} {Q : VK} {E : XK} (h : sp_l_class K cv a cls vs H Q E) : vs.length = 1 := by
  obtain ⟨O, c, _, rfl, _⟩ := h
  rfl
abbrev sp_law_k13 (K : PySem.W.Frag) : Sp := spR K 1 fun ds d => ∃ ns : List Int, ds = [.list (ns.map PyData.int)] ∧ ns.length ≤ 63 ∧ d = .bool true
end GW

namespace GW
open PySem PySem.Spec PyProof.Rows L2
variable {K : PySem.W.Frag}
local macro_rules | `(tactic| walk_at "ev") => `(tactic| repeat' (first
  | with_reducible exact ev_int
  | with_reducible exact ev_bl
  | with_reducible exact ev_str
  | with_reducible exact ev_non
  | with_reducible apply ev_var
  | with_reducible apply ev_op
  | with_reducible apply ev_neg
  | with_reducible apply ev_isi
  | with_reducible apply ev_cb
  | with_reducible apply ev_tup
  | with_reducible apply ev_lst
  | with_reducible apply ev_call
  | with_reducible apply ev_callN
  | with_reducible apply ev_maxD
  | with_reducible apply ev_index
  | with_reducible apply ev_andV
  | with_reducible apply ev_orV
  | with_reducible apply ev_notV
  | with_reducible apply ev_chain
  | with_reducible apply ev_sl
  | with_reducible exact ea_nil
  | with_reducible apply ea_cons
  | with_reducible exact eo_none
  | with_reducible apply eo_some
  | with_reducible apply et_test
  | with_reducible apply et_B
  | with_reducible apply et_and
  | with_reducible apply et_or
  | with_reducible apply et_not
  | with_reducible exact rv_addI
  | with_reducible exact rv_sub
  | with_reducible apply rv_mulI
  | with_reducible apply rv_div
  | with_reducible apply rv_mod
  | with_reducible apply rv_pow
  | with_reducible exact rv_lt
  | with_reducible exact rv_le
  | with_reducible exact rv_gt
  | with_reducible exact rv_ge
  | with_reducible exact rv_isB
  | with_reducible exact rv_notB
  | with_reducible exact rv_isN
  | with_reducible exact rv_notN
  | with_reducible exact rv_eqI
  | with_reducible exact rv_neI
  | with_reducible apply rv_eq
  | with_reducible apply rv_ne
  | with_reducible apply rv_ixT
  | with_reducible apply rv_ixL
  | with_reducible apply rv_catT
  | with_reducible apply rv_catL'
  | with_reducible exact rv_in1L
  | with_reducible exact rv_in1T
  | with_reducible exact rv_in0L
  | with_reducible exact rv_in0T
  | with_reducible exact rc_lenL
  | with_reducible exact rc_sumL
  | with_reducible exact rc_sumT
  | with_reducible exact rc_lenT
  | with_reducible exact rc_abs
  | with_reducible exact rc_max2
  | with_reducible exact rc_min2
  | with_reducible exact rc_intB
  | with_reducible exact rc_tupleL
  | with_reducible exact rc_tupleT
  | with_reducible exact rc_listL'
  | with_reducible exact rc_listT'
  | with_reducible exact et_yes
  | with_reducible exact SlD.lst
  | with_reducible exact SlD.tup
  | ((with_reducible show CM _ _); first | exact CM.left (by omega) (by omega) | exact CM.right (by omega) (by omega) | exact CM.sm (by assumption) (by assumption) | assumption)
  | ((with_reducible show CDivW _ _); first | exact div_small (by omega) (by omega) | assumption)
  | ((with_reducible show CPow _ _); exact ⟨by decide, by decide, by decide⟩)
  | ((with_reducible show _ < _); first | assumption | omega)
  | ((with_reducible show _ ≤ _); first | assumption | omega | (simp only [List.length_cons, List.length_nil]; omega))
  | ((with_reducible show SeqAt.shaped _ = true); first | exact rfl | assumption)
  | ((with_reducible show cls _ ≠ _); first | (simp only [cls]; decide) | decide)
  | ((with_reducible show kitB _ _ = some _); decide +kernel)
  | ((with_reducible show _ = some _); exact rfl)
  | ((with_reducible show List.length _ = _); exact rfl)
  | ((with_reducible show _ = true → _); intro _)
  | ((with_reducible show _ = false → _); intro _)))
/-- divisor(one, other); slots one other rest -/
def t_divisor (K : PySem.W.Frag) : TS :=
 (tSeq (tWhile (tTest (tOp rGt (tVar 1) (tC (.int 0)))) (tSeq (tAsg (tOp rMod (tVar 0) (tVar 1)) (gName 2))
 (tSeq (tAsg (tVar 1) (gName 0))
 (tSeq (tAsg (tVar 2) (gName 1))
 tNext))))
 (tSeq (tRet (tVar 0))
 tNext))
/-- share(top, bottom); slots top bottom by -/
def t_share (K : PySem.W.Frag) : TS :=
 (tSeq (tAsg (tCall (sp_divisor K) [] E0 (tCons (tCB rAbs (tCons (tVar 0) tNil)) (tCons (tVar 1) tNil))) (gName 2))
 (tSeq (tRet (tTup (tCons (tOp rDiv (tVar 0) (tVar 2)) (tCons (tOp rDiv (tVar 1) (tVar 2)) tNil))))
 tNext))
/-- plus(one, other); slots one other -/
def t_plus (K : PySem.W.Frag) : TS :=
 (tSeq (tRet (tCall (sp_share K) [] E0 (tCons (tOp (rAdd K) (tOp (rMul K) (tOp (rIx K) (tVar 0) (tC (.int 0))) (tOp (rIx K) (tVar 1) (tC (.int 1)))) (tOp (rMul K) (tOp (rIx K) (tVar 1) (tC (.int 0))) (tOp (rIx K) (tVar 0) (tC (.int 1))))) (tCons (tOp (rMul K) (tOp (rIx K) (tVar 0) (tC (.int 1))) (tOp (rIx K) (tVar 1) (tC (.int 1)))) tNil))))
 tNext)
/-- times(one, number, over); slots one number over -/
def t_times (K : PySem.W.Frag) : TS :=
 (tSeq (tRet (tCall (sp_share K) [] E0 (tCons (tOp (rMul K) (tOp (rIx K) (tVar 0) (tC (.int 0))) (tVar 1)) (tCons (tOp (rMul K) (tOp (rIx K) (tVar 0) (tC (.int 1))) (tVar 2)) tNil))))
 tNext)
/-- less(one, other); slots one other -/
def t_less (K : PySem.W.Frag) : TS :=
 (tSeq (tRet (tOp rLt (tOp (rMul K) (tOp (rIx K) (tVar 0) (tC (.int 0))) (tOp (rIx K) (tVar 1) (tC (.int 1)))) (tOp (rMul K) (tOp (rIx K) (tVar 1) (tC (.int 0))) (tOp (rIx K) (tVar 0) (tC (.int 1))))))
 tNext)
/-- l_cell_at(script, k); slots script k -/
def t_l_cell_at (K : PySem.W.Frag) : TS :=
 (tSeq (tIfS (tTest (tOp (rEqD K) (tCB (rLen K) (tCons (tVar 0) tNil)) (tC (.int 0)))) (tSeq (tRet (tVar 1))
 tNext) tNext)
 (tSeq (tRet (tOp (rAdd K) (tOp (rIx K) (tVar 0) (tOp rMod (tVar 1) (tCB (rLen K) (tCons (tVar 0) tNil)))) (tOp (rMul K) (tC (.int 3)) (tOp rDiv (tVar 1) (tCB (rLen K) (tCons (tVar 0) tNil))))))
 tNext))
/-- l_whole(found); slots found -/
def t_l_whole (K : PySem.W.Frag) : TS :=
 (tSeq (tRet (tAndV (tCB (rIsi K) (tCons (tVar 0) (tCons (tC (.ty "int")) tNil))) (tNotV (tCB (rIsi K) (tCons (tVar 0) (tCons (tC (.ty "bool")) tNil))))))
 tNext)
/-- l_share(found); slots found -/
def t_l_share (K : PySem.W.Frag) : TS :=
 (tSeq (tIfS (tOr (tNot (tB (tCB (rIsi K) (tCons (tVar 0) (tCons (tC (.ty "tuple")) tNil))))) (tTest (tOp (rNeD K) (tCB (rLen K) (tCons (tVar 0) tNil)) (tC (.int 2))))) (tSeq (tRet (tC (.bl false)))
 tNext) tNext)
 (tSeq (tRet (tAndV (tCall (sp_l_whole K) [] E0 (tCons (tOp (rIx K) (tVar 0) (tC (.int 0))) tNil)) (tCall (sp_l_whole K) [] E0 (tCons (tOp (rIx K) (tVar 0) (tC (.int 1))) tNil))))
 tNext))
/-- l_low(top, bottom); slots top bottom one other -/
def t_l_low (K : PySem.W.Frag) : TS :=
 (tSeq (tAsg (tCB rAbs (tCons (tVar 0) tNil)) (gName 2))
 (tSeq (tAsg (tVar 1) (gName 3))
 (tSeq (tWhile (tTest (tOp rGt (tVar 3) (tC (.int 0)))) (tSeq (tPar 2 3 (tCons (tVar 3) (tCons (tOp rMod (tVar 2) (tVar 3)) tNil)))
 tNext))
 (tSeq (tRet (tTup (tCons (tOp rDiv (tVar 0) (tVar 2)) (tCons (tOp rDiv (tVar 1) (tVar 2)) tNil))))
 tNext))))
theorem gcd_zero {x a b : Int} (hx : 0 ≤ x) (hg : Int.gcd x 0 = Int.gcd a b) : ((Int.gcd a b : Nat) : Int) = x := by
  rw [← hg, Int.gcd_zero_right]
  omega
theorem mod_lt {x y : Int} (h0 : 0 < y) : (x % y).toNat < y.toNat := by
  have := Int.emod_lt_of_pos x h0
  have := Int.emod_nonneg x (show y ≠ 0 by omega)
  omega
theorem by_divisor {N : List Str} (hN : N.length = 3) : ∀ vs H Q E, sp_divisor K vs H Q E → t_divisor K { nx := fun _ H' => Q .non H', rt := Q } (L2.start N vs) H := body_R hN <| by
  rintro ds d ⟨a, b, rfl, ha, hb, rfl⟩ O F Dn hnx k
  show Run K O F (t_divisor K) Dn [.im (.int a), .im (.int b), .un]
  unfold t_divisor
  refine run_while (W := fun m τ => ∃ (x y : Int) (s : Sl), plain s = true ∧ τ = [.im (.int x), .im (.int y), s] ∧ 0 ≤ x ∧ 0 ≤ y ∧ Int.gcd x y = Int.gcd a b ∧ m = y.toNat) [] b.toNat ⟨a, b, .un, rfl, rfl, ha, hb, rfl, rfl⟩ ?_
  rintro G hG m τ ⟨x, y, s, hs, rfl, hx, hy, hg, rfl⟩
  refine ⟨decide (0 < y), by walk_at "ev", fun h => ?_, fun h => ?_⟩
  · have h0 : 0 < y := of_decide_eq_true h
    refine run_asg (d := .int (x % y)) (by walk_at "ev") ?_
    refine run_asg (d := .int y) (by walk_at "ev") ?_
    refine run_asg (d := .int (x % y)) (by walk_at "ev") ?_
    exact run_end (js := []) ⟨(x % y).toNat, mod_lt h0, y, x % y, .im (.int (x % y)), rfl, rfl, hy, Int.emod_nonneg _ (by omega), by rw [gcd_step x y hx hy, hg], rfl⟩ rfl
  · have h0 : y = 0 := by
      have := of_decide_eq_false h
      omega
    subst h0
    refine run_ret (d := .int x) (by walk_at "ev") ?_
    rw [← gcd_zero hx hg]
    exact k
theorem by_share {N : List Str} (hN : N.length = 3) : ∀ vs H Q E, sp_share K vs H Q E → t_share K { nx := fun _ H' => Q .non H', rt := Q } (L2.start N vs) H := body_R hN <| by
  rintro ds d ⟨t, b, rfl, hb, hs, rfl⟩ O F Dn hnx k
  show Run K O F (t_share K) Dn [.im (.int t), .im (.int b), .un]
  unfold t_share
  have g0 := gcd_pos (t := t) hb
  have g1 := gcd_le (t := t) hb
  refine run_asg (d := .int ((Int.gcd t b : Nat) : Int)) ?_ ?_
  · walk_at "ev"
    exact ⟨_, _, rfl, by split <;> omega, Int.le_of_lt hb, by rw [gcd_abs]⟩
  · have gs : CDivW t ((Int.gcd t b : Nat) : Int) := div_8000 g0 (Nat.lt_of_le_of_lt (by omega) hs)
    have gs2 : CDivW b ((Int.gcd t b : Nat) : Int) := div_8000 g0 (Nat.lt_of_le_of_lt (by omega) hs)
    rw [shD_fr hb] at k
    exact run_ret (by walk_at "ev") k
theorem by_plus {N : List Str} (hN : N.length = 2) : ∀ vs H Q E, sp_plus K vs H Q E → t_plus K { nx := fun _ H' => Q .non H', rt := Q } (L2.start N vs) H := body_R hN <| by
  rintro ds d ⟨r, q, rfl, ⟨r1, r2⟩, ⟨q1, q2⟩, rfl⟩ O F Dn hnx k
  show Run K O F (t_plus K) Dn [.im (.tuple [.int r.num, .int (r.den : Int)]), .im (.tuple [.int q.num, .int (q.den : Int)])]
  unfold t_plus
  refine run_ret (d := shD (r + q)) ?_ k
  walk_at "ev"
  have hr : (0 : Int) < r.den := Int.natCast_pos.mpr r.den_pos
  have hq : (0 : Int) < q.den := Int.natCast_pos.mpr q.den_pos
  refine ⟨_, _, rfl, Int.mul_pos hr hq, Sm.mul r2 q2, ?_⟩
  rw [← Rat.divInt_add_divInt _ _ (by omega) (by omega), Rat.num_divInt_den, Rat.num_divInt_den]
theorem by_times {N : List Str} (hN : N.length = 3) : ∀ vs H Q E, sp_times K vs H Q E → t_times K { nx := fun _ H' => Q .non H', rt := Q } (L2.start N vs) H := body_R hN <| by
  rintro ds d ⟨r, n, o, rfl, ⟨r1, r2⟩, hn, ho, h0, rfl⟩ O F Dn hnx k
  show Run K O F (t_times K) Dn [.im (.tuple [.int r.num, .int (r.den : Int)]), .im (.int n), .im (.int o)]
  unfold t_times
  refine run_ret (d := shD (r * Rat.divInt n o)) ?_ k
  walk_at "ev"
  have hr : (0 : Int) < r.den := Int.natCast_pos.mpr r.den_pos
  refine ⟨_, _, rfl, Int.mul_pos hr h0, Sm.mul r2 ho, ?_⟩
  rw [← Rat.divInt_mul_divInt, Rat.num_divInt_den]
theorem by_less {N : List Str} (hN : N.length = 2) : ∀ vs H Q E, sp_less K vs H Q E → t_less K { nx := fun _ H' => Q .non H', rt := Q } (L2.start N vs) H := body_R hN <| by
  rintro ds d ⟨r, q, rfl, ⟨r1, r2⟩, ⟨q1, q2⟩, rfl⟩ O F Dn hnx k
  show Run K O F (t_less K) Dn [.im (.tuple [.int r.num, .int (r.den : Int)]), .im (.tuple [.int q.num, .int (q.den : Int)])]
  unfold t_less
  refine run_ret (d := .bool (decide (r < q))) (ev_to (by walk_at "ev") ?_) k
  exact congrArg PyData.bool (decide_eq_decide.mpr (Rat.lt_iff r q).symm)
theorem cell_at {ns : List Int} {k : Int} (h : ns.length ≠ 0) : atI (ns.map PyData.int) (k % (ns.length : Int)) = some (.int (ns.getD (k % (ns.length : Int)).toNat 0)) := by
  have h1 := Int.emod_nonneg k (show (ns.length : Int) ≠ 0 by omega)
  have h2 := Int.emod_lt_of_pos k (show 0 < (ns.length : Int) by omega)
  obtain ⟨j, hj⟩ := Int.eq_ofNat_of_zero_le h1
  rw [hj]
  have hl : j < ns.length := by omega
  refine atI_nat ?_
  rw [List.getElem?_map, List.getElem?_eq_getElem hl, List.getD_eq_getElem?_getD]
  show some (PyData.int ns[j]) = some (PyData.int (ns[((j : Nat) : Int).toNat]?.getD 0))
  rw [Int.toNat_natCast, List.getElem?_eq_getElem hl]
  rfl
theorem by_l_cell_at {N : List Str} (hN : N.length = 2) : ∀ vs H Q E, sp_l_cell_at K vs H Q E → t_l_cell_at K { nx := fun _ H' => Q .non H', rt := Q } (L2.start N vs) H := body_R hN <| by
  rintro ds d ⟨ns, k, rfl, hl, rfl⟩ O F Dn hnx kk
  show Run K O F (t_l_cell_at K) Dn [.im (.list (ns.map PyData.int)), .im (.int k)]
  unfold t_l_cell_at
  unfold cell at kk
  have hlen : (ns.map PyData.int).length = ns.length := List.length_map ..
  refine run_if (by walk_at "ev") (fun h => ?_) (fun h => ?_)
  · have h0 := of_decide_eq_true h
    rw [if_pos (by omega)] at kk
    exact run_ret (by walk_at "ev") kk
  · have h0 := of_decide_eq_false h
    rw [if_neg (by omega)] at kk
    refine run_nx (run_ret ?_ kk)
    rw [← hlen]
    have c := cell_at (ns := ns) (k := k) (by omega)
    rw [← hlen] at c
    refine ev_op (ev_op (by walk_at "ev") (by walk_at "ev") (rv_ixL c)) (by walk_at "ev") (by walk_at "ev")
theorem by_l_whole {N : List Str} (hN : N.length = 1) : ∀ vs H Q E, sp_l_whole K vs H Q E → t_l_whole K { nx := fun _ H' => Q .non H', rt := Q } (L2.start N vs) H := body_R hN <| by
  rintro ds d ⟨i, rfl, rfl⟩ O F Dn hnx k
  show Run K O F (t_l_whole K) Dn [.im (.int i)]
  unfold t_l_whole
  exact run_ret (ev_to (a := .bool (true && !false)) (by walk_at "ev") rfl) k
theorem by_l_share {N : List Str} (hN : N.length = 1) : ∀ vs H Q E, sp_l_share K vs H Q E → t_l_share K { nx := fun _ H' => Q .non H', rt := Q } (L2.start N vs) H := body_R hN <| by
  rintro ds d ⟨i, j, rfl, rfl⟩ O F Dn hnx k
  show Run K O F (t_l_share K) Dn [.im (.tuple [.int i, .int j])]
  unfold t_l_share
  refine run_if (b := !true || !decide ((([PyData.int i, PyData.int j].length : Nat) : Int) = 2)) (by walk_at "ev") (fun h => ?_) (fun h => ?_)
  · simp at h
  · refine run_nx (run_ret (ev_andV (x := true) (y := true) (by walk_at "ev"; exact ⟨_, rfl, rfl⟩) (by walk_at "ev"; exact ⟨_, rfl, rfl⟩)) k)
theorem by_l_low {N : List Str} (hN : N.length = 4) : ∀ vs H Q E, sp_l_low K vs H Q E → t_l_low K { nx := fun _ H' => Q .non H', rt := Q } (L2.start N vs) H := body_R hN <| by
  rintro ds d ⟨t, b, rfl, hb, hs, rfl⟩ O F Dn hnx k
  show Run K O F (t_l_low K) Dn [.im (.int t), .im (.int b), .un, .un]
  unfold t_l_low
  refine run_asg (by walk_at "ev") ?_
  refine run_asg (by walk_at "ev") ?_
  refine run_while (W := fun m τ => ∃ (x y : Int), τ = [.im (.int t), .im (.int b), .im (.int x), .im (.int y)] ∧ 0 ≤ x ∧ 0 ≤ y ∧ Int.gcd x y = Int.gcd t b ∧ m = y.toNat) [] b.toNat ⟨_, b, rfl, by split <;> omega, Int.le_of_lt hb, gcd_abs t b, rfl⟩ ?_
  rintro G hG m τ ⟨x, y, rfl, hx, hy, hg, rfl⟩
  refine ⟨decide (0 < y), by walk_at "ev", fun h => ?_, fun h => ?_⟩
  · have h0 : 0 < y := of_decide_eq_true h
    refine run_par (d1 := .int y) (d2 := .int (x % y)) (by walk_at "ev") ?_
    exact run_end (js := []) ⟨(x % y).toNat, mod_lt h0, y, x % y, rfl, hy, Int.emod_nonneg _ (by omega), by rw [gcd_step x y hx hy, hg], rfl⟩ rfl
  · have h0 : y = 0 := by
      have := of_decide_eq_false h
      omega
    subst h0
    have e := gcd_zero hx hg
    have g0 := gcd_pos (t := t) hb
    have g1 := gcd_le (t := t) hb
    rw [shD_fr hb, e] at k
    rw [e] at g0 g1
    have gs : CDivW t x := div_8000 g0 (Nat.lt_of_le_of_lt (by omega) hs)
    have gs2 : CDivW b x := div_8000 g0 (Nat.lt_of_le_of_lt (by omega) hs)
    exact run_ret (by walk_at "ev") k

/-- gives(task); slots task found points -/
def t_gives (K : PySem.W.Frag) : TS :=
 (tSeq (tAsg (tCB (rList K) (tCons (tSl (rSl K) (tOp (rIx K) (tVar 0) (tC (.int 3))) tNoPart (tPart (tC (.int 1)))) tNil)) (gName 1))
 (tSeq (tFor (iSeq K (tSl (rSl K) (tOp (rIx K) (tVar 0) (tC (.int 3))) (tPart (tC (.int 1))) tNoPart)) (gName 2) (tSeq (tDrop (tBM K "list" rAppend (tVar 1) (tCons (tCB rMin2 (tCons (tVar 2) (tCons (tOp (rIx K) (tVar 0) (tC (.int 2))) tNil))) tNil)))
 tNext))
 (tSeq (tRet (tVar 1))
 tNext)))
/-- mark(task); slots task -/
def t_mark (K : PySem.W.Frag) : TS :=
 (tSeq (tRet (tCKw (rMaxD K) (tCons (tCall (sp_gives K) [] E0 (tCons (tVar 0) tNil)) tNil) (tCons (tC .non) tNil)))
 tNext)
/-- chosen(task); slots task found -/
def t_chosen (K : PySem.W.Frag) : TS :=
 (tSeq (tAsg (tCall (sp_gives K) [] E0 (tCons (tVar 0) tNil)) (gName 1))
 (tSeq (tIfS (tTest (tOp (rEqD K) (tCB (rLen K) (tCons (tVar 1) tNil)) (tC (.int 0)))) (tSeq (tRet (tC .non))
 tNext) tNext)
 (tSeq (tRet (tBM K "list" (rIndexK K) (tVar 1) (tCons (tCB (rMax1 K) (tCons (tVar 1) tNil)) tNil)))
 tNext)))
/-- l_stream(cell, many); slots cell many found number k -/
def t_l_stream (K : PySem.W.Frag) : TS :=
 (tSeq (tAsg (tLst tNil) (gName 2))
 (tSeq (tAsg (tOp (rAdd K) (tOp rMod (tVar 0) (tC (.int 2147483647))) (tC (.int 48271))) (gName 3))
 (tSeq (tFor (iRng1 (tCons (tOp (rAdd K) (tVar 1) (tC (.int 1))) tNil)) (gName 4) (tSeq (tAsg (tOp rMod (tOp (rAdd K) (tOp (rAdd K) (tOp (rAdd K) (tOp (rMul K) (tVar 3) (tVar 3)) (tOp (rMul K) (tC (.int 48271)) (tVar 3))) (tOp (rMul K) (tC (.int 7)) (tVar 4))) (tC (.int 1))) (tC (.int 2147483647))) (gName 3))
 (tSeq (tDrop (tBM K "list" rAppend (tVar 2) (tCons (tVar 3) tNil)))
 tNext)))
 (tSeq (tRet (tSl (rSl K) (tVar 2) (tPart (tC (.int 1))) tNoPart))
 tNext))))
/-- l_task_by(xs); slots xs weight most cap many tries k -/
def t_l_task_by (K : PySem.W.Frag) : TS :=
 (tSeq (tAsg (tOp (rAdd K) (tC (.int 1)) (tOp rMod (tOp (rIx K) (tVar 0) (tC (.int 0))) (tC (.int 5)))) (gName 1))
 (tSeq (tIfS (tTest (tOp (rEqD K) (tOp rMod (tOp rDiv (tOp (rIx K) (tVar 0) (tC (.int 0))) (tC (.int 5))) (tC (.int 5))) (tC (.int 0)))) (tSeq (tAsg (tOp (rAdd K) (tC (.int 1)) (tOp rMod (tOp rDiv (tOp (rIx K) (tVar 0) (tC (.int 0))) (tC (.int 25))) (tC (.int 1000)))) (gName 1))
 tNext) tNext)
 (tSeq (tAsg (tOp (rIx K) (tLst (tCons (tC (.int 1)) (tCons (tC (.int 10)) (tCons (tC (.int 100)) (tCons (tOp (rAdd K) (tC (.int 1)) (tOp rMod (tOp rDiv (tOp (rIx K) (tVar 0) (tC (.int 1))) (tC (.int 6))) (tC (.int 20)))) (tCons (tOp (rAdd K) (tC (.int 1)) (tOp rMod (tOp rDiv (tOp (rIx K) (tVar 0) (tC (.int 1))) (tC (.int 6))) (tOp rPow (tC (.int 10)) (tC (.int 6))))) (tCons (tOp rPow (tC (.int 10)) (tC (.int 6))) tNil))))))) (tOp rMod (tOp (rIx K) (tVar 0) (tC (.int 1))) (tC (.int 6)))) (gName 2))
 (tSeq (tAsg (tOp (rIx K) (tLst (tCons (tVar 2) (tCons (tC (.int 0)) (tCons (tOp rDiv (tVar 2) (tC (.int 2))) (tCons (tOp rMod (tOp rDiv (tOp (rIx K) (tVar 0) (tC (.int 2))) (tC (.int 4))) (tOp (rAdd K) (tVar 2) (tC (.int 1)))) tNil))))) (tOp rMod (tOp (rIx K) (tVar 0) (tC (.int 2))) (tC (.int 4)))) (gName 3))
 (tSeq (tAsg (tOp (rIx K) (tLst (tCons (tC (.int 0)) (tCons (tC (.int 1)) (tCons (tC (.int 1)) (tCons (tC (.int 2)) (tCons (tC (.int 3)) (tCons (tC (.int 1)) (tCons (tC (.int 0)) (tCons (tC (.int 12)) (tCons (tC (.int 11)) tNil)))))))))) (tOp rMod (tOp (rIx K) (tVar 0) (tC (.int 3))) (tC (.int 9)))) (gName 4))
 (tSeq (tAsg (tLst tNil) (gName 5))
 (tSeq (tFor (iRng1 (tCons (tVar 4) tNil)) (gName 6) (tSeq (tDrop (tBM K "list" rAppend (tVar 5) (tCons (tOp (rIx K) (tLst (tCons (tOp rMod (tOp rDiv (tOp (rIx K) (tVar 0) (tOp (rAdd K) (tC (.int 4)) (tVar 6))) (tC (.int 5))) (tOp (rAdd K) (tVar 2) (tC (.int 1)))) (tCons (tOp rMod (tOp rDiv (tOp (rIx K) (tVar 0) (tOp (rAdd K) (tC (.int 4)) (tVar 6))) (tC (.int 5))) (tOp (rAdd K) (tVar 2) (tC (.int 1)))) (tCons (tC (.int 0)) (tCons (tVar 2) (tCons (tVar 3) tNil)))))) (tOp rMod (tOp (rIx K) (tVar 0) (tOp (rAdd K) (tC (.int 4)) (tVar 6))) (tC (.int 5)))) tNil)))
 tNext))
 (tSeq (tRet (tTup (tCons (tVar 1) (tCons (tVar 2) (tCons (tVar 3) (tCons (tCB (rTuple K) (tCons (tVar 5) tNil)) tNil))))))
 tNext))))))))
/-- l_mark(task); slots task best k points -/
def t_l_mark (K : PySem.W.Frag) : TS :=
 (tSeq (tAsg (tC .non) (gName 1))
 (tSeq (tFor (iRng1 (tCons (tCB (rLen K) (tCons (tOp (rIx K) (tVar 0) (tC (.int 3))) tNil)) tNil)) (gName 2) (tSeq (tAsg (tOp (rIx K) (tOp (rIx K) (tVar 0) (tC (.int 3))) (tVar 2)) (gName 3))
 (tSeq (tIfS (tAnd (tTest (tOp rGt (tVar 2) (tC (.int 0)))) (tTest (tOp rGt (tVar 3) (tOp (rIx K) (tVar 0) (tC (.int 2)))))) (tSeq (tAsg (tOp (rIx K) (tVar 0) (tC (.int 2))) (gName 3))
 tNext) tNext)
 (tSeq (tIfS (tOr (tTest (tOp rIs (tVar 1) (tC .non))) (tTest (tOp rGt (tVar 3) (tVar 1)))) (tSeq (tAsg (tVar 3) (gName 1))
 tNext) tNext)
 tNext))))
 (tSeq (tRet (tVar 1))
 tNext)))
/-- l_gives(task); slots task found k -/
def t_l_gives (K : PySem.W.Frag) : TS :=
 (tSeq (tAsg (tLst tNil) (gName 1))
 (tSeq (tFor (iRng1 (tCons (tCB (rLen K) (tCons (tOp (rIx K) (tVar 0) (tC (.int 3))) tNil)) tNil)) (gName 2) (tSeq (tIfS (tOr (tTest (tOp (rEqD K) (tVar 2) (tC (.int 0)))) (tTest (tOp rLt (tOp (rIx K) (tOp (rIx K) (tVar 0) (tC (.int 3))) (tVar 2)) (tOp (rIx K) (tVar 0) (tC (.int 2)))))) (tSeq (tDrop (tBM K "list" rAppend (tVar 1) (tCons (tOp (rIx K) (tOp (rIx K) (tVar 0) (tC (.int 3))) (tVar 2)) tNil)))
 tNext) (tSeq (tDrop (tBM K "list" rAppend (tVar 1) (tCons (tOp (rIx K) (tVar 0) (tC (.int 2))) tNil)))
 tNext))
 tNext))
 (tSeq (tRet (tVar 1))
 tNext)))
theorem by_gives {N : List Str} (hN : N.length = 3) : ∀ vs H Q E, sp_gives K vs H Q E → t_gives K { nx := fun _ H' => Q .non H', rt := Q } (L2.start N vs) H := body_N hN <| by
  rintro ds es ⟨t, rfl, hl, rfl⟩ O F Dn k
  show Run K O F (t_gives K) Dn [.im t.d, .un, .un]
  unfold t_gives
  unfold Task.d
  have e1 : cutD (t.tries.map PyData.int) none (some (1 : Int)) = (t.tries.take 1).map PyData.int := by
    rw [show (1 : Int) = ((1 : Nat) : Int) from rfl, cut_to, List.map_take]
  have e2 : cutD (t.tries.map PyData.int) (some (1 : Int)) none = (t.tries.drop 1).map PyData.int := by
    rw [show (1 : Int) = ((1 : Nat) : Int) from rfl, cut_from, List.map_drop]
  refine run_asgN (en_cb (ea_cons (ev_to (e := .tuple ((t.tries.take 1).map PyData.int)) (by walk_at "ev") (by rw [e1])) ea_nil) rc_listT) fun p => ?_
  dsimp only [List.set]
  refine run_for [2] (fun i τ => τ = [.im (.tuple [.int t.w, .int t.m, .int t.c, .tuple (t.tries.map PyData.int)]), .ow p ((t.tries.take 1 ++ ((t.tries.drop 1).take i).map (capd t.c)).map PyData.int), .un]) (d := .tuple ((t.tries.drop 1).map PyData.int)) (ds := (t.tries.drop 1).map PyData.int) (ev_to (by walk_at "ev") (by rw [e2])) (.inr rfl) ?_ ?_ ?_
  · show _ = _
    rw [List.take_zero, List.map_nil, List.append_nil]
    rfl
  · rintro G hG i d τ' hd rfl
    dsimp only [List.set]
    rw [List.getElem?_map] at hd
    obtain ⟨x, hx, rfl⟩ := Option.map_eq_some_iff.mp hd
    have hi : i < (t.tries.drop 1).length := (List.getElem?_eq_some_iff.mp hx).1
    rw [List.length_drop] at hi
    refine run_app (d := .int (capd t.c x)) rfl (ev_to (a := .int (if t.c < x then t.c else x)) (by walk_at "ev") rfl) ?_ ?_
    · simp only [List.length_map, List.length_append, List.length_take, List.length_drop]
      omega
    · refine run_end (js := [2]) ?_ rfl
      rw [take_snoc hx, List.map_append, List.map_append, List.map_append, List.map_append, List.append_assoc]
      rfl
  · rintro τ' rfl
    refine run_retO (j := 1) rfl ?_
    rw [List.length_map, List.take_length, ← gives_eq]
    exact k
theorem optD_mark (t : Task) : (if t.gives = [] then PyData.none else .int (maxL t.gives)) = optD t.mark := by
  unfold Task.mark
  split <;> rfl
theorem by_mark {N : List Str} (hN : N.length = 1) : ∀ vs H Q E, sp_mark K vs H Q E → t_mark K { nx := fun _ H' => Q .non H', rt := Q } (L2.start N vs) H := body_R hN <| by
  rintro ds d ⟨t, rfl, hl, rfl⟩ O F Dn hnx k
  show Run K O F (t_mark K) Dn [.im t.d]
  unfold t_mark
  exact run_ret (ev_to (ev_maxD (ev_callN (by walk_at "ev") ⟨_, rfl, hl, rfl⟩) ev_non) (optD_mark t)) k
theorem by_chosen {N : List Str} (hN : N.length = 2) : ∀ vs H Q E, sp_chosen K vs H Q E → t_chosen K { nx := fun _ H' => Q .non H', rt := Q } (L2.start N vs) H := body_R hN <| by
  rintro ds d ⟨t, rfl, hl, rfl⟩ O F Dn hnx k
  show Run K O F (t_chosen K) Dn [.im t.d, .un]
  unfold t_chosen
  unfold Task.chosen at k
  refine run_asg (d := .list (t.gives.map PyData.int)) (ev_callN (by walk_at "ev") ⟨_, rfl, hl, rfl⟩) ?_
  refine run_if (by walk_at "ev") (fun h => ?_) (fun h => ?_)
  · have h0 := of_decide_eq_true h
    rw [List.length_map] at h0
    rw [if_pos (List.length_eq_zero_iff.mp (by omega))] at k
    exact run_ret ev_non k
  · have h0 := of_decide_eq_false h
    rw [List.length_map] at h0
    have hne : t.gives ≠ [] := fun e => h0 (by rw [e]; rfl)
    rw [if_neg hne] at k
    exact run_nx (run_ret (ev_index (by walk_at "ev") (ev_cb (by walk_at "ev") (rc_max1 hne)) (maxL_mem hne)) k)
theorem by_l_stream {N : List Str} (hN : N.length = 5) : ∀ vs H Q E, sp_l_stream K vs H Q E → t_l_stream K { nx := fun _ H' => Q .non H', rt := Q } (L2.start N vs) H := body_N hN <| by
  rintro ds es ⟨c, n', rfl, h0, hl, rfl⟩ O F Dn k
  obtain ⟨n, rfl⟩ := Int.eq_ofNat_of_zero_le h0
  rw [Int.toNat_natCast] at k
  show Run K O F (t_l_stream K) Dn [.im (.int c), .im (.int (n : Int)), .un, .un, .un]
  unfold t_l_stream
  obtain ⟨b1, b2⟩ := c0_bd c
  have bd := sN_bd b1 b2
  refine run_asgN (en_lst ea_nil (by decide)) fun p => ?_
  refine run_asg (d := .int (c % 2147483647 + 48271)) (by walk_at "ev") ?_
  refine run_forR (n := (n : Int) + 1) [4] (fun i τ => τ = [.im (.int c), .im (.int (n : Int)), .ow p ((List.range i).map fun (j : Nat) => PyData.int (sN (c % 2147483647 + 48271) (j + 1))), .im (.int (sN (c % 2147483647 + 48271) i)), .un]) (by walk_at "ev") (by omega) rfl ?_ ?_
  · rintro G hG i τ' hi rfl
    dsimp only [List.set]
    have hb := bd i
    generalize hs : sN (c % 2147483647 + 48271) i = x at *
    refine run_asg (d := .int (sN (c % 2147483647 + 48271) (i + 1))) (ev_to (by walk_at "ev") (by show _ = PyData.int _; rw [sN, hs])) ?_
    refine run_app (d := .int (sN (c % 2147483647 + 48271) (i + 1))) rfl (by walk_at "ev") (by simp; omega) ?_
    refine run_end (js := [4]) ?_ rfl
    rw [List.range_succ, List.map_append]
    rfl
  · rintro τ' rfl
    refine run_freeze (j := 2) rfl ?_
    refine run_retN (ds := (stream c n).map PyData.int) ?_ k
    have e : cutD ((List.range ((n : Int) + 1).toNat).map fun (j : Nat) => PyData.int (sN (c % 2147483647 + 48271) (j + 1))) (some (1 : Int)) none = (stream c n).map PyData.int := by
      rw [show (1 : Int) = ((1 : Nat) : Int) from rfl, cut_from, show ((1 : Nat) : Int) = 1 from rfl, show ((n : Int) + 1).toNat = n + 1 by omega]
      unfold stream
      rw [List.map_map, List.range_succ_eq_map, List.map_cons, List.drop_succ_cons, List.drop_zero, List.map_map]
      rfl
    rw [← e]
    exact en_slL (by walk_at "ev") (by walk_at "ev") (by walk_at "ev")
theorem ev_pick {τ : List Sl} {ta : TA} {ti : TE} (l : List Int) {i : Int} (h : EvA K ta τ (l.map PyData.int)) (hi : Ev K ti τ (.int i)) (h0 : 0 ≤ i ∧ i < (l.length : Int)) (hl : l.length ≤ 100000) : Ev K (tOp (rIx K) (tLst ta) ti) τ (.int (pick l i)) :=
  ev_op (ev_lst h (by rw [List.length_map]; exact hl)) hi (rv_ixL (pick_at h0.1 h0.2))
theorem tk_get {xs : List Int} {i : Nat} (h : 16 ≤ xs.length) (hi : i < 16) : atI (xs.map PyData.int) (i : Int) = some (.int (pick xs (i : Int))) := pick_at (by omega) (by omega)
theorem by_l_task_by {N : List Str} (hN : N.length = 7) : ∀ vs H Q E, sp_l_task_by K vs H Q E → t_l_task_by K { nx := fun _ H' => Q .non H', rt := Q } (L2.start N vs) H := body_R hN <| by
  rintro ds d ⟨xs, rfl, hl, rfl⟩ O F Dn hnx k
  show Run K O F (t_l_task_by K) Dn [.im (.list (xs.map PyData.int)), .un, .un, .un, .un, .un, .un]
  unfold t_l_task_by
  have g0 := tk_get (i := 0) hl (by decide)
  have g1 := tk_get (i := 1) hl (by decide)
  have g2 := tk_get (i := 2) hl (by decide)
  have g3 := tk_get (i := 3) hl (by decide)
  simp only [Int.cast_ofNat_Int] at g0 g1 g2 g3
  have x0 : ∀ {τ : List Sl}, Ev K (tOp (rIx K) (tVar 0) (tC (.int 0))) (.im (.list (xs.map PyData.int)) :: τ) (.int (pick xs 0)) := ev_op (ev_var rfl) ev_int (rv_ixL g0)
  have x1 : ∀ {τ : List Sl}, Ev K (tOp (rIx K) (tVar 0) (tC (.int 1))) (.im (.list (xs.map PyData.int)) :: τ) (.int (pick xs 1)) := ev_op (ev_var rfl) ev_int (rv_ixL g1)
  have x2 : ∀ {τ : List Sl}, Ev K (tOp (rIx K) (tVar 0) (tC (.int 2))) (.im (.list (xs.map PyData.int)) :: τ) (.int (pick xs 2)) := ev_op (ev_var rfl) ev_int (rv_ixL g2)
  have x3 : ∀ {τ : List Sl}, Ev K (tOp (rIx K) (tVar 0) (tC (.int 3))) (.im (.list (xs.map PyData.int)) :: τ) (.int (pick xs 3)) := ev_op (ev_var rfl) ev_int (rv_ixL g3)
  have hm := tMost_bd (pick xs 1)
  have hn := tMany_bd (pick xs 3)
  have md : ∀ {τ : List Sl} {te : TE} {x k : Int}, 0 < k → Ev K te τ (.int x) → Ev K (tOp rMod te (tC (.int k))) τ (.int (x % k)) := fun hk h => ev_op h ev_int (rv_mod hk)
  have dv : ∀ {τ : List Sl} {te : TE} {x k : Int}, 0 < k → k < 2 ^ 64 → Ev K te τ (.int x) → Ev K (tOp rDiv te (tC (.int k))) τ (.int (x / k)) := fun hk h2 h => ev_op h ev_int (rv_div (div_small hk h2))
  refine run_asg (d := .int (1 + pick xs 0 % 5)) (ev_op ev_int (md (by decide) x0) rv_addI) ?_
  refine run_ifAsg (b := decide (pick xs 0 / 5 % 5 = 0)) (d := .int (1 + pick xs 0 / 25 % 1000)) (et_test (ev_op (md (by decide) (dv (by decide) (by decide) x0)) ev_int rv_eqI)) rfl (fun _ => ev_op ev_int (md (by decide) (dv (by decide) (by decide) x0)) rv_addI) ?_
  have ew : (if decide (pick xs 0 / 5 % 5 = 0) = true then PyData.int (1 + pick xs 0 / 25 % 1000) else .int (1 + pick xs 0 % 5)) = .int (tWeight (pick xs 0)) := by
    unfold tWeight
    by_cases h : pick xs 0 / 5 % 5 = 0
    · rw [if_pos (decide_eq_true h), if_pos h]
    · rw [if_neg (by simpa using h), if_neg h]
  rw [ew]
  have e6 : ∀ {τ : List Sl}, Ev K (tOp rPow (tC (.int 10)) (tC (.int 6))) τ (.int 1000000) := ev_op ev_int ev_int (rv_pow (i := 10) (j := 6) ⟨by decide, by decide, by decide⟩)
  refine run_asg (d := .int (tMost (pick xs 1))) (ev_pick [1, 10, 100, 1 + pick xs 1 / 6 % 20, 1 + pick xs 1 / 6 % 1000000, 1000000] (ea_cons ev_int (ea_cons ev_int (ea_cons ev_int (ea_cons (ev_op ev_int (md (by decide) (dv (by decide) (by decide) x1)) rv_addI) (ea_cons (ev_op ev_int (ev_op (dv (by decide) (by decide) x1) e6 (rv_mod (by decide))) rv_addI) (ea_cons e6 ea_nil)))))) (md (by decide) x1) (mod_bd _ (by decide)) (by simp)) ?_
  have hc := tCap_bd (x := pick xs 2) hm.1
  have hT : (taskBy xs).d = .tuple [.int (tWeight (pick xs 0)), .int (tMost (pick xs 1)), .int (tCap (tMost (pick xs 1)) (pick xs 2)), .tuple (((List.range (tMany (pick xs 3)).toNat).map fun (k : Nat) => tTry (tMost (pick xs 1)) (tCap (tMost (pick xs 1)) (pick xs 2)) (pick xs (4 + (k : Int)))).map PyData.int)] := rfl
  rw [hT] at k
  generalize tMost (pick xs 1) = m at *
  have m1 : ∀ {τ : List Sl} {a b : Sl}, Ev K (tOp (rAdd K) (tVar 2) (tC (.int 1))) (a :: b :: .im (.int m) :: τ) (.int (m + 1)) := ev_op (ev_var rfl) ev_int rv_addI
  refine run_asg (d := .int (tCap m (pick xs 2))) (ev_pick [m, 0, m / 2, pick xs 2 / 4 % (m + 1)] (ea_cons (ev_var rfl) (ea_cons ev_int (ea_cons (dv (by decide) (by decide) (ev_var rfl)) (ea_cons (ev_op (dv (by decide) (by decide) x2) m1 (rv_mod (by omega))) ea_nil)))) (md (by decide) x2) (mod_bd _ (by decide)) (by simp)) ?_
  generalize tCap m (pick xs 2) = c at *
  refine run_asg (d := .int (tMany (pick xs 3))) (ev_pick [0, 1, 1, 2, 3, 1, 0, 12, 11] (by dsimp only [List.map]; walk_at "ev") (md (by decide) x3) (mod_bd _ (by decide)) (by simp)) ?_
  generalize tMany (pick xs 3) = n at *
  refine run_asgN (en_lst ea_nil (by decide)) fun p => ?_
  dsimp only [List.set]
  refine run_forR (n := n) [6] (fun i τ => τ = [.im (.list (xs.map PyData.int)), .im (.int (tWeight (pick xs 0))), .im (.int m), .im (.int c), .im (.int n), .ow p (((List.range i).map fun (k : Nat) => tTry m c (pick xs (4 + (k : Int)))).map PyData.int), .un]) (by walk_at "ev") (by omega) rfl ?_ ?_
  · rintro G hG i τ' hi rfl
    dsimp only [List.set]
    have g := tk_get (xs := xs) (i := 4 + i) hl (by omega)
    rw [show ((4 + i : Nat) : Int) = 4 + (i : Int) by omega] at g
    have xk : Ev K (tOp (rIx K) (tVar 0) (tOp (rAdd K) (tC (.int 4)) (tVar 6))) [.im (.list (xs.map PyData.int)), .im (.int (tWeight (pick xs 0))), .im (.int m), .im (.int c), .im (.int n), .ow p (((List.range i).map fun (k : Nat) => tTry m c (pick xs (4 + (k : Int)))).map PyData.int), .im (.int (i : Int))] (.int (pick xs (4 + (i : Int)))) := ev_op (ev_var rfl) (ev_op ev_int (ev_var rfl) rv_addI) (rv_ixL g)
    generalize hx : pick xs (4 + (i : Int)) = x at *
    have x5 := ev_op (dv (by decide) (by decide) xk) m1 (rv_mod (i := x / 5) (j := m + 1) (by omega))
    refine run_app (d := .int (tTry m c x)) rfl (ev_pick [x / 5 % (m + 1), x / 5 % (m + 1), 0, m, c] (ea_cons x5 (ea_cons x5 (ea_cons ev_int (ea_cons (ev_var rfl) (ea_cons (ev_var rfl) ea_nil))))) (md (by decide) xk) (mod_bd _ (by decide)) (by simp)) (by simp; omega) ?_
    refine run_end (js := [6]) ?_ rfl
    subst hx
    rw [List.range_succ, List.map_append, List.map_append]
    rfl
  · rintro τ' rfl
    refine run_freeze (j := 5) rfl ?_
    exact run_ret (by walk_at "ev") k
/-- the mark of the first i tries -/
def markTo (t : Task) (i : Nat) : Option Int := if i = 0 then none else some (maxL (t.gives.take i))
theorem markTo_all (t : Task) : markTo t t.tries.length = t.mark := by
  unfold markTo Task.mark
  rw [← gives_len, List.take_length]
  by_cases h : t.gives = []
  · rw [if_pos h, if_pos (by rw [h]; rfl)]
  · rw [if_neg h, if_neg (fun e => h (List.length_eq_zero_iff.mp e))]
theorem markTo_succ {t : Task} {i : Nat} {g : Int} (h : t.gives[i]? = some g) : markTo t (i + 1) = some (match markTo t i with | none => g | some b => if b < g then g else b) := by
  have hl : i < t.gives.length := (List.getElem?_eq_some_iff.mp h).1
  unfold markTo
  rw [if_neg (by omega), take_snoc h]
  by_cases h0 : i = 0
  · subst h0
    rw [if_pos rfl]
    rfl
  · rw [if_neg h0, maxL_snoc (fun e => by
      have := congrArg List.length e
      rw [List.length_take] at this
      simp only [List.length_nil] at this
      omega)]
theorem tries_at {t : Task} {i : Nat} {p : Int} (h : t.tries[i]? = some p) : atI (t.tries.map PyData.int) (i : Int) = some (.int p) := atI_nat (by rw [List.getElem?_map, h]; rfl)
theorem by_l_mark {N : List Str} (hN : N.length = 4) : ∀ vs H Q E, sp_l_mark K vs H Q E → t_l_mark K { nx := fun _ H' => Q .non H', rt := Q } (L2.start N vs) H := body_R hN <| by
  rintro ds d ⟨t, rfl, hl, rfl⟩ O F Dn hnx kk
  show Run K O F (t_l_mark K) Dn [.im t.d, .un, .un, .un]
  unfold t_l_mark
  unfold Task.d
  refine run_asg (d := .none) ev_non ?_
  refine run_forR (n := (t.tries.length : Int)) [2, 3] (fun i τ => τ = [.im (.tuple [.int t.w, .int t.m, .int t.c, .tuple (t.tries.map PyData.int)]), .im (optD (markTo t i)), .un, .un]) (ea_cons (ev_to (by walk_at "ev") (by rw [List.length_map])) ea_nil) (by omega) rfl ?_ ?_
  · rintro G hG i τ' hi rfl
    dsimp only [List.set]
    have hi' : i < t.tries.length := by omega
    obtain ⟨p, hp⟩ : ∃ p, t.tries[i]? = some p := ⟨_, List.getElem?_eq_getElem hi'⟩
    have hg := gives_get hp
    have ha := tries_at hp
    refine run_asg (d := .int p) (ev_op (by walk_at "ev") (by walk_at "ev") (rv_ixT ha)) ?_
    refine run_ifAsg (b := decide ((0 : Int) < (i : Int)) && decide (t.c < p)) (d0 := .int p) (d := .int t.c) (by walk_at "ev") rfl (fun _ => by walk_at "ev") ?_
    have e : (if (decide ((0 : Int) < (i : Int)) && decide (t.c < p)) = true then PyData.int t.c else .int p) = .int (if i = 0 then p else capd t.c p) := by
      unfold capd
      by_cases h0 : i = 0
      · subst h0; rfl
      · rw [if_neg h0]
        by_cases h1 : t.c < p
        · rw [if_pos h1, if_pos (by simp [h1]; omega)]
        · rw [if_neg h1, if_neg (by simp [h1])]
    rw [e]
    generalize (if i = 0 then p else capd t.c p) = g at *
    have hs := markTo_succ hg
    cases hm : markTo t i with
    | none =>
      rw [hm] at hs
      refine run_ifAsg (b := isNone (optD none) || false) (d0 := .none) (d := .int g) (et_or (by walk_at "ev") (fun h => by cases h)) rfl (fun _ => by walk_at "ev") ?_
      refine run_end (js := [2, 3]) ?_ rfl
      rw [hs]
      rfl
    | some b =>
      rw [hm] at hs
      refine run_ifAsg (b := isNone (optD (some b)) || decide (b < g)) (d0 := .int b) (d := .int g) (et_or (by walk_at "ev") (fun h => et_test (ev_op (ev_var rfl) (ev_var (d := .int b) rfl) rv_gt))) rfl (fun _ => by walk_at "ev") ?_
      refine run_end (js := [2, 3]) ?_ rfl
      rw [hs]
      show [_, Sl.im (if decide (b < g) = true then PyData.int g else .int b), _, _] = [_, Sl.im (.int (if b < g then g else b)), _, _]
      by_cases h : b < g <;> simp [h] <;> rfl
  · rintro τ' rfl
    rw [Int.toNat_natCast, markTo_all]
    exact run_ret (by walk_at "ev") kk
theorem by_l_gives {N : List Str} (hN : N.length = 3) : ∀ vs H Q E, sp_l_gives K vs H Q E → t_l_gives K { nx := fun _ H' => Q .non H', rt := Q } (L2.start N vs) H := body_N hN <| by
  rintro ds es ⟨t, rfl, hl, rfl⟩ O F Dn k
  show Run K O F (t_l_gives K) Dn [.im t.d, .un, .un]
  unfold t_l_gives
  unfold Task.d
  refine run_asgN (en_lst ea_nil (by decide)) fun p => ?_
  refine run_forR (n := (t.tries.length : Int)) [2] (fun i τ => τ = [.im (.tuple [.int t.w, .int t.m, .int t.c, .tuple (t.tries.map PyData.int)]), .ow p ((t.gives.take i).map PyData.int), .un]) (ea_cons (ev_to (by walk_at "ev") (by rw [List.length_map])) ea_nil) (by omega) rfl ?_ ?_
  · rintro G hG i τ' hi rfl
    dsimp only [List.set]
    have hi' : i < t.tries.length := by omega
    obtain ⟨q, hq⟩ : ∃ q, t.tries[i]? = some q := ⟨_, List.getElem?_eq_getElem hi'⟩
    have hg := gives_get hq
    have ha := tries_at hq
    have fin : ∀ {G' : Hp} {g : Int}, t.gives[i]? = some g → (t.gives.take i).map PyData.int ++ [PyData.int g] = (t.gives.take (i + 1)).map PyData.int := fun h => by
      rw [take_snoc h, List.map_append]
      rfl
    have hz : ((t.gives.take i).map PyData.int).length < 100000 := by
      rw [List.length_map, List.length_take, gives_len]
      omega
    refine run_if (b := decide ((i : Int) = 0) || decide (q < t.c)) (et_or (by walk_at "ev") (fun _ => et_test (ev_op (ev_op (by walk_at "ev") (by walk_at "ev") (rv_ixT ha)) (by walk_at "ev") rv_lt))) (fun h => ?_) (fun h => ?_)
    · refine run_app (d := .int q) rfl (ev_op (by walk_at "ev") (by walk_at "ev") (rv_ixT ha)) hz (run_nx ?_)
      refine run_end (js := [2]) ?_ rfl
      have e : (if i = 0 then q else capd t.c q) = q := by
        unfold capd
        rw [Bool.or_eq_true, decide_eq_true_eq, decide_eq_true_eq] at h
        split
        · rfl
        · rw [if_neg (by omega)]
      rw [e] at hg
      rw [← fin (G' := G) hg]
      rfl
    · refine run_app (d := .int t.c) rfl (by walk_at "ev") hz (run_nx ?_)
      refine run_end (js := [2]) ?_ rfl
      have e : (if i = 0 then q else capd t.c q) = t.c := by
        unfold capd
        rw [Bool.or_eq_false_iff, decide_eq_false_iff_not, decide_eq_false_iff_not] at h
        rw [if_neg (by omega)]
        split <;> omega
      rw [e] at hg
      rw [← fin (G' := G) hg]
      rfl
  · rintro τ' rfl
    refine run_retO (j := 1) rfl ?_
    rw [Int.toNat_natCast, ← gives_len, List.take_length]
    exact k

/-- marked(part); slots part number -/
def t_marked (K : PySem.W.Frag) : TS :=
 (tSeq (tRet (tLc (iRng1 (tCons (tCB (rLen K) (tCons (tOp (rIx K) (tVar 0) (tC (.int 3))) tNil)) tNil)) (gName 1) (tTest (tOp rNot (tCall (sp_mark K) [] E0 (tCons (tOp (rIx K) (tOp (rIx K) (tVar 0) (tC (.int 3))) (tVar 1)) tNil)) (tC .non))) (tVar 1) [1]))
 tNext)
/-- mean(part, numbers); slots part numbers total weights number task -/
def t_mean (K : PySem.W.Frag) : TS :=
 (tSeq (tAsg (tTup (tCons (tC (.int 0)) (tCons (tC (.int 1)) tNil))) (gName 2))
 (tSeq (tAsg (tC (.int 0)) (gName 3))
 (tSeq (tFor (iSeq K (tVar 1)) (gName 4) (tSeq (tAsg (tOp (rIx K) (tOp (rIx K) (tVar 0) (tC (.int 3))) (tVar 4)) (gName 5))
 (tSeq (tAsg (tCall (sp_plus K) [] E0 (tCons (tVar 2) (tCons (tCall (sp_share K) [] E0 (tCons (tOp (rMul K) (tOp (rIx K) (tVar 5) (tC (.int 0))) (tCall (sp_mark K) [] E0 (tCons (tVar 5) tNil))) (tCons (tOp (rIx K) (tVar 5) (tC (.int 1))) tNil))) tNil))) (gName 2))
 (tSeq (tAsg (tOp (rAdd K) (tVar 3) (tOp (rIx K) (tVar 5) (tC (.int 0)))) (gName 3))
 tNext))))
 (tSeq (tRet (tCall (sp_share K) [] E0 (tCons (tOp (rIx K) (tVar 2) (tC (.int 0))) (tCons (tOp (rMul K) (tOp (rIx K) (tVar 2) (tC (.int 1))) (tVar 3)) tNil))))
 tNext))))
/-- choices(numbers, many); slots numbers many ways turn longer way number -/
def t_choices (K : PySem.W.Frag) : TS :=
 (tSeq (tAsg (tLst (tCons (tTup tNil) tNil)) (gName 2))
 (tSeq (tFor (iRng1 (tCons (tVar 1) tNil)) (gName 3) (tSeq (tAsg (tLst tNil) (gName 4))
 (tSeq (tFor (iSeq K (tVar 2)) (gName 5) (tSeq (tFor (iSeq K (tVar 0)) (gName 6) (tSeq (tIfS (tOr (tTest (tOp (rEqD K) (tVar 5) (tTup tNil))) (tTest (tOp rGt (tVar 6) (tOp (rIx K) (tVar 5) (tUn rNeg (tC (.int 1))))))) (tSeq (tDrop (tBM K "list" rAppend (tVar 4) (tCons (tOp (rAdd K) (tVar 5) (tTup (tCons (tVar 6) tNil))) tNil)))
 tNext) tNext)
 tNext))
 tNext))
 (tSeq (tAsg (tVar 4) (gName 2))
 tNext))))
 (tSeq (tRet (tVar 2))
 tNext)))
/-- left_out(part); slots part numbers many best most way kept here number -/
def t_left_out (K : PySem.W.Frag) : TS :=
 (tSeq (tAsg (tCall (sp_marked K) [] E0 (tCons (tVar 0) tNil)) (gName 1))
 (tSeq (tAsg (tCB rMax2 (tCons (tC (.int 0)) (tCons (tCB rMin2 (tCons (tOp (rIx K) (tVar 0) (tC (.int 1))) (tCons (tOp rSub (tCB (rLen K) (tCons (tVar 1) tNil)) (tC (.int 1))) tNil))) tNil))) (gName 2))
 (tSeq (tAsg (tTup tNil) (gName 3))
 (tSeq (tAsg (tC .non) (gName 4))
 (tSeq (tFor (iSeq K (tCall (sp_choices K) [] E0 (tCons (tVar 1) (tCons (tVar 2) tNil)))) (gName 5) (tSeq (tAsg (tLc (iSeq K (tVar 1)) (gName 8) (tTest (tOp (rIn K true) (tVar 8) (tVar 5))) (tVar 8) [8]) (gName 6))
 (tSeq (tIfS (tTest (tOp rGt (tCB (rLen K) (tCons (tVar 6) tNil)) (tC (.int 0)))) (tSeq (tAsg (tCall (sp_mean K) [] E0 (tCons (tVar 0) (tCons (tVar 6) tNil))) (gName 7))
 (tSeq (tIfS (tOr (tTest (tOp rIs (tVar 4) (tC .non))) (tB (tCall (sp_less K) [] E0 (tCons (tVar 4) (tCons (tVar 7) tNil))))) (tSeq (tAsg (tVar 5) (gName 3))
 (tSeq (tAsg (tVar 7) (gName 4))
 tNext)) tNext)
 tNext)) tNext)
 tNext)))
 (tSeq (tRet (tVar 3))
 tNext))))))
/-- l_part_by(cell, most_tasks); slots cell most_tasks xs weight top tasks k extras -/
def t_l_part_by (K : PySem.W.Frag) : TS :=
 (tSeq (tAsg (tCall (sp_l_stream K) [] E0 (tCons (tVar 0) (tCons (tOp (rAdd K) (tC (.int 20)) (tOp (rMul K) (tC (.int 16)) (tVar 1))) tNil))) (gName 2))
 (tSeq (tAsg (tOp (rAdd K) (tC (.int 1)) (tOp rMod (tOp (rIx K) (tVar 2) (tC (.int 0))) (tC (.int 5)))) (gName 3))
 (tSeq (tIfS (tTest (tOp (rEqD K) (tOp rMod (tOp rDiv (tOp (rIx K) (tVar 2) (tC (.int 0))) (tC (.int 5))) (tC (.int 5))) (tC (.int 0)))) (tSeq (tAsg (tOp (rAdd K) (tC (.int 1)) (tOp rMod (tOp rDiv (tOp (rIx K) (tVar 2) (tC (.int 0))) (tC (.int 25))) (tC (.int 1000)))) (gName 3))
 tNext) tNext)
 (tSeq (tAsg (tOp (rIx K) (tLst (tCons (tC (.int 0)) (tCons (tC (.int 50)) (tCons (tC (.int 1000)) (tCons (tOp rMod (tOp rDiv (tOp (rIx K) (tVar 2) (tC (.int 2))) (tC (.int 4))) (tC (.int 1001))) tNil))))) (tOp rMod (tOp (rIx K) (tVar 2) (tC (.int 2))) (tC (.int 4)))) (gName 4))
 (tSeq (tAsg (tLst tNil) (gName 5))
 (tSeq (tFor (iRng1 (tCons (tOp rMod (tOp (rIx K) (tVar 2) (tC (.int 3))) (tOp (rAdd K) (tVar 1) (tC (.int 1)))) tNil)) (gName 6) (tSeq (tDrop (tBM K "list" rAppend (tVar 5) (tCons (tCall (sp_l_task_by K) [] E0 (tCons (tSl (rSl K) (tVar 2) (tPart (tOp (rAdd K) (tC (.int 20)) (tOp (rMul K) (tC (.int 16)) (tVar 6)))) (tPart (tOp (rAdd K) (tC (.int 36)) (tOp (rMul K) (tC (.int 16)) (tVar 6))))) tNil)) tNil)))
 tNext))
 (tSeq (tAsg (tLc (iRng1 (tCons (tOp (rIx K) (tLst (tCons (tC (.int 0)) (tCons (tC (.int 0)) (tCons (tC (.int 1)) (tCons (tC (.int 1)) (tCons (tC (.int 2)) (tCons (tC (.int 3)) (tCons (tC (.int 4)) (tCons (tC (.int 12)) tNil))))))))) (tOp rMod (tOp (rIx K) (tVar 2) (tC (.int 4))) (tC (.int 8)))) tNil)) (gName 6) tYes (tOp rMod (tOp (rIx K) (tVar 2) (tOp (rAdd K) (tC (.int 5)) (tVar 6))) (tOp (rIx K) (tLst (tCons (tC (.int 1001)) (tCons (tC (.int 30)) tNil))) (tOp rMod (tOp rDiv (tOp (rIx K) (tVar 2) (tC (.int 4))) (tC (.int 8))) (tC (.int 2))))) [6]) (gName 7))
 (tSeq (tRet (tTup (tCons (tVar 3) (tCons (tOp rMod (tOp (rIx K) (tVar 2) (tC (.int 1))) (tC (.int 4))) (tCons (tVar 4) (tCons (tCB (rTuple K) (tCons (tVar 5) tNil)) (tCons (tCB (rTuple K) (tCons (tVar 7) tNil)) tNil)))))))
 tNext))))))))
/-- l_lure_by(cell); slots cell xs tasks k at -/
def t_l_lure_by (K : PySem.W.Frag) : TS :=
 (tSeq (tAsg (tCall (sp_l_stream K) [] E0 (tCons (tVar 0) (tCons (tC (.int 9)) tNil))) (gName 1))
 (tSeq (tAsg (tLst (tCons (tTup (tCons (tOp (rAdd K) (tC (.int 1)) (tOp rMod (tOp (rIx K) (tVar 1) (tC (.int 0))) (tC (.int 2)))) (tCons (tC (.int 100)) (tCons (tC (.int 100)) (tCons (tTup (tCons (tOp rMod (tOp (rIx K) (tVar 1) (tC (.int 1))) (tC (.int 6))) tNil)) tNil))))) tNil)) (gName 2))
 (tSeq (tFor (iRng1 (tCons (tC (.int 2)) tNil)) (gName 3) (tSeq (tDrop (tBM K "list" rAppend (tVar 2) (tCons (tTup (tCons (tOp (rAdd K) (tC (.int 9)) (tOp rMod (tOp (rIx K) (tVar 1) (tOp (rAdd K) (tC (.int 2)) (tVar 3))) (tC (.int 3)))) (tCons (tC (.int 100)) (tCons (tC (.int 50)) (tCons (tTup (tCons (tOp (rAdd K) (tC (.int 78)) (tOp rMod (tOp (rIx K) (tVar 1) (tOp (rAdd K) (tC (.int 4)) (tVar 3))) (tC (.int 5)))) tNil)) tNil))))) tNil)))
 tNext))
 (tSeq (tDrop (tBM K "list" rAppend (tVar 2) (tCons (tTup (tCons (tOp (rAdd K) (tC (.int 9)) (tOp rMod (tOp (rIx K) (tVar 1) (tC (.int 6))) (tC (.int 3)))) (tCons (tC (.int 100)) (tCons (tC (.int 50)) (tCons (tTup (tCons (tOp (rAdd K) (tC (.int 97)) (tOp rMod (tOp (rIx K) (tVar 1) (tC (.int 7))) (tC (.int 4)))) tNil)) tNil))))) tNil)))
 (tSeq (tAsg (tOp rMod (tOp (rIx K) (tVar 1) (tC (.int 8))) (tC (.int 4))) (gName 4))
 (tSeq (tRet (tTup (tCons (tC (.int 1)) (tCons (tC (.int 2)) (tCons (tC (.int 0)) (tCons (tCB (rTuple K) (tCons (tOp (rAdd K) (tSl (rSl K) (tVar 2) (tPart (tVar 4)) tNoPart) (tSl (rSl K) (tVar 2) tNoPart (tPart (tVar 4)))) tNil)) (tCons (tTup tNil) tNil)))))))
 tNext))))))
/-- l_mean(part, numbers); slots part numbers top bottom weights number task -/
def t_l_mean (K : PySem.W.Frag) : TS :=
 (tSeq (tAsg (tC (.int 0)) (gName 2))
 (tSeq (tAsg (tC (.int 1)) (gName 3))
 (tSeq (tAsg (tC (.int 0)) (gName 4))
 (tSeq (tFor (iSeq K (tVar 1)) (gName 5) (tSeq (tAsg (tOp (rIx K) (tOp (rIx K) (tVar 0) (tC (.int 3))) (tVar 5)) (gName 6))
 (tSeq (tAsg (tOp (rAdd K) (tOp (rMul K) (tVar 2) (tOp (rIx K) (tVar 6) (tC (.int 1)))) (tOp (rMul K) (tOp (rMul K) (tOp (rIx K) (tVar 6) (tC (.int 0))) (tCall (sp_l_mark K) [] E0 (tCons (tVar 6) tNil))) (tVar 3))) (gName 2))
 (tSeq (tAsg (tOp (rMul K) (tVar 3) (tOp (rIx K) (tVar 6) (tC (.int 1)))) (gName 3))
 (tSeq (tAsg (tCall (sp_l_low K) [] E0 (tCons (tVar 2) (tCons (tVar 3) tNil))) (gTup K 2 (gCons (gName 2) (gCons (gName 3) gNil))))
 (tSeq (tAsg (tOp (rAdd K) (tVar 4) (tOp (rIx K) (tVar 6) (tC (.int 0)))) (gName 4))
 tNext))))))
 (tSeq (tRet (tCall (sp_l_low K) [] E0 (tCons (tVar 2) (tCons (tOp (rMul K) (tVar 3) (tVar 4)) tNil))))
 tNext)))))
theorem isDone_eq {P : Part} {i : Int} : P.isDone i = !isNone (optD (P.at i).mark) := by
  rw [isNone_opt]
  unfold Part.isDone
  by_cases h : (P.at i).tries = []
  · rw [mark_none.mpr h, h]; rfl
  · have h2 : ¬(P.at i).mark = none := fun z => h (mark_none.mp z)
    rw [decide_eq_false h2, decide_eq_true h]
    rfl
theorem by_marked {N : List Str} (hN : N.length = 2) : ∀ vs H Q E, sp_marked K vs H Q E → t_marked K { nx := fun _ H' => Q .non H', rt := Q } (L2.start N vs) H := body_N hN <| by
  rintro ds es ⟨P, rfl, ho, rfl⟩ O F Dn k
  show Run K O F (t_marked K) Dn [.im P.d, .un]
  unfold t_marked
  refine run_retN (en_filterR (n := P.tasks.length) P.isDone (ea_cons (ev_cb (ea_cons (ev_pk (ev_var rfl)) ea_nil) (by rw [← List.length_map (f := Task.d)]; exact rc_lenT)) ea_nil) (Nat.le_trans ho.n (by decide)) (fun s => rfl) fun i hi => ?_) k
  have hi' := rangeI_mem.mp hi
  refine et_test (ev_op (ev_mark (ev_pat (ev_var rfl) (ev_var rfl) hi') (Nat.le_trans (ho.tk _ (at_mem hi'.1 hi'.2)).n (by decide))) ev_non ?_)
  rw [isDone_eq]
  exact rv_notN
theorem tsum_snoc {P : Part} {l : List Int} {i : Nat} {n : Int} (h : l[i]? = some n) : P.tsum (l.take (i + 1)) = P.tsum (l.take i) + (P.at n).term := by
  unfold Part.tsum
  rw [take_snoc h, S_app, S_cons, S_nil, Rat.add_zero]
theorem wsum_snoc {P : Part} {l : List Int} {i : Nat} {n : Int} (h : l[i]? = some n) : P.wsum (l.take (i + 1)) = P.wsum (l.take i) + (P.at n).w := by
  unfold Part.wsum
  rw [take_snoc h, List.map_append, sumI_app]
  show P.wsum (l.take i) + ((P.at n).w + 0) = P.wsum (l.take i) + (P.at n).w
  omega
theorem by_mean {N : List Str} (hN : N.length = 6) : ∀ vs H Q E, sp_mean K vs H Q E → t_mean K { nx := fun _ H' => Q .non H', rt := Q } (L2.start N vs) H := body_R hN <| by
  rintro ds d ⟨P, l, e, rfl, hs, ho, hl, h0, h9, rfl⟩ O F Dn hnx k
  show Run K O F (t_mean K) Dn [.im P.d, .im e, .un, .un, .un, .un]
  unfold t_mean
  refine run_asg (d := shD 0) (ev_tup (ea_cons ev_int (ea_cons ev_int ea_nil)) (by decide)) ?_
  refine run_asg (d := .int 0) ev_int ?_
  refine run_for [4, 5] (fun i τ => τ = [.im P.d, .im e, .im (shD (P.tsum (l.take i))), .im (.int (P.wsum (l.take i))), .un, .un]) (ev_var rfl) hs rfl ?_ ?_
  · rintro G hG i d τ' hd rfl
    dsimp only [List.set]
    rw [List.getElem?_map] at hd
    obtain ⟨n, hn, rfl⟩ := Option.map_eq_some_iff.mp hd
    have hm := hl n (List.mem_of_getElem? hn)
    have hr := (marked_mem.mp hm).1
    have ht := ho.at hm
    have hsub : ∀ x ∈ l.take i, x ∈ P.marked := fun x hx => hl x (List.mem_of_mem_take hx)
    have hz := (tsum_sz ho hsub).sz (by rw [List.length_take]; omega)
    have hp := ht.1.prod ht.2
    have hw1 := ht.1.w1
    have hw2 := ht.1.w2
    have hm1 := ht.1.m1
    have hm2 := ht.1.m2
    refine run_asg (d := (P.at n).d) (ev_pat (ev_var rfl) (ev_var rfl) hr) ?_
    refine run_asg (d := shD (P.tsum (l.take i) + (P.at n).term)) (ev_call (ea_cons (ev_var rfl) (ea_cons (ev_call (d := shD (P.at n).term) (ea_cons (ev_op (ev_tw (ev_var rfl)) (ev_pts (ev_var rfl) ht.1 ht.2) (rv_mulI (CM.left (by omega) (by omega)))) (ea_cons (ev_tm (ev_var rfl)) ea_nil)) ⟨_, _, rfl, by omega, Nat.lt_of_le_of_lt (m := 1000000) (by omega) (Nat.lt_of_lt_of_le (show 1000000 < 2 ^ 20 by decide) (Nat.pow_le_pow_right (by decide) (by decide))), rfl⟩) ea_nil)) ⟨_, _, rfl, hz, (ht.1.term_sz ht.2).sz (by decide), rfl⟩) ?_
    refine run_asg (d := .int (P.wsum (l.take i) + (P.at n).w)) (ev_op (ev_var rfl) (ev_tw (ev_var rfl)) rv_addI) ?_
    refine run_end (js := [4, 5]) ?_ rfl
    show _ = _
    rw [tsum_snoc hn, wsum_snoc hn]
    rfl
  · rintro τ' rfl
    rw [List.length_map, List.take_length]
    have hz := tsum_sz ho hl
    have hb := wsum_bd ho hl
    have hp := wsum_pos ho hl h0
    have hd := (P.tsum l).den_pos
    have e1 := self_div (P.tsum l) (c := P.wsum l) (by omega)
    refine run_ret (ev_call (ea_cons (ev_nu (ev_var rfl)) (ea_cons (ev_op (ev_de (ev_var rfl)) (ev_var rfl) (rv_mulI (CM.right (by omega) (by omega)))) ea_nil)) ⟨_, _, rfl, Int.mul_pos (by omega) hp, ?_, ?_⟩) k
    · exact Sm.mul (x := ((P.tsum l).den : Int)) (y := P.wsum l) (hz.sz (by omega)).2 (sm_small (by omega) (by omega))
    · rw [e1]; rfl
theorem by_choices {N : List Str} (hN : N.length = 7) : ∀ vs H Q E, sp_choices K vs H Q E → t_choices K { nx := fun _ H' => Q .non H', rt := Q } (L2.start N vs) H := body_N hN <| by
  rintro ds es ⟨N, k0, rfl, hi, hl, hk, rfl⟩ O F Dn k
  show Run K O F (t_choices K) Dn [.im (.list (N.map PyData.int)), .im (.int (k0 : Int)), .un, .un, .un, .un, .un]
  unfold t_choices
  refine run_asgN (ds := (lways N 0).map wayD) ?_ fun p => ?_
  · have e : (lways N 0).map wayD = [.tuple []] := by cases N <;> rfl
    rw [e]
    exact en_lst (ea_cons (ev_tup ea_nil (by decide)) ea_nil) (by decide)
  dsimp only [List.set]
  refine run_forR (n := (k0 : Int)) [3, 4, 5, 6] (fun i τ => ∃ p, τ = [.im (.list (N.map PyData.int)), .im (.int (k0 : Int)), .ow p ((lways N i).map wayD), .un, .un, .un, .un]) (by walk_at "ev") (by omega) ⟨p, rfl⟩ ?_ ?_
  · rintro G hG i τ' hi' ⟨p, rfl⟩
    dsimp only [List.set]
    have hw := lways_len (N := N) (k := i)
    have h512 : 2 ^ N.length ≤ 2 ^ 9 := Nat.pow_le_pow_right (by decide) hl
    have h5 : (2 : Nat) ^ 9 = 512 := by decide
    refine run_freeze (j := 2) rfl ?_
    refine run_asgN (en_lst ea_nil (by decide)) fun p1 => ?_
    dsimp only [List.set]
    have hel : ∀ w : List Int, (ext1 N w).length ≤ 9 := fun w => by
      unfold ext1
      rw [List.length_map]
      exact Nat.le_trans (List.length_filter_le _ _) hl
    have hfl : ∀ ws : List (List Int), (ws.flatMap (ext1 N)).length ≤ 9 * ws.length := fun ws => by
      induction ws with
      | nil => simp
      | cons a ws ih =>
        rw [List.flatMap_cons, List.length_append, List.length_cons]
        have := hel a
        omega
    refine run_for (ds := (lways N i).map wayD) [5, 6] (fun m τ => τ = [.im (.list (N.map PyData.int)), .im (.int (k0 : Int)), .im (.list ((lways N i).map wayD)), .im (.int (i : Int)), .ow p1 ((((lways N i).take m).flatMap (ext1 N)).map wayD), .un, .un]) (ev_var rfl) (.inl rfl) rfl ?_ ?_
    · rintro G1 hG1 m d τ' hd rfl
      dsimp only [List.set]
      rw [List.getElem?_map] at hd
      obtain ⟨w, hwm, rfl⟩ := Option.map_eq_some_iff.mp hd
      have hm : m < (lways N i).length := (List.getElem?_eq_some_iff.mp hwm).1
      have hwl := lways_iff.mp (List.mem_of_getElem? hwm)
      refine run_for (ds := N.map PyData.int) [6] (fun x τ => τ = [.im (.list (N.map PyData.int)), .im (.int (k0 : Int)), .im (.list ((lways N i).map wayD)), .im (.int (i : Int)), .ow p1 ((((lways N i).take m).flatMap (ext1 N) ++ ext1 (N.take x) w).map wayD), .im (wayD w), .un]) (ev_var rfl) (.inl rfl) ?_ ?_ ?_
      · show _ = _
        rw [List.take_zero]
        unfold ext1
        rw [List.filter_nil, List.map_nil, List.append_nil]
        rfl
      · rintro G2 hG2 x d τ' hd rfl
        dsimp only [List.set]
        rw [List.getElem?_map] at hd
        obtain ⟨n, hn, rfl⟩ := Option.map_eq_some_iff.mp hd
        have hew : ext1 (N.take (x + 1)) w = ext1 (N.take x) w ++ (if (w = [] ∨ lastI w < n) then [w ++ [n]] else []) := by
          unfold ext1
          rw [take_snoc hn, List.filter_append, List.map_append]
          by_cases c : w = [] ∨ lastI w < n
          · rw [List.filter_cons_of_pos (by simpa using c), if_pos c]; rfl
          · rw [List.filter_cons_of_neg (by simpa using c), if_neg c]; rfl
        have e1 : PyData.eqv (wayD w) (.tuple []) = decide (w = []) := by
          cases w <;> rfl
        refine run_if (b := decide (w = []) || decide (lastI w < n)) (et_or (et_test (ev_to (ev_op (ev_var rfl) (ev_tup ea_nil (by decide)) (rv_eq ((shp_tuple (n := 0) (ds := w.map PyData.int) shp_ints).shaped (by decide)) rfl)) (by rw [e1]))) fun hf => ?_) (fun h => ?_) (fun h => ?_)
        · have c := of_decide_eq_false hf
          exact et_test (ev_op (ev_var rfl) (ev_op (ev_var rfl) (ev_neg ev_int) (rv_ixT (atI_last c))) rv_gt)
        · have c : w = [] ∨ lastI w < n := by simpa using h
          rw [if_pos c] at hew
          refine run_app (d := wayD (w ++ [n])) rfl ?_ ?_ ?_
          · refine ev_to (ev_op (a := wayD w) (ev_var rfl) (ev_tup (ea_cons (ev_var rfl) ea_nil) (by show 1 ≤ 100000; decide)) (rv_catT (ds := w.map PyData.int) (es := [PyData.int n]) ?_)) ?_
            · have := hwl.1.length_le
              rw [List.length_map]
              show w.length + 1 ≤ 100000
              omega
            · unfold wayD
              rw [List.map_append]
              rfl
          · rw [List.length_map, List.length_append]
            have a := hfl ((lways N i).take m)
            have b : (ext1 (N.take x) w).length ≤ 9 := by
              unfold ext1
              rw [List.length_map]
              refine Nat.le_trans (List.length_filter_le _ _) ?_
              rw [List.length_take]; omega
            rw [List.length_take] at a
            omega
          · refine run_nx (run_end (js := [6]) ?_ rfl)
            show _ = _
            rw [hew]
            simp only [List.map_append, List.append_assoc]
            rfl
        · have c : ¬(w = [] ∨ lastI w < n) := by simpa using h
          rw [if_neg c, List.append_nil] at hew
          refine run_nx (run_end (js := [6]) ?_ rfl)
          show _ = _
          rw [hew]
          rfl
      · rintro τ' rfl
        refine run_end (js := [5, 6]) ?_ rfl
        show _ = _
        rw [List.length_map, List.take_length, take_snoc hwm, List.flatMap_append, List.flatMap_cons, List.flatMap_nil, List.append_nil]
        rfl
    · rintro τ' rfl
      rw [List.length_map, List.take_length, ← lways_succ hi]
      refine run_move (j := 4) rfl ?_
      exact run_end (js := [3, 4, 5, 6]) ⟨p1, rfl⟩ rfl
  · rintro τ' ⟨p, rfl⟩
    exact run_retO (j := 2) rfl k

/-- part_share(part); slots part left kept extra found number -/
def t_part_share (K : PySem.W.Frag) : TS :=
 (tSeq (tAsg (tCall (sp_left_out K) [] E0 (tCons (tVar 0) tNil)) (gName 1))
 (tSeq (tAsg (tLc (iSeq K (tCall (sp_marked K) [] E0 (tCons (tVar 0) tNil))) (gName 5) (tTest (tOp (rIn K true) (tVar 5) (tVar 1))) (tVar 5) [5]) (gName 2))
 (tSeq (tIfS (tTest (tOp (rEqD K) (tCB (rLen K) (tCons (tVar 2) tNil)) (tC (.int 0)))) (tSeq (tRet (tC .non))
 tNext) tNext)
 (tSeq (tAsg (tCall (sp_share K) [] E0 (tCons (tCB rMin2 (tCons (tOp (rIx K) (tVar 0) (tC (.int 2))) (tCons (tCB (rSum1 K) (tCons (tOp (rIx K) (tVar 0) (tC (.int 4))) tNil)) tNil))) (tCons (tC (.int 1000)) tNil))) (gName 3))
 (tSeq (tAsg (tCall (sp_plus K) [] E0 (tCons (tCall (sp_mean K) [] E0 (tCons (tVar 0) (tCons (tVar 2) tNil))) (tCons (tVar 3) tNil))) (gName 4))
 (tSeq (tIfS (tB (tCall (sp_less K) [] E0 (tCons (tTup (tCons (tC (.int 1)) (tCons (tC (.int 1)) tNil))) (tCons (tVar 4) tNil)))) (tSeq (tRet (tTup (tCons (tC (.int 1)) (tCons (tC (.int 1)) tNil))))
 tNext) tNext)
 (tSeq (tRet (tVar 4))
 tNext)))))))
theorem many_eq {P : Part} (ho : P.Ok) : (P.many : Int) = if (if ((P.marked.length : Int) - 1) < P.worst then ((P.marked.length : Int) - 1) else P.worst) > 0 then (if ((P.marked.length : Int) - 1) < P.worst then ((P.marked.length : Int) - 1) else P.worst) else 0 := by
  have := ho.o1
  unfold Part.many
  split <;> split <;> omega
theorem et_notin {τ : List Sl} {ti tl : TE} {n : Int} {w : List Int} (hi : Ev K ti τ (.int n)) (hl : Ev K tl τ (wayD w)) : EvT K (tTest (tOp (rIn K true) ti tl)) τ (!decide (n ∈ w)) := et_test (ev_op hi hl rv_in0T)
theorem by_left_out {N : List Str} (hN : N.length = 9) : ∀ vs H Q E, sp_left_out K vs H Q E → t_left_out K { nx := fun _ H' => Q .non H', rt := Q } (L2.start N vs) H := body_R hN <| by
  rintro ds d ⟨P, rfl, ho, rfl⟩ O F Dn hnx k
  show Run K O F (t_left_out K) Dn [.im P.d, .un, .un, .un, .un, .un, .un, .un, .un]
  unfold t_left_out
  refine run_asg (d := .list (P.marked.map PyData.int)) (ev_callN (ea_cons (ev_var rfl) ea_nil) ⟨_, rfl, ho, rfl⟩) ?_
  refine run_asg (d := .int (P.many : Int)) (ev_to (ev_cb (ea_cons ev_int (ea_cons (ev_cb (ea_cons (ev_po (ev_var rfl)) (ea_cons (ev_op (ev_cb (ea_cons (ev_var rfl) ea_nil) rc_lenL) ev_int rv_sub) ea_nil)) rc_min2) ea_nil)) rc_max2) (by rw [List.length_map, ← many_eq ho])) ?_
  refine run_asg (d := wayD []) (ev_tup ea_nil (by decide)) ?_
  refine run_asg (d := .none) ev_non ?_
  have hml := marked_len P
  have h9 := ho.n
  have hk3 : P.many ≤ 3 := by have := ho.o2; unfold Part.many; omega
  by_cases h0 : P.marked = []
  · have e0 : P.many = 0 := by unfold Part.many; rw [h0]; simp
    have ew : lways P.marked P.many = [[]] := by rw [h0, e0]; rfl
    have el : P.left = [] := by
      have := (left_best P).1
      rw [ew] at this
      simpa using this
    rw [el] at k
    rw [h0] at *
    refine run_for (d := .list [wayD []]) (ds := [wayD []]) [5, 6, 7, 8] (fun i τ => τ = [.im P.d, .im (.list ([] : List D)), .im (.int (P.many : Int)), .im (wayD []), .im .none, .un, .un, .un, .un]) (ev_callN (ea_cons (ev_var rfl) (ea_cons (ev_var rfl) ea_nil)) ⟨[], P.many, rfl, .nil, by decide, hk3, by rw [e0]; rfl⟩) (.inl rfl) rfl ?_ ?_
    · rintro G hG i d τ' hd rfl
      dsimp only [List.set]
      have hd' : d = wayD [] := by
        have := List.mem_of_getElem? hd
        simpa using this
      subst hd'
      refine run_asg (d := .list ([] : List D)) (EvN.ev (en_filter (l := []) (fun n => !decide (n ∈ ([] : List Int))) (ev_var rfl) (.inl rfl) (by decide) (fun s => rfl) (fun n hn => by simp at hn))) ?_
      refine run_if (b := decide ((0 : Int) < (([] : List D).length : Int))) (et_test (ev_op (ev_cb (ea_cons (ev_var rfl) ea_nil) rc_lenL) ev_int rv_gt)) (fun h => by simp at h) (fun h => ?_)
      refine run_nx (run_end (js := [5, 6, 7, 8]) ?_ rfl)
      exact rfl
    · rintro τ' rfl
      exact run_ret (ev_var rfl) k
  · let s : Nat → List Int × Option Rat := fun i => ((lways P.marked P.many).take i).foldl (stepB fun W => P.mean (P.kept W)) ([], none)
    refine run_for (d := .list ((lways P.marked P.many).map wayD)) (ds := (lways P.marked P.many).map wayD) [5, 6, 7, 8] (fun i τ => τ = [.im P.d, .im (.list (P.marked.map PyData.int)), .im (.int (P.many : Int)), .im (wayD (s i).1), .im (optS (s i).2), .un, .un, .un, .un] ∧ ∀ r, (s i).2 = some r → Sz r) (ev_callN (ea_cons (ev_var rfl) (ea_cons (ev_var rfl) ea_nil)) ⟨_, P.many, rfl, marked_inc P, by omega, hk3, rfl⟩) (.inl rfl) ⟨rfl, fun r hr => by cases hr⟩ ?_ ?_
    · rintro G hG i d τ' hd ⟨rfl, hz⟩
      dsimp only [List.set]
      rw [List.getElem?_map] at hd
      obtain ⟨w, hw, rfl⟩ := Option.map_eq_some_iff.mp hd
      have hmw := List.mem_of_getElem? hw
      have hkn := kept_ne hmw h0
      have hkl : (P.kept w).length ≤ 9 := Nat.le_trans kept_len (by omega)
      have hs1 : s (i + 1) = stepB (fun W => P.mean (P.kept W)) (s i) w := by
        show ((lways P.marked P.many).take (i + 1)).foldl _ _ = _
        rw [take_snoc hw, List.foldl_append]
        rfl
      have hmz := (mean_sz ho (kept_mem (w := w)) hkn hkl).sz (by decide)
      refine run_asg (d := .list ((P.kept w).map PyData.int)) (EvN.ev (en_filter (fun n => !decide (n ∈ w)) (ev_var rfl) (.inl rfl) (by omega) (fun s => rfl) (fun n hn => et_notin (ev_var rfl) (ev_var rfl)))) ?_
      refine run_if (b := decide ((0 : Int) < (((P.kept w).map PyData.int).length : Int))) (et_test (ev_op (ev_cb (ea_cons (ev_var rfl) ea_nil) rc_lenL) ev_int rv_gt)) (fun h => ?_) (fun h => ?_)
      · refine run_asg (d := shD (P.mean (P.kept w))) (ev_call (ea_cons (ev_var rfl) (ea_cons (ev_var rfl) ea_nil)) ⟨_, _, _, rfl, .inl rfl, ho, kept_mem, hkn, hkl, rfl⟩) ?_
        refine run_if (b := isNone (optS (s i).2) || (match (s i).2 with | none => true | some x => decide (x < P.mean (P.kept w)))) (et_or (et_test (ev_op (ev_var rfl) ev_non rv_isN)) fun hf => ?_) (fun h => ?_) (fun h => ?_)
        · cases e : (s i).2 with
          | none => rw [e] at hf; cases hf
          | some x => exact et_B (ev_call (ea_cons (ev_var rfl) (ea_cons (ev_var rfl) ea_nil)) ⟨_, _, rfl, hz x e, hmz, rfl⟩)
        · refine run_asg (d := wayD w) (ev_var rfl) ?_
          refine run_asg (d := shD (P.mean (P.kept w))) (ev_var rfl) ?_
          refine run_nx (run_nx (run_end (js := [5, 6, 7, 8]) ?_ rfl))
          have e2 : s (i + 1) = (w, some (P.mean (P.kept w))) := by
            rw [hs1]
            unfold stepB
            cases e : (s i).2 with
            | none => rfl
            | some x =>
              rw [e] at h
              have : x < P.mean (P.kept w) := by simpa [isNone, optS, shD] using h
              simp [this]
          rw [e2]
          exact ⟨rfl, fun r hr => by cases hr; exact hmz⟩
        · refine run_nx (run_nx (run_end (js := [5, 6, 7, 8]) ?_ rfl))
          have e2 : s (i + 1) = s i := by
            rw [hs1]
            unfold stepB
            cases e : (s i).2 with
            | none => rw [e] at h; simp at h
            | some x =>
              rw [e] at h
              have : ¬x < P.mean (P.kept w) := by
                intro z
                simp [z] at h
              simp [this]
          rw [e2]
          exact ⟨rfl, hz⟩
      · have := of_decide_eq_false h
        have : 0 < (P.kept w).length := List.length_pos_iff.mpr hkn
        rw [List.length_map] at *
        omega
    · rintro τ' ⟨rfl, hz⟩
      have : (s ((lways P.marked P.many).map wayD).length).1 = P.left := by
        rw [List.length_map]
        show (((lways P.marked P.many).take (lways P.marked P.many).length).foldl (stepB fun W => P.mean (P.kept W)) ([], none)).1 = _
        rw [List.take_length]
        rfl
      rw [this]
      exact run_ret (ev_var rfl) k
theorem by_part_share {N : List Str} (hN : N.length = 6) : ∀ vs H Q E, sp_part_share K vs H Q E → t_part_share K { nx := fun _ H' => Q .non H', rt := Q } (L2.start N vs) H := body_R hN <| by
  rintro ds d ⟨P, rfl, ho, rfl⟩ O F Dn hnx k
  show Run K O F (t_part_share K) Dn [.im P.d, .un, .un, .un, .un, .un]
  unfold t_part_share
  have hml := marked_len P
  have h9 := ho.n
  have hx := ext_bd ho
  unfold Part.share at k
  refine run_asg (d := wayD P.left) (ev_call (ea_cons (ev_var rfl) ea_nil) ⟨_, rfl, ho, rfl⟩) ?_
  refine run_asg (d := .list ((P.kept P.left).map PyData.int)) (EvN.ev (en_filter (d := .list (P.marked.map PyData.int)) (fun n => !decide (n ∈ P.left)) (ev_callN (ea_cons (ev_var rfl) ea_nil) ⟨_, rfl, ho, rfl⟩) (.inl rfl) (by omega) (fun s => rfl) (fun n hn => et_notin (ev_var rfl) (ev_var rfl)))) ?_
  refine run_if (b := decide ((((P.kept P.left).map PyData.int).length : Int) = 0)) (et_test (ev_op (ev_cb (ea_cons (ev_var rfl) ea_nil) rc_lenL) ev_int rv_eqI)) (fun h => ?_) (fun h => ?_)
  · have h0 := of_decide_eq_true h
    rw [List.length_map] at h0
    rw [if_pos (List.length_eq_zero_iff.mp (by omega))] at k
    exact run_ret ev_non k
  · have h0 := of_decide_eq_false h
    have hkn : P.kept P.left ≠ [] := fun e => h0 (by rw [e]; rfl)
    rw [if_neg hkn] at k
    have hkl : (P.kept P.left).length ≤ 9 := Nat.le_trans kept_len (by omega)
    have hmz := mean_sz ho (kept_mem (w := P.left)) hkn hkl
    refine run_nx (run_asg (d := shD P.ext) (ev_call (ea_cons (ev_to (ev_cb (ea_cons (ev_pt (ev_var rfl)) (ea_cons (ev_cb (ea_cons (ev_px (ev_var rfl)) ea_nil) rc_sumT) ea_nil)) rc_min2) (e := .int (min P.top P.extras.sum)) (by congr 1; split <;> omega)) (ea_cons ev_int ea_nil)) ⟨_, _, rfl, by decide, Nat.lt_of_lt_of_le (show 1000 < 2 ^ 20 by decide) (Nat.pow_le_pow_right (by decide) (by decide)), rfl⟩) ?_)
    refine run_asg (d := shD (P.mean (P.kept P.left) + P.ext)) (ev_call (ea_cons (ev_call (ea_cons (ev_var rfl) (ea_cons (ev_var rfl) ea_nil)) ⟨_, _, _, rfl, .inl rfl, ho, kept_mem, hkn, hkl, rfl⟩) (ea_cons (ev_var rfl) ea_nil)) ⟨_, _, rfl, hmz.sz (by decide), (ext_sz ho).sz (by decide), rfl⟩) ?_
    refine run_if (b := decide (1 < P.mean (P.kept P.left) + P.ext)) (et_B (ev_call (ea_cons (ev_to (e := shD 1) (ev_tup (ea_cons ev_int (ea_cons ev_int ea_nil)) (by decide)) rfl) (ea_cons (ev_var rfl) ea_nil)) ⟨_, _, rfl, one_sz.sz (by decide), (hmz.add (ext_sz ho)).sz (by decide), rfl⟩)) (fun h => ?_) (fun h => ?_)
    · rw [if_pos (of_decide_eq_true h)] at k
      exact run_ret (d := shD 1) (ev_tup (ea_cons ev_int (ea_cons ev_int ea_nil)) (by decide)) k
    · rw [if_neg (of_decide_eq_false h)] at k
      exact run_nx (run_ret (ev_var rfl) k)
theorem by_l_mean {N : List Str} (hN : N.length = 7) : ∀ vs H Q E, sp_l_mean K vs H Q E → t_l_mean K { nx := fun _ H' => Q .non H', rt := Q } (L2.start N vs) H := body_R hN <| by
  rintro ds d ⟨P, l, rfl, ho, hl, h0, h9, rfl⟩ O F Dn hnx k
  show Run K O F (t_l_mean K) Dn [.im P.d, .im (.list (l.map PyData.int)), .un, .un, .un, .un, .un]
  unfold t_l_mean
  refine run_asg (d := .int (0 : Rat).num) ev_int ?_
  refine run_asg (d := .int ((0 : Rat).den : Int)) ev_int ?_
  refine run_asg (d := .int 0) ev_int ?_
  refine run_for (ds := l.map PyData.int) [5, 6] (fun i τ => τ = [.im P.d, .im (.list (l.map PyData.int)), .im (.int (P.tsum (l.take i)).num), .im (.int ((P.tsum (l.take i)).den : Int)), .im (.int (P.wsum (l.take i))), .un, .un]) (ev_var rfl) (.inl rfl) rfl ?_ ?_
  · rintro G hG i d τ' hd rfl
    dsimp only [List.set]
    rw [List.getElem?_map] at hd
    obtain ⟨n, hn, rfl⟩ := Option.map_eq_some_iff.mp hd
    have hm := hl n (List.mem_of_getElem? hn)
    have hr := (marked_mem.mp hm).1
    have ht := ho.at hm
    have hsub : ∀ x ∈ l.take i, x ∈ P.marked := fun x hx => hl x (List.mem_of_mem_take hx)
    have hz := (tsum_sz ho hsub).sz (by rw [List.length_take]; omega)
    have hp := ht.1.prod ht.2
    have hw1 := ht.1.w1
    have hw2 := ht.1.w2
    have hm1 := ht.1.m1
    have hm2 := ht.1.m2
    have hd0 := (P.tsum (l.take i)).den_pos
    refine run_asg (d := (P.at n).d) (ev_pat (ev_var rfl) (ev_var rfl) hr) ?_
    refine run_asg (ev_op (ev_op (ev_var rfl) (ev_tm (ev_var rfl)) (rv_mulI (CM.right (by omega) (by omega)))) (ev_op (ev_op (ev_tw (ev_var rfl)) (ev_lpts (ev_var rfl) ht.1 ht.2) (rv_mulI (CM.left (by omega) (by omega)))) (ev_var rfl) (rv_mulI (CM.left (by omega) (by omega)))) rv_addI) ?_
    refine run_asg (ev_op (ev_var rfl) (ev_tm (ev_var rfl)) (rv_mulI (CM.right (by omega) (by omega)))) ?_
    have e : Rat.divInt ((P.tsum (l.take i)).num * (P.at n).m + (P.at n).w * (P.at n).pts * ((P.tsum (l.take i)).den : Int)) (((P.tsum (l.take i)).den : Int) * (P.at n).m) = P.tsum (l.take (i + 1)) := by
      rw [tsum_snoc hn, ← Rat.divInt_add_divInt _ _ (by omega) (by omega), Rat.num_divInt_den]
      rfl
    refine run_asg2 (d1 := .int (P.tsum (l.take (i + 1))).num) (d2 := .int ((P.tsum (l.take (i + 1))).den : Int)) (ev_call (d := shD (P.tsum (l.take (i + 1)))) (ea_cons (ev_var rfl) (ea_cons (ev_var rfl) ea_nil)) ⟨_, _, rfl, Int.mul_pos (by omega) (by omega), Sm.mul (x := ((P.tsum (l.take i)).den : Int)) (y := (P.at n).m) hz.2 (sm_small (by omega) (by omega)), by rw [e]⟩) ?_
    refine run_asg (d := .int (P.wsum (l.take i) + (P.at n).w)) (ev_op (ev_var rfl) (ev_tw (ev_var rfl)) rv_addI) ?_
    refine run_end (js := [5, 6]) ?_ rfl
    show _ = _
    rw [wsum_snoc hn]
    rfl
  · rintro τ' rfl
    rw [List.length_map, List.take_length]
    have hz := tsum_sz ho hl
    have hb := wsum_bd ho hl
    have hp := wsum_pos ho hl h0
    have hd := (P.tsum l).den_pos
    have e1 := self_div (P.tsum l) (c := P.wsum l) (by omega)
    refine run_ret (ev_call (ea_cons (ev_var rfl) (ea_cons (ev_op (ev_var rfl) (ev_var rfl) (rv_mulI (CM.right (by omega) (by omega)))) ea_nil)) ⟨_, _, rfl, Int.mul_pos (by omega) hp, ?_, ?_⟩) k
    · exact Sm.mul (x := ((P.tsum l).den : Int)) (y := P.wsum l) (hz.sz (by omega)).2 (sm_small (by omega) (by omega))
    · rw [e1]; rfl

theorem sx_get {xs : List Int} {n i : Nat} (h : n ≤ xs.length) (hi : i < n) : atI (xs.map PyData.int) (i : Int) = some (.int (pick xs (i : Int))) := pick_at (by omega) (by omega)
theorem ev_md {τ : List Sl} {te : TE} {x k : Int} (hk : 0 < k) (h : Ev K te τ (.int x)) : Ev K (tOp rMod te (tC (.int k))) τ (.int (x % k)) := ev_op h ev_int (rv_mod hk)
theorem ev_dv {τ : List Sl} {te : TE} {x k : Int} (hk : 0 < k) (h2 : k < 2 ^ 64) (h : Ev K te τ (.int x)) : Ev K (tOp rDiv te (tC (.int k))) τ (.int (x / k)) := ev_op h ev_int (rv_div (div_small hk h2))
theorem ev_xs {τ : List Sl} {te : TE} {xs : List Int} {n : Nat} (i : Nat) (h : n ≤ xs.length) (hi : i < n) (hx : Ev K te τ (.list (xs.map PyData.int))) : Ev K (tOp (rIx K) te (tC (.int (i : Int)))) τ (.int (pick xs (i : Int))) := ev_op hx ev_int (rv_ixL (sx_get h hi))
theorem by_l_part_by {N : List Str} (hN : N.length = 8) : ∀ vs H Q E, sp_l_part_by K vs H Q E → t_l_part_by K { nx := fun _ H' => Q .non H', rt := Q } (L2.start N vs) H := body_R hN <| by
  rintro ds d ⟨c, m, rfl, hm, rfl⟩ O F Dn hnx k
  show Run K O F (t_l_part_by K) Dn [.im (.int c), .im (.int (m : Int)), .un, .un, .un, .un, .un, .un]
  unfold t_l_part_by
  have hlen := stream_len c (20 + 16 * m)
  have hP : (partBy c m).d = .tuple [.int (tWeight (pick (stream c (20 + 16 * m)) 0)), .int (pick (stream c (20 + 16 * m)) 1 % 4), .int (pTop (pick (stream c (20 + 16 * m)) 2)), .tuple ((pTasks (stream c (20 + 16 * m)) (pick (stream c (20 + 16 * m)) 3 % ((m : Int) + 1)).toNat).map Task.d), .tuple ((pExtras (stream c (20 + 16 * m)) (pMany (pick (stream c (20 + 16 * m)) 4)).toNat).map PyData.int)] := rfl
  rw [hP] at k
  refine run_asg (d := .list ((stream c (20 + 16 * m)).map PyData.int)) (ev_callN (ea_cons (ev_var rfl) (ea_cons (ev_op ev_int (ev_op ev_int (ev_var rfl) (rv_mulI (CM.left (by decide) (by decide)))) rv_addI) ea_nil)) ⟨_, _, rfl, by omega, by omega, by rw [show (20 + 16 * (m : Int)).toNat = 20 + 16 * m by omega]⟩) ?_
  generalize stream c (20 + 16 * m) = xs at *
  have x0 : ∀ {a b : Sl} {τ : List Sl}, Ev K (tOp (rIx K) (tVar 2) (tC (.int 0))) (a :: b :: .im (.list (xs.map PyData.int)) :: τ) (.int (pick xs 0)) := ev_xs (n := 20) 0 (by omega) (by decide) (ev_var rfl)
  have x1 : ∀ {a b : Sl} {τ : List Sl}, Ev K (tOp (rIx K) (tVar 2) (tC (.int 1))) (a :: b :: .im (.list (xs.map PyData.int)) :: τ) (.int (pick xs 1)) := ev_xs (n := 20) 1 (by omega) (by decide) (ev_var rfl)
  have x2 : ∀ {a b : Sl} {τ : List Sl}, Ev K (tOp (rIx K) (tVar 2) (tC (.int 2))) (a :: b :: .im (.list (xs.map PyData.int)) :: τ) (.int (pick xs 2)) := ev_xs (n := 20) 2 (by omega) (by decide) (ev_var rfl)
  have x3 : ∀ {a b : Sl} {τ : List Sl}, Ev K (tOp (rIx K) (tVar 2) (tC (.int 3))) (a :: b :: .im (.list (xs.map PyData.int)) :: τ) (.int (pick xs 3)) := ev_xs (n := 20) 3 (by omega) (by decide) (ev_var rfl)
  have x4 : ∀ {a b : Sl} {τ : List Sl}, Ev K (tOp (rIx K) (tVar 2) (tC (.int 4))) (a :: b :: .im (.list (xs.map PyData.int)) :: τ) (.int (pick xs 4)) := ev_xs (n := 20) 4 (by omega) (by decide) (ev_var rfl)
  refine run_asg (d := .int (1 + pick xs 0 % 5)) (ev_op ev_int (ev_md (by decide) x0) rv_addI) ?_
  refine run_ifAsg (b := decide (pick xs 0 / 5 % 5 = 0)) (d := .int (1 + pick xs 0 / 25 % 1000)) (et_test (ev_op (ev_md (by decide) (ev_dv (by decide) (by decide) x0)) ev_int rv_eqI)) rfl (fun _ => ev_op ev_int (ev_md (by decide) (ev_dv (by decide) (by decide) x0)) rv_addI) ?_
  have ew : (if decide (pick xs 0 / 5 % 5 = 0) = true then PyData.int (1 + pick xs 0 / 25 % 1000) else .int (1 + pick xs 0 % 5)) = .int (tWeight (pick xs 0)) := by
    unfold tWeight
    by_cases h : pick xs 0 / 5 % 5 = 0
    · rw [if_pos (decide_eq_true h), if_pos h]
    · rw [if_neg (by simpa using h), if_neg h]
  rw [ew]
  refine run_asg (d := .int (pTop (pick xs 2))) (ev_pick [0, 50, 1000, pick xs 2 / 4 % 1001] (ea_cons ev_int (ea_cons ev_int (ea_cons ev_int (ea_cons (ev_md (by decide) (ev_dv (by decide) (by decide) x2)) ea_nil)))) (ev_md (by decide) x2) (mod_bd _ (by decide)) (by simp)) ?_
  refine run_asgN (ds := []) (en_lst ea_nil (by decide)) fun p => ?_
  dsimp only [List.set]
  have hmod := mod_bd (pick xs 3) (show (0 : Int) < (m : Int) + 1 by omega)
  refine run_forR (n := pick xs 3 % ((m : Int) + 1)) [6] (fun i τ => τ = [.im (.int c), .im (.int (m : Int)), .im (.list (xs.map PyData.int)), .im (.int (tWeight (pick xs 0))), .im (.int (pTop (pick xs 2))), .ow p ((pTasks xs i).map Task.d), .un, .un]) (ea_cons (ev_op x3 (ev_op (ev_var rfl) ev_int rv_addI) (rv_mod (by omega))) ea_nil) (by omega) rfl ?_ ?_
  · rintro G hG i τ' hi rfl
    dsimp only [List.set]
    refine run_app (d := (taskBy ((xs.drop (20 + 16 * i)).take 16)).d) rfl (ev_call (ea_cons (ev_to (ev_sl (ev_var rfl) (eo_some (ev_op ev_int (ev_op ev_int (ev_var rfl) (rv_mulI (CM.left (by decide) (by decide)))) rv_addI)) (eo_some (ev_op ev_int (ev_op ev_int (ev_var rfl) (rv_mulI (CM.left (by decide) (by decide)))) rv_addI)) SlD.lst) (e := .list (((xs.drop (20 + 16 * i)).take 16).map PyData.int)) ?_) ea_nil) ⟨_, rfl, ?_, rfl⟩) ?_ ?_
    · rw [show (20 : Int) + 16 * (i : Int) = ((20 + 16 * i : Nat) : Int) by omega, show (36 : Int) + 16 * (i : Int) = ((36 + 16 * i : Nat) : Int) by omega, cut_part _ _ _ (by omega), show 36 + 16 * i - (20 + 16 * i) = 16 by omega, ← List.map_drop, ← List.map_take]
    · rw [List.length_take, List.length_drop]
      omega
    · unfold pTasks
      rw [List.length_map, List.length_map, List.length_range]
      omega
    · refine run_end (js := [6]) ?_ rfl
      show _ = _
      unfold pTasks
      rw [List.range_succ, List.map_append, List.map_append]
      rfl
  · rintro τ' rfl
    refine run_freeze (j := 5) rfl ?_
    have hmn := pMany_bd (pick xs 4)
    have hb := pBase_bd (pick xs 4)
    refine run_asg (d := .list ((pExtras xs (pMany (pick xs 4)).toNat).map PyData.int)) ?_ ?_
    · have e : (rangeD (pMany (pick xs 4)).toNat).filterMap (fun d => match d with | .int i => some (PyData.int (pick xs (5 + i) % pBase (pick xs 4))) | _ => none) = (pExtras xs (pMany (pick xs 4)).toNat).map PyData.int := by
        unfold rangeD pExtras
        rw [List.filterMap_map, List.map_map, ← List.filterMap_eq_map]
        rfl
      rw [← e]
      refine EvN.ev (en_lcR (n := pMany (pick xs 4)) _ (ea_cons (ev_pick [0, 0, 1, 1, 2, 3, 4, 12] (by dsimp only [List.map]; walk_at "ev") (ev_md (by decide) x4) (mod_bd _ (by decide)) (by simp)) ea_nil) (by omega) (fun i hi => et_yes) fun i hi r hr => ?_)
      cases hr
      have g := sx_get (xs := xs) (n := 20) (i := 5 + i) (by omega) (by omega)
      rw [show ((5 + i : Nat) : Int) = 5 + (i : Int) by omega] at g
      refine ev_op (ev_op (ev_var rfl) (ev_op ev_int (ev_var rfl) rv_addI) (rv_ixL g)) (ev_pick [1001, 30] (by dsimp only [List.map]; walk_at "ev") (ev_md (by decide) (ev_dv (by decide) (by decide) x4)) (mod_bd _ (by decide)) (by simp)) (rv_mod ?_)
      show 0 < pBase _
      omega
    · refine run_ret (ev_tup (ea_cons (ev_var rfl) (ea_cons (ev_md (by decide) x1) (ea_cons (ev_var rfl) (ea_cons (ev_cb (ea_cons (ev_var rfl) ea_nil) rc_tupleL) (ea_cons (ev_cb (ea_cons (ev_var rfl) ea_nil) rc_tupleL) ea_nil))))) ?_) k
      show 5 ≤ 100000
      decide
theorem by_l_lure_by {N : List Str} (hN : N.length = 5) : ∀ vs H Q E, sp_l_lure_by K vs H Q E → t_l_lure_by K { nx := fun _ H' => Q .non H', rt := Q } (L2.start N vs) H := body_R hN <| by
  rintro ds d ⟨c, rfl, rfl⟩ O F Dn hnx k
  show Run K O F (t_l_lure_by K) Dn [.im (.int c), .un, .un, .un, .un]
  unfold t_l_lure_by
  have hlen := stream_len c 9
  have hP : (lureBy c).d = .tuple [.int 1, .int 2, .int 0, .tuple (((lureTasks (stream c 9)).drop (pick (stream c 9) 8 % 4).toNat ++ (lureTasks (stream c 9)).take (pick (stream c 9) 8 % 4).toNat).map Task.d), .tuple []] := rfl
  rw [hP] at k
  refine run_asg (d := .list ((stream c 9).map PyData.int)) (ev_callN (ea_cons (ev_var rfl) (ea_cons ev_int ea_nil)) ⟨_, _, rfl, by decide, by decide, rfl⟩) ?_
  generalize stream c 9 = xs at *
  have x0 : ∀ {a : Sl} {τ : List Sl}, Ev K (tOp (rIx K) (tVar 1) (tC (.int 0))) (a :: .im (.list (xs.map PyData.int)) :: τ) (.int (pick xs 0)) := ev_xs (n := 9) 0 (by omega) (by decide) (ev_var rfl)
  have x1 : ∀ {a : Sl} {τ : List Sl}, Ev K (tOp (rIx K) (tVar 1) (tC (.int 1))) (a :: .im (.list (xs.map PyData.int)) :: τ) (.int (pick xs 1)) := ev_xs (n := 9) 1 (by omega) (by decide) (ev_var rfl)
  have x6 : ∀ {a : Sl} {τ : List Sl}, Ev K (tOp (rIx K) (tVar 1) (tC (.int 6))) (a :: .im (.list (xs.map PyData.int)) :: τ) (.int (pick xs 6)) := ev_xs (n := 9) 6 (by omega) (by decide) (ev_var rfl)
  have x7 : ∀ {a : Sl} {τ : List Sl}, Ev K (tOp (rIx K) (tVar 1) (tC (.int 7))) (a :: .im (.list (xs.map PyData.int)) :: τ) (.int (pick xs 7)) := ev_xs (n := 9) 7 (by omega) (by decide) (ev_var rfl)
  have x8 : ∀ {a : Sl} {τ : List Sl}, Ev K (tOp (rIx K) (tVar 1) (tC (.int 8))) (a :: .im (.list (xs.map PyData.int)) :: τ) (.int (pick xs 8)) := ev_xs (n := 9) 8 (by omega) (by decide) (ev_var rfl)
  have tk : ∀ {τ : List Sl} {t0 t1 t2 t3 : TE} {a b c d : Int}, Ev K t0 τ (.int a) → Ev K t1 τ (.int b) → Ev K t2 τ (.int c) → Ev K t3 τ (.int d) → Ev K (tTup (tCons t0 (tCons t1 (tCons t2 (tCons (tTup (tCons t3 tNil)) tNil))))) τ (Task.d ⟨a, b, c, [d]⟩) := fun h0 h1 h2 h3 => ev_tup (ea_cons h0 (ea_cons h1 (ea_cons h2 (ea_cons (ev_tup (ea_cons h3 ea_nil) (by show 1 ≤ 100000; decide)) ea_nil)))) (by show 4 ≤ 100000; decide)
  have two : (2 : Nat) ≤ 4 := by decide
  refine run_asgN (ds := ((lureTasks xs).take 1).map Task.d) (en_lst (ea_cons (tk (ev_op ev_int (ev_md (by decide) x0) rv_addI) ev_int ev_int (ev_md (by decide) x1)) ea_nil) (by show 1 ≤ 100000; decide)) fun p => ?_
  dsimp only [List.set]
  refine run_forR (n := 2) [3] (fun i τ => τ = [.im (.int c), .im (.list (xs.map PyData.int)), .ow p (((lureTasks xs).take (1 + i)).map Task.d), .un, .un]) (ea_cons ev_int ea_nil) (by omega) rfl ?_ ?_
  · rintro G hG i τ' hi rfl
    dsimp only [List.set]
    have g2 := sx_get (xs := xs) (n := 9) (i := 2 + i) (by omega) (by omega)
    rw [show ((2 + i : Nat) : Int) = 2 + (i : Int) by omega] at g2
    have g4 := sx_get (xs := xs) (n := 9) (i := 4 + i) (by omega) (by omega)
    rw [show ((4 + i : Nat) : Int) = 4 + (i : Int) by omega] at g4
    refine run_app (d := Task.d ⟨9 + pick xs (2 + (i : Int)) % 3, 100, 50, [78 + pick xs (4 + (i : Int)) % 5]⟩) rfl (tk (ev_op ev_int (ev_md (by decide) (ev_op (ev_var rfl) (ev_op ev_int (ev_var rfl) rv_addI) (rv_ixL g2))) rv_addI) ev_int ev_int (ev_op ev_int (ev_md (by decide) (ev_op (ev_var rfl) (ev_op ev_int (ev_var rfl) rv_addI) (rv_ixL g4))) rv_addI)) ?_ ?_
    · rw [List.length_map, List.length_take]
      omega
    · refine run_end (js := [3]) ?_ rfl
      show _ = _
      have : i = 0 ∨ i = 1 := by omega
      rcases this with rfl | rfl <;> rfl
  · rintro τ' rfl
    refine run_app (ds := ((lureTasks xs).take 3).map Task.d) (d := Task.d ⟨9 + pick xs 6 % 3, 100, 50, [97 + pick xs 7 % 4]⟩) rfl (tk (ev_op ev_int (ev_md (by decide) x6) rv_addI) ev_int ev_int (ev_op ev_int (ev_md (by decide) x7) rv_addI)) (by show 3 < 100000; decide) (τ' := [.im (.int c), .im (.list (xs.map PyData.int)), .ow p ((lureTasks xs).map Task.d), .un, .un]) ?_ rfl
    have m8 := mod_bd (pick xs 8) (show (0 : Int) < 4 by decide)
    refine run_asg (d := .int (pick xs 8 % 4)) (ev_md (by decide) x8) ?_
    refine run_freeze (j := 2) rfl ?_
    obtain ⟨a, ha⟩ := Int.eq_ofNat_of_zero_le m8.1
    rw [ha, Int.toNat_natCast] at k
    refine run_ret (ev_tup (ea_cons ev_int (ea_cons ev_int (ea_cons ev_int (ea_cons (ev_to (ev_cb (ea_cons (ev_op (ev_sl (ev_var rfl) (eo_some (ev_var rfl)) eo_none SlD.lst) (ev_sl (ev_var rfl) eo_none (eo_some (ev_var rfl)) SlD.lst) (rv_catL' ?_)) ea_nil) rc_tupleL) ?_) (ea_cons (ev_tup ea_nil (by show 0 ≤ 100000; decide)) ea_nil))))) (by show 5 ≤ 100000; decide)) k
    · rw [ha, cut_from, cut_to, List.length_drop, List.length_take, List.length_map]
      show 4 - a + min a 4 ≤ _
      omega
    · rw [ha, cut_from, cut_to, List.map_append, List.map_drop, List.map_take]

/-- l_ways(numbers, many); slots numbers many found k way -/
def t_l_ways (K : PySem.W.Frag) (spX : Sp) : TS :=
 (tSeq (tIfS (tTest (tOp (rEqD K) (tVar 1) (tC (.int 0)))) (tSeq (tRet (tLst (tCons (tTup tNil) tNil)))
 tNext) tNext)
 (tSeq (tAsg (tLst tNil) (gName 2))
 (tSeq (tFor (iRng1 (tCons (tCB (rLen K) (tCons (tVar 0) tNil)) tNil)) (gName 3) (tSeq (tFor (iSeq K (tCall spX [] E0 (tCons (tSl (rSl K) (tVar 0) (tPart (tOp (rAdd K) (tVar 3) (tC (.int 1)))) tNoPart) (tCons (tOp rSub (tVar 1) (tC (.int 1))) tNil)))) (gName 4) (tSeq (tDrop (tBM K "list" rAppend (tVar 2) (tCons (tOp (rAdd K) (tTup (tCons (tOp (rIx K) (tVar 0) (tVar 3)) tNil)) (tVar 4)) tNil)))
 tNext))
 tNext))
 (tSeq (tRet (tVar 2))
 tNext))))
/-- l_marked(part); slots part number -/
def t_l_marked (K : PySem.W.Frag) : TS :=
 (tSeq (tRet (tLc (iRng1 (tCons (tCB (rLen K) (tCons (tOp (rIx K) (tVar 0) (tC (.int 3))) tNil)) tNil)) (gName 1) (tTest (tOp rNot (tCall (sp_l_mark K) [] E0 (tCons (tOp (rIx K) (tOp (rIx K) (tVar 0) (tC (.int 3))) (tVar 1)) tNil)) (tC .non))) (tVar 1) [1]))
 tNext)
/-- l_left(part); slots part numbers many best most way kept here number -/
def t_l_left (K : PySem.W.Frag) : TS :=
 (tSeq (tAsg (tCall (sp_l_marked K) [] E0 (tCons (tVar 0) tNil)) (gName 1))
 (tSeq (tAsg (tCB rMax2 (tCons (tC (.int 0)) (tCons (tCB rMin2 (tCons (tOp (rIx K) (tVar 0) (tC (.int 1))) (tCons (tOp rSub (tCB (rLen K) (tCons (tVar 1) tNil)) (tC (.int 1))) tNil))) tNil))) (gName 2))
 (tSeq (tAsg (tTup tNil) (gName 3))
 (tSeq (tAsg (tTup (tCons (tUn rNeg (tC (.int 1))) (tCons (tC (.int 1)) tNil))) (gName 4))
 (tSeq (tFor (iSeq K (tCall (sp_l_ways K) [] E0 (tCons (tVar 1) (tCons (tVar 2) tNil)))) (gName 5) (tSeq (tAsg (tLc (iSeq K (tVar 1)) (gName 8) (tTest (tOp (rIn K true) (tVar 8) (tVar 5))) (tVar 8) [8]) (gName 6))
 (tSeq (tAsg (tTup (tCons (tC (.int 0)) (tCons (tC (.int 1)) tNil))) (gName 7))
 (tSeq (tIfS (tTest (tOp (rNeD K) (tVar 6) (tLst tNil))) (tSeq (tAsg (tCall (sp_l_mean K) [] E0 (tCons (tVar 0) (tCons (tVar 6) tNil))) (gName 7))
 tNext) tNext)
 (tSeq (tIfS (tTest (tOp rLt (tOp (rMul K) (tOp (rIx K) (tVar 4) (tC (.int 0))) (tOp (rIx K) (tVar 7) (tC (.int 1)))) (tOp (rMul K) (tOp (rIx K) (tVar 7) (tC (.int 0))) (tOp (rIx K) (tVar 4) (tC (.int 1)))))) (tSeq (tAsg (tVar 5) (gName 3))
 (tSeq (tAsg (tVar 7) (gName 4))
 tNext)) tNext)
 tNext)))))
 (tSeq (tRet (tVar 3))
 tNext))))))
theorem by_l_ways {n : Nat} {N : List Str} (hN : N.length = 5) : ∀ vs H Q E, sp_l_ways_lt K (n + 1) vs H Q E → t_l_ways K (sp_l_ways_lt K n) { nx := fun _ H' => Q .non H', rt := Q } (L2.start N vs) H := body_N hN <| by
  rintro ds es ⟨N, m, rfl, h9, hm, rfl⟩ O F Dn k
  show Run K O F (t_l_ways K (sp_l_ways_lt K n)) Dn [.im (.list (N.map PyData.int)), .im (.int (m : Int)), .un, .un, .un]
  unfold t_l_ways
  refine run_if (b := decide ((m : Int) = 0)) (et_test (ev_op (ev_var rfl) ev_int rv_eqI)) (fun h => ?_) (fun h => ?_)
  · have h0 : m = 0 := by have := of_decide_eq_true h; omega
    subst h0
    have e : (lways N 0).map wayD = [.tuple []] := by cases N <;> rfl
    rw [e] at k
    exact run_retN (en_lst (ea_cons (ev_tup ea_nil (by decide)) ea_nil) (by show 1 ≤ 100000; decide)) k
  · have h0 := of_decide_eq_false h
    obtain ⟨m', rfl⟩ : ∃ m', m = m' + 1 := ⟨m - 1, by omega⟩
    refine run_nx (run_asgN (ds := []) (en_lst ea_nil (by decide)) fun p => ?_)
    dsimp only [List.set]
    refine run_forR (n := (N.length : Int)) [3, 4] (fun i τ => τ = [.im (.list (N.map PyData.int)), .im (.int ((m' + 1 : Nat) : Int)), .ow p ((wpre N m' i).map wayD), .un, .un]) (ea_cons (ev_to (ev_cb (ea_cons (ev_var rfl) ea_nil) rc_lenL) (by rw [List.length_map])) ea_nil) (by omega) rfl ?_ ?_
    · rintro G hG i τ' hi rfl
      dsimp only [List.set]
      have hi' : i < N.length := by omega
      have hpl := wpre_len (N := N) (m := m') (i := i) (by omega) h9
      have hdl : (N.drop (i + 1)).length ≤ 9 := by rw [List.length_drop]; omega
      have hwl := lways_len (N := N.drop (i + 1)) (k := m')
      have c5 : 2 ^ (N.drop (i + 1)).length ≤ 2 ^ 9 := Nat.pow_le_pow_right (by decide) hdl
      have d5 : (2 : Nat) ^ 9 = 512 := by decide
      refine run_for (d := .list ((lways (N.drop (i + 1)) m').map wayD)) (ds := (lways (N.drop (i + 1)) m').map wayD) [4] (fun x τ => τ = [.im (.list (N.map PyData.int)), .im (.int ((m' + 1 : Nat) : Int)), .ow p ((wpre N m' i ++ ((lways (N.drop (i + 1)) m').take x).map (N.getD i 0 :: ·)).map wayD), .im (.int (i : Int)), .un]) (ev_callN (ea_cons (ev_to (ev_sl (ev_var rfl) (eo_some (ev_op (ev_var rfl) ev_int rv_addI)) eo_none SlD.lst) (e := .list ((N.drop (i + 1)).map PyData.int)) ?_) (ea_cons (ev_to (ev_op (ev_var rfl) ev_int rv_sub) (e := .int (m' : Int)) ?_) ea_nil)) ⟨_, _, rfl, hdl, by omega, rfl⟩) (.inl rfl) ?_ ?_ ?_
      · rw [show (i : Int) + 1 = ((i + 1 : Nat) : Int) by omega, cut_from, List.map_drop]
      · congr 1; omega
      · show _ = _
        rw [List.take_zero, List.map_nil, List.append_nil]
        rfl
      · rintro G1 hG1 x d τ' hd rfl
        dsimp only [List.set]
        rw [List.getElem?_map] at hd
        obtain ⟨w, hw, rfl⟩ := Option.map_eq_some_iff.mp hd
        have hwi := lways_iff.mp (List.mem_of_getElem? hw)
        refine run_app (d := wayD (N.getD i 0 :: w)) rfl (ev_to (ev_op (b := wayD w) (ev_tup (ea_cons (ev_op (d := .int (N.getD i 0)) (ev_var rfl) (ev_var rfl) (rv_ixL ?_)) ea_nil) (by show 1 ≤ 100000; decide)) (ev_var rfl) (rv_catT (es := w.map PyData.int) ?_)) rfl) ?_ ?_
        · refine atI_nat ?_
          rw [List.getElem?_map, List.getElem?_eq_getElem hi']
          simp [List.getD_eq_getElem?_getD, List.getElem?_eq_getElem hi']
        · have := hwi.1.length_le
          rw [List.length_map]
          show 1 + w.length ≤ 100000
          omega
        · rw [List.length_map, List.length_append, List.length_map, List.length_take]
          omega
        · refine run_end (js := [4]) ?_ rfl
          show _ = _
          rw [take_snoc hw]
          simp only [List.map_append, List.append_assoc]
          rfl
      · rintro τ' rfl
        refine run_end (js := [3, 4]) ?_ rfl
        show _ = _
        rw [List.length_map, List.take_length]
        have : wpre N m' (i + 1) = wpre N m' i ++ (lways (N.drop (i + 1)) m').map (N.getD i 0 :: ·) := by
          unfold wpre
          rw [List.range_succ, List.flatMap_append, List.flatMap_cons, List.flatMap_nil, List.append_nil]
        rw [this]
        rfl
    · rintro τ' rfl
      have := wpre_all (N := N) (m := m') (i := N.length) (Nat.le_refl _)
      rw [List.drop_length] at this
      rw [← this] at k
      refine run_retO (j := 2) (ds := (wpre N m' N.length).map wayD) rfl ?_
      have e : lways ([] : List Int) (m' + 1) = [] := rfl
      rw [e, List.append_nil] at k
      exact k
theorem by_l_marked {N : List Str} (hN : N.length = 2) : ∀ vs H Q E, sp_l_marked K vs H Q E → t_l_marked K { nx := fun _ H' => Q .non H', rt := Q } (L2.start N vs) H := body_N hN <| by
  rintro ds es ⟨P, rfl, ho, rfl⟩ O F Dn k
  show Run K O F (t_l_marked K) Dn [.im P.d, .un]
  unfold t_l_marked
  refine run_retN (en_filterR (n := P.tasks.length) P.isDone (ea_cons (ev_cb (ea_cons (ev_pk (ev_var rfl)) ea_nil) (by rw [← List.length_map (f := Task.d)]; exact rc_lenT)) ea_nil) (Nat.le_trans ho.n (by decide)) (fun s => rfl) fun i hi => ?_) k
  have hi' := rangeI_mem.mp hi
  refine et_test (ev_op (ev_lmark (ev_pat (ev_var rfl) (ev_var rfl) hi') (Nat.le_trans (ho.tk _ (at_mem hi'.1 hi'.2)).n (by decide))) ev_non ?_)
  rw [isDone_eq]
  exact rv_notN
theorem eqv_nil (l : List Int) : PyData.eqv (.list (l.map PyData.int)) (.list []) = decide (l = []) := by
  cases l <;> rfl
theorem sh_ints (l : List Int) : SeqAt.shaped (PyData.list (l.map PyData.int)) = true := (shp_list (n := 0) shp_ints).shaped (by decide)
theorem way_mean {P : Part} (ho : P.Ok) {w : List Int} : 0 ≤ P.mean (P.kept w) ∧ Sz (P.mean (P.kept w)) := by
  by_cases e : P.kept w = []
  · rw [e, mean_nil]
    exact ⟨Rat.le_refl, (szk_zero (n := 1) (by decide)).sz (by decide)⟩
  · exact ⟨(mean_bd ho kept_mem e).1, (mean_sz ho kept_mem e (Nat.le_trans kept_len (Nat.le_trans (marked_len P) ho.n))).sz (by decide)⟩
theorem by_l_left {N : List Str} (hN : N.length = 9) : ∀ vs H Q E, sp_l_left K vs H Q E → t_l_left K { nx := fun _ H' => Q .non H', rt := Q } (L2.start N vs) H := body_R hN <| by
  rintro ds d ⟨P, rfl, ho, rfl⟩ O F Dn hnx k
  show Run K O F (t_l_left K) Dn [.im P.d, .un, .un, .un, .un, .un, .un, .un, .un]
  unfold t_l_left
  refine run_asg (d := .list (P.marked.map PyData.int)) (ev_callN (ea_cons (ev_var rfl) ea_nil) ⟨_, rfl, ho, rfl⟩) ?_
  refine run_asg (d := .int (P.many : Int)) (ev_to (ev_cb (ea_cons ev_int (ea_cons (ev_cb (ea_cons (ev_po (ev_var rfl)) (ea_cons (ev_op (ev_cb (ea_cons (ev_var rfl) ea_nil) rc_lenL) ev_int rv_sub) ea_nil)) rc_min2) ea_nil)) rc_max2) (by rw [List.length_map, ← many_eq ho])) ?_
  refine run_asg (d := wayD []) (ev_tup ea_nil (by decide)) ?_
  refine run_asg (d := shD (-1)) (ev_tup (ea_cons (ev_neg ev_int) (ea_cons ev_int ea_nil)) (by show 2 ≤ 100000; decide)) ?_
  have hml := marked_len P
  have h9 := ho.n
  have hk3 : P.many ≤ 3 := by have := ho.o2; unfold Part.many; omega
  let s : Nat → List Int × Option Rat := fun i => ((lways P.marked P.many).take i).foldl (stepB fun W => P.mean (P.kept W)) ([], none)
  refine run_for (d := .list ((lways P.marked P.many).map wayD)) (ds := (lways P.marked P.many).map wayD) [5, 6, 7, 8] (fun i τ => τ = [.im P.d, .im (.list (P.marked.map PyData.int)), .im (.int (P.many : Int)), .im (wayD (s i).1), .im (shD (optM (s i).2)), .un, .un, .un, .un] ∧ ∀ r, (s i).2 = some r → Sz r) (ev_callN (ea_cons (ev_var rfl) (ea_cons (ev_var rfl) ea_nil)) ⟨_, P.many, rfl, by omega, by omega, rfl⟩) (.inl rfl) ⟨rfl, fun r hr => by cases hr⟩ ?_ ?_
  · rintro G hG i d τ' hd ⟨rfl, hz⟩
    dsimp only [List.set]
    rw [List.getElem?_map] at hd
    obtain ⟨w, hw, rfl⟩ := Option.map_eq_some_iff.mp hd
    have hkl : (P.kept w).length ≤ 9 := Nat.le_trans kept_len (by omega)
    have hs1 : s (i + 1) = stepB (fun W => P.mean (P.kept W)) (s i) w := by
      show ((lways P.marked P.many).take (i + 1)).foldl _ _ = _
      rw [take_snoc hw, List.foldl_append]
      rfl
    have hwm := way_mean ho (w := w)
    refine run_asg (d := .list ((P.kept w).map PyData.int)) (EvN.ev (en_filter (fun n => !decide (n ∈ w)) (ev_var rfl) (.inl rfl) (by omega) (fun s => rfl) (fun n hn => et_notin (ev_var rfl) (ev_var rfl)))) ?_
    refine run_asg (d := shD 0) (ev_tup (ea_cons ev_int (ea_cons ev_int ea_nil)) (by show 2 ≤ 100000; decide)) ?_
    refine run_ifAsg (b := !decide (P.kept w = [])) (d := shD (P.mean (P.kept w))) (et_test (ev_to (ev_op (ev_var rfl) (ev_lst ea_nil (by decide)) (rv_ne (sh_ints _) rfl)) (by rw [eqv_nil]))) rfl (fun h => ?_) ?_
    · have hkn : P.kept w ≠ [] := by simpa using h
      exact ev_call (ea_cons (ev_var rfl) (ea_cons (ev_var rfl) ea_nil)) ⟨_, _, rfl, ho, kept_mem, hkn, hkl, rfl⟩
    have eh : (if (!decide (P.kept w = [])) = true then shD (P.mean (P.kept w)) else shD 0) = shD (P.mean (P.kept w)) := by
      by_cases e : P.kept w = []
      · rw [e, mean_nil]; simp
      · simp [e]
    rw [eh]
    have hzs : Sz (optM (s i).2) := by
      cases e : (s i).2 with
      | none => exact ⟨Nat.lt_of_lt_of_le (show 1 < 2 ^ 2 by decide) (Nat.pow_le_pow_right (by decide) (by decide)), Nat.lt_of_lt_of_le (show 1 < 2 ^ 2 by decide) (Nat.pow_le_pow_right (by decide) (by decide))⟩
      | some x => exact hz x e
    refine run_if (b := decide (optM (s i).2 < P.mean (P.kept w))) (et_test (ev_to (ev_op (ev_op (ev_nu (ev_var rfl)) (ev_de (ev_var rfl)) (rv_mulI (CM.sm hzs.1 hwm.2.2))) (ev_op (ev_nu (ev_var rfl)) (ev_de (ev_var rfl)) (rv_mulI (CM.sm hwm.2.1 hzs.2))) rv_lt) (by rw [decide_eq_decide.mpr (Rat.lt_iff _ _)]))) (fun h => ?_) (fun h => ?_)
    · have hlt := of_decide_eq_true h
      refine run_asg (d := wayD w) (ev_var rfl) ?_
      refine run_asg (d := shD (P.mean (P.kept w))) (ev_var rfl) ?_
      refine run_nx (run_end (js := [5, 6, 7, 8]) ?_ rfl)
      have e2 : s (i + 1) = (w, some (P.mean (P.kept w))) := by
        rw [hs1]
        unfold stepB
        cases e : (s i).2 with
        | none => rfl
        | some x =>
          rw [e] at hlt
          simp [show x < P.mean (P.kept w) from hlt]
      rw [e2]
      exact ⟨rfl, fun r hr => by cases hr; exact hwm.2⟩
    · have hlt := of_decide_eq_false h
      refine run_nx (run_end (js := [5, 6, 7, 8]) ?_ rfl)
      have e2 : s (i + 1) = s i := by
        rw [hs1]
        unfold stepB
        cases e : (s i).2 with
        | none =>
          rw [e] at hlt
          have : (-1 : Rat) < P.mean (P.kept w) := by
            have := hwm.1
            have h1 : (-1 : Rat) < 0 := by decide
            grind
          exact absurd this hlt
        | some x =>
          rw [e] at hlt
          simp [show ¬ x < P.mean (P.kept w) from hlt]
      rw [e2]
      exact ⟨rfl, hz⟩
  · rintro τ' ⟨rfl, hz⟩
    have : (s ((lways P.marked P.many).map wayD).length).1 = P.left := by
      rw [List.length_map]
      show (((lways P.marked P.many).take (lways P.marked P.many).length).foldl (stepB fun W => P.mean (P.kept W)) ([], none)).1 = _
      rw [List.take_length]
      rfl
    rw [this]
    exact run_ret (ev_var rfl) k

/-- grade(course); slots course total weights part here -/
def t_grade (K : PySem.W.Frag) : TS :=
 (tSeq (tAsg (tTup (tCons (tC (.int 0)) (tCons (tC (.int 1)) tNil))) (gName 1))
 (tSeq (tAsg (tC (.int 0)) (gName 2))
 (tSeq (tFor (iSeq K (tVar 0)) (gName 3) (tSeq (tAsg (tCall (sp_part_share K) [] E0 (tCons (tVar 3) tNil)) (gName 4))
 (tSeq (tIfS (tTest (tOp rNot (tVar 4) (tC .non))) (tSeq (tAsg (tCall (sp_plus K) [] E0 (tCons (tVar 1) (tCons (tCall (sp_times K) [] E0 (tCons (tVar 4) (tCons (tOp (rIx K) (tVar 3) (tC (.int 0))) (tCons (tC (.int 1)) tNil)))) tNil))) (gName 1))
 (tSeq (tAsg (tOp (rAdd K) (tVar 2) (tOp (rIx K) (tVar 3) (tC (.int 0)))) (gName 2))
 tNext)) tNext)
 tNext)))
 (tSeq (tIfS (tTest (tOp (rEqD K) (tVar 2) (tC (.int 0)))) (tSeq (tRet (tC .non))
 tNext) tNext)
 (tSeq (tRet (tCall (sp_share K) [] E0 (tCons (tOp (rIx K) (tVar 1) (tC (.int 0))) (tCons (tOp (rMul K) (tOp (rIx K) (tVar 1) (tC (.int 1))) (tVar 2)) tNil))))
 tNext)))))
/-- l_course_by(script, first, most_tasks); slots script first most_tasks many k -/
def t_l_course_by (K : PySem.W.Frag) : TS :=
 (tSeq (tAsg (tOp rMod (tCall (sp_l_cell_at K) [] E0 (tCons (tVar 0) (tCons (tC (.int 0)) tNil))) (tC (.int 4))) (gName 3))
 (tSeq (tIfS (tTest (tOp (rEqD K) (tOp rMod (tOp rDiv (tCall (sp_l_cell_at K) [] E0 (tCons (tVar 0) (tCons (tC (.int 0)) tNil))) (tC (.int 4))) (tC (.int 9))) (tC (.int 1)))) (tSeq (tAsg (tOp (rAdd K) (tC (.int 4)) (tOp rMod (tOp rDiv (tCall (sp_l_cell_at K) [] E0 (tCons (tVar 0) (tCons (tC (.int 0)) tNil))) (tC (.int 36))) (tC (.int 3)))) (gName 3))
 tNext) tNext)
 (tSeq (tRet (tLc (iRng1 (tCons (tVar 3) tNil)) (gName 4) tYes (tCall (sp_l_part_by K) [] E0 (tCons (tCall (sp_l_cell_at K) [] E0 (tCons (tVar 0) (tCons (tOp (rAdd K) (tVar 1) (tVar 4)) tNil))) (tCons (tVar 2) tNil))) [4]))
 tNext)))
theorem by_grade {N : List Str} (hN : N.length = 5) : ∀ vs H Q E, sp_grade K vs H Q E → t_grade K { nx := fun _ H' => Q .non H', rt := Q } (L2.start N vs) H := body_R hN <| by
  rintro ds d ⟨C, e, rfl, hs, hc, rfl⟩ O F Dn hnx k
  show Run K O F (t_grade K) Dn [.im e, .un, .un, .un, .un]
  unfold t_grade
  unfold grade at k
  have hcn := hc.n
  refine run_asg (d := shD 0) (ev_tup (ea_cons ev_int (ea_cons ev_int ea_nil)) (by show 2 ≤ 100000; decide)) ?_
  refine run_asg (d := .int 0) ev_int ?_
  refine run_for (ds := C.map Part.d) [3, 4] (fun i τ => τ = [.im e, .im (shD (gT (C.take i))), .im (.int (gW (C.take i))), .un, .un]) (ev_var rfl) hs rfl ?_ ?_
  · rintro G hG i d τ' hd rfl
    dsimp only [List.set]
    rw [List.getElem?_map] at hd
    obtain ⟨P, hP, rfl⟩ := Option.map_eq_some_iff.mp hd
    have ho := hc.ok P (List.mem_of_getElem? hP)
    have hz := (gT_sz (C := C.take i) fun Q hQ => hc.ok Q (List.mem_of_mem_take hQ)).sz (by rw [List.length_take]; omega)
    have hw1 := ho.w1
    have hw2 := ho.w2
    have e1 := gT_snoc hP
    have e2 := gW_snoc hP
    unfold Part.sw at e1
    unfold Part.wt at e2
    refine run_asg (d := optS P.share) (ev_call (ea_cons (ev_var rfl) ea_nil) ⟨_, rfl, ho, rfl⟩) ?_
    refine run_if (b := !isNone (optS P.share)) (et_test (ev_op (ev_var rfl) ev_non rv_notN)) (fun h => ?_) (fun h => ?_)
    · cases es : P.share with
      | none => rw [es] at h; cases h
      | some r =>
        have hr := (share_sz ho es).1
        have hsw := sw_sz ho
        unfold Part.sw at hsw
        rw [es] at e1 e2 hsw
        refine run_asg (d := shD (gT (C.take i) + r * (P.w : Rat))) (ev_call (ea_cons (ev_var rfl) (ea_cons (ev_call (d := shD (r * (P.w : Rat))) (ea_cons (ev_var rfl) (ea_cons (ev_pw (ev_var rfl)) (ea_cons ev_int ea_nil))) ⟨r, P.w, 1, rfl, hr.sz (by decide), sm_small (by omega) (by omega), sm_small (by decide) (by decide), by decide, by rw [divInt_one]⟩) ea_nil)) ⟨_, _, rfl, hz, hsw.sz (by decide), rfl⟩) ?_
        refine run_asg (d := .int (gW (C.take i) + P.w)) (ev_op (ev_var rfl) (ev_pw (ev_var rfl)) rv_addI) ?_
        refine run_nx (run_end (js := [3, 4]) ?_ rfl)
        show _ = _
        rw [e1, e2]
        rfl
    · cases es : P.share with
      | some r => rw [es] at h; cases h
      | none =>
        rw [es] at e1 e2
        refine run_nx (run_end (js := [3, 4]) ?_ rfl)
        show _ = _
        rw [e1, e2]
        dsimp only
        rw [Rat.add_zero, Int.add_zero]
        rfl
  · rintro τ' rfl
    rw [List.length_map, List.take_length]
    have hz := (gT_sz hc.ok).sz (by omega)
    have hb := gW_bd hc.ok
    have hd := (gT C).den_pos
    refine run_if (b := decide (gW C = 0)) (et_test (ev_op (ev_var rfl) ev_int rv_eqI)) (fun h => ?_) (fun h => ?_)
    · rw [if_pos (of_decide_eq_true h)] at k
      exact run_ret ev_non k
    · have h0 := of_decide_eq_false h
      rw [if_neg h0] at k
      refine run_nx (run_ret (ev_call (ea_cons (ev_nu (ev_var rfl)) (ea_cons (ev_op (ev_de (ev_var rfl)) (ev_var rfl) (rv_mulI (CM.right (by omega) (by omega)))) ea_nil)) ⟨_, _, rfl, Int.mul_pos (by omega) (by omega), ?_, ?_⟩) k)
      · exact Sm.mul (x := ((gT C).den : Int)) (y := gW C) hz.2 (sm_small (by omega) (by omega))
      · rw [self_div _ h0]; rfl
theorem by_l_course_by {N : List Str} (hN : N.length = 5) : ∀ vs H Q E, sp_l_course_by K vs H Q E → t_l_course_by K { nx := fun _ H' => Q .non H', rt := Q } (L2.start N vs) H := body_N hN <| by
  rintro ds es ⟨ns, f, m, rfl, hl, hm, rfl⟩ O F Dn k
  show Run K O F (t_l_course_by K) Dn [.im (.list (ns.map PyData.int)), .im (.int f), .im (.int (m : Int)), .un, .un]
  unfold t_l_course_by
  have cl : ∀ {τ : List Sl} {te : TE} {i : Int}, Ev K te (.im (.list (ns.map PyData.int)) :: τ) (.int i) → Ev K (tCall (sp_l_cell_at K) [] E0 (tCons (tVar 0) (tCons te tNil))) (.im (.list (ns.map PyData.int)) :: τ) (.int (cell ns i)) := fun h => ev_call (ea_cons (ev_var rfl) (ea_cons h ea_nil)) ⟨_, _, rfl, hl, rfl⟩
  have hcb := cMany_bd (cell ns 0)
  refine run_asg (d := .int (cell ns 0 % 4)) (ev_md (by decide) (cl ev_int)) ?_
  refine run_ifAsg (b := decide (cell ns 0 / 4 % 9 = 1)) (d := .int (4 + cell ns 0 / 36 % 3)) (et_test (ev_op (ev_md (by decide) (ev_dv (by decide) (by decide) (cl ev_int))) ev_int rv_eqI)) rfl (fun _ => ev_op ev_int (ev_md (by decide) (ev_dv (by decide) (by decide) (cl ev_int))) rv_addI) ?_
  have e : (if decide (cell ns 0 / 4 % 9 = 1) = true then PyData.int (4 + cell ns 0 / 36 % 3) else .int (cell ns 0 % 4)) = .int ((cMany (cell ns 0)).toNat : Int) := by
    rw [Int.toNat_of_nonneg hcb.1]
    unfold cMany
    by_cases h : cell ns 0 / 4 % 9 = 1
    · rw [if_pos h, if_pos (decide_eq_true h)]
    · rw [if_neg h, if_neg (by simpa using h)]
  rw [e]
  have e2 : (courseBy ns f m).map Part.d = (List.range (cMany (cell ns 0)).toNat).map fun (j : Nat) => (partBy (cell ns (f + (j : Int))) m).d := by
    unfold courseBy
    rw [List.map_map]
    rfl
  rw [e2] at k
  refine run_retN (en_mapN _ (ea_cons (ev_var rfl) ea_nil) (by omega) fun i hi => ?_) k
  exact ev_call (ea_cons (cl (ev_op (ev_var rfl) (ev_var rfl) rv_addI)) (ea_cons (ev_var rfl) ea_nil)) ⟨_, m, rfl, hm, rfl⟩

/-- l_part_share(part); slots part left_here kept here extra top number -/
def t_l_part_share (K : PySem.W.Frag) : TS :=
 (tSeq (tAsg (tCall (sp_l_left K) [] E0 (tCons (tVar 0) tNil)) (gName 1))
 (tSeq (tAsg (tLc (iSeq K (tCall (sp_l_marked K) [] E0 (tCons (tVar 0) tNil))) (gName 6) (tTest (tOp (rIn K true) (tVar 6) (tVar 1))) (tVar 6) [6]) (gName 2))
 (tSeq (tIfS (tTest (tOp (rEqD K) (tVar 2) (tLst tNil))) (tSeq (tRet (tC .non))
 tNext) tNext)
 (tSeq (tAsg (tCall (sp_l_mean K) [] E0 (tCons (tVar 0) (tCons (tVar 2) tNil))) (gName 3))
 (tSeq (tAsg (tCB rMin2 (tCons (tOp (rIx K) (tVar 0) (tC (.int 2))) (tCons (tCB (rSum1 K) (tCons (tOp (rIx K) (tVar 0) (tC (.int 4))) tNil)) tNil))) (gName 4))
 (tSeq (tAsg (tOp (rAdd K) (tOp (rMul K) (tOp (rIx K) (tVar 3) (tC (.int 0))) (tC (.int 1000))) (tOp (rMul K) (tVar 4) (tOp (rIx K) (tVar 3) (tC (.int 1))))) (gName 5))
 (tSeq (tIfS (tTest (tOp rGt (tVar 5) (tOp (rMul K) (tC (.int 1000)) (tOp (rIx K) (tVar 3) (tC (.int 1)))))) (tSeq (tRet (tTup (tCons (tC (.int 1)) (tCons (tC (.int 1)) tNil))))
 tNext) tNext)
 (tSeq (tRet (tCall (sp_l_low K) [] E0 (tCons (tVar 5) (tCons (tOp (rMul K) (tC (.int 1000)) (tOp (rIx K) (tVar 3) (tC (.int 1)))) tNil))))
 tNext))))))))
/-- l_grade(course); slots course top bottom weights part here -/
def t_l_grade (K : PySem.W.Frag) : TS :=
 (tSeq (tAsg (tC (.int 0)) (gName 1))
 (tSeq (tAsg (tC (.int 1)) (gName 2))
 (tSeq (tAsg (tC (.int 0)) (gName 3))
 (tSeq (tFor (iSeq K (tVar 0)) (gName 4) (tSeq (tAsg (tCall (sp_l_part_share K) [] E0 (tCons (tVar 4) tNil)) (gName 5))
 (tSeq (tIfS (tTest (tOp rNot (tVar 5) (tC .non))) (tSeq (tAsg (tCall (sp_l_low K) [] E0 (tCons (tOp (rAdd K) (tOp (rMul K) (tVar 1) (tOp (rIx K) (tVar 5) (tC (.int 1)))) (tOp (rMul K) (tOp (rMul K) (tOp (rIx K) (tVar 4) (tC (.int 0))) (tOp (rIx K) (tVar 5) (tC (.int 0)))) (tVar 2))) (tCons (tOp (rMul K) (tVar 2) (tOp (rIx K) (tVar 5) (tC (.int 1)))) tNil))) (gTup K 2 (gCons (gName 1) (gCons (gName 2) gNil))))
 (tSeq (tAsg (tOp (rAdd K) (tVar 3) (tOp (rIx K) (tVar 4) (tC (.int 0)))) (gName 3))
 tNext)) tNext)
 tNext)))
 (tSeq (tIfS (tTest (tOp (rEqD K) (tVar 3) (tC (.int 0)))) (tSeq (tRet (tC .non))
 tNext) tNext)
 (tSeq (tRet (tCall (sp_l_low K) [] E0 (tCons (tVar 1) (tCons (tOp (rMul K) (tVar 2) (tVar 3)) tNil))))
 tNext))))))
theorem by_l_part_share {N : List Str} (hN : N.length = 7) : ∀ vs H Q E, sp_l_part_share K vs H Q E → t_l_part_share K { nx := fun _ H' => Q .non H', rt := Q } (L2.start N vs) H := body_R hN <| by
  rintro ds d ⟨P, rfl, ho, rfl⟩ O F Dn hnx k
  show Run K O F (t_l_part_share K) Dn [.im P.d, .un, .un, .un, .un, .un, .un]
  unfold t_l_part_share
  have hml := marked_len P
  have h9 := ho.n
  have hx := ext_bd ho
  unfold Part.share at k
  refine run_asg (d := wayD P.left) (ev_call (ea_cons (ev_var rfl) ea_nil) ⟨_, rfl, ho, rfl⟩) ?_
  refine run_asg (d := .list ((P.kept P.left).map PyData.int)) (EvN.ev (en_filter (d := .list (P.marked.map PyData.int)) (fun n => !decide (n ∈ P.left)) (ev_callN (ea_cons (ev_var rfl) ea_nil) ⟨_, rfl, ho, rfl⟩) (.inl rfl) (by omega) (fun s => rfl) (fun n hn => et_notin (ev_var rfl) (ev_var rfl)))) ?_
  refine run_if (b := decide ((P.kept P.left).map PyData.int = [])) (et_test (ev_to (ev_op (ev_var rfl) (ev_lst ea_nil (by decide)) (rv_eq (sh_ints _) rfl)) (by rw [eqv_empty]))) (fun h => ?_) (fun h => ?_)
  · rw [if_pos (List.map_eq_nil_iff.mp (of_decide_eq_true h))] at k
    exact run_ret ev_non k
  · have hkn : P.kept P.left ≠ [] := fun z => of_decide_eq_false h (by rw [z]; rfl)
    rw [if_neg hkn] at k
    have hkl : (P.kept P.left).length ≤ 9 := Nat.le_trans kept_len (by omega)
    have hmz := mean_sz ho (kept_mem (w := P.left)) hkn hkl
    refine run_nx (run_asg (d := shD (P.mean (P.kept P.left))) (ev_call (ea_cons (ev_var rfl) (ea_cons (ev_var rfl) ea_nil)) ⟨_, _, rfl, ho, kept_mem, hkn, hkl, rfl⟩) ?_)
    generalize hM : P.mean (P.kept P.left) = M at *
    have hd := M.den_pos
    refine run_asg (d := .int (min P.top P.extras.sum)) (ev_to (ev_cb (ea_cons (ev_pt (ev_var rfl)) (ea_cons (ev_cb (ea_cons (ev_px (ev_var rfl)) ea_nil) rc_sumT) ea_nil)) rc_min2) (by congr 1; split <;> omega)) ?_
    have e3 : Rat.divInt (M.num * 1000 + min P.top P.extras.sum * (M.den : Int)) ((M.den : Int) * 1000) = M + P.ext := fr_add _ _ (by decide)
    refine run_asg (ev_op (ev_op (ev_nu (ev_var rfl)) ev_int (rv_mulI (CM.right (by decide) (by decide)))) (ev_op (ev_var rfl) (ev_de (ev_var rfl)) (rv_mulI (CM.left (by omega) (by omega)))) rv_addI) ?_
    have e4 : (1000 * (M.den : Int) < M.num * 1000 + min P.top P.extras.sum * (M.den : Int)) ↔ 1 < M + P.ext := by
      rw [← e3, show (1 : Rat) = Rat.divInt 1 1 from rfl, fr_lt' (by decide) (by omega), Int.one_mul, Int.mul_one, Int.mul_comm]
    refine run_if (b := decide (1 < M + P.ext)) (et_test (ev_to (ev_op (ev_var rfl) (ev_op ev_int (ev_de (ev_var rfl)) (rv_mulI (CM.left (by decide) (by decide)))) rv_gt) (by rw [decide_eq_decide.mpr e4]))) (fun h => ?_) (fun h => ?_)
    · rw [if_pos (of_decide_eq_true h)] at k
      exact run_ret (d := shD 1) (ev_tup (ea_cons ev_int (ea_cons ev_int ea_nil)) (by show 2 ≤ 100000; decide)) k
    · rw [if_neg (of_decide_eq_false h)] at k
      refine run_nx (run_ret (ev_call (ea_cons (ev_var rfl) (ea_cons (ev_op ev_int (ev_de (ev_var rfl)) (rv_mulI (CM.left (by decide) (by decide)))) ea_nil)) ⟨_, _, rfl, by omega, Sm.mul (x := 1000) (y := (M.den : Int)) (sm_small (by decide) (by decide)) (hmz.sz (by decide)).2, by rw [Int.mul_comm 1000, e3]; rfl⟩) k)
theorem by_l_grade {N : List Str} (hN : N.length = 6) : ∀ vs H Q E, sp_l_grade K vs H Q E → t_l_grade K { nx := fun _ H' => Q .non H', rt := Q } (L2.start N vs) H := body_R hN <| by
  rintro ds d ⟨C, e, rfl, hs, hc, rfl⟩ O F Dn hnx k
  show Run K O F (t_l_grade K) Dn [.im e, .un, .un, .un, .un, .un]
  unfold t_l_grade
  unfold grade at k
  have hcn := hc.n
  refine run_asg (d := .int (0 : Rat).num) ev_int ?_
  refine run_asg (d := .int ((0 : Rat).den : Int)) ev_int ?_
  refine run_asg (d := .int 0) ev_int ?_
  refine run_for (ds := C.map Part.d) [4, 5] (fun i τ => τ = [.im e, .im (.int (gT (C.take i)).num), .im (.int ((gT (C.take i)).den : Int)), .im (.int (gW (C.take i))), .un, .un]) (ev_var rfl) hs rfl ?_ ?_
  · rintro G hG i d τ' hd rfl
    dsimp only [List.set]
    rw [List.getElem?_map] at hd
    obtain ⟨P, hP, rfl⟩ := Option.map_eq_some_iff.mp hd
    have ho := hc.ok P (List.mem_of_getElem? hP)
    have hz := (gT_sz (C := C.take i) fun Q hQ => hc.ok Q (List.mem_of_mem_take hQ)).sz (by rw [List.length_take]; omega)
    have hw1 := ho.w1
    have hw2 := ho.w2
    have e1 := gT_snoc hP
    have e2 := gW_snoc hP
    unfold Part.sw at e1
    unfold Part.wt at e2
    have hd1 := (gT (C.take i)).den_pos
    refine run_asg (d := optS P.share) (ev_call (ea_cons (ev_var rfl) ea_nil) ⟨_, rfl, ho, rfl⟩) ?_
    refine run_if (b := !isNone (optS P.share)) (et_test (ev_op (ev_var rfl) ev_non rv_notN)) (fun h => ?_) (fun h => ?_)
    · cases es : P.share with
      | none => rw [es] at h; cases h
      | some r =>
        have hr := (share_sz ho es).1
        have hr0 := hr.sz (by decide)
        have hd2 := r.den_pos
        rw [es] at e1 e2
        dsimp only at e1 e2
        have e3 : Rat.divInt ((gT (C.take i)).num * (r.den : Int) + P.w * r.num * ((gT (C.take i)).den : Int)) (((gT (C.take i)).den : Int) * (r.den : Int)) = gT (C.take (i + 1)) := by
          rw [e1, ← Rat.divInt_add_divInt _ (P.w * r.num) (by omega) (by omega), Rat.num_divInt_den]
          have := mul_fr r P.w 1
          rw [divInt_one, Int.mul_one, Int.mul_comm] at this
          rw [this]
        refine run_asg2 (d1 := .int (gT (C.take (i + 1))).num) (d2 := .int ((gT (C.take (i + 1))).den : Int)) (ev_call (d := shD (gT (C.take (i + 1)))) (ea_cons (ev_op (ev_op (ev_var rfl) (ev_de (r := r) (ev_var rfl)) (rv_mulI (CM.sm hz.1 hr0.2))) (ev_op (ev_op (ev_pw (ev_var rfl)) (ev_nu (r := r) (ev_var rfl)) (rv_mulI (CM.left (by omega) (by omega)))) (ev_var rfl) (rv_mulI (CM.sm ?_ hz.2))) rv_addI) (ea_cons (ev_op (ev_var rfl) (ev_de (r := r) (ev_var rfl)) (rv_mulI (CM.sm hz.2 hr0.2))) ea_nil)) ⟨_, _, rfl, Int.mul_pos (by omega) (by omega), Sm.mul hz.2 hr0.2, by rw [e3]⟩) ?_
        · have := Nat.mul_lt_mul'' (show P.w.natAbs < 2 ^ 10 by have : (2 : Nat) ^ 10 = 1024 := by decide
                                                                omega) hr.1
          show (P.w * r.num).natAbs < _
          rw [Int.natAbs_mul]
          rw [← Nat.pow_add] at this
          exact Nat.lt_of_lt_of_le this (Nat.pow_le_pow_right (by decide) (by decide))
        refine run_asg (d := .int (gW (C.take i) + P.w)) (ev_op (ev_var rfl) (ev_pw (ev_var rfl)) rv_addI) ?_
        refine run_nx (run_end (js := [4, 5]) ?_ rfl)
        show _ = _
        rw [e2]
        rfl
    · cases es : P.share with
      | some r => rw [es] at h; cases h
      | none =>
        rw [es] at e1 e2
        refine run_nx (run_end (js := [4, 5]) ?_ rfl)
        show _ = _
        rw [e1, e2]
        dsimp only
        rw [Rat.add_zero, Int.add_zero]
        rfl
  · rintro τ' rfl
    rw [List.length_map, List.take_length]
    have hz := (gT_sz hc.ok).sz (by omega)
    have hb := gW_bd hc.ok
    have hd := (gT C).den_pos
    refine run_if (b := decide (gW C = 0)) (et_test (ev_op (ev_var rfl) ev_int rv_eqI)) (fun h => ?_) (fun h => ?_)
    · rw [if_pos (of_decide_eq_true h)] at k
      exact run_ret ev_non k
    · have h0 := of_decide_eq_false h
      rw [if_neg h0] at k
      refine run_nx (run_ret (ev_call (ea_cons (ev_var rfl) (ea_cons (ev_op (ev_var rfl) (ev_var rfl) (rv_mulI (CM.right (by omega) (by omega)))) ea_nil)) ⟨_, _, rfl, Int.mul_pos (by omega) (by omega), ?_, ?_⟩) k)
      · exact Sm.mul (x := ((gT C).den : Int)) (y := gW C) hz.2 (sm_small (by omega) (by omega))
      · rw [self_div _ h0]; rfl

/-- with_try(part, number, points); slots part number points tasks task -/
def t_with_try (K : PySem.W.Frag) : TS :=
 (tSeq (tAsg (tCB (rList K) (tCons (tOp (rIx K) (tVar 0) (tC (.int 3))) tNil)) (gName 3))
 (tSeq (tAsg (tOp (rIx K) (tVar 3) (tVar 1)) (gName 4))
 (tSeq (tAsg (tTup (tCons (tOp (rIx K) (tVar 4) (tC (.int 0))) (tCons (tOp (rIx K) (tVar 4) (tC (.int 1))) (tCons (tOp (rIx K) (tVar 4) (tC (.int 2))) (tCons (tOp (rAdd K) (tCB (rTuple K) (tCons (tOp (rIx K) (tVar 4) (tC (.int 3))) tNil)) (tTup (tCons (tVar 2) tNil))) tNil))))) (gSub (tVar 3) (tVar 1) rSetL))
 (tSeq (tRet (tTup (tCons (tOp (rIx K) (tVar 0) (tC (.int 0))) (tCons (tOp (rIx K) (tVar 0) (tC (.int 1))) (tCons (tOp (rIx K) (tVar 0) (tC (.int 2))) (tCons (tCB (rTuple K) (tCons (tVar 3) tNil)) (tCons (tOp (rIx K) (tVar 0) (tC (.int 4))) tNil)))))))
 tNext))))
/-- tried(course, part, task, points); slots course part task points found -/
def t_tried (K : PySem.W.Frag) : TS :=
 (tSeq (tAsg (tCB (rList K) (tCons (tVar 0) tNil)) (gName 4))
 (tSeq (tAsg (tCall (sp_with_try K) [] E0 (tCons (tOp (rIx K) (tVar 4) (tVar 1)) (tCons (tVar 2) (tCons (tVar 3) tNil)))) (gSub (tVar 4) (tVar 1) rSetL))
 (tSeq (tRet (tVar 4))
 tNext)))
/-- reached(course, wish); slots course wish here -/
def t_reached (K : PySem.W.Frag) : TS :=
 (tSeq (tAsg (tCall (sp_grade K) [] E0 (tCons (tVar 0) tNil)) (gName 2))
 (tSeq (tRet (tAndV (tOp rNot (tVar 2) (tC .non)) (tNotV (tCall (sp_less K) [] E0 (tCons (tVar 2) (tCons (tVar 1) tNil))))))
 tNext))
/-- need_wish(wish); slots wish -/
def t_need_wish (K : PySem.W.Frag) : TS :=
 (tSeq (tIfS (tOr (tTest (tOp rLt (tOp (rIx K) (tVar 0) (tC (.int 1))) (tC (.int 1)))) (tOr (tTest (tOp rLt (tOp (rIx K) (tVar 0) (tC (.int 0))) (tC (.int 0)))) (tTest (tOp (rNeD K) (tCall (sp_share K) [] E0 (tCons (tOp (rIx K) (tVar 0) (tC (.int 0))) (tCons (tOp (rIx K) (tVar 0) (tC (.int 1))) tNil))) (tVar 0))))) (tSeq tNever
 tNext) tNext)
 tNext)
/-- l_wish_by(course, cell); slots course cell here -/
def t_l_wish_by (K : PySem.W.Frag) : TS :=
 (tSeq (tAsg (tCall (sp_l_grade K) [] E0 (tCons (tVar 0) tNil)) (gName 2))
 (tSeq (tIfS (tAnd (tTest (tOp (rEqD K) (tOp rMod (tVar 1) (tC (.int 4))) (tC (.int 0)))) (tTest (tOp rNot (tVar 2) (tC .non)))) (tSeq (tRet (tVar 2))
 tNext) tNext)
 (tSeq (tIfS (tAnd (tTest (tOp (rEqD K) (tOp rMod (tVar 1) (tC (.int 4))) (tC (.int 1)))) (tTest (tOp rNot (tVar 2) (tC .non)))) (tSeq (tRet (tCall (sp_l_low K) [] E0 (tCons (tOp (rAdd K) (tOp (rMul K) (tOp (rIx K) (tVar 2) (tC (.int 0))) (tC (.int 1000))) (tOp (rMul K) (tOp (rIx K) (tVar 2) (tC (.int 1))) (tOp rMod (tOp rDiv (tVar 1) (tC (.int 4))) (tC (.int 3))))) (tCons (tOp (rMul K) (tOp (rIx K) (tVar 2) (tC (.int 1))) (tC (.int 1000))) tNil))))
 tNext) tNext)
 (tSeq (tIfS (tTest (tOp (rEqD K) (tOp rMod (tVar 1) (tC (.int 4))) (tC (.int 2)))) (tSeq (tRet (tOp (rIx K) (tLst (tCons (tTup (tCons (tC (.int 0)) (tCons (tC (.int 1)) tNil))) (tCons (tTup (tCons (tC (.int 1)) (tCons (tC (.int 1)) tNil))) (tCons (tTup (tCons (tC (.int 1001)) (tCons (tC (.int 1000)) tNil))) (tCons (tTup (tCons (tC (.int 1)) (tCons (tC (.int 2)) tNil))) tNil))))) (tOp rMod (tOp rDiv (tVar 1) (tC (.int 4))) (tC (.int 4)))))
 tNext) tNext)
 (tSeq (tRet (tCall (sp_l_low K) [] E0 (tCons (tOp rMod (tOp rDiv (tVar 1) (tC (.int 4))) (tC (.int 1001))) (tCons (tC (.int 1000)) tNil))))
 tNext)))))
/-- l_tried(course, part, task, points); slots course part task points found tasks one -/
def t_l_tried (K : PySem.W.Frag) : TS :=
 (tSeq (tAsg (tCB (rList K) (tCons (tVar 0) tNil)) (gName 4))
 (tSeq (tAsg (tCB (rList K) (tCons (tOp (rIx K) (tOp (rIx K) (tVar 4) (tVar 1)) (tC (.int 3))) tNil)) (gName 5))
 (tSeq (tAsg (tOp (rIx K) (tVar 5) (tVar 2)) (gName 6))
 (tSeq (tAsg (tTup (tCons (tOp (rIx K) (tVar 6) (tC (.int 0))) (tCons (tOp (rIx K) (tVar 6) (tC (.int 1))) (tCons (tOp (rIx K) (tVar 6) (tC (.int 2))) (tCons (tOp (rAdd K) (tOp (rIx K) (tVar 6) (tC (.int 3))) (tTup (tCons (tVar 3) tNil))) tNil))))) (gSub (tVar 5) (tVar 2) rSetL))
 (tSeq (tAsg (tTup (tCons (tOp (rIx K) (tOp (rIx K) (tVar 4) (tVar 1)) (tC (.int 0))) (tCons (tOp (rIx K) (tOp (rIx K) (tVar 4) (tVar 1)) (tC (.int 1))) (tCons (tOp (rIx K) (tOp (rIx K) (tVar 4) (tVar 1)) (tC (.int 2))) (tCons (tCB (rTuple K) (tCons (tVar 5) tNil)) (tCons (tOp (rIx K) (tOp (rIx K) (tVar 4) (tVar 1)) (tC (.int 4))) tNil)))))) (gSub (tVar 4) (tVar 1) rSetL))
 (tSeq (tRet (tVar 4))
 tNext))))))
/-- l_reached(course, wish); slots course wish here -/
def t_l_reached (K : PySem.W.Frag) : TS :=
 (tSeq (tAsg (tCall (sp_l_grade K) [] E0 (tCons (tVar 0) tNil)) (gName 2))
 (tSeq (tRet (tAndV (tOp rNot (tVar 2) (tC .non)) (tOp rGe (tOp (rMul K) (tOp (rIx K) (tVar 2) (tC (.int 0))) (tOp (rIx K) (tVar 1) (tC (.int 1)))) (tOp (rMul K) (tOp (rIx K) (tVar 1) (tC (.int 0))) (tOp (rIx K) (tVar 2) (tC (.int 1)))))))
 tNext))
theorem ev_handed {τ : List Sl} {tc : TE} {ns : List Int} {C : List Part} {i : Nat} {c : Int} (h : Ev K (tVar i) τ (.list (C.map Part.d))) (hc : Ev K tc τ (.int c)) :
    Ev K (tOp (rIx K) (tLst (tCons (tCB (rList K) (tCons (tVar i) tNil)) (tCons (tCB (rTuple K) (tCons (tVar i) tNil)) tNil))) (tOp rMod tc (tC (.int 2)))) τ (if c % 2 = 0 then .list (C.map Part.d) else .tuple (C.map Part.d)) := by
  have m := mod_bd c (show (0 : Int) < 2 by decide)
  refine ev_op (ev_lst (ea_cons (ev_cb (ea_cons h ea_nil) rc_listL') (ea_cons (ev_cb (ea_cons h ea_nil) rc_tupleL) ea_nil)) (by show 2 ≤ 100000; decide)) (ev_md (by decide) hc) (rv_ixL ?_)
  have : c % 2 = 0 ∨ c % 2 = 1 := by omega
  rcases this with e | e <;> rw [e] <;> rfl
theorem ev_cix {τ : List Sl} {te ti : TE} {C : List Part} {e : D} {p : Nat} {P : Part} (h : Ev K te τ e) (hs : IsSeq e (C.map Part.d)) (hi : Ev K ti τ (.int (p : Int))) (hp : C[p]? = some P) : Ev K (tOp (rIx K) te ti) τ P.d := by
  have ha : atI (C.map Part.d) (p : Int) = some P.d := atI_nat (by rw [List.getElem?_map, hp]; rfl)
  rcases hs with rfl | rfl
  · exact ev_op h hi (rv_ixL ha)
  · exact ev_op h hi (rv_ixT ha)
theorem rc_lenS {e : D} {ds : List D} (h : IsSeq e ds) : Rc K (rLen K) [e] (.int (ds.length : Int)) := by
  rcases h with rfl | rfl
  · exact rc_lenL
  · exact rc_lenT
theorem rc_listS {e : D} {ds : List D} (h : IsSeq e ds) : RcN K (rList K) [e] ds := by
  rcases h with rfl | rfl
  · exact rc_listL
  · exact rc_listT
theorem en_to {τ : List Sl} {te : TE} {ds es : List D} (h : EvN K te τ ds) (e : ds = es) : EvN K te τ es := e ▸ h
theorem by_with_try {N : List Str} (hN : N.length = 5) : ∀ vs H Q E, sp_with_try K vs H Q E → t_with_try K { nx := fun _ H' => Q .non H', rt := Q } (L2.start N vs) H := body_R hN <| by
  rintro ds d ⟨P, t, x, rfl, ho, ht, rfl⟩ O F Dn hnx k
  show Run K O F (t_with_try K) Dn [.im P.d, .im (.int (t : Int)), .im (.int x), .un, .un]
  unfold t_with_try
  have oT := ho.tk _ (at_nat ht)
  have hn := oT.n
  have h9 := ho.n
  refine run_asgN (ds := P.tasks.map Task.d) (en_cb (ea_cons (ev_pk (ev_var rfl)) ea_nil) rc_listT) fun p => ?_
  dsimp only [List.set]
  refine run_asg (d := (P.at (t : Int)).d) (ev_ixOw rfl (ev_var rfl) (at_atI (by omega) (by omega))) ?_
  refine run_setI (k := t) (d := Task.d { P.at (t : Int) with tries := (P.at (t : Int)).tries ++ [x] }) rfl (ev_tup (ea_cons (ev_tw (t := P.at (t : Int)) (ev_var rfl)) (ea_cons (ev_tm (t := P.at (t : Int)) (ev_var rfl)) (ea_cons (ev_tc (t := P.at (t : Int)) (ev_var rfl)) (ea_cons (ev_to (ev_op (ev_cb (ea_cons (ev_tt (t := P.at (t : Int)) (ev_var rfl)) ea_nil) rc_tupleT) (ev_tup (ea_cons (ev_var rfl) ea_nil) (by show 1 ≤ 100000; decide)) (rv_catT ?_)) ?_) ea_nil)))) (by show 4 ≤ 100000; decide)) (ev_var rfl) (by rw [List.length_map]; exact ht) ?_
  · rw [List.length_map]
    show _ + 1 ≤ 100000
    omega
  · show _ = PyData.tuple (((P.at (t : Int)).tries ++ [x]).map PyData.int)
    rw [List.map_append]
    rfl
  refine run_freeze (j := 3) rfl ?_
  rw [← List.map_set]
  exact run_ret (ev_tup (ea_cons (ev_pw (ev_var rfl)) (ea_cons (ev_po (ev_var rfl)) (ea_cons (ev_pt (ev_var rfl)) (ea_cons (ev_cb (ea_cons (ev_var rfl) ea_nil) rc_tupleL) (ea_cons (ev_px (ev_var rfl)) ea_nil))))) (by show 5 ≤ 100000; decide)) k
theorem by_reached {N : List Str} (hN : N.length = 3) : ∀ vs H Q E, sp_reached K vs H Q E → t_reached K { nx := fun _ H' => Q .non H', rt := Q } (L2.start N vs) H := body_R hN <| by
  rintro ds d ⟨C, e, w, rfl, hs, hc, hw, rfl⟩ O F Dn hnx k
  show Run K O F (t_reached K) Dn [.im e, .im (shD w), .un]
  unfold t_reached
  refine run_asg (d := optS (grade C)) (ev_call (ea_cons (ev_var rfl) ea_nil) ⟨_, _, rfl, hs, hc, rfl⟩) ?_
  refine run_ret (ev_to (ev_andV (x := !isNone (optS (grade C))) (y := reachedC C w) (ev_op (ev_var rfl) ev_non rv_notN) (fun hx => ?_)) ?_) k
  · cases hg : grade C with
    | none => rw [hg] at hx; cases hx
    | some g =>
      have hz := (grade_sz hc hg).sz (by decide)
      refine ev_to (ev_notV (ev_call (d := .bool (decide (g < w))) (ea_cons (ev_var rfl) (ea_cons (ev_var rfl) ea_nil)) ⟨_, _, rfl, hz, hw, rfl⟩)) ?_
      unfold reachedC
      rw [hg]
      dsimp only
      congr 1
      by_cases c : g < w
      · rw [decide_eq_true c, decide_eq_false (Rat.not_le.mpr c)]; rfl
      · rw [decide_eq_false c, decide_eq_true (Rat.not_lt.mp c)]; rfl
  · unfold reachedC
    cases hg : grade C <;> rfl
theorem by_need_wish {N : List Str} (hN : N.length = 1) : ∀ vs H Q E, sp_need_wish K vs H Q E → t_need_wish K { nx := fun _ H' => Q .non H', rt := Q } (L2.start N vs) H := body_R hN <| by
  rintro ds d ⟨w, rfl, h0, hw, rfl⟩ O F Dn hnx k
  show Run K O F (t_need_wish K) Dn [.im (shD w)]
  unfold t_need_wish
  have hd := w.den_pos
  have a0 : (0 : Int) ≤ w.num := by
    have := (rat_le 0 w).mp h0
    have e : (0 : Rat).num = 0 := rfl
    have e2 : (0 : Rat).den = 1 := rfl
    rw [e, e2] at this
    omega
  refine run_if (b := decide ((w.den : Int) < 1) || (decide (w.num < 0) || false)) (et_or (et_test (ev_op (ev_de (ev_var rfl)) ev_int rv_lt)) fun _ => et_or (et_test (ev_op (ev_nu (ev_var rfl)) ev_int rv_lt)) fun _ => et_test (ev_op (a := shD w) (ev_call (ea_cons (ev_nu (ev_var rfl)) (ea_cons (ev_de (ev_var rfl)) ea_nil)) ⟨_, _, rfl, by omega, Nat.lt_of_lt_of_le hw.2 (Nat.pow_le_pow_right (by decide) (by decide)), by rw [Rat.num_divInt_den]⟩) (ev_var rfl) (rv_neS shp_sh (by decide)))) (fun h => ?_) (fun h => ?_)
  · simp only [Bool.or_false, Bool.or_eq_true, decide_eq_true_eq] at h
    omega
  · exact run_nx (run_noret hnx k)
theorem by_l_reached {N : List Str} (hN : N.length = 3) : ∀ vs H Q E, sp_l_reached K vs H Q E → t_l_reached K { nx := fun _ H' => Q .non H', rt := Q } (L2.start N vs) H := body_R hN <| by
  rintro ds d ⟨C, e, w, rfl, hs, hc, hw, rfl⟩ O F Dn hnx k
  show Run K O F (t_l_reached K) Dn [.im e, .im (shD w), .un]
  unfold t_l_reached
  refine run_asg (d := optS (grade C)) (ev_call (ea_cons (ev_var rfl) ea_nil) ⟨_, _, rfl, hs, hc, rfl⟩) ?_
  refine run_ret (ev_to (ev_andV (x := !isNone (optS (grade C))) (y := reachedC C w) (ev_op (ev_var rfl) ev_non rv_notN) (fun hx => ?_)) ?_) k
  · cases hg : grade C with
    | none => rw [hg] at hx; cases hx
    | some g =>
      have hz := (grade_sz hc hg).sz (by decide)
      refine ev_to (ev_op (ev_op (ev_nu (r := g) (ev_var rfl)) (ev_de (r := w) (ev_var rfl)) (rv_mulI (CM.sm hz.1 hw.2))) (ev_op (ev_nu (r := w) (ev_var rfl)) (ev_de (r := g) (ev_var rfl)) (rv_mulI (CM.sm hw.1 hz.2))) rv_ge) ?_
      unfold reachedC
      rw [hg]
      dsimp only
      congr 1
      rw [decide_eq_decide.mpr (rat_le w g)]
  · unfold reachedC
    cases hg : grade C <;> rfl
theorem by_l_wish_by {N : List Str} (hN : N.length = 3) : ∀ vs H Q E, sp_l_wish_by K vs H Q E → t_l_wish_by K { nx := fun _ H' => Q .non H', rt := Q } (L2.start N vs) H := body_R hN <| by
  rintro ds d ⟨C, c, rfl, hc, rfl⟩ O F Dn hnx k
  show Run K O F (t_l_wish_by K) Dn [.im (.list (C.map Part.d)), .im (.int c), .un]
  unfold t_l_wish_by
  unfold wishBy at k
  have ha := mod_bd (c / 4) (show (0 : Int) < 3 by decide)
  have hb := mod_bd (c / 4) (show (0 : Int) < 1001 by decide)
  have hd := mod_bd (c / 4) (show (0 : Int) < 4 by decide)
  have hz : ∀ r, grade C = some r → Szk 2000 r := fun r hr => grade_sz hc hr
  refine run_asg (d := optS (grade C)) (ev_call (ea_cons (ev_var rfl) ea_nil) ⟨_, _, rfl, .inl rfl, hc, rfl⟩) ?_
  generalize grade C = g at *
  have nn : (!isNone (optS g)) = decide (g ≠ none) := by cases g <;> rfl
  refine run_if (b := decide (c % 4 = 0) && decide (g ≠ none)) (et_and (et_test (ev_op (ev_md (by decide) (ev_var rfl)) ev_int rv_eqI)) fun _ => et_test (ev_to (ev_op (ev_var rfl) ev_non rv_notN) (by rw [nn]))) (fun h => ?_) (fun h => ?_)
  · have h' : c % 4 = 0 ∧ g ≠ none := by simpa only [Bool.and_eq_true, decide_eq_true_eq] using h
    rw [if_pos h'] at k
    cases g with
    | none => exact absurd rfl h'.2
    | some r => exact run_ret (ev_var rfl) k
  · have h' : ¬(c % 4 = 0 ∧ g ≠ none) := fun z => by
      have : (decide (c % 4 = 0) && decide (g ≠ none)) = true := by simpa only [Bool.and_eq_true, decide_eq_true_eq] using z
      rw [this] at h
      cases h
    rw [if_neg h'] at k
    refine run_nx (run_if (b := decide (c % 4 = 1) && decide (g ≠ none)) (et_and (et_test (ev_op (ev_md (by decide) (ev_var rfl)) ev_int rv_eqI)) fun _ => et_test (ev_to (ev_op (ev_var rfl) ev_non rv_notN) (by rw [nn]))) (fun h => ?_) (fun h => ?_))
    · have h' : c % 4 = 1 ∧ g ≠ none := by simpa only [Bool.and_eq_true, decide_eq_true_eq] using h
      rw [if_pos h'] at k
      cases g with
      | none => exact absurd rfl h'.2
      | some r =>
        have hr := (hz r rfl).sz (by decide)
        have hd1 := r.den_pos
        refine run_ret (ev_call (ea_cons (ev_op (ev_op (ev_nu (r := r) (ev_var rfl)) ev_int (rv_mulI (CM.right (by decide) (by decide)))) (ev_op (ev_de (r := r) (ev_var rfl)) (ev_md (by decide) (ev_dv (by decide) (by decide) (ev_var rfl))) (rv_mulI (CM.right (by omega) (by omega)))) rv_addI) (ea_cons (ev_op (ev_de (r := r) (ev_var rfl)) ev_int (rv_mulI (CM.right (by decide) (by decide)))) ea_nil)) ⟨_, _, rfl, by omega, Sm.mul (x := (r.den : Int)) (y := 1000) hr.2 (sm_small (by decide) (by decide)), ?_⟩) k
        rw [Int.mul_comm (r.den : Int) (c / 4 % 3), fr_add _ _ (by decide)]
        rfl
    · have h' : ¬(c % 4 = 1 ∧ g ≠ none) := fun z => by
        have : (decide (c % 4 = 1) && decide (g ≠ none)) = true := by simpa only [Bool.and_eq_true, decide_eq_true_eq] using z
        rw [this] at h
        cases h
      rw [if_neg h'] at k
      refine run_nx (run_if (b := decide (c % 4 = 2)) (et_test (ev_op (ev_md (by decide) (ev_var rfl)) ev_int rv_eqI)) (fun h => ?_) (fun h => ?_))
      · rw [if_pos (of_decide_eq_true h)] at k
        have e0 : ∀ {τ : List Sl} {a b : Int}, Ev K (tTup (tCons (tC (.int a)) (tCons (tC (.int b)) tNil))) τ (.tuple [.int a, .int b]) := ev_tup (ea_cons ev_int (ea_cons ev_int ea_nil)) (by show 2 ≤ 100000; decide)
        refine run_ret (ev_op (ev_lst (ea_cons e0 (ea_cons e0 (ea_cons e0 (ea_cons e0 ea_nil)))) (by show 4 ≤ 100000; decide)) (ev_md (by decide) (ev_dv (by decide) (by decide) (ev_var rfl))) (rv_ixL ?_)) k
        have : c / 4 % 4 = 0 ∨ c / 4 % 4 = 1 ∨ c / 4 % 4 = 2 ∨ c / 4 % 4 = 3 := by omega
        rcases this with e | e | e | e <;> rw [e] <;> rfl
      · rw [if_neg (of_decide_eq_false h)] at k
        refine run_nx (run_ret (ev_call (ea_cons (ev_md (by decide) (ev_dv (by decide) (by decide) (ev_var rfl))) (ea_cons ev_int ea_nil)) ⟨_, _, rfl, by decide, Nat.lt_of_lt_of_le (show 1000 < 2 ^ 20 by decide) (Nat.pow_le_pow_right (by decide) (by decide)), rfl⟩) k)
theorem by_tried {N : List Str} (hN : N.length = 5) : ∀ vs H Q E, sp_tried K vs H Q E → t_tried K { nx := fun _ H' => Q .non H', rt := Q } (L2.start N vs) H := body_N hN <| by
  rintro ds es ⟨C, e, p, t, x, P, rfl, hs, hc, hp, ht, rfl⟩ O F Dn k
  show Run K O F (t_tried K) Dn [.im e, .im (.int (p : Int)), .im (.int (t : Int)), .im (.int x), .un]
  unfold t_tried
  have ho := hc.ok P (List.mem_of_getElem? hp)
  have hpl := (List.getElem?_eq_some_iff.mp hp).1
  unfold triedC at k
  rw [getD_get hp, List.map_set] at k
  refine run_asgN (en_cb (ea_cons (ev_var rfl) ea_nil) (rc_listS hs)) fun q => ?_
  dsimp only [List.set]
  refine run_setI (k := p) (d := (withTry P t x).d) rfl (ev_call (ea_cons (ev_ixOw (d := P.d) rfl (ev_var rfl) (atI_nat (by rw [List.getElem?_map, hp]; rfl))) (ea_cons (ev_var rfl) (ea_cons (ev_var rfl) ea_nil))) ⟨_, _, _, rfl, ho, ht, rfl⟩) (ev_var rfl) (by rw [List.length_map]; exact hpl) ?_
  exact run_retO (j := 4) rfl k
theorem by_l_tried {N : List Str} (hN : N.length = 7) : ∀ vs H Q E, sp_l_tried K vs H Q E → t_l_tried K { nx := fun _ H' => Q .non H', rt := Q } (L2.start N vs) H := body_N hN <| by
  rintro ds es ⟨C, e, p, t, x, P, rfl, hs, hc, hp, ht, rfl⟩ O F Dn k
  show Run K O F (t_l_tried K) Dn [.im e, .im (.int (p : Int)), .im (.int (t : Int)), .im (.int x), .un, .un, .un]
  unfold t_l_tried
  have ho := hc.ok P (List.mem_of_getElem? hp)
  have hpl := (List.getElem?_eq_some_iff.mp hp).1
  have oT := ho.tk _ (at_nat ht)
  have hn := oT.n
  unfold triedC at k
  rw [getD_get hp, List.map_set] at k
  refine run_asgN (en_cb (ea_cons (ev_var rfl) ea_nil) (rc_listS hs)) fun q => ?_
  dsimp only [List.set]
  have hP : ∀ {τ : List Sl} {a c d : Sl}, Ev K (tOp (rIx K) (tVar 4) (tVar 1)) (a :: .im (.int (p : Int)) :: c :: d :: .ow q (C.map Part.d) :: τ) P.d := ev_ixOw rfl (ev_var rfl) (atI_nat (by rw [List.getElem?_map, hp]; rfl))
  refine run_asgN (ds := P.tasks.map Task.d) (en_cb (ea_cons (ev_pk (P := P) hP) ea_nil) rc_listT) fun q2 => ?_
  dsimp only [List.set]
  refine run_asg (d := (P.at (t : Int)).d) (ev_ixOw rfl (ev_var rfl) (at_atI (by omega) (by omega))) ?_
  refine run_setI (k := t) (d := Task.d { P.at (t : Int) with tries := (P.at (t : Int)).tries ++ [x] }) rfl (ev_tup (ea_cons (ev_tw (t := P.at (t : Int)) (ev_var rfl)) (ea_cons (ev_tm (t := P.at (t : Int)) (ev_var rfl)) (ea_cons (ev_tc (t := P.at (t : Int)) (ev_var rfl)) (ea_cons (ev_to (ev_op (ev_tt (t := P.at (t : Int)) (ev_var rfl)) (ev_tup (ea_cons (ev_var rfl) ea_nil) (by show 1 ≤ 100000; decide)) (rv_catT ?_)) ?_) ea_nil)))) (by show 4 ≤ 100000; decide)) (ev_var rfl) (by rw [List.length_map]; exact ht) ?_
  · rw [List.length_map]
    show _ + 1 ≤ 100000
    omega
  · show _ = PyData.tuple (((P.at (t : Int)).tries ++ [x]).map PyData.int)
    rw [List.map_append]
    rfl
  refine run_freeze (j := 5) rfl ?_
  rw [← List.map_set]
  refine run_setI (k := p) (d := (withTry P t x).d) rfl (ev_tup (ea_cons (ev_pw (P := P) hP) (ea_cons (ev_po (P := P) hP) (ea_cons (ev_pt (P := P) hP) (ea_cons (ev_cb (ea_cons (ev_var rfl) ea_nil) rc_tupleL) (ea_cons (ev_px (P := P) hP) ea_nil))))) (by show 5 ≤ 100000; decide)) (ev_var rfl) (by rw [List.length_map]; exact hpl) ?_
  exact run_retO (j := 4) rfl k
theorem take_all {α : Type} {L : List α} {P : α → Prop} {i : Nat} {s : α} (hs : L[i]? = some s) (h : ∀ y ∈ L.take i, P y) (hp : P s) : ∀ y ∈ L.take (i + 1), P y := fun y hy => by
  rw [take_snoc hs, List.mem_append, List.mem_singleton] at hy
  rcases hy with z | z
  · exact h y z
  · rw [z]; exact hp

/-- need_wish(wish); slots wish -/
def t_need_wishX (K : PySem.W.Frag) (cv : Cv) (W : WX) : TS :=
 (tSeq (tIfS (tOr (tTest (tOp rLt (tOp (rIx K) (tVar 0) (tC (.int 1))) (tC (.int 1)))) (tOr (tTest (tOp rLt (tOp (rIx K) (tVar 0) (tC (.int 0))) (tC (.int 0)))) (tTest (tOp (rNeD K) (tCall (sp_share K) [] E0 (tCons (tOp (rIx K) (tVar 0) (tC (.int 0))) (tCons (tOp (rIx K) (tVar 0) (tC (.int 1))) tNil))) (tVar 0))))) (tSeq (tRaise W (.ref (cv .wish)))
 tNext) tNext)
 tNext)
/-- need_place(course, part, task); slots course part task -/
def t_need_placeX (K : PySem.W.Frag) (cv : Cv) (W : WX) : TS :=
 (tSeq (tIfS (tOr (tNot (tTest (tChain rLe rLt (tC (.int 0)) (tVar 1) (tCB (rLen K) (tCons (tVar 0) tNil))))) (tNot (tTest (tChain rLe rLt (tC (.int 0)) (tVar 2) (tCB (rLen K) (tCons (tOp (rIx K) (tOp (rIx K) (tVar 0) (tVar 1)) (tC (.int 3))) tNil)))))) (tSeq (tRaise W (.ref (cv .place)))
 tNext) tNext)
 (tSeq (tIfS (tTest (tOp rGe (tCB (rLen K) (tCons (tOp (rIx K) (tOp (rIx K) (tOp (rIx K) (tOp (rIx K) (tVar 0) (tVar 1)) (tC (.int 3))) (tVar 2)) (tC (.int 3))) tNil)) (tC (.int 12)))) (tSeq (tRaise W (.ref (cv .many)))
 tNext) tNext)
 tNext))
/-- least_points(course, part, task, wish); slots course part task wish low high here -/
def t_least_pointsX (K : PySem.W.Frag) (cv : Cv) (W : WX) : TS :=
 (tSeq (tDrop (tCallS (sp_need_placeX K cv) (WE W) (tCons (tVar 0) (tCons (tVar 1) (tCons (tVar 2) tNil)))))
 (tSeq (tDrop (tCallS (sp_need_wishX K cv) (WE W) (tCons (tVar 3) tNil)))
 (tSeq (tAsg (tC (.int 0)) (gName 4))
 (tSeq (tAsg (tOp (rIx K) (tOp (rIx K) (tOp (rIx K) (tOp (rIx K) (tVar 0) (tVar 1)) (tC (.int 3))) (tVar 2)) (tC (.int 1))) (gName 5))
 (tSeq (tIfS (tNot (tB (tCall (sp_reached K) [] E0 (tCons (tCall (sp_tried K) [] E0 (tCons (tVar 0) (tCons (tVar 1) (tCons (tVar 2) (tCons (tVar 5) tNil))))) (tCons (tVar 3) tNil))))) (tSeq (tRet (tC .non))
 tNext) tNext)
 (tSeq (tWhile (tTest (tOp rLt (tVar 4) (tVar 5))) (tSeq (tAsg (tOp rDiv (tOp (rAdd K) (tVar 4) (tVar 5)) (tC (.int 2))) (gName 6))
 (tSeq (tIfS (tB (tCall (sp_reached K) [] E0 (tCons (tCall (sp_tried K) [] E0 (tCons (tVar 0) (tCons (tVar 1) (tCons (tVar 2) (tCons (tVar 6) tNil))))) (tCons (tVar 3) tNil)))) (tSeq (tAsg (tVar 6) (gName 5))
 tNext) (tSeq (tAsg (tOp (rAdd K) (tVar 6) (tC (.int 1))) (gName 4))
 tNext))
 tNext)))
 (tSeq (tRet (tVar 4))
 tNext)))))))
/-- all_tried(course, thousandths); slots course thousandths found number place task points -/
def t_all_tried (K : PySem.W.Frag) : TS :=
 (tSeq (tAsg (tCB (rList K) (tCons (tVar 0) tNil)) (gName 2))
 (tSeq (tFor (iRng1 (tCons (tCB (rLen K) (tCons (tVar 2) tNil)) tNil)) (gName 3) (tSeq (tFor (iRng1 (tCons (tCB (rLen K) (tCons (tOp (rIx K) (tOp (rIx K) (tVar 2) (tVar 3)) (tC (.int 3))) tNil)) tNil)) (gName 4) (tSeq (tAsg (tOp (rIx K) (tOp (rIx K) (tOp (rIx K) (tVar 2) (tVar 3)) (tC (.int 3))) (tVar 4)) (gName 5))
 (tSeq (tIfS (tTest (tOp (rEqD K) (tCB (rLen K) (tCons (tOp (rIx K) (tVar 5) (tC (.int 3))) tNil)) (tC (.int 0)))) (tSeq (tAsg (tOp rDiv (tOp rSub (tOp (rAdd K) (tOp (rMul K) (tOp (rIx K) (tVar 5) (tC (.int 1))) (tVar 1)) (tC (.int 1000))) (tC (.int 1))) (tC (.int 1000))) (gName 6))
 (tSeq (tAsg (tCall (sp_with_try K) [] E0 (tCons (tOp (rIx K) (tVar 2) (tVar 3)) (tCons (tVar 4) (tCons (tVar 6) tNil)))) (gSub (tVar 2) (tVar 3) rSetL))
 tNext)) tNext)
 tNext)))
 tNext))
 (tSeq (tRet (tVar 2))
 tNext)))
/-- least_share(course, wish); slots course wish low high here -/
def t_least_shareX (K : PySem.W.Frag) (cv : Cv) (W : WX) : TS :=
 (tSeq (tDrop (tCallS (sp_need_wishX K cv) (WE W) (tCons (tVar 1) tNil)))
 (tSeq (tAsg (tC (.int 0)) (gName 2))
 (tSeq (tAsg (tC (.int 1000)) (gName 3))
 (tSeq (tIfS (tNot (tB (tCall (sp_reached K) [] E0 (tCons (tCall (sp_all_tried K) [] E0 (tCons (tVar 0) (tCons (tVar 3) tNil))) (tCons (tVar 1) tNil))))) (tSeq (tRet (tC .non))
 tNext) tNext)
 (tSeq (tWhile (tTest (tOp rLt (tVar 2) (tVar 3))) (tSeq (tAsg (tOp rDiv (tOp (rAdd K) (tVar 2) (tVar 3)) (tC (.int 2))) (gName 4))
 (tSeq (tIfS (tB (tCall (sp_reached K) [] E0 (tCons (tCall (sp_all_tried K) [] E0 (tCons (tVar 0) (tCons (tVar 4) tNil))) (tCons (tVar 1) tNil)))) (tSeq (tAsg (tVar 4) (gName 3))
 tNext) (tSeq (tAsg (tOp (rAdd K) (tVar 4) (tC (.int 1))) (gName 2))
 tNext))
 tNext)))
 (tSeq (tRet (tVar 2))
 tNext))))))
/-- l_stream(cell, many); slots cell many found number_here k square -/
def t_l_stream13 (K : PySem.W.Frag) : TS :=
 (tSeq (tAsg (tLst tNil) (gName 2))
 (tSeq (tAsg (tOp (rAdd K) (tOp rMod (tVar 0) (tC (.int 2147483647))) (tC (.int 48271))) (gName 3))
 (tSeq (tFor (iRng1 (tCons (tOp (rAdd K) (tVar 1) (tC (.int 1))) tNil)) (gName 4) (tSeq (tAsg (tOp (rMul K) (tVar 3) (tVar 3)) (gName 5))
 (tSeq (tAsg (tOp rMod (tOp (rAdd K) (tOp (rAdd K) (tOp (rAdd K) (tVar 5) (tOp (rMul K) (tC (.int 48271)) (tVar 3))) (tOp (rMul K) (tC (.int 7)) (tVar 4))) (tC (.int 1))) (tC (.int 2147483647))) (gName 3))
 (tSeq (tDrop (tBM K "list" rAppend (tVar 2) (tCons (tVar 3) tNil)))
 tNext))))
 (tSeq (tRet (tSl (rSl K) (tVar 2) (tPart (tC (.int 1))) tNoPart))
 tNext))))
/-- l_class(e); slots e some -/
def t_l_class (K : PySem.W.Frag) (cv : Cv) (a : Addr) (cls : Value) : TS :=
 (tSeq (tAsg (tLst (tCons (tCB (rIsP K a cls) (tCons (tVar 0) (tCons (tC (.ref (cv .place))) tNil))) (tCons (tCB (rIsP K a cls) (tCons (tVar 0) (tCons (tC (.ref (cv .many))) tNil))) (tCons (tCB (rIsP K a cls) (tCons (tVar 0) (tCons (tC (.ref (cv .wish))) tNil))) tNil)))) (gName 1))
 (tSeq (tIfS (tOr (tB (tCB (rIsP K a cls) (tCons (tVar 0) (tCons (tTup (tCons (tC (.ref (cv .cap))) (tCons (tC (.ref (cv .extra))) (tCons (tC (.ref (cv .mark))) (tCons (tC (.ref (cv .most))) tNil))))) tNil)))) (tB (tCB (rIsP K a cls) (tCons (tVar 0) (tCons (tTup (tCons (tC (.ref (cv .step))) (tCons (tC (.ref (cv .top))) (tCons (tC (.ref (cv .weight))) (tCons (tC (.ref (cv .worst))) tNil))))) tNil))))) (tSeq (tRet (tTup (tCons (tC (.str "other")) tNil)))
 tNext) tNext)
 (tSeq (tIfS (tOr (tNot (tB (tCB (rIsP K a cls) (tCons (tVar 0) (tCons (tC (.ty "ValueError")) tNil))))) (tTest (tOp (rNeD K) (tBM K "list" (rCountK K) (tVar 1) (tCons (tC (.bl true)) tNil)) (tC (.int 1))))) (tSeq (tRet (tTup (tCons (tC (.str "other")) tNil)))
 tNext) tNext)
 (tSeq (tRet (tTup (tCons (tOp (rIx K) (tLst (tCons (tC (.str "place")) (tCons (tC (.str "many")) (tCons (tC (.str "wish")) tNil)))) (tBM K "list" (rIndexK K) (tVar 1) (tCons (tC (.bl true)) tNil))) tNil)))
 tNext))))
/-- l_points(course, part, task, wish_here); slots course part task wish_here e -/
def t_l_points13 (K : PySem.W.Frag) (cv : Cv) : TS :=
 (tSeq (tTryAs K (.ref (cv .grade)) 4 (fun W => (tSeq (tRet (tTup (tCons (tC (.str "told")) (tCons (tCallS (sp_least_pointsX K cv) (WE W) (tCons (tVar 0) (tCons (tVar 1) (tCons (tVar 2) (tCons (tVar 3) tNil))))) tNil))))
 tNext)) (fun a cls d => (tSeq (tRet (tCallE (sp_l_class K cv) a cls d (tCons (tVar 4) tNil)))
 tNext)))
 tNext)
/-- l_least(course, wish_here); slots course wish_here e -/
def t_l_least (K : PySem.W.Frag) (cv : Cv) : TS :=
 (tSeq (tTryAs K (.ref (cv .grade)) 2 (fun W => (tSeq (tRet (tTup (tCons (tC (.str "told")) (tCons (tCallS (sp_least_shareX K cv) (WE W) (tCons (tVar 0) (tCons (tVar 1) tNil))) tNil))))
 tNext)) (fun a cls d => (tSeq (tRet (tCallE (sp_l_class K cv) a cls d (tCons (tVar 2) tNil)))
 tNext)))
 tNext)
/-- l_wish(cell); slots cell wish_here by wrong -/
def t_l_wish (K : PySem.W.Frag) : TS :=
 (tSeq (tAsg (tOp (rIx K) (tLst (tCons (tTup (tCons (tC (.int 0)) (tCons (tC (.int 1)) tNil))) (tCons (tTup (tCons (tC (.int 1)) (tCons (tC (.int 2)) tNil))) (tCons (tTup (tCons (tC (.int 9)) (tCons (tC (.int 10)) tNil))) (tCons (tTup (tCons (tC (.int 1)) (tCons (tC (.int 1)) tNil))) (tCons (tTup (tCons (tC (.int 3)) (tCons (tC (.int 2)) tNil))) (tCons (tTup (tCons (tC (.int 333)) (tCons (tC (.int 1000)) tNil))) (tCons (tTup (tCons (tC (.int 17)) (tCons (tC (.int 20)) tNil))) tNil)))))))) (tOp rMod (tOp rDiv (tVar 0) (tC (.int 3))) (tC (.int 7)))) (gName 1))
 (tSeq (tIfS (tTest (tOp rGt (tOp rMod (tVar 0) (tC (.int 3))) (tC (.int 0)))) (tSeq (tRet (tVar 1))
 tNext) tNext)
 (tSeq (tAsg (tOp (rAdd K) (tC (.int 2)) (tOp rMod (tOp rDiv (tVar 0) (tC (.int 21))) (tC (.int 9)))) (gName 2))
 (tSeq (tAsg (tLst (tCons (tTup (tCons (tOp (rMul K) (tOp (rIx K) (tVar 1) (tC (.int 0))) (tVar 2)) (tCons (tOp (rMul K) (tOp (rIx K) (tVar 1) (tC (.int 1))) (tVar 2)) tNil))) (tCons (tTup (tCons (tOp (rIx K) (tVar 1) (tC (.int 0))) (tCons (tC (.int 0)) tNil))) (tCons (tTup (tCons (tOp (rIx K) (tVar 1) (tC (.int 0))) (tCons (tUn rNeg (tOp (rIx K) (tVar 1) (tC (.int 1)))) tNil))) (tCons (tTup (tCons (tOp rSub (tUn rNeg (tC (.int 1))) (tOp (rIx K) (tVar 1) (tC (.int 0)))) (tCons (tOp (rIx K) (tVar 1) (tC (.int 1))) tNil))) (tCons (tTup (tCons (tC (.int 0)) (tCons (tVar 2) tNil))) tNil)))))) (gName 3))
 (tSeq (tRet (tOp (rIx K) (tVar 3) (tOp rMod (tOp rDiv (tVar 0) (tC (.int 21))) (tC (.int 5)))))
 tNext)))))
/-- l_wish_bad(wish_here); slots wish_here top bottom one other -/
def t_l_wish_bad (K : PySem.W.Frag) : TS :=
 (tSeq (tAsg (tVar 0) (gTup K 2 (gCons (gName 1) (gCons (gName 2) gNil))))
 (tSeq (tIfS (tOr (tTest (tOp rLt (tVar 2) (tC (.int 1)))) (tTest (tOp rLt (tVar 1) (tC (.int 0))))) (tSeq (tRet (tC (.bl true)))
 tNext) tNext)
 (tSeq (tAsg (tVar 1) (gName 3))
 (tSeq (tAsg (tVar 2) (gName 4))
 (tSeq (tWhile (tTest (tOp rGt (tVar 4) (tC (.int 0)))) (tSeq (tPar 3 4 (tCons (tVar 4) (tCons (tOp rMod (tVar 3) (tVar 4)) tNil)))
 tNext))
 (tSeq (tRet (tOp (rNeD K) (tVar 3) (tC (.int 1))))
 tNext))))))
/-- l_number(cell, many); slots cell many -/
def t_l_number13 (K : PySem.W.Frag) : TS :=
 (tSeq (tIfS (tOr (tTest (tOp (rEqD K) (tOp rMod (tVar 0) (tC (.int 3))) (tC (.int 0)))) (tTest (tOp (rEqD K) (tVar 1) (tC (.int 0))))) (tSeq (tRet (tOp (rIx K) (tLst (tCons (tOp rSub (tUn rNeg (tC (.int 1))) (tOp rMod (tOp rDiv (tVar 0) (tC (.int 6))) (tC (.int 9)))) (tCons (tOp (rAdd K) (tVar 1) (tOp rMod (tOp rDiv (tVar 0) (tC (.int 6))) (tC (.int 9)))) (tCons (tOp rPow (tC (.int 10)) (tC (.int 9))) (tCons (tUn rNeg (tOp rPow (tC (.int 10)) (tC (.int 9)))) tNil))))) (tOp rMod (tOp rDiv (tVar 0) (tC (.int 54))) (tC (.int 4)))))
 tNext) tNext)
 (tSeq (tRet (tOp rMod (tOp rDiv (tVar 0) (tC (.int 3))) (tVar 1)))
 tNext))
/-- law(script); slots script course part tasks task wish_here due good -/
def t_law_k13 (K : PySem.W.Frag) : TS :=
 (tSeq (tAsg (tCall (sp_l_course_by K) [] E0 (tCons (tVar 0) (tCons (tC (.int 2)) (tCons (tC (.int 3)) tNil)))) (gName 1))
 (tSeq (tAsg (tCall (sp_l_number13 K) [] E0 (tCons (tCall (sp_l_cell_at K) [] E0 (tCons (tVar 0) (tCons (tC (.int 8)) tNil))) (tCons (tCB (rLen K) (tCons (tVar 1) tNil)) tNil))) (gName 2))
 (tSeq (tAsg (tTup tNil) (gName 3))
 (tSeq (tIfS (tTest (tChain rLe rLt (tC (.int 0)) (tVar 2) (tCB (rLen K) (tCons (tVar 1) tNil)))) (tSeq (tAsg (tOp (rIx K) (tOp (rIx K) (tVar 1) (tVar 2)) (tC (.int 3))) (gName 3))
 tNext) tNext)
 (tSeq (tAsg (tCall (sp_l_number13 K) [] E0 (tCons (tCall (sp_l_cell_at K) [] E0 (tCons (tVar 0) (tCons (tC (.int 9)) tNil))) (tCons (tCB (rLen K) (tCons (tVar 3) tNil)) tNil))) (gName 4))
 (tSeq (tAsg (tCall (sp_l_wish K) [] E0 (tCons (tCall (sp_l_cell_at K) [] E0 (tCons (tVar 0) (tCons (tC (.int 10)) tNil))) tNil)) (gName 5))
 (tSeq (tAsg (tC (.str "told")) (gName 6))
 (tSeq (tIfS (tB (tCall (sp_l_wish_bad K) [] E0 (tCons (tVar 5) tNil))) (tSeq (tAsg (tC (.str "wish")) (gName 6))
 tNext) tNext)
 (tSeq (tIfS (tTest (tOp (rNeD K) (tOp (rIx K) (tCall (sp_l_least K) [] E0 (tCons (tCB (rList K) (tCons (tVar 1) tNil)) (tCons (tVar 5) tNil))) (tC (.int 0))) (tVar 6))) (tSeq (tRet (tC (.bl false)))
 tNext) tNext)
 (tSeq (tIfS (tNot (tTest (tChain rLe rLt (tC (.int 0)) (tVar 4) (tCB (rLen K) (tCons (tVar 3) tNil))))) (tSeq (tAsg (tC (.str "place")) (gName 6))
 tNext) (tSeq (tIfS (tTest (tOp rGt (tCB (rLen K) (tCons (tOp (rIx K) (tOp (rIx K) (tVar 3) (tVar 4)) (tC (.int 3))) tNil)) (tC (.int 11)))) (tSeq (tAsg (tC (.str "many")) (gName 6))
 tNext) tNext)
 tNext))
 (tSeq (tAsg (tCall (sp_l_least K) [] E0 (tCons (tCB (rList K) (tCons (tVar 1) tNil)) (tCons (tTup (tCons (tC (.int 1)) (tCons (tC (.int 2)) tNil))) tNil))) (gName 7))
 (tSeq (tIfS (tOr (tTest (tOp (rNeD K) (tOp (rIx K) (tVar 7) (tC (.int 0))) (tC (.str "told")))) (tTest (tOp (rNeD K) (tOp (rIx K) (tCall (sp_l_points13 K) [] E0 (tCons (tCB (rList K) (tCons (tVar 1) tNil)) (tCons (tVar 2) (tCons (tVar 4) (tCons (tVar 5) tNil))))) (tC (.int 0))) (tVar 6)))) (tSeq (tRet (tC (.bl false)))
 tNext) tNext)
 (tSeq (tRet (tOp (rEqD K) (tCall (sp_l_least K) [] E0 (tCons (tCB (rList K) (tCons (tVar 1) tNil)) (tCons (tTup (tCons (tC (.int 1)) (tCons (tC (.int 2)) tNil))) tNil))) (tVar 7)))
 tNext)))))))))))))
theorem oneT_eq {k : Int} {t : Task} (h : t.tries = []) : oneT k t = { t with tries := t.tries ++ [(t.m * k + 999) / 1000] } := by
  unfold oneT
  rw [if_pos h, h]
  rfl
theorem oneT_id {k : Int} {t : Task} (h : t.tries ≠ []) : oneT k t = t := by
  unfold oneT
  rw [if_neg h]
theorem set_self' {P : Part} {j : Nat} (h : j < P.tasks.length) : { P with tasks := P.tasks.set j (P.at (j : Int)) } = P := by
  have hat : P.tasks[j]? = some (P.at (j : Int)) := by have := at_get (P := P) (i := (j : Int)) (by omega) (by omega); rw [Int.toNat_natCast] at this; exact this
  rw [set_self hat]
/-- a step of the going through, by the task's tries -/
theorem partT_step {k : Int} {P : Part} {j : Nat} (h : j < P.tasks.length) : partT k P (j + 1) = if (P.at (j : Int)).tries = [] then withTry (partT k P j) j (((P.at (j : Int)).m * k + 999) / 1000) else partT k P j := by
  rw [partT_set h]
  have e := partT_at (k := k) h
  have hl := partT_len (k := k) (P := P) (j := j) (by omega)
  by_cases c : (P.at (j : Int)).tries = []
  · rw [if_pos c, oneT_eq c]
    unfold withTry
    rw [e]
    rfl
  · rw [if_neg c, oneT_id c, ← e]
    exact set_self' (P := partT k P j) (by rw [hl]; exact h)
theorem courseT_zero {k : Int} {C : List Part} : courseT k C 0 = C := by
  unfold courseT
  simp
theorem courseT_all {k : Int} {C : List Part} : courseT k C C.length = allC k C := by
  unfold courseT allC
  simp
theorem courseT_self {k : Int} {C : List Part} {i : Nat} {P : Part} (h : C[i]? = some P) : (courseT k C i).set i P = courseT k C i := set_self (courseT_at h)
theorem pts_ok {m k : Int} (hm1 : 1 ≤ m) (hm2 : m ≤ 1000000) (h0 : 0 ≤ k) (h1 : k ≤ 1000) : 0 ≤ m * k ∧ m * k ≤ 1000000000 ∧ 0 ≤ (m * k + 999) / 1000 ∧ (m * k + 999) / 1000 ≤ m := by
  have a : 0 ≤ m * k := Int.mul_nonneg (by omega) h0
  have b : m * k ≤ m * 1000 := Int.mul_le_mul_of_nonneg_left h1 (by omega)
  omega
theorem by_all_tried {N : List Str} (hN : N.length = 7) : ∀ vs H Q E, sp_all_tried K vs H Q E → t_all_tried K { nx := fun _ H' => Q .non H', rt := Q } (L2.start N vs) H := body_N hN <| by
  rintro ds es ⟨C, e, th, rfl, hs, hc, h0, h1, rfl⟩ O F Dn k
  show Run K O F (t_all_tried K) Dn [.im e, .im (.int th), .un, .un, .un, .un, .un]
  unfold t_all_tried
  have hcn := hc.n
  refine run_asgN (en_cb (ea_cons (ev_var rfl) ea_nil) (rc_listS hs)) fun q => ?_
  dsimp only [List.set]
  refine run_forR (n := (C.length : Int)) [3, 4, 5, 6] (fun i τ => τ = [.im e, .im (.int th), .ow q ((courseT th C i).map Part.d), .un, .un, .un, .un]) (ea_cons (ev_full (ev_to (ev_cb (ea_cons (ev_var rfl) ea_nil) rc_lenL) (by rw [List.length_map])) trivial) ea_nil) (by omega) (by rw [courseT_zero]; rfl) ?_ ?_
  · rintro G hG i τ' hi rfl
    dsimp only [List.set]
    have hi' : i < C.length := by omega
    obtain ⟨P, hP⟩ : ∃ P, C[i]? = some P := ⟨_, List.getElem?_eq_getElem hi'⟩
    have ho := hc.ok P (List.mem_of_getElem? hP)
    have h9 := ho.n
    have hcl := courseT_len (k := th) (C := C) (i := i)
    have hat : ∀ Q : Part, atI (((courseT th C i).set i Q).map Part.d) (i : Int) = some Q.d := fun Q => atI_nat (by rw [List.getElem?_map, List.getElem?_set_self (by omega)]; rfl)
    refine run_forR (n := (P.tasks.length : Int)) [4, 5, 6] (fun j τ => τ = [.im e, .im (.int th), .ow q (((courseT th C i).set i (partT th P j)).map Part.d), .im (.int (i : Int)), .un, .un, .un]) (ea_cons (ev_full (ev_to (ev_cb (ea_cons (ev_pk (P := P) (ev_op (ev_var rfl) (ev_var rfl) (rv_ixL (by have := hat P; rw [courseT_self hP] at this; exact this)))) ea_nil) rc_lenT) (by rw [List.length_map])) trivial) ea_nil) (by omega) (by rw [partT_zero, courseT_self hP]; rfl) ?_ ?_
    · rintro G1 hG1 j τ' hj rfl
      dsimp only [List.set]
      have hj' : j < P.tasks.length := by omega
      have hl := partT_len (k := th) (P := P) (j := j) (by omega)
      have hT := ho.tk _ (at_nat hj')
      have hm1 := hT.m1
      have hm2 := hT.m2
      have hn := hT.n
      have hpt := pts_ok hm1 hm2 h0 h1
      have hpo := partT_ok (j := j) ho h0 h1
      have hst := partT_step (k := th) hj'
      refine run_asg (d := (P.at (j : Int)).d) (ev_to (ev_pat (P := partT th P j) (ev_ixOw rfl (ev_var rfl) (hat _)) (ev_var rfl) (by rw [hl]; omega)) (by rw [partT_at hj'])) ?_
      refine run_join (b := decide (((P.at (j : Int)).tries.length : Int) = 0)) (fun τ => ∃ s, τ = [.im e, .im (.int th), .ow q (((courseT th C i).set i (partT th P (j + 1))).map Part.d), .im (.int (i : Int)), .im (.int (j : Int)), .im (P.at (j : Int)).d, s]) (et_test (ev_op (ev_to (ev_cb (ea_cons (ev_tt (ev_var rfl)) ea_nil) rc_lenT) (by rw [List.length_map])) ev_int rv_eqI)) (fun h n hn => ?_) (fun h n hn => ?_) ?_
      · have h00 : (P.at (j : Int)).tries = [] := List.length_eq_zero_iff.mp (by have := of_decide_eq_true h; omega)
        rw [if_pos h00] at hst
        refine run_asg (d := .int (((P.at (j : Int)).m * th + 999) / 1000)) (ev_to (ev_op (ev_op (ev_op (ev_op (ev_tm (t := P.at (j : Int)) (ev_var rfl)) (ev_var rfl) (rv_mulI (CM.left (by omega) (by omega)))) ev_int rv_addI) ev_int rv_sub) ev_int (rv_div (div_small (by decide) (by decide)))) (by congr 1; omega)) ?_
        refine run_setI (k := i) (d := (partT th P (j + 1)).d) rfl (ev_call (ea_cons (ev_ixOw rfl (ev_var rfl) (hat _)) (ea_cons (ev_var rfl) (ea_cons (ev_var rfl) ea_nil))) ⟨partT th P j, j, _, rfl, hpo, by omega, by rw [hst]⟩) (ev_var rfl) (by rw [List.length_map, List.length_set]; omega) ?_
        rw [← List.map_set, List.set_set]
        exact run_met (js := []) ⟨_, rfl⟩ hn
      · have h00 : (P.at (j : Int)).tries ≠ [] := fun z => of_decide_eq_false h (by rw [z]; rfl)
        rw [if_neg h00] at hst
        rw [← hst]
        exact run_met (js := []) ⟨_, rfl⟩ hn
      · rintro τ' ⟨s, rfl⟩
        refine run_end (js := [4, 5, 6]) ?_ rfl
        exact rfl
    · rintro τ' rfl
      refine run_end (js := [3, 4, 5, 6]) ?_ rfl
      show _ = _
      rw [show ((P.tasks.length : Int)).toNat = P.tasks.length from rfl, partT_all, courseT_set hP]
      rfl
  · rintro τ' rfl
    refine run_retO (j := 2) rfl ?_
    rw [show ((C.length : Int)).toNat = C.length from rfl, courseT_all]
    exact k
theorem ev_rngI {τ : List Sl} {te tl : TE} {p n : Int} (h : Ev K te τ (.int p)) (hl : Ev K tl τ (.int n)) : Ev K (tChain rLe rLt (tC (.int 0)) te tl) τ (.bool (decide (0 ≤ p) && decide (p < n))) :=
  ev_chain (x := decide (0 ≤ p)) (y := decide (p < n)) ev_int h rv_le (fun _ => hl) (fun _ => rv_lt)
theorem dec_and {p q : Prop} [Decidable p] [Decidable q] : (decide p && decide q) = decide (p ∧ q) := by
  by_cases h : p <;> by_cases h2 : q <;> simp [h, h2]
theorem ev_rngD {τ : List Sl} {te tl : TE} {p n : Int} (h : Ev K te τ (.int p)) (hl : Ev K tl τ (.int n)) : Ev K (tChain rLe rLt (tC (.int 0)) te tl) τ (.bool (decide (0 ≤ p ∧ p < n))) := by
  have := ev_rngI h hl
  rw [dec_and] at this
  exact this
theorem ev_w0 {τ : List Sl} {te : TE} {w : Wi} (h : Ev K te τ (wD w)) : Ev K (tOp (rIx K) te (tC (.int 0))) τ (.int w.1) := ev_op h ev_int (rv_ixT rfl)
theorem ev_w1 {τ : List Sl} {te : TE} {w : Wi} (h : Ev K te τ (wD w)) : Ev K (tOp (rIx K) te (tC (.int 1))) τ (.int w.2) := ev_op h ev_int (rv_ixT rfl)
theorem shp_w {w : Wi} : Shp 1 (wD w) := shp_tuple fun e he => by
  simp only [List.mem_cons, List.not_mem_nil, or_false] at he
  rcases he with rfl | rfl
  · exact shp_int
  · exact shp_int
theorem by_need_wishX {cv : Cv} {N : List Str} (hN : N.length = 1) : ∀ vs H Q E, sp_need_wishX K cv vs H Q E → t_need_wishX K cv (wOf E) { nx := fun _ H' => Q .non H', rt := Q } (L2.start N vs) H := body_X (t := fun E => t_need_wishX K cv (wOf E)) hN <| by
  rintro ds r ⟨w, rfl, ho, rfl⟩ O F Dn E hnx kr ke
  show Run K O F (t_need_wishX K cv (wOf E)) Dn [.im (wD w)]
  unfold t_need_wishX
  unfold wishRes at kr ke
  obtain ⟨a1, a2, b1, b2⟩ := ho
  have hb : w.2.natAbs < 2 ^ 8000 := Nat.lt_of_lt_of_le (show w.2.natAbs < 2 ^ 20 by omega) (Nat.pow_le_pow_right (by decide) (by decide))
  refine run_if (b := !wGood w) (et_to (et_or (et_test (ev_op (ev_w1 (ev_var rfl)) ev_int rv_lt)) fun h1 => et_or (et_test (ev_op (ev_w0 (ev_var rfl)) ev_int rv_lt)) fun _ => et_test (ev_op (ev_call (d := shD (wR w)) (ea_cons (ev_w0 (ev_var rfl)) (ea_cons (ev_w1 (ev_var rfl)) ea_nil)) ⟨_, _, rfl, by have := of_decide_eq_false h1; omega, hb, rfl⟩) (ev_var rfl) (rv_ne (shp_sh.shaped (by decide)) (shp_w.shaped (by decide))))) (wish_test w)) (fun h => ?_) (fun h => ?_)
  · have hg : wGood w = false := by simpa using h
    exact run_raise (wish_def (ke .wish (by rw [hg]; rfl)))
  · have hg : wGood w = true := by simpa using h
    exact run_nx (run_noret hnx (kr .none (by rw [hg]; rfl)))
theorem by_need_placeX {cv : Cv} {N : List Str} (hN : N.length = 3) : ∀ vs H Q E, sp_need_placeX K cv vs H Q E → t_need_placeX K cv (wOf E) { nx := fun _ H' => Q .non H', rt := Q } (L2.start N vs) H := body_X (t := fun E => t_need_placeX K cv (wOf E)) hN <| by
  rintro ds r ⟨C, e, p, t, rfl, hs, hc, rfl⟩ O F Dn E hnx kr ke
  show Run K O F (t_need_placeX K cv (wOf E)) Dn [.im e, .im (.int p), .im (.int t)]
  unfold t_need_placeX
  have h1 : EvT K (tNot (tTest (tChain rLe rLt (tC (.int 0)) (tVar 1) (tCB (rLen K) (tCons (tVar 0) tNil))))) [.im e, .im (.int p), .im (.int t)] (!decide (0 ≤ p ∧ p < (C.length : Int))) := et_not (et_test (ev_rngD (ev_var rfl) (ev_to (ev_cb (ea_cons (ev_var rfl) ea_nil) (rc_lenS hs)) (by rw [List.length_map]))))
  unfold placeRes at kr ke
  by_cases hp : 0 ≤ p ∧ p < (C.length : Int)
  · rw [if_pos hp] at kr ke
    rw [decide_eq_true hp] at h1
    obtain ⟨i, rfl⟩ := Int.eq_ofNat_of_zero_le hp.1
    have hP : C[i]? = some (C.getD i dP) := by
      rw [List.getD_eq_getElem?_getD, List.getElem?_eq_getElem (show i < C.length by omega)]
      rfl
    rw [Int.toNat_natCast] at kr ke
    generalize C.getD i dP = P at *
    have eP : ∀ {b : Sl}, Ev K (tOp (rIx K) (tVar 0) (tVar 1)) [.im e, .im (.int (i : Int)), b] P.d := ev_cix (ev_var rfl) hs (ev_var rfl) hP
    refine run_if (b := false || !decide (0 ≤ t ∧ t < (P.tasks.length : Int))) (et_or h1 fun _ => et_not (et_test (ev_rngD (ev_var rfl) (ev_to (ev_cb (ea_cons (ev_pk eP) ea_nil) rc_lenT) (by rw [List.length_map]))))) (fun h => ?_) (fun h => ?_)
    · have ht : ¬ (0 ≤ t ∧ t < (P.tasks.length : Int)) := by simpa only [Bool.false_or, Bool.not_eq_true', decide_eq_false_iff_not] using h
      rw [if_neg ht] at ke
      exact run_raise (wish_def (ke .place rfl))
    · have ht : 0 ≤ t ∧ t < (P.tasks.length : Int) := by simpa only [Bool.false_or, Bool.not_eq_false', decide_eq_true_eq] using h
      rw [if_pos ht] at kr ke
      refine run_nx (run_if (b := decide ((12 : Int) ≤ ((P.at t).tries.length : Int))) (et_test (ev_op (ev_to (ev_cb (ea_cons (ev_tt (t := P.at t) (ev_pat eP (ev_var rfl) ht)) ea_nil) rc_lenT) (by rw [List.length_map])) ev_int rv_ge)) (fun h => ?_) (fun h => ?_))
      · have hd : ¬ (P.at t).tries.length < 12 := by have := of_decide_eq_true h; omega
        rw [if_neg hd] at ke
        exact run_raise (wish_def (ke .many rfl))
      · have hd : (P.at t).tries.length < 12 := by have := of_decide_eq_false h; omega
        rw [if_pos hd] at kr
        exact run_nx (run_noret hnx (kr _ rfl))
  · rw [if_neg hp] at ke
    rw [decide_eq_false hp] at h1
    refine run_if (b := true || false) (et_or h1 fun z => by cases z) (fun h => ?_) (fun h => by cases h)
    exact run_raise (wish_def (ke .place rfl))
theorem by_least_pointsX {cv : Cv} {N : List Str} (hN : N.length = 7) : ∀ vs H Q E, sp_least_pointsX K cv vs H Q E → t_least_pointsX K cv (wOf E) { nx := fun _ H' => Q .non H', rt := Q } (L2.start N vs) H := body_X (t := fun E => t_least_pointsX K cv (wOf E)) hN <| by
  rintro ds r ⟨C, e, p, t, w, rfl, hs, hc, ho, rfl⟩ O F Dn E hnx kr ke
  show Run K O F (t_least_pointsX K cv (wOf E)) Dn [.im e, .im (.int p), .im (.int t), .im (wD w), .un, .un, .un]
  unfold t_least_pointsX
  rcases place_cases C p t with ⟨c, hc1, hc2⟩ | ⟨i, j, P, rfl, rfl, hp, ht, hfw, hok, hlr⟩
  · exact run_dropE (er_callX (c := c) (ea_cons (ev_var rfl) (ea_cons (ev_var rfl) (ea_cons (ev_var rfl) ea_nil))) ⟨C, e, p, t, rfl, hs, hc, hc1.symm⟩) (wish_def (ke c (hc2 w)))
  refine run_drop (ev_callX (d := .none) (ea_cons (ev_var rfl) (ea_cons (ev_var rfl) (ea_cons (ev_var rfl) ea_nil))) ⟨C, e, (i : Int), (j : Int), rfl, hs, hc, hok.symm⟩) ?_
  have hl := hlr w
  cases hg : wGood w with
  | false =>
    rw [hg] at hl
    exact run_dropE (er_callX (c := .wish) (ea_cons (ev_var rfl) ea_nil) ⟨w, rfl, ho, by unfold wishRes; rw [hg]; rfl⟩) (wish_def (ke .wish hl))
  | true =>
  rw [hg, if_pos rfl] at hl
  have k := kr _ hl
  refine run_drop (ev_callX (d := .none) (ea_cons (ev_var rfl) ea_nil) ⟨w, rfl, ho, by unfold wishRes; rw [hg]; rfl⟩) ?_
  obtain ⟨h0, hw⟩ := wR_ok hg ho
  rw [wD_good hg]
  generalize wR w = r at *
  have hcp := hc.ok P (List.mem_of_getElem? hp)
  have hT := hcp.tk _ (at_nat ht)
  have hm1 := hT.m1
  have hm2 := hT.m2
  have hP : ∀ {τ : List Sl}, Ev K (tOp (rIx K) (tVar 0) (tVar 1)) (.im e :: .im (.int (i : Int)) :: τ) P.d := ev_cix (ev_var rfl) hs (ev_var rfl) hp
  unfold leastPts at k
  obtain ⟨top, htop⟩ := Int.eq_ofNat_of_zero_le (show 0 ≤ (P.at (j : Int)).m by omega)
  have hf : ∀ {τ : List Sl} {te : TE} {x : Nat}, x ≤ top → Ev K te (.im e :: .im (.int (i : Int)) :: .im (.int (j : Int)) :: .im (shD r) :: τ) (.int (x : Int)) → Ev K (tCall (sp_reached K) [] E0 (tCons (tCall (sp_tried K) [] E0 (tCons (tVar 0) (tCons (tVar 1) (tCons (tVar 2) (tCons te tNil))))) (tCons (tVar 3) tNil))) (.im e :: .im (.int (i : Int)) :: .im (.int (j : Int)) :: .im (shD r) :: τ) (.bool (reachedC (triedC C i j (x : Int)) r)) := fun hx h => ev_call (ea_cons (ev_callN (ea_cons (ev_var rfl) (ea_cons (ev_var rfl) (ea_cons (ev_var rfl) (ea_cons h ea_nil)))) ⟨_, _, _, _, _, P, rfl, hs, hc, hp, ht, rfl⟩) (ea_cons (ev_var rfl) ea_nil)) ⟨_, _, _, rfl, .inl rfl, triedC_ok hc hp ht (by omega) (by omega), hw, rfl⟩
  refine run_asg (d := .int ((0 : Nat) : Int)) ev_int ?_
  refine run_asg (d := .int (top : Int)) (ev_to (ev_tm (t := P.at (j : Int)) (ev_pat hP (ev_var rfl) (by omega))) (by rw [htop])) ?_
  rw [htop] at k
  change Ret K O F Dn.rt (optD (least (fun x => reachedC (triedC C i j (x : Int)) r) top)) at k
  refine run_if (b := !reachedC (triedC C i j (top : Int)) r) (et_not (et_B (hf (Nat.le_refl _) (ev_var rfl)))) (fun h => ?_) (fun h => ?_)
  · have h' : reachedC (triedC C i j (top : Int)) r = false := by simpa using h
    rw [least_no h'] at k
    exact run_ret ev_non k
  · have h' : reachedC (triedC C i j (top : Int)) r = true := by simpa using h
    rw [least_yes h'] at k
    refine run_nx (run_while (W := fun m τ => ∃ (lo hi : Nat) (s : Sl), τ = [.im e, .im (.int (i : Int)), .im (.int (j : Int)), .im (shD r), .im (.int (lo : Int)), .im (.int (hi : Int)), s] ∧ lo ≤ hi ∧ hi ≤ top ∧ bsr (fun x => reachedC (triedC C i j (x : Int)) r) lo hi = bsr (fun x => reachedC (triedC C i j (x : Int)) r) 0 top ∧ m = hi - lo) [] top ⟨0, top, .un, rfl, Nat.zero_le _, Nat.le_refl _, rfl, rfl⟩ ?_)
    rintro G hG m τ ⟨lo, hi, s, rfl, hlh, hh, hb, rfl⟩
    refine ⟨decide ((lo : Int) < (hi : Int)), et_test (ev_op (ev_var rfl) (ev_var rfl) rv_lt), fun h => ?_, fun h => ?_⟩
    · have hlt : lo < hi := by have := of_decide_eq_true h; omega
      refine run_asg (d := .int (((lo + hi) / 2 : Nat) : Int)) (ev_to (ev_op (ev_op (ev_var rfl) (ev_var rfl) rv_addI) ev_int (rv_div (div_small (by decide) (by decide)))) (by congr 1)) ?_
      refine run_if (b := reachedC (triedC C i j (((lo + hi) / 2 : Nat) : Int)) r) (et_B (hf (x := (lo + hi) / 2) (by omega) (ev_var rfl))) (fun h => ?_) (fun h => ?_)
      · rw [bsr_yes hlt h] at hb
        refine run_asg (d := .int (((lo + hi) / 2 : Nat) : Int)) (ev_var rfl) ?_
        refine run_nx (run_end (js := []) ⟨(lo + hi) / 2 - lo, by omega, lo, (lo + hi) / 2, _, rfl, by omega, by omega, hb, rfl⟩ rfl)
      · rw [bsr_no hlt h] at hb
        refine run_asg (d := .int (((lo + hi) / 2 + 1 : Nat) : Int)) (ev_op (ev_var rfl) ev_int rv_addI) ?_
        refine run_nx (run_end (js := []) ⟨hi - ((lo + hi) / 2 + 1), by omega, (lo + hi) / 2 + 1, hi, _, rfl, by omega, by omega, hb, rfl⟩ rfl)
    · have hlt : ¬ lo < hi := by have := of_decide_eq_false h; omega
      rw [bsr_end hlt] at hb
      rw [← hb] at k
      exact run_ret (ev_var rfl) k
theorem by_least_shareX {cv : Cv} {N : List Str} (hN : N.length = 5) : ∀ vs H Q E, sp_least_shareX K cv vs H Q E → t_least_shareX K cv (wOf E) { nx := fun _ H' => Q .non H', rt := Q } (L2.start N vs) H := body_X (t := fun E => t_least_shareX K cv (wOf E)) hN <| by
  rintro ds r ⟨C, e, w, rfl, hs, hc, ho, rfl⟩ O F Dn E hnx kr ke
  show Run K O F (t_least_shareX K cv (wOf E)) Dn [.im e, .im (wD w), .un, .un, .un]
  unfold t_least_shareX
  cases hg : wGood w with
  | false => exact run_dropE (er_callX (c := .wish) (ea_cons (ev_var rfl) ea_nil) ⟨w, rfl, ho, by unfold wishRes; rw [hg]; rfl⟩) (wish_def (ke .wish (shr_bad hg)))
  | true =>
  have k := kr _ (shr_good hg)
  refine run_drop (ev_callX (d := .none) (ea_cons (ev_var rfl) ea_nil) ⟨w, rfl, ho, by unfold wishRes; rw [hg]; rfl⟩) ?_
  obtain ⟨h0, hw⟩ := wR_ok hg ho
  rw [wD_good hg]
  generalize wR w = r at *
  have hf : ∀ {τ : List Sl} {te : TE} {x : Nat}, x ≤ 1000 → Ev K te (.im e :: .im (shD r) :: τ) (.int (x : Int)) → Ev K (tCall (sp_reached K) [] E0 (tCons (tCall (sp_all_tried K) [] E0 (tCons (tVar 0) (tCons te tNil))) (tCons (tVar 1) tNil))) (.im e :: .im (shD r) :: τ) (.bool (reachedC (allC (x : Int) C) r)) := fun hx h => ev_call (ea_cons (ev_callN (ea_cons (ev_var rfl) (ea_cons h ea_nil)) ⟨_, _, _, rfl, hs, hc, by omega, by omega, rfl⟩) (ea_cons (ev_var rfl) ea_nil)) ⟨_, _, _, rfl, .inl rfl, allC_ok hc (by omega) (by omega), hw, rfl⟩
  unfold leastShr least at k
  refine run_asg (d := .int ((0 : Nat) : Int)) ev_int ?_
  refine run_asg (d := .int ((1000 : Nat) : Int)) ev_int ?_
  refine run_if (b := !reachedC (allC ((1000 : Nat) : Int) C) r) (et_not (et_B (hf (x := 1000) (by decide) (ev_var rfl)))) (fun h => ?_) (fun h => ?_)
  · have h' : reachedC (allC ((1000 : Nat) : Int) C) r = false := by simpa using h
    rw [if_neg (fun z : reachedC (allC ((1000 : Nat) : Int) C) r = true => by rw [h'] at z; cases z)] at k
    exact run_ret ev_non k
  · have h' : reachedC (allC ((1000 : Nat) : Int) C) r = true := by simpa using h
    rw [if_pos h'] at k
    refine run_nx (run_while (W := fun m τ => ∃ (lo hi : Nat) (s : Sl), τ = [.im e, .im (shD r), .im (.int (lo : Int)), .im (.int (hi : Int)), s] ∧ lo ≤ hi ∧ hi ≤ 1000 ∧ bsr (fun x => reachedC (allC (x : Int) C) r) lo hi = bsr (fun x => reachedC (allC (x : Int) C) r) 0 1000 ∧ m = hi - lo) [] 1000 ⟨0, 1000, .un, rfl, by decide, by decide, rfl, rfl⟩ ?_)
    rintro G hG m τ ⟨lo, hi, s, rfl, hlh, hh, hb, rfl⟩
    refine ⟨decide ((lo : Int) < (hi : Int)), et_test (ev_op (ev_var rfl) (ev_var rfl) rv_lt), fun h => ?_, fun h => ?_⟩
    · have hlt : lo < hi := by have := of_decide_eq_true h; omega
      refine run_asg (d := .int (((lo + hi) / 2 : Nat) : Int)) (ev_to (ev_op (ev_op (ev_var rfl) (ev_var rfl) rv_addI) ev_int (rv_div (div_small (by decide) (by decide)))) (by congr 1)) ?_
      refine run_if (b := reachedC (allC (((lo + hi) / 2 : Nat) : Int) C) r) (et_B (hf (x := (lo + hi) / 2) (by omega) (ev_var rfl))) (fun h => ?_) (fun h => ?_)
      · rw [bsr_yes hlt h] at hb
        refine run_asg (d := .int (((lo + hi) / 2 : Nat) : Int)) (ev_var rfl) ?_
        refine run_nx (run_end (js := []) ⟨(lo + hi) / 2 - lo, by omega, lo, (lo + hi) / 2, _, rfl, by omega, by omega, hb, rfl⟩ rfl)
      · rw [bsr_no hlt h] at hb
        refine run_asg (d := .int (((lo + hi) / 2 + 1 : Nat) : Int)) (ev_op (ev_var rfl) ev_int rv_addI) ?_
        refine run_nx (run_end (js := []) ⟨hi - ((lo + hi) / 2 + 1), by omega, (lo + hi) / 2 + 1, hi, _, rfl, by omega, by omega, hb, rfl⟩ rfl)
    · have hlt : ¬ lo < hi := by have := of_decide_eq_false h; omega
      rw [bsr_end hlt] at hb
      rw [← hb] at k
      exact run_ret (ev_var rfl) k
theorem by_l_class {cv : Cv} (EF : EF_k13 K cv) {N : List Str} (hN : N.length = 2) : ∀ a cls vs H Q E, sp_l_class K cv a cls vs H Q E → t_l_class K cv a cls { nx := fun _ H' => Q .non H', rt := Q } (L2.start N vs) H := by
  rintro a cls vs H Q E ⟨O, c, dom, rfl, rfl, hcm, q⟩
  have hst : L2.start N [V.ref a] = [some (.ref a), none] := by unfold L2.start; rw [hN]; rfl
  rw [hst]
  suffices R : ∀ Dn : Ends, Dn.rt = Q → Run K O H (t_l_class K cv a (.ref (cv c))) Dn [.raw (.ref a), .un] from R _ rfl H _ (sok_held dom)
  intro Dn hDn
  have k : Ret K O H Dn.rt (toldD (.err c)) := hDn ▸ q
  unfold t_l_class
  have is : ∀ {τ : List Sl} (y : Cn), y ∈ M13 → τ[0]? = some (.raw (.ref a)) → Ev K (tCB (rIsP K a (.ref (cv c))) (tCons (tVar 0) (tCons (tC (.ref (cv y))) tNil))) τ (.bool (decide (c = y))) := fun y hy h => ev_isP h (EF.c c hcm) (.own _) (EF.k c y hcm hy)
  have h3 : c = .place ∨ c = .many ∨ c = .wish := by simpa using hcm
  refine run_asg (d := .list ([decide (c = .place), decide (c = .many), decide (c = .wish)].map PyData.bool)) (ev_lst (ea_cons (is .place (by decide) rfl) (ea_cons (is .many (by decide) rfl) (ea_cons (is .wish (by decide) rfl) ea_nil))) (by show 3 ≤ 100000; decide)) ?_
  have hcnt : (([decide (c = .place), decide (c = .many), decide (c = .wish)].countP fun y => decide (y = true) : Nat) : Int) = 1 := by rcases h3 with rfl | rfl | rfl <;> rfl
  have hin : true ∈ [decide (c = .place), decide (c = .many), decide (c = .wish)] := by rcases h3 with rfl | rfl | rfl <;> decide
  refine run_if (b := false || false) (et_or (et_B (ev_isPT rfl (EF.c c hcm) (cs := [.ref (cv .cap), .ref (cv .extra), .ref (cv .mark), .ref (cv .most)]) (fun σ H Q => rfl) (by show 4 ≤ 100000; decide) (.cons (.own _) (.cons (.own _) (.cons (.own _) (.cons (.own _) .nil)))) (kit_none EF hcm [.cap, .extra, .mark, .most] (by decide)))) fun _ => et_B (ev_isPT rfl (EF.c c hcm) (cs := [.ref (cv .step), .ref (cv .top), .ref (cv .weight), .ref (cv .worst)]) (fun σ H Q => rfl) (by show 4 ≤ 100000; decide) (.cons (.own _) (.cons (.own _) (.cons (.own _) (.cons (.own _) .nil)))) (kit_none EF hcm [.step, .top, .weight, .worst] (by decide)))) (fun h => by cases h) (fun h => ?_)
  refine run_nx (run_if (b := !true || false) (et_or (et_not (et_B (ev_isP rfl (EF.c c hcm) (.ty _) (EF.v c hcm)))) fun _ => et_test (ev_to (ev_op (ev_countB (ev_var rfl) ev_bl) ev_int rv_neI) (by rw [hcnt]; rfl))) (fun h => by cases h) (fun h => ?_))
  refine run_nx (run_ret (ev_tup (ea_cons (ev_op (d := .str (clsW c)) (ev_lst (ea_cons ev_str (ea_cons ev_str (ea_cons ev_str ea_nil))) (by show 3 ≤ 100000; decide)) (ev_indexB (ev_var rfl) ev_bl hin) (rv_ixL ?_)) ea_nil) (by show 1 ≤ 100000; decide)) k)
  rcases h3 with rfl | rfl | rfl <;> rfl
theorem ev_caught {cv : Cv} {τ : List Sl} {i : Nat} {a : Addr} {c : Cn} (h : τ[i]? = some (.raw (.ref a))) (hcm : c ∈ L13) : Ev K (tCallE (sp_l_class K cv) a (.ref (cv c)) none (tCons (tVar i) tNil)) τ (toldD (.err c)) := ev_callE fun O H σ s Q q => by
  show tVar i σ H (fun x H1 => sp_l_class K cv a (.ref (cv c)) [x] H1 Q E0)
  exact evr_raw h s ⟨O, c, s.dom, rfl, rfl, hcm, q⟩
theorem by_l_least {cv : Cv} (EF : EF_k13 K cv) {N : List Str} (hN : N.length = 3) : ∀ vs H Q E, sp_l_least K vs H Q E → t_l_least K cv { nx := fun _ H' => Q .non H', rt := Q } (L2.start N vs) H := body_R hN <| by
  rintro ds d ⟨C, e, w, rfl, hs, hc, ho, rfl⟩ O F Dn hnx k
  show Run K O F (t_l_least K cv) Dn [.im e, .im (wD w), .un]
  unfold t_l_least
  refine run_try ?_
  cases hr : shrRes C w with
  | ok d =>
    rw [hr] at k
    exact run_ret (ev_tup (ea_cons ev_str (ea_cons (ev_callX (d := d) (ea_cons (ev_var rfl) (ea_cons (ev_var rfl) ea_nil)) ⟨C, e, w, rfl, hs, hc, ho, hr.symm⟩) ea_nil)) (by show 2 ≤ 100000; decide)) k
  | err c =>
    rw [hr] at k
    have hcm := shrRes_err hr
    refine run_retE (er_tup (era_cons2 ev_str (era_cons1 (er_callX (c := c) (ea_cons (ev_var rfl) (ea_cons (ev_var rfl) ea_nil)) ⟨C, e, w, rfl, hs, hc, ho, hr.symm⟩)))) (wish_as (EF.g c hcm) fun a => ?_)
    exact run_ret (ev_caught rfl hcm) k
theorem by_l_points13 {cv : Cv} (EF : EF_k13 K cv) {N : List Str} (hN : N.length = 5) : ∀ vs H Q E, sp_l_points13 K vs H Q E → t_l_points13 K cv { nx := fun _ H' => Q .non H', rt := Q } (L2.start N vs) H := body_R hN <| by
  rintro ds d ⟨C, e, p, t, w, rfl, hs, hc, ho, rfl⟩ O F Dn hnx k
  show Run K O F (t_l_points13 K cv) Dn [.im e, .im (.int p), .im (.int t), .im (wD w), .un]
  unfold t_l_points13
  refine run_try ?_
  cases hr : ptsRes C p t w with
  | ok d =>
    rw [hr] at k
    exact run_ret (ev_tup (ea_cons ev_str (ea_cons (ev_callX (d := d) (ea_cons (ev_var rfl) (ea_cons (ev_var rfl) (ea_cons (ev_var rfl) (ea_cons (ev_var rfl) ea_nil)))) ⟨C, e, p, t, w, rfl, hs, hc, ho, hr.symm⟩) ea_nil)) (by show 2 ≤ 100000; decide)) k
  | err c =>
    rw [hr] at k
    have hcm := ptsRes_err hr
    refine run_retE (er_tup (era_cons2 ev_str (era_cons1 (er_callX (c := c) (ea_cons (ev_var rfl) (ea_cons (ev_var rfl) (ea_cons (ev_var rfl) (ea_cons (ev_var rfl) ea_nil)))) ⟨C, e, p, t, w, rfl, hs, hc, ho, hr.symm⟩)))) (wish_as (EF.g c hcm) fun a => ?_)
    exact run_ret (ev_caught rfl hcm) k
theorem by_l_stream13 {N : List Str} (hN : N.length = 6) : ∀ vs H Q E, sp_l_stream13 K vs H Q E → t_l_stream13 K { nx := fun _ H' => Q .non H', rt := Q } (L2.start N vs) H := body_N hN <| by
  rintro ds es ⟨c, n', rfl, h0, hl, rfl⟩ O F Dn k
  obtain ⟨n, rfl⟩ := Int.eq_ofNat_of_zero_le h0
  rw [Int.toNat_natCast] at k
  show Run K O F (t_l_stream13 K) Dn [.im (.int c), .im (.int (n : Int)), .un, .un, .un, .un]
  unfold t_l_stream13
  obtain ⟨b1, b2⟩ := c0_bd c
  have bd := sN_bd b1 b2
  refine run_asgN (en_lst ea_nil (by decide)) fun p => ?_
  refine run_asg (d := .int (c % 2147483647 + 48271)) (by walk_at "ev") ?_
  refine run_forR (n := (n : Int) + 1) [4, 5] (fun i τ => τ = [.im (.int c), .im (.int (n : Int)), .ow p ((List.range i).map fun (j : Nat) => PyData.int (sN (c % 2147483647 + 48271) (j + 1))), .im (.int (sN (c % 2147483647 + 48271) i)), .un, .un]) (by walk_at "ev") (by omega) rfl ?_ ?_
  · rintro G hG i τ' hi rfl
    dsimp only [List.set]
    have hb := bd i
    generalize hs : sN (c % 2147483647 + 48271) i = x at *
    refine run_asg (d := .int (x * x)) (by walk_at "ev") ?_
    refine run_asg (d := .int (sN (c % 2147483647 + 48271) (i + 1))) (ev_to (by walk_at "ev") (by show _ = PyData.int _; rw [sN, hs])) ?_
    refine run_app (d := .int (sN (c % 2147483647 + 48271) (i + 1))) rfl (by walk_at "ev") (by simp; omega) ?_
    refine run_end (js := [4, 5]) ?_ rfl
    rw [List.range_succ, List.map_append]
    rfl
  · rintro τ' rfl
    refine run_freeze (j := 2) rfl ?_
    refine run_retN (ds := (stream c n).map PyData.int) ?_ k
    have e : cutD ((List.range ((n : Int) + 1).toNat).map fun (j : Nat) => PyData.int (sN (c % 2147483647 + 48271) (j + 1))) (some (1 : Int)) none = (stream c n).map PyData.int := by
      rw [show (1 : Int) = ((1 : Nat) : Int) from rfl, cut_from, show ((1 : Nat) : Int) = 1 from rfl, show ((n : Int) + 1).toNat = n + 1 by omega]
      unfold stream
      rw [List.map_map, List.range_succ_eq_map, List.map_cons, List.drop_succ_cons, List.drop_zero, List.map_map]
      rfl
    rw [← e]
    exact en_slL (by walk_at "ev") (by walk_at "ev") (by walk_at "ev")
theorem by_l_number13 {N : List Str} (hN : N.length = 2) : ∀ vs H Q E, sp_l_number13 K vs H Q E → t_l_number13 K { nx := fun _ H' => Q .non H', rt := Q } (L2.start N vs) H := body_R hN <| by
  rintro ds d ⟨c, m, rfl, rfl⟩ O F Dn hnx k
  show Run K O F (t_l_number13 K) Dn [.im (.int c), .im (.int (m : Int))]
  unfold t_l_number13
  unfold num13 at k
  have e6 : ∀ {τ : List Sl}, Ev K (tOp rMod (tOp rDiv (tVar 0) (tC (.int 6))) (tC (.int 9))) (.im (.int c) :: τ) (.int (c / 6 % 9)) := ev_md (by decide) (ev_dv (by decide) (by decide) (ev_var rfl))
  refine run_if (b := decide (c % 3 = 0) || decide ((m : Int) = 0)) (et_or (et_test (ev_op (ev_md (by decide) (ev_var rfl)) ev_int rv_eqI)) fun _ => et_test (ev_op (ev_var rfl) ev_int rv_eqI)) (fun h => ?_) (fun h => ?_)
  · have h' : c % 3 = 0 ∨ (m : Int) = 0 := by simpa only [Bool.or_eq_true, decide_eq_true_eq] using h
    rw [if_pos h'] at k
    have e9 : ∀ {τ : List Sl}, Ev K (tOp rPow (tC (.int 10)) (tC (.int 9))) τ (.int 1000000000) := ev_to (ev_op ev_int ev_int (rv_pow ⟨by decide, by decide, by decide⟩)) (by rfl)
    refine run_ret (ev_op (ev_lst (ea_cons (ev_op (ev_neg ev_int) e6 rv_sub) (ea_cons (ev_op (ev_var rfl) e6 rv_addI) (ea_cons e9 (ea_cons (ev_neg e9) ea_nil)))) (by show 4 ≤ 100000; decide)) (ev_md (by decide) (ev_dv (by decide) (by decide) (ev_var rfl))) (rv_ixL ?_)) k
    have : c / 54 % 4 = 0 ∨ c / 54 % 4 = 1 ∨ c / 54 % 4 = 2 ∨ c / 54 % 4 = 3 := by omega
    rcases this with e | e | e | e <;> rw [e] <;> rfl
  · have h' : ¬ (c % 3 = 0 ∨ (m : Int) = 0) := fun z => by
      have : (decide (c % 3 = 0) || decide ((m : Int) = 0)) = true := by simpa only [Bool.or_eq_true, decide_eq_true_eq] using z
      rw [this] at h
      cases h
    rw [if_neg h'] at k
    exact run_nx (run_ret (ev_op (ev_dv (by decide) (by decide) (ev_var rfl)) (ev_var rfl) (rv_mod (by omega))) k)
theorem by_l_wish {N : List Str} (hN : N.length = 4) : ∀ vs H Q E, sp_l_wish K vs H Q E → t_l_wish K { nx := fun _ H' => Q .non H', rt := Q } (L2.start N vs) H := body_R hN <| by
  rintro ds d ⟨c, rfl, rfl⟩ O F Dn hnx k
  show Run K O F (t_l_wish K) Dn [.im (.int c), .un, .un, .un]
  unfold t_l_wish
  unfold wishAt at k
  have e0 : ∀ {τ : List Sl} {a b : Int}, Ev K (tTup (tCons (tC (.int a)) (tCons (tC (.int b)) tNil))) τ (wD (a, b)) := ev_tup (ea_cons ev_int (ea_cons ev_int ea_nil)) (by show 2 ≤ 100000; decide)
  have e2 : ∀ {τ : List Sl} {ta tb : TE} {a b : Int}, Ev K ta τ (.int a) → Ev K tb τ (.int b) → Ev K (tTup (tCons ta (tCons tb tNil))) τ (wD (a, b)) := fun ha hb => ev_tup (ea_cons ha (ea_cons hb ea_nil)) (by show 2 ≤ 100000; decide)
  refine run_asg (d := wD (wish0 c)) (ev_op (a := .list (wish7.map wD)) (ev_lst (ea_cons e0 (ea_cons e0 (ea_cons e0 (ea_cons e0 (ea_cons e0 (ea_cons e0 (ea_cons e0 ea_nil))))))) (by show 7 ≤ 100000; decide)) (ev_md (by decide) (ev_dv (by decide) (by decide) (ev_var rfl))) (rv_ixL (wish0_at c))) ?_
  obtain ⟨b1, b2, b3, b4⟩ := wish0_bd c
  generalize wish0 c = w at *
  refine run_if (b := decide (0 < c % 3)) (et_test (ev_op (ev_md (by decide) (ev_var rfl)) ev_int rv_gt)) (fun h => ?_) (fun h => ?_)
  · rw [if_pos (of_decide_eq_true h)] at k
    exact run_ret (ev_var rfl) k
  · rw [if_neg (of_decide_eq_false h)] at k
    have m9 := mod_bd (c / 21) (show (0 : Int) < 9 by decide)
    refine run_nx (run_asg (d := .int (2 + c / 21 % 9)) (ev_op ev_int (ev_md (by decide) (ev_dv (by decide) (by decide) (ev_var rfl))) rv_addI) ?_)
    generalize hy : 2 + c / 21 % 9 = y at *
    have y0 : ∀ {τ : List Sl} {s : Sl}, Ev K (tVar 2) (s :: .im (wD w) :: .im (.int y) :: τ) (.int y) := ev_var rfl
    have w0 : ∀ {τ : List Sl} {s : Sl}, Ev K (tOp (rIx K) (tVar 1) (tC (.int 0))) (s :: .im (wD w) :: .im (.int y) :: τ) (.int w.1) := ev_w0 (ev_var rfl)
    have w1 : ∀ {τ : List Sl} {s : Sl}, Ev K (tOp (rIx K) (tVar 1) (tC (.int 1))) (s :: .im (wD w) :: .im (.int y) :: τ) (.int w.2) := ev_w1 (ev_var rfl)
    refine run_asg (d := .list [wD (w.1 * y, w.2 * y), wD (w.1, 0), wD (w.1, -w.2), wD (-1 - w.1, w.2), wD (0, y)]) (ev_lst (ea_cons (e2 (ev_op w0 y0 (rv_mulI (CM.left (by omega) (by omega)))) (ev_op w1 y0 (rv_mulI (CM.left (by omega) (by omega))))) (ea_cons (e2 w0 ev_int) (ea_cons (e2 w0 (ev_neg w1)) (ea_cons (e2 (ev_op (ev_neg ev_int) w0 rv_sub) w1) (ea_cons (e2 ev_int y0) ea_nil))))) (by show 5 ≤ 100000; decide)) ?_
    refine run_ret (ev_op (ev_var rfl) (ev_md (by decide) (ev_dv (by decide) (by decide) (ev_var rfl))) (rv_ixL ?_)) k
    have : c / 21 % 5 = 0 ∨ c / 21 % 5 = 1 ∨ c / 21 % 5 = 2 ∨ c / 21 % 5 = 3 ∨ c / 21 % 5 = 4 := by omega
    rcases this with e | e | e | e | e <;> rw [e] <;> rfl
theorem by_l_wish_bad {N : List Str} (hN : N.length = 5) : ∀ vs H Q E, sp_l_wish_bad K vs H Q E → t_l_wish_bad K { nx := fun _ H' => Q .non H', rt := Q } (L2.start N vs) H := body_R hN <| by
  rintro ds d ⟨w, rfl, ho, rfl⟩ O F Dn hnx k
  show Run K O F (t_l_wish_bad K) Dn [.im (wD w), .un, .un, .un, .un]
  unfold t_l_wish_bad
  obtain ⟨a1, a2, b1, b2⟩ := ho
  refine run_asg2 (d1 := .int w.1) (d2 := .int w.2) (ev_var rfl) ?_
  refine run_if (b := decide (w.2 < 1) || decide (w.1 < 0)) (et_or (et_test (ev_op (ev_var rfl) ev_int rv_lt)) fun _ => et_test (ev_op (ev_var rfl) ev_int rv_lt)) (fun h => ?_) (fun h => ?_)
  · have h' : w.2 < 1 ∨ w.1 < 0 := by simpa only [Bool.or_eq_true, decide_eq_true_eq] using h
    have hg : wGood w = false := Bool.eq_false_iff.mpr fun z => by have := wGood_iff.mp z; omega
    rw [hg] at k
    exact run_ret ev_bl k
  · have h' : ¬ (w.2 < 1) ∧ ¬ (w.1 < 0) := by simpa only [Bool.or_eq_false_iff, decide_eq_false_iff_not] using h
    have hg : (!wGood w) = !decide (((Int.gcd w.1 w.2 : Nat) : Int) = 1) := by
      congr 1
      by_cases z : Int.gcd w.1 w.2 = 1
      · rw [wGood_iff.mpr ⟨by omega, by omega, z⟩, decide_eq_true (by omega)]
      · rw [Bool.eq_false_iff.mpr fun y => z (wGood_iff.mp y).2.2, decide_eq_false (by omega)]
    rw [hg] at k
    refine run_nx (run_asg (d := .int w.1) (ev_var rfl) ?_)
    refine run_asg (d := .int w.2) (ev_var rfl) ?_
    refine run_while (W := fun m τ => ∃ x y : Int, τ = [.im (wD w), .im (.int w.1), .im (.int w.2), .im (.int x), .im (.int y)] ∧ 0 ≤ x ∧ 0 ≤ y ∧ Int.gcd x y = Int.gcd w.1 w.2 ∧ m = y.toNat) [] w.2.toNat ⟨w.1, w.2, rfl, by omega, by omega, rfl, rfl⟩ ?_
    rintro G hG m τ ⟨x, y, rfl, hx, hy, hgc, rfl⟩
    refine ⟨decide (0 < y), et_test (ev_op (ev_var rfl) ev_int rv_gt), fun h => ?_, fun h => ?_⟩
    · have h0 : 0 < y := of_decide_eq_true h
      refine run_par (d1 := .int y) (d2 := .int (x % y)) (ea_cons (ev_var rfl) (ea_cons (ev_op (ev_var rfl) (ev_var rfl) (rv_mod h0)) ea_nil)) ?_
      exact run_end (js := []) ⟨(x % y).toNat, mod_lt h0, y, x % y, rfl, hy, Int.emod_nonneg _ (by omega), by rw [gcd_step x y hx hy, hgc], rfl⟩ rfl
    · have h0 : y = 0 := by
        have := of_decide_eq_false h
        omega
      subst h0
      rw [gcd_zero hx hgc] at k
      exact run_ret (ev_op (ev_var rfl) ev_int rv_neI) k
theorem rv_told (r : Res) : Rv K (rIx K) (toldD r) (.int 0) (.str (wordOf r)) := by
  cases r with
  | ok d => exact rv_ixT rfl
  | err c => exact rv_ixT rfl
theorem run_metR {O0 : List Addr} {F : Hp} {τ τ0 : List Sl} {n : L2.St → Hp → Prop} {c b rt} (hn : ∀ σ H, NX K O0 F (fun τ' => τ' = τ0) σ H → n σ H) (h : τ = τ0) : Run K O0 F tNext { nx := n, rt := rt, bk := b, ct := c } τ := fun H σ S => hn σ H ⟨τ, h, S⟩
theorem by_law_k13 {N : List Str} (hN : N.length = 8) : ∀ vs H Q E, sp_law_k13 K vs H Q E → t_law_k13 K { nx := fun _ H' => Q .non H', rt := Q } (L2.start N vs) H := body_R hN <| by
  rintro ds d ⟨ns, rfl, hl, rfl⟩ O F Dn hnx k
  show Run K O F (t_law_k13 K) Dn [.im (.list (ns.map PyData.int)), .un, .un, .un, .un, .un, .un, .un]
  unfold t_law_k13
  have cl : ∀ {τ : List Sl} {i : Int}, Ev K (tCall (sp_l_cell_at K) [] E0 (tCons (tVar 0) (tCons (tC (.int i)) tNil))) (.im (.list (ns.map PyData.int)) :: τ) (.int (cell ns i)) := ev_call (ea_cons (ev_var rfl) (ea_cons ev_int ea_nil)) ⟨_, _, rfl, hl, rfl⟩
  have hc := courseBy_ok (ns := ns) (f := 2) (k := 3) (by decide)
  refine run_asg (d := .list ((courseBy ns 2 3).map Part.d)) (ev_callN (ea_cons (ev_var rfl) (ea_cons ev_int (ea_cons ev_int ea_nil))) ⟨_, _, 3, rfl, hl, by decide, rfl⟩) ?_
  generalize courseBy ns 2 3 = C at *
  have hcn := hc.n
  refine run_asg (d := .int (num13 (cell ns 8) (C.length : Int))) (ev_call (ea_cons cl (ea_cons (ev_to (ev_cb (ea_cons (ev_var rfl) ea_nil) rc_lenL) (by rw [List.length_map])) ea_nil)) ⟨_, C.length, rfl, rfl⟩) ?_
  generalize num13 (cell ns 8) (C.length : Int) = p at *
  refine run_asg (d := .tuple []) (ev_tup ea_nil (by decide)) ?_
  refine run_join (b := decide (0 ≤ p ∧ p < (C.length : Int))) (fun τ => τ = [.im (.list (ns.map PyData.int)), .im (.list (C.map Part.d)), .im (.int p), .im (.tuple ((tasksAt C p).map Task.d)), .un, .un, .un, .un]) (et_test (ev_rngD (ev_var rfl) (ev_to (ev_cb (ea_cons (ev_var rfl) ea_nil) rc_lenL) (by rw [List.length_map])))) (fun h n hn => ?_) (fun h n hn => ?_) ?_
  · have h' := of_decide_eq_true h
    have hT : tasksAt C p = (C.getD p.toNat dP).tasks := if_pos h'
    rw [hT] at hn
    obtain ⟨i, rfl⟩ := Int.eq_ofNat_of_zero_le h'.1
    have hP : C[i]? = some (C.getD i dP) := by
      rw [List.getD_eq_getElem?_getD, List.getElem?_eq_getElem (show i < C.length by omega)]
      rfl
    rw [Int.toNat_natCast] at hn
    refine run_asg (d := .tuple ((C.getD i dP).tasks.map Task.d)) (ev_pk (ev_cix (ev_var rfl) (.inl rfl) (ev_var rfl) hP)) ?_
    exact run_metR hn rfl
  · have h' := of_decide_eq_false h
    have hT : tasksAt C p = [] := if_neg h'
    rw [hT] at hn
    exact run_metR hn rfl
  rintro τ' rfl
  refine run_asg (d := .int (num13 (cell ns 9) ((tasksAt C p).length : Int))) (ev_call (ea_cons cl (ea_cons (ev_to (ev_cb (ea_cons (ev_var rfl) ea_nil) rc_lenT) (by rw [List.length_map])) ea_nil)) ⟨_, (tasksAt C p).length, rfl, rfl⟩) ?_
  generalize num13 (cell ns 9) ((tasksAt C p).length : Int) = t at *
  refine run_asg (d := wD (wishAt (cell ns 10))) (ev_call (ea_cons cl ea_nil) ⟨_, rfl, rfl⟩) ?_
  have ho := wishAt_ok (cell ns 10)
  generalize wishAt (cell ns 10) = w at *
  have hpw := pts_word (C := C) (p := p) (t := t) (w := w)
  generalize tasksAt C p = T at *
  refine run_asg (d := .str "told") ev_str ?_
  refine run_ifAsg (b := !wGood w) (d := .str "wish") (et_B (ev_call (ea_cons (ev_var rfl) ea_nil) ⟨w, rfl, ho, rfl⟩)) rfl (fun _ => ev_str) ?_
  have hw : (if (!wGood w) = true then PyData.str "wish" else .str "told") = .str (wordOf (shrRes C w)) := by
    rw [shr_word]
    cases wGood w <;> rfl
  rw [hw]
  have least : ∀ {τ : List Sl} {s : Sl} {tw : TE} {v : Wi}, WOk v → Ev K tw (s :: .im (.list (C.map Part.d)) :: τ) (wD v) → Ev K (tCall (sp_l_least K) [] E0 (tCons (tCB (rList K) (tCons (tVar 1) tNil)) (tCons tw tNil))) (s :: .im (.list (C.map Part.d)) :: τ) (toldD (shrRes C v)) := fun hv h => ev_call (ea_cons (ev_cb (ea_cons (ev_var rfl) ea_nil) rc_listL') (ea_cons h ea_nil)) ⟨C, _, _, rfl, .inl rfl, hc, hv, rfl⟩
  refine run_if (b := false) (et_test (ev_op (ev_op (least ho (ev_var rfl)) ev_int (rv_told _)) (ev_var rfl) (rv_neS (shp_word _) (by decide)))) (fun h => by cases h) (fun h => run_nx ?_)
  refine run_join (b := !decide (0 ≤ t ∧ t < (T.length : Int))) (fun τ => τ = [.im (.list (ns.map PyData.int)), .im (.list (C.map Part.d)), .im (.int p), .im (.tuple (T.map Task.d)), .im (.int t), .im (wD w), .im (.str (wordOf (ptsRes C p t w))), .un]) (et_not (et_test (ev_rngD (ev_var rfl) (ev_to (ev_cb (ea_cons (ev_var rfl) ea_nil) rc_lenT) (by rw [List.length_map]))))) (fun h n hn => ?_) (fun h n hn => ?_) ?_
  · have h' : ¬ (0 ≤ t ∧ t < (T.length : Int)) := by simpa only [Bool.not_eq_true', decide_eq_false_iff_not] using h
    rw [if_neg h'] at hpw
    rw [hpw] at hn
    exact run_asg (d := .str "place") ev_str (run_metR hn rfl)
  · have h' : 0 ≤ t ∧ t < (T.length : Int) := by simpa only [Bool.not_eq_false', decide_eq_true_eq] using h
    rw [if_pos h'] at hpw
    have ha : ∀ {τ : List Sl} {s1 s2 s3 : Sl}, Ev K (tOp (rIx K) (tVar 3) (tVar 4)) (s1 :: s2 :: s3 :: .im (.tuple (T.map Task.d)) :: .im (.int t) :: τ) (T.getD t.toNat default).d := ev_op (ev_var rfl) (ev_var rfl) (rv_ixT (at_atI (P := ⟨0, 0, 0, T, []⟩) h'.1 h'.2))
    refine run_if (b := decide (11 < ((T.getD t.toNat default).tries.length : Int))) (et_test (ev_op (ev_to (ev_cb (ea_cons (ev_tt (t := T.getD t.toNat default) ha) ea_nil) rc_lenT) (by rw [List.length_map])) ev_int rv_gt)) (fun h2 => ?_) (fun h2 => ?_)
    · rw [if_pos (of_decide_eq_true h2)] at hpw
      rw [hpw] at hn
      exact run_asg (d := .str "many") ev_str (run_nx (run_metR hn rfl))
    · rw [if_neg (of_decide_eq_false h2)] at hpw
      rw [hpw] at hn
      exact run_nx (run_metR hn rfl)
  rintro τ' rfl
  have h12 : wGood (1, 2) = true := by decide
  have o12 : WOk (1, 2) := ⟨by decide, by decide, by decide, by decide⟩
  have e12 : ∀ {τ : List Sl}, Ev K (tTup (tCons (tC (.int 1)) (tCons (tC (.int 2)) tNil))) τ (wD (1, 2)) := ev_tup (ea_cons ev_int (ea_cons ev_int ea_nil)) (by show 2 ≤ 100000; decide)
  refine run_asg (d := toldD (shrRes C (1, 2))) (least o12 e12) ?_
  have ht : PyData.str (wordOf (shrRes C (1, 2))) = .str "told" := by rw [shr_good h12]; rfl
  refine run_if (b := false || false) (et_or (et_test (ev_op (ev_to (ev_op (ev_var rfl) ev_int (rv_told _)) ht) ev_str (rv_neS (n := 0) (shp_str (by decide +kernel)) (by decide)))) fun _ => et_test (ev_op (ev_op (ev_call (d := toldD (ptsRes C p t w)) (ea_cons (ev_cb (ea_cons (ev_var rfl) ea_nil) rc_listL') (ea_cons (ev_var rfl) (ea_cons (ev_var rfl) (ea_cons (ev_var rfl) ea_nil)))) ⟨C, _, p, t, w, rfl, .inl rfl, hc, ho, rfl⟩) ev_int (rv_told _)) (ev_var rfl) (rv_neS (shp_word _) (by decide)))) (fun h => by cases h) (fun h => run_nx ?_)
  exact run_ret (ev_op (least o12 e12) (ev_var rfl) (rv_eqS shp_toldShr (by decide))) k

end GW

namespace GW
open PySem PySem.Spec PyProof.Rows L2
/-! ### the text -/
def topS (i : Nat) : Stmt := PySem.Challenge.pw_gradewish_k13_wishes_refused.main.body.getD i (.Pass ⟨0, 0, 0, 0⟩)
abbrev s_divisor : Stmt := topS 15
abbrev N_divisor : List Str := ["one", "other", "rest"]
abbrev p_divisor : List Str := ["one", "other"]
theorem sc_divisor : FnScope N_divisor p_divisor (defScope s_divisor) := ⟨rfl, rfl, rfl, by decide +kernel, rfl, by decide +kernel, by decide +kernel⟩
abbrev s_share : Stmt := topS 16
abbrev N_share : List Str := ["top", "bottom", "by"]
abbrev p_share : List Str := ["top", "bottom"]
theorem sc_share : FnScope N_share p_share (defScope s_share) := ⟨rfl, rfl, rfl, by decide +kernel, rfl, by decide +kernel, by decide +kernel⟩
abbrev s_plus : Stmt := topS 17
abbrev N_plus : List Str := ["one", "other"]
abbrev p_plus : List Str := ["one", "other"]
theorem sc_plus : FnScope N_plus p_plus (defScope s_plus) := ⟨rfl, rfl, rfl, by decide +kernel, rfl, by decide +kernel, by decide +kernel⟩
abbrev s_times : Stmt := topS 18
abbrev N_times : List Str := ["one", "number", "over"]
abbrev p_times : List Str := ["one", "number", "over"]
theorem sc_times : FnScope N_times p_times (defScope s_times) := ⟨rfl, rfl, rfl, by decide +kernel, rfl, by decide +kernel, by decide +kernel⟩
abbrev s_less : Stmt := topS 19
abbrev N_less : List Str := ["one", "other"]
abbrev p_less : List Str := ["one", "other"]
theorem sc_less : FnScope N_less p_less (defScope s_less) := ⟨rfl, rfl, rfl, by decide +kernel, rfl, by decide +kernel, by decide +kernel⟩
abbrev s_gives : Stmt := topS 21
abbrev N_gives : List Str := ["task", "found", "points"]
abbrev p_gives : List Str := ["task"]
theorem sc_gives : FnScope N_gives p_gives (defScope s_gives) := ⟨rfl, rfl, rfl, by decide +kernel, rfl, by decide +kernel, by decide +kernel⟩
abbrev s_mark : Stmt := topS 22
abbrev N_mark : List Str := ["task"]
abbrev p_mark : List Str := ["task"]
theorem sc_mark : FnScope N_mark p_mark (defScope s_mark) := ⟨rfl, rfl, rfl, by decide +kernel, rfl, by decide +kernel, by decide +kernel⟩
abbrev s_marked : Stmt := topS 25
abbrev N_marked : List Str := ["part", "number"]
abbrev p_marked : List Str := ["part"]
theorem sc_marked : FnScope N_marked p_marked (defScope s_marked) := ⟨rfl, rfl, rfl, by decide +kernel, rfl, by decide +kernel, by decide +kernel⟩
abbrev s_mean : Stmt := topS 26
abbrev N_mean : List Str := ["part", "numbers", "total", "weights", "number", "task"]
abbrev p_mean : List Str := ["part", "numbers"]
theorem sc_mean : FnScope N_mean p_mean (defScope s_mean) := ⟨rfl, rfl, rfl, by decide +kernel, rfl, by decide +kernel, by decide +kernel⟩
abbrev s_choices : Stmt := topS 27
abbrev N_choices : List Str := ["numbers", "many", "ways", "turn", "longer", "way", "number"]
abbrev p_choices : List Str := ["numbers", "many"]
theorem sc_choices : FnScope N_choices p_choices (defScope s_choices) := ⟨rfl, rfl, rfl, by decide +kernel, rfl, by decide +kernel, by decide +kernel⟩
abbrev s_left_out : Stmt := topS 28
abbrev N_left_out : List Str := ["part", "numbers", "many", "best", "most", "way", "kept", "here", "number"]
abbrev p_left_out : List Str := ["part"]
theorem sc_left_out : FnScope N_left_out p_left_out (defScope s_left_out) := ⟨rfl, rfl, rfl, by decide +kernel, rfl, by decide +kernel, by decide +kernel⟩
abbrev s_part_share : Stmt := topS 29
abbrev N_part_share : List Str := ["part", "left", "kept", "extra", "found", "number"]
abbrev p_part_share : List Str := ["part"]
theorem sc_part_share : FnScope N_part_share p_part_share (defScope s_part_share) := ⟨rfl, rfl, rfl, by decide +kernel, rfl, by decide +kernel, by decide +kernel⟩
abbrev s_grade : Stmt := topS 31
abbrev N_grade : List Str := ["course", "total", "weights", "part", "here"]
abbrev p_grade : List Str := ["course"]
theorem sc_grade : FnScope N_grade p_grade (defScope s_grade) := ⟨rfl, rfl, rfl, by decide +kernel, rfl, by decide +kernel, by decide +kernel⟩
abbrev s_with_try : Stmt := topS 34
abbrev N_with_try : List Str := ["part", "number", "points", "tasks", "task"]
abbrev p_with_try : List Str := ["part", "number", "points"]
theorem sc_with_try : FnScope N_with_try p_with_try (defScope s_with_try) := ⟨rfl, rfl, rfl, by decide +kernel, rfl, by decide +kernel, by decide +kernel⟩
abbrev s_tried : Stmt := topS 35
abbrev N_tried : List Str := ["course", "part", "task", "points", "found"]
abbrev p_tried : List Str := ["course", "part", "task", "points"]
theorem sc_tried : FnScope N_tried p_tried (defScope s_tried) := ⟨rfl, rfl, rfl, by decide +kernel, rfl, by decide +kernel, by decide +kernel⟩
abbrev s_reached : Stmt := topS 36
abbrev N_reached : List Str := ["course", "wish", "here"]
abbrev p_reached : List Str := ["course", "wish"]
theorem sc_reached : FnScope N_reached p_reached (defScope s_reached) := ⟨rfl, rfl, rfl, by decide +kernel, rfl, by decide +kernel, by decide +kernel⟩
abbrev s_need_wishX : Stmt := topS 37
abbrev N_need_wishX : List Str := ["wish"]
abbrev p_need_wishX : List Str := ["wish"]
theorem sc_need_wishX : FnScope N_need_wishX p_need_wishX (defScope s_need_wishX) := ⟨rfl, rfl, rfl, by decide +kernel, rfl, by decide +kernel, by decide +kernel⟩
abbrev s_need_placeX : Stmt := topS 38
abbrev N_need_placeX : List Str := ["course", "part", "task"]
abbrev p_need_placeX : List Str := ["course", "part", "task"]
theorem sc_need_placeX : FnScope N_need_placeX p_need_placeX (defScope s_need_placeX) := ⟨rfl, rfl, rfl, by decide +kernel, rfl, by decide +kernel, by decide +kernel⟩
abbrev s_least_pointsX : Stmt := topS 39
abbrev N_least_pointsX : List Str := ["course", "part", "task", "wish", "low", "high", "here"]
abbrev p_least_pointsX : List Str := ["course", "part", "task", "wish"]
theorem sc_least_pointsX : FnScope N_least_pointsX p_least_pointsX (defScope s_least_pointsX) := ⟨rfl, rfl, rfl, by decide +kernel, rfl, by decide +kernel, by decide +kernel⟩
abbrev s_all_tried : Stmt := topS 40
abbrev N_all_tried : List Str := ["course", "thousandths", "found", "number", "place", "task", "points"]
abbrev p_all_tried : List Str := ["course", "thousandths"]
theorem sc_all_tried : FnScope N_all_tried p_all_tried (defScope s_all_tried) := ⟨rfl, rfl, rfl, by decide +kernel, rfl, by decide +kernel, by decide +kernel⟩
abbrev s_least_shareX : Stmt := topS 41
abbrev N_least_shareX : List Str := ["course", "wish", "low", "high", "here"]
abbrev p_least_shareX : List Str := ["course", "wish"]
theorem sc_least_shareX : FnScope N_least_shareX p_least_shareX (defScope s_least_shareX) := ⟨rfl, rfl, rfl, by decide +kernel, rfl, by decide +kernel, by decide +kernel⟩
abbrev s_l_cell_at : Stmt := topS 43
abbrev N_l_cell_at : List Str := ["_law_script", "_law_k"]
abbrev p_l_cell_at : List Str := ["_law_script", "_law_k"]
theorem sc_l_cell_at : FnScope N_l_cell_at p_l_cell_at (defScope s_l_cell_at) := ⟨rfl, rfl, rfl, by decide +kernel, rfl, by decide +kernel, by decide +kernel⟩
abbrev s_l_stream13 : Stmt := topS 44
abbrev N_l_stream13 : List Str := ["_law_cell", "_law_many", "_law_found", "_law_number_here", "_law_k", "_law_square"]
abbrev p_l_stream13 : List Str := ["_law_cell", "_law_many"]
theorem sc_l_stream13 : FnScope N_l_stream13 p_l_stream13 (defScope s_l_stream13) := ⟨rfl, rfl, rfl, by decide +kernel, rfl, by decide +kernel, by decide +kernel⟩
abbrev s_l_task_by : Stmt := topS 45
abbrev N_l_task_by : List Str := ["_law_xs", "_law_weight", "_law_most", "_law_cap", "_law_many", "_law_tries", "_law_k"]
abbrev p_l_task_by : List Str := ["_law_xs"]
theorem sc_l_task_by : FnScope N_l_task_by p_l_task_by (defScope s_l_task_by) := ⟨rfl, rfl, rfl, by decide +kernel, rfl, by decide +kernel, by decide +kernel⟩
abbrev s_l_part_by : Stmt := topS 46
abbrev N_l_part_by : List Str := ["_law_cell", "_law_most_tasks", "_law_xs", "_law_weight", "_law_top", "_law_tasks", "_law_k", "_law_extras"]
abbrev p_l_part_by : List Str := ["_law_cell", "_law_most_tasks"]
theorem sc_l_part_by : FnScope N_l_part_by p_l_part_by (defScope s_l_part_by) := ⟨rfl, rfl, rfl, by decide +kernel, rfl, by decide +kernel, by decide +kernel⟩
abbrev s_l_course_by : Stmt := topS 47
abbrev N_l_course_by : List Str := ["_law_script", "_law_first", "_law_most_tasks", "_law_many", "_law_k"]
abbrev p_l_course_by : List Str := ["_law_script", "_law_first", "_law_most_tasks"]
theorem sc_l_course_by : FnScope N_l_course_by p_l_course_by (defScope s_l_course_by) := ⟨rfl, rfl, rfl, by decide +kernel, rfl, by decide +kernel, by decide +kernel⟩
abbrev s_l_class : Stmt := topS 48
abbrev N_l_class : List Str := ["_law_e", "_law_some"]
abbrev p_l_class : List Str := ["_law_e"]
theorem sc_l_class : FnScope N_l_class p_l_class (defScope s_l_class) := ⟨rfl, rfl, rfl, by decide +kernel, rfl, by decide +kernel, by decide +kernel⟩
abbrev s_l_points13 : Stmt := topS 49
abbrev N_l_points13 : List Str := ["_law_course", "_law_part", "_law_task", "_law_wish_here", "_law_e"]
abbrev p_l_points13 : List Str := ["_law_course", "_law_part", "_law_task", "_law_wish_here"]
theorem sc_l_points13 : FnScope N_l_points13 p_l_points13 (defScope s_l_points13) := ⟨rfl, rfl, rfl, by decide +kernel, rfl, by decide +kernel, by decide +kernel⟩
abbrev s_l_least : Stmt := topS 50
abbrev N_l_least : List Str := ["_law_course", "_law_wish_here", "_law_e"]
abbrev p_l_least : List Str := ["_law_course", "_law_wish_here"]
theorem sc_l_least : FnScope N_l_least p_l_least (defScope s_l_least) := ⟨rfl, rfl, rfl, by decide +kernel, rfl, by decide +kernel, by decide +kernel⟩
abbrev s_l_wish : Stmt := topS 51
abbrev N_l_wish : List Str := ["_law_cell", "_law_wish_here", "_law_by", "_law_wrong"]
abbrev p_l_wish : List Str := ["_law_cell"]
theorem sc_l_wish : FnScope N_l_wish p_l_wish (defScope s_l_wish) := ⟨rfl, rfl, rfl, by decide +kernel, rfl, by decide +kernel, by decide +kernel⟩
abbrev s_l_wish_bad : Stmt := topS 52
abbrev N_l_wish_bad : List Str := ["_law_wish_here", "_law_top", "_law_bottom", "_law_one", "_law_other"]
abbrev p_l_wish_bad : List Str := ["_law_wish_here"]
theorem sc_l_wish_bad : FnScope N_l_wish_bad p_l_wish_bad (defScope s_l_wish_bad) := ⟨rfl, rfl, rfl, by decide +kernel, rfl, by decide +kernel, by decide +kernel⟩
abbrev s_l_number13 : Stmt := topS 53
abbrev N_l_number13 : List Str := ["_law_cell", "_law_many"]
abbrev p_l_number13 : List Str := ["_law_cell", "_law_many"]
theorem sc_l_number13 : FnScope N_l_number13 p_l_number13 (defScope s_l_number13) := ⟨rfl, rfl, rfl, by decide +kernel, rfl, by decide +kernel, by decide +kernel⟩
abbrev s_law_k13 : Stmt := topS 54
abbrev N_law_k13 : List Str := ["_law_script", "_law_course", "_law_part", "_law_tasks", "_law_task", "_law_wish_here", "_law_due", "_law_good"]
abbrev p_law_k13 : List Str := ["_law_script"]
theorem sc_law_k13 : FnScope N_law_k13 p_law_k13 (defScope s_law_k13) := ⟨rfl, rfl, rfl, by decide +kernel, rfl, by decide +kernel, by decide +kernel⟩
section
variable {P : Program} {w : World} {K : PySem.W.Frag} {mg : Str → Option Value} {base : Heap}
theorem ok_divisor {f : Addr} {fd : FuncData} (F : Fun K "divisor" "divisor" s_divisor f fd) (hm : mg "divisor" = some (.ref f)) : Fn P w K mg base "divisor" p_divisor 1 (sp_divisor K) := by
  refine ⟨f, fd, F.ok sc_divisor (fun vs H Q E h => (by first | exact len_R h | exact len_N h)) (fun cdv A outer s H vs Q E hr h => ⟨t_divisor K, ?_, by_divisor rfl vs H Q E h⟩), hm, F.kp, F.binds (ps := p_divisor) fun _ _ _ _ _ _ us hl => match us, hl with | [_, _], _ => rfl⟩
  unfold t_divisor
  exact (pss_cons (ps_while PassesOwn.never (pt_cmpR op_gtK (pv 1) pe_int (nomark _)) (pss_cons (ps_set (i := 2) sc_divisor.nd rfl (by first | exact .inl rfl | exact .inr rfl) (pe_op op_modK (pv 0) (pv 1)))
 (pss_cons (ps_set (i := 0) sc_divisor.nd rfl (by first | exact .inl rfl | exact .inr rfl) (pv 1))
 (pss_cons (ps_set (i := 1) sc_divisor.nd rfl (by first | exact .inl rfl | exact .inr rfl) (pv 2))
 pss_nil))))
 (pss_cons (ps_ret (pv 0))
 pss_nil))
theorem ok_share (G_divisor : Fn P w K mg base "divisor" p_divisor 1 (sp_divisor K)) (z_abs : mg "abs" = none) {f : Addr} {fd : FuncData} (F : Fun K "share" "share" s_share f fd) (hm : mg "share" = some (.ref f)) : Fn P w K mg base "share" p_share 2 (sp_share K) := by
  refine ⟨f, fd, F.ok sc_share (fun vs H Q E h => (by first | exact len_R h | exact len_N h)) (fun cdv A outer s H vs Q E hr h => ⟨t_share K, ?_, by_share rfl vs H Q E h⟩), hm, F.kp, F.binds (ps := p_share) fun _ _ _ _ _ _ us hl => match us, hl with | [_, _], _ => rfl⟩
  unfold t_share
  exact (pss_cons (ps_set (i := 2) sc_share.nd rfl (by first | exact .inl rfl | exact .inr rfl) (pe_fn G_divisor (hr.mono (by decide)) (pa_cons (pe_callB cl_abs (by rfl) z_abs (by decide +kernel) (pa_cons (pv 0) pa_nil)) (pa_cons (pv 1) pa_nil))))
 (pss_cons (ps_ret (pe_tup (pa_cons (pe_op op_divK (pv 0) (pv 2)) (pa_cons (pe_op op_divK (pv 1) (pv 2)) pa_nil))))
 pss_nil))
theorem ok_plus (G_share : Fn P w K mg base "share" p_share 2 (sp_share K)) {f : Addr} {fd : FuncData} (F : Fun K "plus" "plus" s_plus f fd) (hm : mg "plus" = some (.ref f)) : Fn P w K mg base "plus" p_plus 3 (sp_plus K) := by
  refine ⟨f, fd, F.ok sc_plus (fun vs H Q E h => (by first | exact len_R h | exact len_N h)) (fun cdv A outer s H vs Q E hr h => ⟨t_plus K, ?_, by_plus rfl vs H Q E h⟩), hm, F.kp, F.binds (ps := p_plus) fun _ _ _ _ _ _ us hl => match us, hl with | [_, _], _ => rfl⟩
  unfold t_plus
  exact (pss_cons (ps_ret (pe_fn G_share (hr.mono (by decide)) (pa_cons (pe_op op_addK (pe_op op_mulK (pe_ix ix_seq (pv 0) pe_int (fun _ _ => rfl)) (pe_ix ix_seq (pv 1) pe_int (fun _ _ => rfl))) (pe_op op_mulK (pe_ix ix_seq (pv 1) pe_int (fun _ _ => rfl)) (pe_ix ix_seq (pv 0) pe_int (fun _ _ => rfl)))) (pa_cons (pe_op op_mulK (pe_ix ix_seq (pv 0) pe_int (fun _ _ => rfl)) (pe_ix ix_seq (pv 1) pe_int (fun _ _ => rfl))) pa_nil))))
 pss_nil)
theorem ok_times (G_share : Fn P w K mg base "share" p_share 2 (sp_share K)) {f : Addr} {fd : FuncData} (F : Fun K "times" "times" s_times f fd) (hm : mg "times" = some (.ref f)) : Fn P w K mg base "times" p_times 3 (sp_times K) := by
  refine ⟨f, fd, F.ok sc_times (fun vs H Q E h => (by first | exact len_R h | exact len_N h)) (fun cdv A outer s H vs Q E hr h => ⟨t_times K, ?_, by_times rfl vs H Q E h⟩), hm, F.kp, F.binds (ps := p_times) fun _ _ _ _ _ _ us hl => match us, hl with | [_, _, _], _ => rfl⟩
  unfold t_times
  exact (pss_cons (ps_ret (pe_fn G_share (hr.mono (by decide)) (pa_cons (pe_op op_mulK (pe_ix ix_seq (pv 0) pe_int (fun _ _ => rfl)) (pv 1)) (pa_cons (pe_op op_mulK (pe_ix ix_seq (pv 0) pe_int (fun _ _ => rfl)) (pv 2)) pa_nil))))
 pss_nil)
theorem ok_less {f : Addr} {fd : FuncData} (F : Fun K "less" "less" s_less f fd) (hm : mg "less" = some (.ref f)) : Fn P w K mg base "less" p_less 1 (sp_less K) := by
  refine ⟨f, fd, F.ok sc_less (fun vs H Q E h => (by first | exact len_R h | exact len_N h)) (fun cdv A outer s H vs Q E hr h => ⟨t_less K, ?_, by_less rfl vs H Q E h⟩), hm, F.kp, F.binds (ps := p_less) fun _ _ _ _ _ _ us hl => match us, hl with | [_, _], _ => rfl⟩
  unfold t_less
  exact (pss_cons (ps_ret (pe_cmpR op_ltK (pe_op op_mulK (pe_ix ix_seq (pv 0) pe_int (fun _ _ => rfl)) (pe_ix ix_seq (pv 1) pe_int (fun _ _ => rfl))) (pe_op op_mulK (pe_ix ix_seq (pv 1) pe_int (fun _ _ => rfl)) (pe_ix ix_seq (pv 0) pe_int (fun _ _ => rfl))) (nomark _)))
 pss_nil)
theorem ok_gives (z_list : mg "list" = none) (z_min : mg "min" = none) {f : Addr} {fd : FuncData} (F : Fun K "gives" "gives" s_gives f fd) (hm : mg "gives" = some (.ref f)) : Fn P w K mg base "gives" p_gives 1 (sp_gives K) := by
  refine ⟨f, fd, F.ok sc_gives (fun vs H Q E h => (by first | exact len_R h | exact len_N h)) (fun cdv A outer s H vs Q E hr h => ⟨t_gives K, ?_, by_gives rfl vs H Q E h⟩), hm, F.kp, F.binds (ps := p_gives) fun _ _ _ _ _ _ us hl => match us, hl with | [_], _ => rfl⟩
  unfold t_gives
  exact (pss_cons (ps_set (i := 1) sc_gives.nd rfl (by first | exact .inl rfl | exact .inr rfl) (pe_callTy cl_list (by rfl) z_list (by decide +kernel) (pa_cons (pe_slice sl_K (pe_ix ix_seq (pv 0) pe_int (fun _ _ => rfl)) po_none (po_some pe_int)) pa_nil)))
 (pss_cons (ps_for PassesOwn.never rfl (pi_seq (pe_slice sl_K (pe_ix ix_seq (pv 0) pe_int (fun _ _ => rfl)) (po_some pe_int) po_none)) (pg_name (i := 2) sc_gives.nd rfl (by first | exact .inl rfl | exact .inr rfl)) (pss_cons (ps_expr (pe_bm PySem.F.plainAttrs_list PySem.F.slot_list_append PySem.F.type_list_append mt_append (pv 1) (pa_cons (pe_callB (cl_min2 rfl) (by rfl) z_min (by decide +kernel) (pa_cons (pv 2) (pa_cons (pe_ix ix_seq (pv 0) pe_int (fun _ _ => rfl)) pa_nil))) pa_nil)))
 pss_nil))
 (pss_cons (ps_ret (pv 1))
 pss_nil)))
theorem ok_mark (G_gives : Fn P w K mg base "gives" p_gives 1 (sp_gives K)) (z_max : mg "max" = none) {f : Addr} {fd : FuncData} (F : Fun K "mark" "mark" s_mark f fd) (hm : mg "mark" = some (.ref f)) : Fn P w K mg base "mark" p_mark 2 (sp_mark K) := by
  refine ⟨f, fd, F.ok sc_mark (fun vs H Q E h => (by first | exact len_R h | exact len_N h)) (fun cdv A outer s H vs Q E hr h => ⟨t_mark K, ?_, by_mark rfl vs H Q E h⟩), hm, F.kp, F.binds (ps := p_mark) fun _ _ _ _ _ _ us hl => match us, hl with | [_], _ => rfl⟩
  unfold t_mark
  exact (pss_cons (ps_ret (pe_callBK (cl_maxD rfl hr.units) (by rfl) z_max (by decide +kernel) (pa_cons (pe_fn G_gives (hr.mono (by decide)) (pa_cons (pv 0) pa_nil)) pa_nil) (pk_cons pe_non pk_nil)))
 pss_nil)
theorem ok_marked (G_mark : Fn P w K mg base "mark" p_mark 2 (sp_mark K)) (z_len : mg "len" = none) (z_range : mg "range" = none) {f : Addr} {fd : FuncData} (F : Fun K "marked" "marked" s_marked f fd) (hm : mg "marked" = some (.ref f)) : Fn P w K mg base "marked" p_marked 3 (sp_marked K) := by
  refine ⟨f, fd, F.ok sc_marked (fun vs H Q E h => (by first | exact len_R h | exact len_N h)) (fun cdv A outer s H vs Q E hr h => ⟨t_marked K, ?_, by_marked rfl vs H Q E h⟩), hm, F.kp, F.binds (ps := p_marked) fun _ _ _ _ _ _ us hl => match us, hl with | [_], _ => rfl⟩
  unfold t_marked
  exact (pss_cons (ps_ret (pe_lc (own := [("number", 1)]) (g := (gName 1)) (tt := (tTest (tOp rNot (tCall (sp_mark K) [] E0 (tCons (tOp (rIx K) (tOp (rIx K) (tVar 0) (tC (.int 3))) (tVar 1)) tNil)) (tC .non)))) rfl sc_marked.nd (pi_range1 rfl z_range (pa_cons (pe_callB cl_len (by rfl) z_len PySem.boot_len (pa_cons (pe_ix ix_seq (pv 0) pe_int (fun _ _ => rfl)) pa_nil)) pa_nil)) (blkOk_by (N := N_marked) (sc := defScope s_marked) (by decide +kernel)) (fun _ _ _ _ _ => (pg_name (i := 1) sc_marked.nd rfl (by first | exact .inl rfl | exact .inr rfl))) (fun _ _ _ _ _ => (pts_one (pt_cmpR op_notK (pe_fn G_mark (hr.mono (by decide)) (pa_cons (pe_ix ix_seq (pe_ix ix_seq (pv 0) pe_int (fun _ _ => rfl)) (pv 1) (fun _ _ => rfl)) pa_nil)) pe_non (nomark _)))) (fun _ _ _ _ _ => (pv 1))))
 pss_nil)
theorem ok_mean (G_share : Fn P w K mg base "share" p_share 2 (sp_share K)) (G_plus : Fn P w K mg base "plus" p_plus 3 (sp_plus K)) (G_mark : Fn P w K mg base "mark" p_mark 2 (sp_mark K)) {f : Addr} {fd : FuncData} (F : Fun K "mean" "mean" s_mean f fd) (hm : mg "mean" = some (.ref f)) : Fn P w K mg base "mean" p_mean 4 (sp_mean K) := by
  refine ⟨f, fd, F.ok sc_mean (fun vs H Q E h => (by first | exact len_R h | exact len_N h)) (fun cdv A outer s H vs Q E hr h => ⟨t_mean K, ?_, by_mean rfl vs H Q E h⟩), hm, F.kp, F.binds (ps := p_mean) fun _ _ _ _ _ _ us hl => match us, hl with | [_, _], _ => rfl⟩
  unfold t_mean
  exact (pss_cons (ps_set (i := 2) sc_mean.nd rfl (by first | exact .inl rfl | exact .inr rfl) (pe_tup (pa_cons pe_int (pa_cons pe_int pa_nil))))
 (pss_cons (ps_set (i := 3) sc_mean.nd rfl (by first | exact .inl rfl | exact .inr rfl) pe_int)
 (pss_cons (ps_for PassesOwn.never rfl (pi_seq (pv 1)) (pg_name (i := 4) sc_mean.nd rfl (by first | exact .inl rfl | exact .inr rfl)) (pss_cons (ps_set (i := 5) sc_mean.nd rfl (by first | exact .inl rfl | exact .inr rfl) (pe_ix ix_seq (pe_ix ix_seq (pv 0) pe_int (fun _ _ => rfl)) (pv 4) (fun _ _ => rfl)))
 (pss_cons (ps_set (i := 2) sc_mean.nd rfl (by first | exact .inl rfl | exact .inr rfl) (pe_fn G_plus (hr.mono (by decide)) (pa_cons (pv 2) (pa_cons (pe_fn G_share (hr.mono (by decide)) (pa_cons (pe_op op_mulK (pe_ix ix_seq (pv 5) pe_int (fun _ _ => rfl)) (pe_fn G_mark (hr.mono (by decide)) (pa_cons (pv 5) pa_nil))) (pa_cons (pe_ix ix_seq (pv 5) pe_int (fun _ _ => rfl)) pa_nil))) pa_nil))))
 (pss_cons (ps_set (i := 3) sc_mean.nd rfl (by first | exact .inl rfl | exact .inr rfl) (pe_op op_addK (pv 3) (pe_ix ix_seq (pv 5) pe_int (fun _ _ => rfl))))
 pss_nil))))
 (pss_cons (ps_ret (pe_fn G_share (hr.mono (by decide)) (pa_cons (pe_ix ix_seq (pv 2) pe_int (fun _ _ => rfl)) (pa_cons (pe_op op_mulK (pe_ix ix_seq (pv 2) pe_int (fun _ _ => rfl)) (pv 3)) pa_nil))))
 pss_nil))))
theorem ok_choices (z_range : mg "range" = none) {f : Addr} {fd : FuncData} (F : Fun K "choices" "choices" s_choices f fd) (hm : mg "choices" = some (.ref f)) : Fn P w K mg base "choices" p_choices 1 (sp_choices K) := by
  refine ⟨f, fd, F.ok sc_choices (fun vs H Q E h => (by first | exact len_R h | exact len_N h)) (fun cdv A outer s H vs Q E hr h => ⟨t_choices K, ?_, by_choices rfl vs H Q E h⟩), hm, F.kp, F.binds (ps := p_choices) fun _ _ _ _ _ _ us hl => match us, hl with | [_, _], _ => rfl⟩
  unfold t_choices
  exact (pss_cons (ps_set (i := 2) sc_choices.nd rfl (by first | exact .inl rfl | exact .inr rfl) (pe_lst (pa_cons (pe_tup pa_nil) pa_nil)))
 (pss_cons (ps_for PassesOwn.never rfl (pi_range1 rfl z_range (pa_cons (pv 1) pa_nil)) (pg_name (i := 3) sc_choices.nd rfl (by first | exact .inl rfl | exact .inr rfl)) (pss_cons (ps_set (i := 4) sc_choices.nd rfl (by first | exact .inl rfl | exact .inr rfl) (pe_lst pa_nil))
 (pss_cons (ps_for PassesOwn.never rfl (pi_seq (pv 2)) (pg_name (i := 5) sc_choices.nd rfl (by first | exact .inl rfl | exact .inr rfl)) (pss_cons (ps_for PassesOwn.never rfl (pi_seq (pv 0)) (pg_name (i := 6) sc_choices.nd rfl (by first | exact .inl rfl | exact .inr rfl)) (pss_cons (ps_if (PW.pt (pw_or (pt_cmpR (op_eqD hr.units) (pv 5) (pe_tup pa_nil) (nomark _)) (pw_or1 (pt_cmpR op_gtK (pv 6) (pe_ix ix_seq (pv 5) (pe_un un_neg pe_int) (fun _ _ => rfl)) (nomark _))))) (pss_cons (ps_expr (pe_bm PySem.F.plainAttrs_list PySem.F.slot_list_append PySem.F.type_list_append mt_append (pv 4) (pa_cons (pe_op op_addK (pv 5) (pe_tup (pa_cons (pv 6) pa_nil))) pa_nil)))
 pss_nil) pss_nil)
 pss_nil))
 pss_nil))
 (pss_cons (ps_set (i := 2) sc_choices.nd rfl (by first | exact .inl rfl | exact .inr rfl) (pv 4))
 pss_nil))))
 (pss_cons (ps_ret (pv 2))
 pss_nil)))
theorem ok_left_out (G_less : Fn P w K mg base "less" p_less 1 (sp_less K)) (G_marked : Fn P w K mg base "marked" p_marked 3 (sp_marked K)) (G_mean : Fn P w K mg base "mean" p_mean 4 (sp_mean K)) (G_choices : Fn P w K mg base "choices" p_choices 1 (sp_choices K)) (z_len : mg "len" = none) (z_max : mg "max" = none) (z_min : mg "min" = none) {f : Addr} {fd : FuncData} (F : Fun K "left_out" "left_out" s_left_out f fd) (hm : mg "left_out" = some (.ref f)) : Fn P w K mg base "left_out" p_left_out 5 (sp_left_out K) := by
  refine ⟨f, fd, F.ok sc_left_out (fun vs H Q E h => (by first | exact len_R h | exact len_N h)) (fun cdv A outer s H vs Q E hr h => ⟨t_left_out K, ?_, by_left_out rfl vs H Q E h⟩), hm, F.kp, F.binds (ps := p_left_out) fun _ _ _ _ _ _ us hl => match us, hl with | [_], _ => rfl⟩
  unfold t_left_out
  exact (pss_cons (ps_set (i := 1) sc_left_out.nd rfl (by first | exact .inl rfl | exact .inr rfl) (pe_fn G_marked (hr.mono (by decide)) (pa_cons (pv 0) pa_nil)))
 (pss_cons (ps_set (i := 2) sc_left_out.nd rfl (by first | exact .inl rfl | exact .inr rfl) (pe_callB (cl_max2 rfl) (by rfl) z_max (by decide +kernel) (pa_cons pe_int (pa_cons (pe_callB (cl_min2 rfl) (by rfl) z_min (by decide +kernel) (pa_cons (pe_ix ix_seq (pv 0) pe_int (fun _ _ => rfl)) (pa_cons (pe_op op_subK (pe_callB cl_len (by rfl) z_len PySem.boot_len (pa_cons (pv 1) pa_nil)) pe_int) pa_nil))) pa_nil))))
 (pss_cons (ps_set (i := 3) sc_left_out.nd rfl (by first | exact .inl rfl | exact .inr rfl) (pe_tup pa_nil))
 (pss_cons (ps_set (i := 4) sc_left_out.nd rfl (by first | exact .inl rfl | exact .inr rfl) pe_non)
 (pss_cons (ps_for PassesOwn.never rfl (pi_seq (pe_fn G_choices (hr.mono (by decide)) (pa_cons (pv 1) (pa_cons (pv 2) pa_nil)))) (pg_name (i := 5) sc_left_out.nd rfl (by first | exact .inl rfl | exact .inr rfl)) (pss_cons (ps_setLc (i := 6) (own := [("number", 8)]) (g := (gName 8)) (tt := (tTest (tOp (rIn K true) (tVar 8) (tVar 5)))) rfl sc_left_out.nd rfl rfl (sw_true rfl rfl rfl (by decide +kernel)) (pi_seq (pv 1)) (blkOk_by (N := N_left_out) (sc := defScope s_left_out) (by decide +kernel)) (fun _ _ _ _ _ => (pg_name (i := 8) sc_left_out.nd rfl (by first | exact .inl rfl | exact .inr rfl))) (fun _ _ _ _ _ => (pts_one (pt_cmpR op_notIn_seq (pv 8) (pv 5) (by rfl)))) (fun _ _ _ _ _ => (pv 8)))
 (pss_cons (ps_if (pt_cmpR op_gtK (pe_callB cl_len (by rfl) z_len PySem.boot_len (pa_cons (pv 6) pa_nil)) pe_int (nomark _)) (pss_cons (ps_set (i := 7) sc_left_out.nd rfl (by first | exact .inl rfl | exact .inr rfl) (pe_fn G_mean (hr.mono (by decide)) (pa_cons (pv 0) (pa_cons (pv 6) pa_nil))))
 (pss_cons (ps_if (PW.pt (pw_or (pt_cmpR op_isK (pv 4) pe_non (nomark _)) (pw_or1 (pt_val (pe_fn G_less (hr.mono (by decide)) (pa_cons (pv 4) (pa_cons (pv 7) pa_nil))))))) (pss_cons (ps_set (i := 3) sc_left_out.nd rfl (by first | exact .inl rfl | exact .inr rfl) (pv 5))
 (pss_cons (ps_set (i := 4) sc_left_out.nd rfl (by first | exact .inl rfl | exact .inr rfl) (pv 7))
 pss_nil)) pss_nil)
 pss_nil)) pss_nil)
 pss_nil)))
 (pss_cons (ps_ret (pv 3))
 pss_nil))))))
theorem ok_part_share (G_share : Fn P w K mg base "share" p_share 2 (sp_share K)) (G_plus : Fn P w K mg base "plus" p_plus 3 (sp_plus K)) (G_less : Fn P w K mg base "less" p_less 1 (sp_less K)) (G_marked : Fn P w K mg base "marked" p_marked 3 (sp_marked K)) (G_mean : Fn P w K mg base "mean" p_mean 4 (sp_mean K)) (G_left_out : Fn P w K mg base "left_out" p_left_out 5 (sp_left_out K)) (z_len : mg "len" = none) (z_min : mg "min" = none) (z_sum : mg "sum" = none) {tk_THOUSAND_parts : Tok} (m_THOUSAND_parts : mg "THOUSAND_parts" = some (.int 1000 tk_THOUSAND_parts)) {f : Addr} {fd : FuncData} (F : Fun K "part_share" "part_share" s_part_share f fd) (hm : mg "part_share" = some (.ref f)) : Fn P w K mg base "part_share" p_part_share 6 (sp_part_share K) := by
  refine ⟨f, fd, F.ok sc_part_share (fun vs H Q E h => (by first | exact len_R h | exact len_N h)) (fun cdv A outer s H vs Q E hr h => ⟨t_part_share K, ?_, by_part_share rfl vs H Q E h⟩), hm, F.kp, F.binds (ps := p_part_share) fun _ _ _ _ _ _ us hl => match us, hl with | [_], _ => rfl⟩
  unfold t_part_share
  exact (pss_cons (ps_set (i := 1) sc_part_share.nd rfl (by first | exact .inl rfl | exact .inr rfl) (pe_fn G_left_out (hr.mono (by decide)) (pa_cons (pv 0) pa_nil)))
 (pss_cons (ps_setLc (i := 2) (own := [("number", 5)]) (g := (gName 5)) (tt := (tTest (tOp (rIn K true) (tVar 5) (tVar 1)))) rfl sc_part_share.nd rfl rfl (sw_true rfl rfl rfl (by decide +kernel)) (pi_seq (pe_fn G_marked (hr.mono (by decide)) (pa_cons (pv 0) pa_nil))) (blkOk_by (N := N_part_share) (sc := defScope s_part_share) (by decide +kernel)) (fun _ _ _ _ _ => (pg_name (i := 5) sc_part_share.nd rfl (by first | exact .inl rfl | exact .inr rfl))) (fun _ _ _ _ _ => (pts_one (pt_cmpR op_notIn_seq (pv 5) (pv 1) (by rfl)))) (fun _ _ _ _ _ => (pv 5)))
 (pss_cons (ps_if (pt_cmpR (op_eqD hr.units) (pe_callB cl_len (by rfl) z_len PySem.boot_len (pa_cons (pv 2) pa_nil)) pe_int (nomark _)) (pss_cons (ps_ret pe_non)
 pss_nil) pss_nil)
 (pss_cons (ps_set (i := 3) sc_part_share.nd rfl (by first | exact .inl rfl | exact .inr rfl) (pe_fn G_share (hr.mono (by decide)) (pa_cons (pe_callB (cl_min2 rfl) (by rfl) z_min (by decide +kernel) (pa_cons (pe_ix ix_seq (pv 0) pe_int (fun _ _ => rfl)) (pa_cons (pe_callB (cl_sum rfl) (by rfl) z_sum (by decide +kernel) (pa_cons (pe_ix ix_seq (pv 0) pe_int (fun _ _ => rfl)) pa_nil)) pa_nil))) (pa_cons (pe_glob rfl m_THOUSAND_parts ⟨_, rfl⟩) pa_nil))))
 (pss_cons (ps_set (i := 4) sc_part_share.nd rfl (by first | exact .inl rfl | exact .inr rfl) (pe_fn G_plus (hr.mono (by decide)) (pa_cons (pe_fn G_mean (hr.mono (by decide)) (pa_cons (pv 0) (pa_cons (pv 2) pa_nil))) (pa_cons (pv 3) pa_nil))))
 (pss_cons (ps_if (pt_val (pe_fn G_less (hr.mono (by decide)) (pa_cons (pe_tup (pa_cons pe_int (pa_cons pe_int pa_nil))) (pa_cons (pv 4) pa_nil)))) (pss_cons (ps_ret (pe_tup (pa_cons pe_int (pa_cons pe_int pa_nil))))
 pss_nil) pss_nil)
 (pss_cons (ps_ret (pv 4))
 pss_nil)))))))
theorem ok_grade (G_share : Fn P w K mg base "share" p_share 2 (sp_share K)) (G_plus : Fn P w K mg base "plus" p_plus 3 (sp_plus K)) (G_times : Fn P w K mg base "times" p_times 3 (sp_times K)) (G_part_share : Fn P w K mg base "part_share" p_part_share 6 (sp_part_share K)) {f : Addr} {fd : FuncData} (F : Fun K "grade" "grade" s_grade f fd) (hm : mg "grade" = some (.ref f)) : Fn P w K mg base "grade" p_grade 7 (sp_grade K) := by
  refine ⟨f, fd, F.ok sc_grade (fun vs H Q E h => (by first | exact len_R h | exact len_N h)) (fun cdv A outer s H vs Q E hr h => ⟨t_grade K, ?_, by_grade rfl vs H Q E h⟩), hm, F.kp, F.binds (ps := p_grade) fun _ _ _ _ _ _ us hl => match us, hl with | [_], _ => rfl⟩
  unfold t_grade
  exact (pss_cons (ps_set (i := 1) sc_grade.nd rfl (by first | exact .inl rfl | exact .inr rfl) (pe_tup (pa_cons pe_int (pa_cons pe_int pa_nil))))
 (pss_cons (ps_set (i := 2) sc_grade.nd rfl (by first | exact .inl rfl | exact .inr rfl) pe_int)
 (pss_cons (ps_for PassesOwn.never rfl (pi_seq (pv 0)) (pg_name (i := 3) sc_grade.nd rfl (by first | exact .inl rfl | exact .inr rfl)) (pss_cons (ps_set (i := 4) sc_grade.nd rfl (by first | exact .inl rfl | exact .inr rfl) (pe_fn G_part_share (hr.mono (by decide)) (pa_cons (pv 3) pa_nil)))
 (pss_cons (ps_if (pt_cmpR op_notK (pv 4) pe_non (nomark _)) (pss_cons (ps_set (i := 1) sc_grade.nd rfl (by first | exact .inl rfl | exact .inr rfl) (pe_fn G_plus (hr.mono (by decide)) (pa_cons (pv 1) (pa_cons (pe_fn G_times (hr.mono (by decide)) (pa_cons (pv 4) (pa_cons (pe_ix ix_seq (pv 3) pe_int (fun _ _ => rfl)) (pa_cons pe_int pa_nil)))) pa_nil))))
 (pss_cons (ps_set (i := 2) sc_grade.nd rfl (by first | exact .inl rfl | exact .inr rfl) (pe_op op_addK (pv 2) (pe_ix ix_seq (pv 3) pe_int (fun _ _ => rfl))))
 pss_nil)) pss_nil)
 pss_nil)))
 (pss_cons (ps_if (pt_cmpR (op_eqD hr.units) (pv 2) pe_int (nomark _)) (pss_cons (ps_ret pe_non)
 pss_nil) pss_nil)
 (pss_cons (ps_ret (pe_fn G_share (hr.mono (by decide)) (pa_cons (pe_ix ix_seq (pv 1) pe_int (fun _ _ => rfl)) (pa_cons (pe_op op_mulK (pe_ix ix_seq (pv 1) pe_int (fun _ _ => rfl)) (pv 2)) pa_nil))))
 pss_nil)))))
theorem ok_with_try (z_list : mg "list" = none) (z_tuple : mg "tuple" = none) {f : Addr} {fd : FuncData} (F : Fun K "with_try" "with_try" s_with_try f fd) (hm : mg "with_try" = some (.ref f)) : Fn P w K mg base "with_try" p_with_try 1 (sp_with_try K) := by
  refine ⟨f, fd, F.ok sc_with_try (fun vs H Q E h => (by first | exact len_R h | exact len_N h)) (fun cdv A outer s H vs Q E hr h => ⟨t_with_try K, ?_, by_with_try rfl vs H Q E h⟩), hm, F.kp, F.binds (ps := p_with_try) fun _ _ _ _ _ _ us hl => match us, hl with | [_, _, _], _ => rfl⟩
  unfold t_with_try
  exact (pss_cons (ps_set (i := 3) sc_with_try.nd rfl (by first | exact .inl rfl | exact .inr rfl) (pe_callTy cl_list (by rfl) z_list (by decide +kernel) (pa_cons (pe_ix ix_seq (pv 0) pe_int (fun _ _ => rfl)) pa_nil)))
 (pss_cons (ps_set (i := 4) sc_with_try.nd rfl (by first | exact .inl rfl | exact .inr rfl) (pe_ix ix_seq (pv 3) (pv 1) (fun _ _ => rfl)))
 (pss_cons (ps_asg (pe_tup (pa_cons (pe_ix ix_seq (pv 4) pe_int (fun _ _ => rfl)) (pa_cons (pe_ix ix_seq (pv 4) pe_int (fun _ _ => rfl)) (pa_cons (pe_ix ix_seq (pv 4) pe_int (fun _ _ => rfl)) (pa_cons (pe_op op_addK (pe_callTy cl_tuple (by rfl) z_tuple (by decide +kernel) (pa_cons (pe_ix ix_seq (pv 4) pe_int (fun _ _ => rfl)) pa_nil)) (pe_tup (pa_cons (pv 2) pa_nil))) pa_nil))))) (pg_sub (pv 3) (pv 1) set_list))
 (pss_cons (ps_ret (pe_tup (pa_cons (pe_ix ix_seq (pv 0) pe_int (fun _ _ => rfl)) (pa_cons (pe_ix ix_seq (pv 0) pe_int (fun _ _ => rfl)) (pa_cons (pe_ix ix_seq (pv 0) pe_int (fun _ _ => rfl)) (pa_cons (pe_callTy cl_tuple (by rfl) z_tuple (by decide +kernel) (pa_cons (pv 3) pa_nil)) (pa_cons (pe_ix ix_seq (pv 0) pe_int (fun _ _ => rfl)) pa_nil)))))))
 pss_nil))))
theorem ok_tried (G_with_try : Fn P w K mg base "with_try" p_with_try 1 (sp_with_try K)) (z_list : mg "list" = none) {f : Addr} {fd : FuncData} (F : Fun K "tried" "tried" s_tried f fd) (hm : mg "tried" = some (.ref f)) : Fn P w K mg base "tried" p_tried 2 (sp_tried K) := by
  refine ⟨f, fd, F.ok sc_tried (fun vs H Q E h => (by first | exact len_R h | exact len_N h)) (fun cdv A outer s H vs Q E hr h => ⟨t_tried K, ?_, by_tried rfl vs H Q E h⟩), hm, F.kp, F.binds (ps := p_tried) fun _ _ _ _ _ _ us hl => match us, hl with | [_, _, _, _], _ => rfl⟩
  unfold t_tried
  exact (pss_cons (ps_set (i := 4) sc_tried.nd rfl (by first | exact .inl rfl | exact .inr rfl) (pe_callTy cl_list (by rfl) z_list (by decide +kernel) (pa_cons (pv 0) pa_nil)))
 (pss_cons (ps_asg (pe_fn G_with_try (hr.mono (by decide)) (pa_cons (pe_ix ix_seq (pv 4) (pv 1) (fun _ _ => rfl)) (pa_cons (pv 2) (pa_cons (pv 3) pa_nil)))) (pg_sub (pv 4) (pv 1) set_list))
 (pss_cons (ps_ret (pv 4))
 pss_nil)))
theorem ok_reached (G_less : Fn P w K mg base "less" p_less 1 (sp_less K)) (G_grade : Fn P w K mg base "grade" p_grade 7 (sp_grade K)) {f : Addr} {fd : FuncData} (F : Fun K "reached" "reached" s_reached f fd) (hm : mg "reached" = some (.ref f)) : Fn P w K mg base "reached" p_reached 8 (sp_reached K) := by
  refine ⟨f, fd, F.ok sc_reached (fun vs H Q E h => (by first | exact len_R h | exact len_N h)) (fun cdv A outer s H vs Q E hr h => ⟨t_reached K, ?_, by_reached rfl vs H Q E h⟩), hm, F.kp, F.binds (ps := p_reached) fun _ _ _ _ _ _ us hl => match us, hl with | [_, _], _ => rfl⟩
  unfold t_reached
  exact (pss_cons (ps_set (i := 2) sc_reached.nd rfl (by first | exact .inl rfl | exact .inr rfl) (pe_fn G_grade (hr.mono (by decide)) (pa_cons (pv 0) pa_nil)))
 (pss_cons (ps_ret (pe_and (pe_cmpR op_notK (pv 2) pe_non (nomark _)) (pe_one (pe_not (pe_fn G_less (hr.mono (by decide)) (pa_cons (pv 2) (pa_cons (pv 1) pa_nil)))))))
 pss_nil))
theorem ok_need_wishX {cv : Cv} (G_share : Fn P w K mg base "share" p_share 2 (sp_share K)) (g_BadWish : mg "BadWish" = some (.ref (cv .wish))) (x_BadWish : PySem.W.excIn K (cv .wish) [.type "ValueError", .type "Exception", .type "BaseException", .type "object"] "ValueError.__new__" = true) (k_BadWish : PySem.W.keepIn K (.ref (cv .wish)) = true) (b_BadWish : PySem.W.subIn K (.ref (cv .wish)) (.type "BaseException") = some true) (t_BadWish : PySem.W.typeIn K (.ref (cv .wish)) = some (.type "type")) {f : Addr} {fd : FuncData} (F : Fun K "need_wish" "need_wish" s_need_wishX f fd) (hm : mg "need_wish" = some (.ref f)) : FnX P w K mg base "need_wish" p_need_wishX 3 (sp_need_wishX K cv) := by
  refine ⟨f, fd, F.okX sc_need_wishX (fun vs H Q E h => len_X h) (fun cdv A outer s H vs Q E hr h => ⟨t_need_wishX K cv (wOf E), ?_, by_need_wishX rfl vs H Q E h⟩), hm, F.kp, F.binds (ps := p_need_wishX) fun _ _ _ _ _ _ us hl => match us, hl with | [_], _ => rfl⟩
  unfold t_need_wishX
  exact (pss_cons (ps_if (PW.pt (pw_or (pt_cmpR op_ltK (pe_ix ix_seq (pv 0) pe_int (fun _ _ => rfl)) pe_int (nomark _)) (pw_or (pt_cmpR op_ltK (pe_ix ix_seq (pv 0) pe_int (fun _ _ => rfl)) pe_int (nomark _)) (pw_or1 (pt_cmpR (op_neD hr.units) (pe_fn G_share (hr.mono (by decide)) (pa_cons (pe_ix ix_seq (pv 0) pe_int (fun _ _ => rfl)) (pa_cons (pe_ix ix_seq (pv 0) pe_int (fun _ _ => rfl)) pa_nil))) (pv 0) (nomark _)))))) (pss_cons (ps_raise rfl (takes_of (E := E) rfl rfl rfl rfl) (pmk_own PySem.F.excBase_ValueError x_BadWish g_BadWish k_BadWish (raises_own b_BadWish t_BadWish) (by exact rfl)))
 pss_nil) pss_nil)
 pss_nil)
theorem ok_need_placeX {cv : Cv} (z_len : mg "len" = none) {tk_MOST_TRIES : Tok} (m_MOST_TRIES : mg "MOST_TRIES" = some (.int 12 tk_MOST_TRIES)) (g_BadPlace : mg "BadPlace" = some (.ref (cv .place))) (g_TooMany : mg "TooMany" = some (.ref (cv .many))) (x_BadPlace : PySem.W.excIn K (cv .place) [.type "ValueError", .type "Exception", .type "BaseException", .type "object"] "ValueError.__new__" = true) (k_BadPlace : PySem.W.keepIn K (.ref (cv .place)) = true) (b_BadPlace : PySem.W.subIn K (.ref (cv .place)) (.type "BaseException") = some true) (t_BadPlace : PySem.W.typeIn K (.ref (cv .place)) = some (.type "type")) (x_TooMany : PySem.W.excIn K (cv .many) [.type "ValueError", .type "Exception", .type "BaseException", .type "object"] "ValueError.__new__" = true) (k_TooMany : PySem.W.keepIn K (.ref (cv .many)) = true) (b_TooMany : PySem.W.subIn K (.ref (cv .many)) (.type "BaseException") = some true) (t_TooMany : PySem.W.typeIn K (.ref (cv .many)) = some (.type "type")) {f : Addr} {fd : FuncData} (F : Fun K "need_place" "need_place" s_need_placeX f fd) (hm : mg "need_place" = some (.ref f)) : FnX P w K mg base "need_place" p_need_placeX 1 (sp_need_placeX K cv) := by
  refine ⟨f, fd, F.okX sc_need_placeX (fun vs H Q E h => len_X h) (fun cdv A outer s H vs Q E hr h => ⟨t_need_placeX K cv (wOf E), ?_, by_need_placeX rfl vs H Q E h⟩), hm, F.kp, F.binds (ps := p_need_placeX) fun _ _ _ _ _ _ us hl => match us, hl with | [_, _, _], _ => rfl⟩
  unfold t_need_placeX
  exact (pss_cons (ps_if (PW.pt (pw_or (pt_not (pt_chain op_leK op_ltK pe_int (pv 1) (pe_callB cl_len (by rfl) z_len PySem.boot_len (pa_cons (pv 0) pa_nil)))) (pw_or1 (pt_not (pt_chain op_leK op_ltK pe_int (pv 2) (pe_callB cl_len (by rfl) z_len PySem.boot_len (pa_cons (pe_ix ix_seq (pe_ix ix_seq (pv 0) (pv 1) (fun _ _ => rfl)) pe_int (fun _ _ => rfl)) pa_nil))))))) (pss_cons (ps_raise rfl (takes_of (E := E) rfl rfl rfl rfl) (pmk_own PySem.F.excBase_ValueError x_BadPlace g_BadPlace k_BadPlace (raises_own b_BadPlace t_BadPlace) (by exact rfl)))
 pss_nil) pss_nil)
 (pss_cons (ps_if (pt_cmpR op_geK (pe_callB cl_len (by rfl) z_len PySem.boot_len (pa_cons (pe_ix ix_seq (pe_ix ix_seq (pe_ix ix_seq (pe_ix ix_seq (pv 0) (pv 1) (fun _ _ => rfl)) pe_int (fun _ _ => rfl)) (pv 2) (fun _ _ => rfl)) pe_int (fun _ _ => rfl)) pa_nil)) (pe_glob rfl m_MOST_TRIES ⟨_, rfl⟩) (nomark _)) (pss_cons (ps_raise rfl (takes_of (E := E) rfl rfl rfl rfl) (pmk_own PySem.F.excBase_ValueError x_TooMany g_TooMany k_TooMany (raises_own b_TooMany t_TooMany) (by exact rfl)))
 pss_nil) pss_nil)
 pss_nil))
theorem ok_least_pointsX {cv : Cv} (G_tried : Fn P w K mg base "tried" p_tried 2 (sp_tried K)) (G_reached : Fn P w K mg base "reached" p_reached 8 (sp_reached K)) (G_need_wishX : FnX P w K mg base "need_wish" p_need_wishX 3 (sp_need_wishX K cv)) (G_need_placeX : FnX P w K mg base "need_place" p_need_placeX 1 (sp_need_placeX K cv)) {f : Addr} {fd : FuncData} (F : Fun K "least_points" "least_points" s_least_pointsX f fd) (hm : mg "least_points" = some (.ref f)) : FnX P w K mg base "least_points" p_least_pointsX 9 (sp_least_pointsX K cv) := by
  refine ⟨f, fd, F.okX sc_least_pointsX (fun vs H Q E h => len_X h) (fun cdv A outer s H vs Q E hr h => ⟨t_least_pointsX K cv (wOf E), ?_, by_least_pointsX rfl vs H Q E h⟩), hm, F.kp, F.binds (ps := p_least_pointsX) fun _ _ _ _ _ _ us hl => match us, hl with | [_, _, _, _], _ => rfl⟩
  unfold t_least_pointsX
  exact (pss_cons (ps_expr (pe_fnX G_need_placeX (hr.mono (by decide)) (takes_of (E := E) rfl rfl rfl rfl) (pa_cons (pv 0) (pa_cons (pv 1) (pa_cons (pv 2) pa_nil)))))
 (pss_cons (ps_expr (pe_fnX G_need_wishX (hr.mono (by decide)) (takes_of (E := E) rfl rfl rfl rfl) (pa_cons (pv 3) pa_nil)))
 (pss_cons (ps_set (i := 4) sc_least_pointsX.nd rfl (by first | exact .inl rfl | exact .inr rfl) pe_int)
 (pss_cons (ps_set (i := 5) sc_least_pointsX.nd rfl (by first | exact .inl rfl | exact .inr rfl) (pe_ix ix_seq (pe_ix ix_seq (pe_ix ix_seq (pe_ix ix_seq (pv 0) (pv 1) (fun _ _ => rfl)) pe_int (fun _ _ => rfl)) (pv 2) (fun _ _ => rfl)) pe_int (fun _ _ => rfl)))
 (pss_cons (ps_if (pt_not (pt_val (pe_fn G_reached (hr.mono (by decide)) (pa_cons (pe_fn G_tried (hr.mono (by decide)) (pa_cons (pv 0) (pa_cons (pv 1) (pa_cons (pv 2) (pa_cons (pv 5) pa_nil))))) (pa_cons (pv 3) pa_nil))))) (pss_cons (ps_ret pe_non)
 pss_nil) pss_nil)
 (pss_cons (ps_while (passes_of rfl) (pt_cmpR op_ltK (pv 4) (pv 5) (nomark _)) (pss_cons (ps_set (i := 6) sc_least_pointsX.nd rfl (by first | exact .inl rfl | exact .inr rfl) (pe_op op_divK (pe_op op_addK (pv 4) (pv 5)) pe_int))
 (pss_cons (ps_if (pt_val (pe_fn G_reached (hr.mono (by decide)) (pa_cons (pe_fn G_tried (hr.mono (by decide)) (pa_cons (pv 0) (pa_cons (pv 1) (pa_cons (pv 2) (pa_cons (pv 6) pa_nil))))) (pa_cons (pv 3) pa_nil)))) (pss_cons (ps_set (i := 5) sc_least_pointsX.nd rfl (by first | exact .inl rfl | exact .inr rfl) (pv 6))
 pss_nil) (pss_cons (ps_set (i := 4) sc_least_pointsX.nd rfl (by first | exact .inl rfl | exact .inr rfl) (pe_op op_addK (pv 6) pe_int))
 pss_nil))
 pss_nil)))
 (pss_cons (ps_ret (pv 4))
 pss_nil)))))))
theorem ok_all_tried (G_with_try : Fn P w K mg base "with_try" p_with_try 1 (sp_with_try K)) (z_len : mg "len" = none) (z_list : mg "list" = none) (z_range : mg "range" = none) {tk_THOUSAND_wishes : Tok} (m_THOUSAND_wishes : mg "THOUSAND_wishes" = some (.int 1000 tk_THOUSAND_wishes)) {f : Addr} {fd : FuncData} (F : Fun K "all_tried" "all_tried" s_all_tried f fd) (hm : mg "all_tried" = some (.ref f)) : Fn P w K mg base "all_tried" p_all_tried 2 (sp_all_tried K) := by
  refine ⟨f, fd, F.ok sc_all_tried (fun vs H Q E h => (by first | exact len_R h | exact len_N h)) (fun cdv A outer s H vs Q E hr h => ⟨t_all_tried K, ?_, by_all_tried rfl vs H Q E h⟩), hm, F.kp, F.binds (ps := p_all_tried) fun _ _ _ _ _ _ us hl => match us, hl with | [_, _], _ => rfl⟩
  unfold t_all_tried
  exact (pss_cons (ps_set (i := 2) sc_all_tried.nd rfl (by first | exact .inl rfl | exact .inr rfl) (pe_callTy cl_list (by rfl) z_list (by decide +kernel) (pa_cons (pv 0) pa_nil)))
 (pss_cons (ps_for PassesOwn.never rfl (pi_range1 rfl z_range (pa_cons (pe_callB cl_len (by rfl) z_len PySem.boot_len (pa_cons (pv 2) pa_nil)) pa_nil)) (pg_name (i := 3) sc_all_tried.nd rfl (by first | exact .inl rfl | exact .inr rfl)) (pss_cons (ps_for PassesOwn.never rfl (pi_range1 rfl z_range (pa_cons (pe_callB cl_len (by rfl) z_len PySem.boot_len (pa_cons (pe_ix ix_seq (pe_ix ix_seq (pv 2) (pv 3) (fun _ _ => rfl)) pe_int (fun _ _ => rfl)) pa_nil)) pa_nil)) (pg_name (i := 4) sc_all_tried.nd rfl (by first | exact .inl rfl | exact .inr rfl)) (pss_cons (ps_set (i := 5) sc_all_tried.nd rfl (by first | exact .inl rfl | exact .inr rfl) (pe_ix ix_seq (pe_ix ix_seq (pe_ix ix_seq (pv 2) (pv 3) (fun _ _ => rfl)) pe_int (fun _ _ => rfl)) (pv 4) (fun _ _ => rfl)))
 (pss_cons (ps_if (pt_cmpR (op_eqD hr.units) (pe_callB cl_len (by rfl) z_len PySem.boot_len (pa_cons (pe_ix ix_seq (pv 5) pe_int (fun _ _ => rfl)) pa_nil)) pe_int (nomark _)) (pss_cons (ps_set (i := 6) sc_all_tried.nd rfl (by first | exact .inl rfl | exact .inr rfl) (pe_op op_divK (pe_op op_subK (pe_op op_addK (pe_op op_mulK (pe_ix ix_seq (pv 5) pe_int (fun _ _ => rfl)) (pv 1)) (pe_glob rfl m_THOUSAND_wishes ⟨_, rfl⟩)) pe_int) (pe_glob rfl m_THOUSAND_wishes ⟨_, rfl⟩)))
 (pss_cons (ps_asg (pe_fn G_with_try (hr.mono (by decide)) (pa_cons (pe_ix ix_seq (pv 2) (pv 3) (fun _ _ => rfl)) (pa_cons (pv 4) (pa_cons (pv 6) pa_nil)))) (pg_sub (pv 2) (pv 3) set_list))
 pss_nil)) pss_nil)
 pss_nil)))
 pss_nil))
 (pss_cons (ps_ret (pv 2))
 pss_nil)))
theorem ok_least_shareX {cv : Cv} (G_reached : Fn P w K mg base "reached" p_reached 8 (sp_reached K)) (G_need_wishX : FnX P w K mg base "need_wish" p_need_wishX 3 (sp_need_wishX K cv)) (G_all_tried : Fn P w K mg base "all_tried" p_all_tried 2 (sp_all_tried K)) {tk_THOUSAND_wishes : Tok} (m_THOUSAND_wishes : mg "THOUSAND_wishes" = some (.int 1000 tk_THOUSAND_wishes)) {f : Addr} {fd : FuncData} (F : Fun K "least_share" "least_share" s_least_shareX f fd) (hm : mg "least_share" = some (.ref f)) : FnX P w K mg base "least_share" p_least_shareX 9 (sp_least_shareX K cv) := by
  refine ⟨f, fd, F.okX sc_least_shareX (fun vs H Q E h => len_X h) (fun cdv A outer s H vs Q E hr h => ⟨t_least_shareX K cv (wOf E), ?_, by_least_shareX rfl vs H Q E h⟩), hm, F.kp, F.binds (ps := p_least_shareX) fun _ _ _ _ _ _ us hl => match us, hl with | [_, _], _ => rfl⟩
  unfold t_least_shareX
  exact (pss_cons (ps_expr (pe_fnX G_need_wishX (hr.mono (by decide)) (takes_of (E := E) rfl rfl rfl rfl) (pa_cons (pv 1) pa_nil)))
 (pss_cons (ps_set (i := 2) sc_least_shareX.nd rfl (by first | exact .inl rfl | exact .inr rfl) pe_int)
 (pss_cons (ps_set (i := 3) sc_least_shareX.nd rfl (by first | exact .inl rfl | exact .inr rfl) (pe_glob rfl m_THOUSAND_wishes ⟨_, rfl⟩))
 (pss_cons (ps_if (pt_not (pt_val (pe_fn G_reached (hr.mono (by decide)) (pa_cons (pe_fn G_all_tried (hr.mono (by decide)) (pa_cons (pv 0) (pa_cons (pv 3) pa_nil))) (pa_cons (pv 1) pa_nil))))) (pss_cons (ps_ret pe_non)
 pss_nil) pss_nil)
 (pss_cons (ps_while (passes_of rfl) (pt_cmpR op_ltK (pv 2) (pv 3) (nomark _)) (pss_cons (ps_set (i := 4) sc_least_shareX.nd rfl (by first | exact .inl rfl | exact .inr rfl) (pe_op op_divK (pe_op op_addK (pv 2) (pv 3)) pe_int))
 (pss_cons (ps_if (pt_val (pe_fn G_reached (hr.mono (by decide)) (pa_cons (pe_fn G_all_tried (hr.mono (by decide)) (pa_cons (pv 0) (pa_cons (pv 4) pa_nil))) (pa_cons (pv 1) pa_nil)))) (pss_cons (ps_set (i := 3) sc_least_shareX.nd rfl (by first | exact .inl rfl | exact .inr rfl) (pv 4))
 pss_nil) (pss_cons (ps_set (i := 2) sc_least_shareX.nd rfl (by first | exact .inl rfl | exact .inr rfl) (pe_op op_addK (pv 4) pe_int))
 pss_nil))
 pss_nil)))
 (pss_cons (ps_ret (pv 2))
 pss_nil))))))
theorem ok_l_cell_at (z_len : mg "len" = none) {f : Addr} {fd : FuncData} (F : Fun K "_law_cell_at" "_law_cell_at" s_l_cell_at f fd) (hm : mg "_law_cell_at" = some (.ref f)) : Fn P w K mg base "_law_cell_at" p_l_cell_at 1 (sp_l_cell_at K) := by
  refine ⟨f, fd, F.ok sc_l_cell_at (fun vs H Q E h => (by first | exact len_R h | exact len_N h)) (fun cdv A outer s H vs Q E hr h => ⟨t_l_cell_at K, ?_, by_l_cell_at rfl vs H Q E h⟩), hm, F.kp, F.binds (ps := p_l_cell_at) fun _ _ _ _ _ _ us hl => match us, hl with | [_, _], _ => rfl⟩
  unfold t_l_cell_at
  exact (pss_cons (ps_if (pt_cmpR (op_eqD hr.units) (pe_callB cl_len (by rfl) z_len PySem.boot_len (pa_cons (pv 0) pa_nil)) pe_int (nomark _)) (pss_cons (ps_ret (pv 1))
 pss_nil) pss_nil)
 (pss_cons (ps_ret (pe_op op_addK (pe_ix ix_seq (pv 0) (pe_op op_modK (pv 1) (pe_callB cl_len (by rfl) z_len PySem.boot_len (pa_cons (pv 0) pa_nil))) (fun _ _ => rfl)) (pe_op op_mulK pe_int (pe_op op_divK (pv 1) (pe_callB cl_len (by rfl) z_len PySem.boot_len (pa_cons (pv 0) pa_nil))))))
 pss_nil))
theorem ok_l_stream13 (z_range : mg "range" = none) {f : Addr} {fd : FuncData} (F : Fun K "_law_stream" "_law_stream" s_l_stream13 f fd) (hm : mg "_law_stream" = some (.ref f)) : Fn P w K mg base "_law_stream" p_l_stream13 1 (sp_l_stream13 K) := by
  refine ⟨f, fd, F.ok sc_l_stream13 (fun vs H Q E h => (by first | exact len_R h | exact len_N h)) (fun cdv A outer s H vs Q E hr h => ⟨t_l_stream13 K, ?_, by_l_stream13 rfl vs H Q E h⟩), hm, F.kp, F.binds (ps := p_l_stream13) fun _ _ _ _ _ _ us hl => match us, hl with | [_, _], _ => rfl⟩
  unfold t_l_stream13
  exact (pss_cons (ps_set (i := 2) sc_l_stream13.nd rfl (by first | exact .inl rfl | exact .inr rfl) (pe_lst pa_nil))
 (pss_cons (ps_set (i := 3) sc_l_stream13.nd rfl (by first | exact .inl rfl | exact .inr rfl) (pe_op op_addK (pe_op op_modK (pv 0) pe_int) pe_int))
 (pss_cons (ps_for PassesOwn.never rfl (pi_range1 rfl z_range (pa_cons (pe_op op_addK (pv 1) pe_int) pa_nil)) (pg_name (i := 4) sc_l_stream13.nd rfl (by first | exact .inl rfl | exact .inr rfl)) (pss_cons (ps_set (i := 5) sc_l_stream13.nd rfl (by first | exact .inl rfl | exact .inr rfl) (pe_op op_mulK (pv 3) (pv 3)))
 (pss_cons (ps_set (i := 3) sc_l_stream13.nd rfl (by first | exact .inl rfl | exact .inr rfl) (pe_op op_modK (pe_op op_addK (pe_op op_addK (pe_op op_addK (pv 5) (pe_op op_mulK pe_int (pv 3))) (pe_op op_mulK pe_int (pv 4))) pe_int) pe_int))
 (pss_cons (ps_expr (pe_bm PySem.F.plainAttrs_list PySem.F.slot_list_append PySem.F.type_list_append mt_append (pv 2) (pa_cons (pv 3) pa_nil)))
 pss_nil))))
 (pss_cons (ps_ret (pe_slice sl_K (pv 2) (po_some pe_int) po_none))
 pss_nil))))
theorem ok_l_task_by (z_range : mg "range" = none) (z_tuple : mg "tuple" = none) {f : Addr} {fd : FuncData} (F : Fun K "_law_task_by" "_law_task_by" s_l_task_by f fd) (hm : mg "_law_task_by" = some (.ref f)) : Fn P w K mg base "_law_task_by" p_l_task_by 1 (sp_l_task_by K) := by
  refine ⟨f, fd, F.ok sc_l_task_by (fun vs H Q E h => (by first | exact len_R h | exact len_N h)) (fun cdv A outer s H vs Q E hr h => ⟨t_l_task_by K, ?_, by_l_task_by rfl vs H Q E h⟩), hm, F.kp, F.binds (ps := p_l_task_by) fun _ _ _ _ _ _ us hl => match us, hl with | [_], _ => rfl⟩
  unfold t_l_task_by
  exact (pss_cons (ps_set (i := 1) sc_l_task_by.nd rfl (by first | exact .inl rfl | exact .inr rfl) (pe_op op_addK pe_int (pe_op op_modK (pe_ix ix_seq (pv 0) pe_int (fun _ _ => rfl)) pe_int)))
 (pss_cons (ps_if (pt_cmpR (op_eqD hr.units) (pe_op op_modK (pe_op op_divK (pe_ix ix_seq (pv 0) pe_int (fun _ _ => rfl)) pe_int) pe_int) pe_int (nomark _)) (pss_cons (ps_set (i := 1) sc_l_task_by.nd rfl (by first | exact .inl rfl | exact .inr rfl) (pe_op op_addK pe_int (pe_op op_modK (pe_op op_divK (pe_ix ix_seq (pv 0) pe_int (fun _ _ => rfl)) pe_int) pe_int)))
 pss_nil) pss_nil)
 (pss_cons (ps_set (i := 2) sc_l_task_by.nd rfl (by first | exact .inl rfl | exact .inr rfl) (pe_ix ix_seq (pe_lst (pa_cons pe_int (pa_cons pe_int (pa_cons pe_int (pa_cons (pe_op op_addK pe_int (pe_op op_modK (pe_op op_divK (pe_ix ix_seq (pv 0) pe_int (fun _ _ => rfl)) pe_int) pe_int)) (pa_cons (pe_op op_addK pe_int (pe_op op_modK (pe_op op_divK (pe_ix ix_seq (pv 0) pe_int (fun _ _ => rfl)) pe_int) (pe_op op_powK pe_int pe_int))) (pa_cons (pe_op op_powK pe_int pe_int) pa_nil))))))) (pe_op op_modK (pe_ix ix_seq (pv 0) pe_int (fun _ _ => rfl)) pe_int) (fun _ _ => rfl)))
 (pss_cons (ps_set (i := 3) sc_l_task_by.nd rfl (by first | exact .inl rfl | exact .inr rfl) (pe_ix ix_seq (pe_lst (pa_cons (pv 2) (pa_cons pe_int (pa_cons (pe_op op_divK (pv 2) pe_int) (pa_cons (pe_op op_modK (pe_op op_divK (pe_ix ix_seq (pv 0) pe_int (fun _ _ => rfl)) pe_int) (pe_op op_addK (pv 2) pe_int)) pa_nil))))) (pe_op op_modK (pe_ix ix_seq (pv 0) pe_int (fun _ _ => rfl)) pe_int) (fun _ _ => rfl)))
 (pss_cons (ps_set (i := 4) sc_l_task_by.nd rfl (by first | exact .inl rfl | exact .inr rfl) (pe_ix ix_seq (pe_lst (pa_cons pe_int (pa_cons pe_int (pa_cons pe_int (pa_cons pe_int (pa_cons pe_int (pa_cons pe_int (pa_cons pe_int (pa_cons pe_int (pa_cons pe_int pa_nil)))))))))) (pe_op op_modK (pe_ix ix_seq (pv 0) pe_int (fun _ _ => rfl)) pe_int) (fun _ _ => rfl)))
 (pss_cons (ps_set (i := 5) sc_l_task_by.nd rfl (by first | exact .inl rfl | exact .inr rfl) (pe_lst pa_nil))
 (pss_cons (ps_for PassesOwn.never rfl (pi_range1 rfl z_range (pa_cons (pv 4) pa_nil)) (pg_name (i := 6) sc_l_task_by.nd rfl (by first | exact .inl rfl | exact .inr rfl)) (pss_cons (ps_expr (pe_bm PySem.F.plainAttrs_list PySem.F.slot_list_append PySem.F.type_list_append mt_append (pv 5) (pa_cons (pe_ix ix_seq (pe_lst (pa_cons (pe_op op_modK (pe_op op_divK (pe_ix ix_seq (pv 0) (pe_op op_addK pe_int (pv 6)) (fun _ _ => rfl)) pe_int) (pe_op op_addK (pv 2) pe_int)) (pa_cons (pe_op op_modK (pe_op op_divK (pe_ix ix_seq (pv 0) (pe_op op_addK pe_int (pv 6)) (fun _ _ => rfl)) pe_int) (pe_op op_addK (pv 2) pe_int)) (pa_cons pe_int (pa_cons (pv 2) (pa_cons (pv 3) pa_nil)))))) (pe_op op_modK (pe_ix ix_seq (pv 0) (pe_op op_addK pe_int (pv 6)) (fun _ _ => rfl)) pe_int) (fun _ _ => rfl)) pa_nil)))
 pss_nil))
 (pss_cons (ps_ret (pe_tup (pa_cons (pv 1) (pa_cons (pv 2) (pa_cons (pv 3) (pa_cons (pe_callTy cl_tuple (by rfl) z_tuple (by decide +kernel) (pa_cons (pv 5) pa_nil)) pa_nil))))))
 pss_nil))))))))
theorem ok_l_part_by (G_l_stream13 : Fn P w K mg base "_law_stream" p_l_stream13 1 (sp_l_stream13 K)) (G_l_task_by : Fn P w K mg base "_law_task_by" p_l_task_by 1 (sp_l_task_by K)) (z_range : mg "range" = none) (z_tuple : mg "tuple" = none) {f : Addr} {fd : FuncData} (F : Fun K "_law_part_by" "_law_part_by" s_l_part_by f fd) (hm : mg "_law_part_by" = some (.ref f)) : Fn P w K mg base "_law_part_by" p_l_part_by 2 (sp_l_part_by K) := by
  refine ⟨f, fd, F.ok sc_l_part_by (fun vs H Q E h => (by first | exact len_R h | exact len_N h)) (fun cdv A outer s H vs Q E hr h => ⟨t_l_part_by K, ?_, by_l_part_by rfl vs H Q E h⟩), hm, F.kp, F.binds (ps := p_l_part_by) fun _ _ _ _ _ _ us hl => match us, hl with | [_, _], _ => rfl⟩
  unfold t_l_part_by
  exact (pss_cons (ps_set (i := 2) sc_l_part_by.nd rfl (by first | exact .inl rfl | exact .inr rfl) (pe_fn G_l_stream13 (hr.mono (by decide)) (pa_cons (pv 0) (pa_cons (pe_op op_addK pe_int (pe_op op_mulK pe_int (pv 1))) pa_nil))))
 (pss_cons (ps_set (i := 3) sc_l_part_by.nd rfl (by first | exact .inl rfl | exact .inr rfl) (pe_op op_addK pe_int (pe_op op_modK (pe_ix ix_seq (pv 2) pe_int (fun _ _ => rfl)) pe_int)))
 (pss_cons (ps_if (pt_cmpR (op_eqD hr.units) (pe_op op_modK (pe_op op_divK (pe_ix ix_seq (pv 2) pe_int (fun _ _ => rfl)) pe_int) pe_int) pe_int (nomark _)) (pss_cons (ps_set (i := 3) sc_l_part_by.nd rfl (by first | exact .inl rfl | exact .inr rfl) (pe_op op_addK pe_int (pe_op op_modK (pe_op op_divK (pe_ix ix_seq (pv 2) pe_int (fun _ _ => rfl)) pe_int) pe_int)))
 pss_nil) pss_nil)
 (pss_cons (ps_set (i := 4) sc_l_part_by.nd rfl (by first | exact .inl rfl | exact .inr rfl) (pe_ix ix_seq (pe_lst (pa_cons pe_int (pa_cons pe_int (pa_cons pe_int (pa_cons (pe_op op_modK (pe_op op_divK (pe_ix ix_seq (pv 2) pe_int (fun _ _ => rfl)) pe_int) pe_int) pa_nil))))) (pe_op op_modK (pe_ix ix_seq (pv 2) pe_int (fun _ _ => rfl)) pe_int) (fun _ _ => rfl)))
 (pss_cons (ps_set (i := 5) sc_l_part_by.nd rfl (by first | exact .inl rfl | exact .inr rfl) (pe_lst pa_nil))
 (pss_cons (ps_for PassesOwn.never rfl (pi_range1 rfl z_range (pa_cons (pe_op op_modK (pe_ix ix_seq (pv 2) pe_int (fun _ _ => rfl)) (pe_op op_addK (pv 1) pe_int)) pa_nil)) (pg_name (i := 6) sc_l_part_by.nd rfl (by first | exact .inl rfl | exact .inr rfl)) (pss_cons (ps_expr (pe_bm PySem.F.plainAttrs_list PySem.F.slot_list_append PySem.F.type_list_append mt_append (pv 5) (pa_cons (pe_fn G_l_task_by (hr.mono (by decide)) (pa_cons (pe_slice sl_K (pv 2) (po_some (pe_op op_addK pe_int (pe_op op_mulK pe_int (pv 6)))) (po_some (pe_op op_addK pe_int (pe_op op_mulK pe_int (pv 6))))) pa_nil)) pa_nil)))
 pss_nil))
 (pss_cons (ps_setLc (i := 7) (own := [("_law_k", 6)]) (g := (gName 6)) (tt := tYes) rfl sc_l_part_by.nd rfl rfl (sw_true rfl rfl rfl (by decide +kernel)) (pi_range1 rfl z_range (pa_cons (pe_ix ix_seq (pe_lst (pa_cons pe_int (pa_cons pe_int (pa_cons pe_int (pa_cons pe_int (pa_cons pe_int (pa_cons pe_int (pa_cons pe_int (pa_cons pe_int pa_nil))))))))) (pe_op op_modK (pe_ix ix_seq (pv 2) pe_int (fun _ _ => rfl)) pe_int) (fun _ _ => rfl)) pa_nil)) (blkOk_by (N := N_l_part_by) (sc := defScope s_l_part_by) (by decide +kernel)) (fun _ _ _ _ _ => (pg_name (i := 6) sc_l_part_by.nd rfl (by first | exact .inl rfl | exact .inr rfl))) (fun _ _ _ _ _ => pts_nil) (fun _ _ _ _ _ => (pe_op op_modK (pe_ix ix_seq (pv 2) (pe_op op_addK pe_int (pv 6)) (fun _ _ => rfl)) (pe_ix ix_seq (pe_lst (pa_cons pe_int (pa_cons pe_int pa_nil))) (pe_op op_modK (pe_op op_divK (pe_ix ix_seq (pv 2) pe_int (fun _ _ => rfl)) pe_int) pe_int) (fun _ _ => rfl)))))
 (pss_cons (ps_ret (pe_tup (pa_cons (pv 3) (pa_cons (pe_op op_modK (pe_ix ix_seq (pv 2) pe_int (fun _ _ => rfl)) pe_int) (pa_cons (pv 4) (pa_cons (pe_callTy cl_tuple (by rfl) z_tuple (by decide +kernel) (pa_cons (pv 5) pa_nil)) (pa_cons (pe_callTy cl_tuple (by rfl) z_tuple (by decide +kernel) (pa_cons (pv 7) pa_nil)) pa_nil)))))))
 pss_nil))))))))
theorem ok_l_course_by (G_l_cell_at : Fn P w K mg base "_law_cell_at" p_l_cell_at 1 (sp_l_cell_at K)) (G_l_part_by : Fn P w K mg base "_law_part_by" p_l_part_by 2 (sp_l_part_by K)) (z_range : mg "range" = none) {f : Addr} {fd : FuncData} (F : Fun K "_law_course_by" "_law_course_by" s_l_course_by f fd) (hm : mg "_law_course_by" = some (.ref f)) : Fn P w K mg base "_law_course_by" p_l_course_by 3 (sp_l_course_by K) := by
  refine ⟨f, fd, F.ok sc_l_course_by (fun vs H Q E h => (by first | exact len_R h | exact len_N h)) (fun cdv A outer s H vs Q E hr h => ⟨t_l_course_by K, ?_, by_l_course_by rfl vs H Q E h⟩), hm, F.kp, F.binds (ps := p_l_course_by) fun _ _ _ _ _ _ us hl => match us, hl with | [_, _, _], _ => rfl⟩
  unfold t_l_course_by
  exact (pss_cons (ps_set (i := 3) sc_l_course_by.nd rfl (by first | exact .inl rfl | exact .inr rfl) (pe_op op_modK (pe_fn G_l_cell_at (hr.mono (by decide)) (pa_cons (pv 0) (pa_cons pe_int pa_nil))) pe_int))
 (pss_cons (ps_if (pt_cmpR (op_eqD hr.units) (pe_op op_modK (pe_op op_divK (pe_fn G_l_cell_at (hr.mono (by decide)) (pa_cons (pv 0) (pa_cons pe_int pa_nil))) pe_int) pe_int) pe_int (nomark _)) (pss_cons (ps_set (i := 3) sc_l_course_by.nd rfl (by first | exact .inl rfl | exact .inr rfl) (pe_op op_addK pe_int (pe_op op_modK (pe_op op_divK (pe_fn G_l_cell_at (hr.mono (by decide)) (pa_cons (pv 0) (pa_cons pe_int pa_nil))) pe_int) pe_int)))
 pss_nil) pss_nil)
 (pss_cons (ps_ret (pe_lc (own := [("_law_k", 4)]) (g := (gName 4)) (tt := tYes) rfl sc_l_course_by.nd (pi_range1 rfl z_range (pa_cons (pv 3) pa_nil)) (blkOk_by (N := N_l_course_by) (sc := defScope s_l_course_by) (by decide +kernel)) (fun _ _ _ _ _ => (pg_name (i := 4) sc_l_course_by.nd rfl (by first | exact .inl rfl | exact .inr rfl))) (fun _ _ _ _ _ => pts_nil) (fun _ _ _ _ _ => (pe_fn G_l_part_by (hr.mono (by decide)) (pa_cons (pe_fn G_l_cell_at (hr.mono (by decide)) (pa_cons (pv 0) (pa_cons (pe_op op_addK (pv 1) (pv 4)) pa_nil))) (pa_cons (pv 2) pa_nil))))))
 pss_nil)))
theorem ok_l_class {cv : Cv} (z_ValueError : mg "ValueError" = none) (z_isinstance : mg "isinstance" = none) (g_BadCap : mg "BadCap" = some (.ref (cv .cap))) (g_BadExtra : mg "BadExtra" = some (.ref (cv .extra))) (g_BadMark : mg "BadMark" = some (.ref (cv .mark))) (g_BadMost : mg "BadMost" = some (.ref (cv .most))) (g_BadPlace : mg "BadPlace" = some (.ref (cv .place))) (g_BadStep : mg "BadStep" = some (.ref (cv .step))) (g_BadTop : mg "BadTop" = some (.ref (cv .top))) (g_BadWeight : mg "BadWeight" = some (.ref (cv .weight))) (g_BadWish : mg "BadWish" = some (.ref (cv .wish))) (g_BadWorst : mg "BadWorst" = some (.ref (cv .worst))) (g_TooMany : mg "TooMany" = some (.ref (cv .many))) (EF : EF_k13 K cv) {f : Addr} {fd : FuncData} (F : Fun K "_law_class" "_law_class" s_l_class f fd) (hm : mg "_law_class" = some (.ref f)) : FnE P w K mg base "_law_class" p_l_class 1 (sp_l_class K cv) := by
  have ln : ∀ a c vs H Q E, sp_l_class K cv a c vs H Q E → vs.length = 1 := fun a c vs H Q E h => len_class h
  refine ⟨ln, f, fd, runE_of F sc_l_class ln (fun cdv A o s H vs Q p c hr hz hf h => ⟨t_l_class K cv p.1 c, ?_, by_l_class EF rfl _ _ _ _ _ E0 h⟩), hm, F.kp, F.binds (ps := p_l_class) fun _ _ _ _ _ _ us hl => match us, hl with | [_], _ => rfl⟩
  have hp : (p.1, p.2) ∈ [p] := List.mem_singleton.mpr rfl
  unfold t_l_class
  exact (pss_cons (ps_set (i := 1) sc_l_class.nd rfl (by first | exact .inl rfl | exact .inr rfl) (pe_lst (pa_cons (pe_callB (call_isP hp hz hf) (by rfl) z_isinstance (by decide +kernel) (pa_cons (pv 0) (pa_cons (pe_glob rfl g_BadPlace rfl) pa_nil))) (pa_cons (pe_callB (call_isP hp hz hf) (by rfl) z_isinstance (by decide +kernel) (pa_cons (pv 0) (pa_cons (pe_glob rfl g_TooMany rfl) pa_nil))) (pa_cons (pe_callB (call_isP hp hz hf) (by rfl) z_isinstance (by decide +kernel) (pa_cons (pv 0) (pa_cons (pe_glob rfl g_BadWish rfl) pa_nil))) pa_nil)))))
 (pss_cons (ps_if (PW.pt (pw_or (pt_val (pe_callB (call_isP hp hz hf) (by rfl) z_isinstance (by decide +kernel) (pa_cons (pv 0) (pa_cons (pe_tup (pa_cons (pe_glob rfl g_BadCap rfl) (pa_cons (pe_glob rfl g_BadExtra rfl) (pa_cons (pe_glob rfl g_BadMark rfl) (pa_cons (pe_glob rfl g_BadMost rfl) pa_nil))))) pa_nil)))) (pw_or1 (pt_val (pe_callB (call_isP hp hz hf) (by rfl) z_isinstance (by decide +kernel) (pa_cons (pv 0) (pa_cons (pe_tup (pa_cons (pe_glob rfl g_BadStep rfl) (pa_cons (pe_glob rfl g_BadTop rfl) (pa_cons (pe_glob rfl g_BadWeight rfl) (pa_cons (pe_glob rfl g_BadWorst rfl) pa_nil))))) pa_nil))))))) (pss_cons (ps_ret (pe_tup (pa_cons pe_str pa_nil)))
 pss_nil) pss_nil)
 (pss_cons (ps_if (PW.pt (pw_or (pt_not (pt_val (pe_callB (call_isP hp hz hf) (by rfl) z_isinstance (by decide +kernel) (pa_cons (pv 0) (pa_cons (pe_bltn (v := .ty "ValueError") rfl z_ValueError (by decide +kernel) rfl) pa_nil))))) (pw_or1 (pt_cmpR (op_neD (roomH_units hr)) (pe_bm PySem.F.plainAttrs_list PySem.F.slot_list_count PySem.F.type_list_count (mt_countK (roomH_units hr)) (pv 1) (pa_cons pe_bl pa_nil)) pe_int (nomark _))))) (pss_cons (ps_ret (pe_tup (pa_cons pe_str pa_nil)))
 pss_nil) pss_nil)
 (pss_cons (ps_ret (pe_tup (pa_cons (pe_ix ix_seq (pe_lst (pa_cons pe_str (pa_cons pe_str (pa_cons pe_str pa_nil)))) (pe_bm PySem.F.plainAttrs_list PySem.F.slot_list_index PySem.F.type_list_index (mt_indexK (roomH_units hr)) (pv 1) (pa_cons pe_bl pa_nil)) (fun _ _ => rfl)) pa_nil)))
 pss_nil))))
theorem ok_l_points13 {cv : Cv} (G_least_pointsX : FnX P w K mg base "least_points" p_least_pointsX 9 (sp_least_pointsX K cv)) (G_l_class : FnE P w K mg base "_law_class" p_l_class 1 (sp_l_class K cv)) (g_GradeError : mg "GradeError" = some (.ref (cv .grade))) (EF : EF_k13 K cv) {f : Addr} {fd : FuncData} (F : Fun K "_law_points" "_law_points" s_l_points13 f fd) (hm : mg "_law_points" = some (.ref f)) : Fn P w K mg base "_law_points" p_l_points13 10 (sp_l_points13 K) := by
  refine ⟨f, fd, F.ok sc_l_points13 (fun vs H Q E h => (by first | exact len_R h | exact len_N h)) (fun cdv A outer s H vs Q E hr h => ⟨t_l_points13 K cv, ?_, by_l_points13 EF rfl vs H Q E h⟩), hm, F.kp, F.binds (ps := p_l_points13) fun _ _ _ _ _ _ us hl => match us, hl with | [_, _, _, _], _ => rfl⟩
  unfold t_l_points13
  exact (pss_cons (ps_try_as (i := 4) (tb := fun W => (tSeq (tRet (tTup (tCons (tC (.str "told")) (tCons (tCallS (sp_least_pointsX K cv) (WE W) (tCons (tVar 0) (tCons (tVar 1) (tCons (tVar 2) (tCons (tVar 3) tNil))))) tNil))))
 tNext)) (ts := fun a cls d => (tSeq (tRet (tCallE (sp_l_class K cv) a cls d (tCons (tVar 4) tNil)))
 tNext)) (Wout := fun _ _ _ _ => False) rfl rfl sc_l_points13.nd rfl rfl ⟨rfl, by decide, .inl g_GradeError⟩ takes0 (fun W pn xe tk po => (pss_cons (ps_ret (pe_tup (pa_cons pe_str (pa_cons (pe_fnX G_least_pointsX (hr.mono (by decide)) tk (pa_cons (pv 0) (pa_cons (pv 1) (pa_cons (pv 2) (pa_cons (pv 3) pa_nil))))) pa_nil))))
 pss_nil)) (fun a oe cls d pn hz hf => (pss_cons (ps_ret (pe_fnE G_l_class (hr.mono (by decide)) hz hf (pa_cons (pv 4) pa_nil)))
 pss_nil)))
 pss_nil)
theorem ok_l_least {cv : Cv} (G_least_shareX : FnX P w K mg base "least_share" p_least_shareX 9 (sp_least_shareX K cv)) (G_l_class : FnE P w K mg base "_law_class" p_l_class 1 (sp_l_class K cv)) (g_GradeError : mg "GradeError" = some (.ref (cv .grade))) (EF : EF_k13 K cv) {f : Addr} {fd : FuncData} (F : Fun K "_law_least" "_law_least" s_l_least f fd) (hm : mg "_law_least" = some (.ref f)) : Fn P w K mg base "_law_least" p_l_least 10 (sp_l_least K) := by
  refine ⟨f, fd, F.ok sc_l_least (fun vs H Q E h => (by first | exact len_R h | exact len_N h)) (fun cdv A outer s H vs Q E hr h => ⟨t_l_least K cv, ?_, by_l_least EF rfl vs H Q E h⟩), hm, F.kp, F.binds (ps := p_l_least) fun _ _ _ _ _ _ us hl => match us, hl with | [_, _], _ => rfl⟩
  unfold t_l_least
  exact (pss_cons (ps_try_as (i := 2) (tb := fun W => (tSeq (tRet (tTup (tCons (tC (.str "told")) (tCons (tCallS (sp_least_shareX K cv) (WE W) (tCons (tVar 0) (tCons (tVar 1) tNil))) tNil))))
 tNext)) (ts := fun a cls d => (tSeq (tRet (tCallE (sp_l_class K cv) a cls d (tCons (tVar 2) tNil)))
 tNext)) (Wout := fun _ _ _ _ => False) rfl rfl sc_l_least.nd rfl rfl ⟨rfl, by decide, .inl g_GradeError⟩ takes0 (fun W pn xe tk po => (pss_cons (ps_ret (pe_tup (pa_cons pe_str (pa_cons (pe_fnX G_least_shareX (hr.mono (by decide)) tk (pa_cons (pv 0) (pa_cons (pv 1) pa_nil))) pa_nil))))
 pss_nil)) (fun a oe cls d pn hz hf => (pss_cons (ps_ret (pe_fnE G_l_class (hr.mono (by decide)) hz hf (pa_cons (pv 2) pa_nil)))
 pss_nil)))
 pss_nil)
theorem ok_l_wish {f : Addr} {fd : FuncData} (F : Fun K "_law_wish" "_law_wish" s_l_wish f fd) (hm : mg "_law_wish" = some (.ref f)) : Fn P w K mg base "_law_wish" p_l_wish 1 (sp_l_wish K) := by
  refine ⟨f, fd, F.ok sc_l_wish (fun vs H Q E h => (by first | exact len_R h | exact len_N h)) (fun cdv A outer s H vs Q E hr h => ⟨t_l_wish K, ?_, by_l_wish rfl vs H Q E h⟩), hm, F.kp, F.binds (ps := p_l_wish) fun _ _ _ _ _ _ us hl => match us, hl with | [_], _ => rfl⟩
  unfold t_l_wish
  exact (pss_cons (ps_set (i := 1) sc_l_wish.nd rfl (by first | exact .inl rfl | exact .inr rfl) (pe_ix ix_seq (pe_lst (pa_cons (pe_tup (pa_cons pe_int (pa_cons pe_int pa_nil))) (pa_cons (pe_tup (pa_cons pe_int (pa_cons pe_int pa_nil))) (pa_cons (pe_tup (pa_cons pe_int (pa_cons pe_int pa_nil))) (pa_cons (pe_tup (pa_cons pe_int (pa_cons pe_int pa_nil))) (pa_cons (pe_tup (pa_cons pe_int (pa_cons pe_int pa_nil))) (pa_cons (pe_tup (pa_cons pe_int (pa_cons pe_int pa_nil))) (pa_cons (pe_tup (pa_cons pe_int (pa_cons pe_int pa_nil))) pa_nil)))))))) (pe_op op_modK (pe_op op_divK (pv 0) pe_int) pe_int) (fun _ _ => rfl)))
 (pss_cons (ps_if (pt_cmpR op_gtK (pe_op op_modK (pv 0) pe_int) pe_int (nomark _)) (pss_cons (ps_ret (pv 1))
 pss_nil) pss_nil)
 (pss_cons (ps_set (i := 2) sc_l_wish.nd rfl (by first | exact .inl rfl | exact .inr rfl) (pe_op op_addK pe_int (pe_op op_modK (pe_op op_divK (pv 0) pe_int) pe_int)))
 (pss_cons (ps_set (i := 3) sc_l_wish.nd rfl (by first | exact .inl rfl | exact .inr rfl) (pe_lst (pa_cons (pe_tup (pa_cons (pe_op op_mulK (pe_ix ix_seq (pv 1) pe_int (fun _ _ => rfl)) (pv 2)) (pa_cons (pe_op op_mulK (pe_ix ix_seq (pv 1) pe_int (fun _ _ => rfl)) (pv 2)) pa_nil))) (pa_cons (pe_tup (pa_cons (pe_ix ix_seq (pv 1) pe_int (fun _ _ => rfl)) (pa_cons pe_int pa_nil))) (pa_cons (pe_tup (pa_cons (pe_ix ix_seq (pv 1) pe_int (fun _ _ => rfl)) (pa_cons (pe_un un_neg (pe_ix ix_seq (pv 1) pe_int (fun _ _ => rfl))) pa_nil))) (pa_cons (pe_tup (pa_cons (pe_op op_subK (pe_un un_neg pe_int) (pe_ix ix_seq (pv 1) pe_int (fun _ _ => rfl))) (pa_cons (pe_ix ix_seq (pv 1) pe_int (fun _ _ => rfl)) pa_nil))) (pa_cons (pe_tup (pa_cons pe_int (pa_cons (pv 2) pa_nil))) pa_nil)))))))
 (pss_cons (ps_ret (pe_ix ix_seq (pv 3) (pe_op op_modK (pe_op op_divK (pv 0) pe_int) pe_int) (fun _ _ => rfl)))
 pss_nil)))))
theorem ok_l_wish_bad {f : Addr} {fd : FuncData} (F : Fun K "_law_wish_bad" "_law_wish_bad" s_l_wish_bad f fd) (hm : mg "_law_wish_bad" = some (.ref f)) : Fn P w K mg base "_law_wish_bad" p_l_wish_bad 1 (sp_l_wish_bad K) := by
  refine ⟨f, fd, F.ok sc_l_wish_bad (fun vs H Q E h => (by first | exact len_R h | exact len_N h)) (fun cdv A outer s H vs Q E hr h => ⟨t_l_wish_bad K, ?_, by_l_wish_bad rfl vs H Q E h⟩), hm, F.kp, F.binds (ps := p_l_wish_bad) fun _ _ _ _ _ _ us hl => match us, hl with | [_], _ => rfl⟩
  unfold t_l_wish_bad
  exact (pss_cons (ps_asg (pv 0) (pg_tup rfl (pgs_cons (pg_name (i := 1) sc_l_wish_bad.nd rfl (by first | exact .inl rfl | exact .inr rfl)) (pgs_cons (pg_name (i := 2) sc_l_wish_bad.nd rfl (by first | exact .inl rfl | exact .inr rfl)) pgs_nil))))
 (pss_cons (ps_if (PW.pt (pw_or (pt_cmpR op_ltK (pv 2) pe_int (nomark _)) (pw_or1 (pt_cmpR op_ltK (pv 1) pe_int (nomark _))))) (pss_cons (ps_ret pe_bl)
 pss_nil) pss_nil)
 (pss_cons (ps_set (i := 3) sc_l_wish_bad.nd rfl (by first | exact .inl rfl | exact .inr rfl) (pv 1))
 (pss_cons (ps_set (i := 4) sc_l_wish_bad.nd rfl (by first | exact .inl rfl | exact .inr rfl) (pv 2))
 (pss_cons (ps_while PassesOwn.never (pt_cmpR op_gtK (pv 4) pe_int (nomark _)) (pss_cons (ps_par (i := 3) (j := 4) rfl sc_l_wish_bad.nd rfl rfl (by decide) rfl rfl (pa_cons (pv 4) (pa_cons (pe_op op_modK (pv 3) (pv 4)) pa_nil)) (by rfl))
 pss_nil))
 (pss_cons (ps_ret (pe_cmpR (op_neD hr.units) (pv 3) pe_int (nomark _)))
 pss_nil))))))
theorem ok_l_number13 {f : Addr} {fd : FuncData} (F : Fun K "_law_number" "_law_number" s_l_number13 f fd) (hm : mg "_law_number" = some (.ref f)) : Fn P w K mg base "_law_number" p_l_number13 1 (sp_l_number13 K) := by
  refine ⟨f, fd, F.ok sc_l_number13 (fun vs H Q E h => (by first | exact len_R h | exact len_N h)) (fun cdv A outer s H vs Q E hr h => ⟨t_l_number13 K, ?_, by_l_number13 rfl vs H Q E h⟩), hm, F.kp, F.binds (ps := p_l_number13) fun _ _ _ _ _ _ us hl => match us, hl with | [_, _], _ => rfl⟩
  unfold t_l_number13
  exact (pss_cons (ps_if (PW.pt (pw_or (pt_cmpR (op_eqD hr.units) (pe_op op_modK (pv 0) pe_int) pe_int (nomark _)) (pw_or1 (pt_cmpR (op_eqD hr.units) (pv 1) pe_int (nomark _))))) (pss_cons (ps_ret (pe_ix ix_seq (pe_lst (pa_cons (pe_op op_subK (pe_un un_neg pe_int) (pe_op op_modK (pe_op op_divK (pv 0) pe_int) pe_int)) (pa_cons (pe_op op_addK (pv 1) (pe_op op_modK (pe_op op_divK (pv 0) pe_int) pe_int)) (pa_cons (pe_op op_powK pe_int pe_int) (pa_cons (pe_un un_neg (pe_op op_powK pe_int pe_int)) pa_nil))))) (pe_op op_modK (pe_op op_divK (pv 0) pe_int) pe_int) (fun _ _ => rfl)))
 pss_nil) pss_nil)
 (pss_cons (ps_ret (pe_op op_modK (pe_op op_divK (pv 0) pe_int) (pv 1)))
 pss_nil))
theorem lawOk_k13 (G_l_cell_at : Fn P w K mg base "_law_cell_at" p_l_cell_at 1 (sp_l_cell_at K)) (G_l_course_by : Fn P w K mg base "_law_course_by" p_l_course_by 3 (sp_l_course_by K)) (G_l_points13 : Fn P w K mg base "_law_points" p_l_points13 10 (sp_l_points13 K)) (G_l_least : Fn P w K mg base "_law_least" p_l_least 10 (sp_l_least K)) (G_l_wish : Fn P w K mg base "_law_wish" p_l_wish 1 (sp_l_wish K)) (G_l_wish_bad : Fn P w K mg base "_law_wish_bad" p_l_wish_bad 1 (sp_l_wish_bad K)) (G_l_number13 : Fn P w K mg base "_law_number" p_l_number13 1 (sp_l_number13 K)) (z_len : mg "len" = none) (z_list : mg "list" = none) {f : Addr} {fd : FuncData} (F : Fun K "law" "law" s_law_k13 f fd) : FnOk P w K mg base CX0 11 f fd p_law_k13 (sp_law_k13 K) := by
  refine F.ok sc_law_k13 (fun vs H Q E h => (by first | exact len_R h | exact len_N h)) (fun cdv A outer s H vs Q E hr h => ⟨t_law_k13 K, ?_, by_law_k13 rfl vs H Q E h⟩)
  unfold t_law_k13
  exact (pss_cons (ps_set (i := 1) sc_law_k13.nd rfl (by first | exact .inl rfl | exact .inr rfl) (pe_fn G_l_course_by (hr.mono (by decide)) (pa_cons (pv 0) (pa_cons pe_int (pa_cons pe_int pa_nil)))))
 (pss_cons (ps_set (i := 2) sc_law_k13.nd rfl (by first | exact .inl rfl | exact .inr rfl) (pe_fn G_l_number13 (hr.mono (by decide)) (pa_cons (pe_fn G_l_cell_at (hr.mono (by decide)) (pa_cons (pv 0) (pa_cons pe_int pa_nil))) (pa_cons (pe_callB cl_len (by rfl) z_len PySem.boot_len (pa_cons (pv 1) pa_nil)) pa_nil))))
 (pss_cons (ps_set (i := 3) sc_law_k13.nd rfl (by first | exact .inl rfl | exact .inr rfl) (pe_tup pa_nil))
 (pss_cons (ps_if (pt_chain op_leK op_ltK pe_int (pv 2) (pe_callB cl_len (by rfl) z_len PySem.boot_len (pa_cons (pv 1) pa_nil))) (pss_cons (ps_set (i := 3) sc_law_k13.nd rfl (by first | exact .inl rfl | exact .inr rfl) (pe_ix ix_seq (pe_ix ix_seq (pv 1) (pv 2) (fun _ _ => rfl)) pe_int (fun _ _ => rfl)))
 pss_nil) pss_nil)
 (pss_cons (ps_set (i := 4) sc_law_k13.nd rfl (by first | exact .inl rfl | exact .inr rfl) (pe_fn G_l_number13 (hr.mono (by decide)) (pa_cons (pe_fn G_l_cell_at (hr.mono (by decide)) (pa_cons (pv 0) (pa_cons pe_int pa_nil))) (pa_cons (pe_callB cl_len (by rfl) z_len PySem.boot_len (pa_cons (pv 3) pa_nil)) pa_nil))))
 (pss_cons (ps_set (i := 5) sc_law_k13.nd rfl (by first | exact .inl rfl | exact .inr rfl) (pe_fn G_l_wish (hr.mono (by decide)) (pa_cons (pe_fn G_l_cell_at (hr.mono (by decide)) (pa_cons (pv 0) (pa_cons pe_int pa_nil))) pa_nil)))
 (pss_cons (ps_set (i := 6) sc_law_k13.nd rfl (by first | exact .inl rfl | exact .inr rfl) pe_str)
 (pss_cons (ps_if (pt_val (pe_fn G_l_wish_bad (hr.mono (by decide)) (pa_cons (pv 5) pa_nil))) (pss_cons (ps_set (i := 6) sc_law_k13.nd rfl (by first | exact .inl rfl | exact .inr rfl) pe_str)
 pss_nil) pss_nil)
 (pss_cons (ps_if (pt_cmpR (op_neD hr.units) (pe_ix ix_seq (pe_fn G_l_least (hr.mono (by decide)) (pa_cons (pe_callTy cl_list (by rfl) z_list (by decide +kernel) (pa_cons (pv 1) pa_nil)) (pa_cons (pv 5) pa_nil))) pe_int (fun _ _ => rfl)) (pv 6) (nomark _)) (pss_cons (ps_ret pe_bl)
 pss_nil) pss_nil)
 (pss_cons (ps_if (pt_not (pt_chain op_leK op_ltK pe_int (pv 4) (pe_callB cl_len (by rfl) z_len PySem.boot_len (pa_cons (pv 3) pa_nil)))) (pss_cons (ps_set (i := 6) sc_law_k13.nd rfl (by first | exact .inl rfl | exact .inr rfl) pe_str)
 pss_nil) (pss_cons (ps_if (pt_cmpR op_gtK (pe_callB cl_len (by rfl) z_len PySem.boot_len (pa_cons (pe_ix ix_seq (pe_ix ix_seq (pv 3) (pv 4) (fun _ _ => rfl)) pe_int (fun _ _ => rfl)) pa_nil)) pe_int (nomark _)) (pss_cons (ps_set (i := 6) sc_law_k13.nd rfl (by first | exact .inl rfl | exact .inr rfl) pe_str)
 pss_nil) pss_nil)
 pss_nil))
 (pss_cons (ps_set (i := 7) sc_law_k13.nd rfl (by first | exact .inl rfl | exact .inr rfl) (pe_fn G_l_least (hr.mono (by decide)) (pa_cons (pe_callTy cl_list (by rfl) z_list (by decide +kernel) (pa_cons (pv 1) pa_nil)) (pa_cons (pe_tup (pa_cons pe_int (pa_cons pe_int pa_nil))) pa_nil))))
 (pss_cons (ps_if (PW.pt (pw_or (pt_cmpR (op_neD hr.units) (pe_ix ix_seq (pv 7) pe_int (fun _ _ => rfl)) pe_str (nomark _)) (pw_or1 (pt_cmpR (op_neD hr.units) (pe_ix ix_seq (pe_fn G_l_points13 (hr.mono (by decide)) (pa_cons (pe_callTy cl_list (by rfl) z_list (by decide +kernel) (pa_cons (pv 1) pa_nil)) (pa_cons (pv 2) (pa_cons (pv 4) (pa_cons (pv 5) pa_nil))))) pe_int (fun _ _ => rfl)) (pv 6) (nomark _))))) (pss_cons (ps_ret pe_bl)
 pss_nil) pss_nil)
 (pss_cons (ps_ret (pe_cmpR (op_eqD hr.units) (pe_fn G_l_least (hr.mono (by decide)) (pa_cons (pe_callTy cl_list (by rfl) z_list (by decide +kernel) (pa_cons (pv 1) pa_nil)) (pa_cons (pe_tup (pa_cons pe_int (pa_cons pe_int pa_nil))) pa_nil))) (pv 7) (nomark _)))
 pss_nil)))))))))))))
end
theorem all_mk {l : PySem.W.OpenLaw} {w : World} {K : PySem.W.Frag} {h : Heap} {mg : Str → Option Value} {fa : Addr} (X : K.In h) (G : h.Ns mainGlobals mg) (hfa : mg "law" = some (.ref fa))
    {f0 : Addr} {od0 an0 : Option Addr} {sl0 : Array (Option Value)} {oc0 kV0 dc0 pm0 cd0 ct0 : Value}
    (a0 : PySem.W.nsIn K mainGlobals "divisor" = some (some (.ref f0))) (l0 : K.lookup f0 = some ⟨oc0, od0, .func (PySem.W.fnOf "divisor" "divisor" (defArgs s_divisor) (defBody s_divisor) (defScope s_divisor) .none kV0 dc0 pm0 an0 cd0 ct0), sl0⟩) (c0 : PySem.W.codeIn K cd0 "divisor" = true) (k0 : PySem.W.keepIn K (.ref f0) = true)
    {f1 : Addr} {od1 an1 : Option Addr} {sl1 : Array (Option Value)} {oc1 kV1 dc1 pm1 cd1 ct1 : Value}
    (a1 : PySem.W.nsIn K mainGlobals "share" = some (some (.ref f1))) (l1 : K.lookup f1 = some ⟨oc1, od1, .func (PySem.W.fnOf "share" "share" (defArgs s_share) (defBody s_share) (defScope s_share) .none kV1 dc1 pm1 an1 cd1 ct1), sl1⟩) (c1 : PySem.W.codeIn K cd1 "share" = true) (k1 : PySem.W.keepIn K (.ref f1) = true)
    {f2 : Addr} {od2 an2 : Option Addr} {sl2 : Array (Option Value)} {oc2 kV2 dc2 pm2 cd2 ct2 : Value}
    (a2 : PySem.W.nsIn K mainGlobals "plus" = some (some (.ref f2))) (l2 : K.lookup f2 = some ⟨oc2, od2, .func (PySem.W.fnOf "plus" "plus" (defArgs s_plus) (defBody s_plus) (defScope s_plus) .none kV2 dc2 pm2 an2 cd2 ct2), sl2⟩) (c2 : PySem.W.codeIn K cd2 "plus" = true) (k2 : PySem.W.keepIn K (.ref f2) = true)
    {f3 : Addr} {od3 an3 : Option Addr} {sl3 : Array (Option Value)} {oc3 kV3 dc3 pm3 cd3 ct3 : Value}
    (a3 : PySem.W.nsIn K mainGlobals "times" = some (some (.ref f3))) (l3 : K.lookup f3 = some ⟨oc3, od3, .func (PySem.W.fnOf "times" "times" (defArgs s_times) (defBody s_times) (defScope s_times) .none kV3 dc3 pm3 an3 cd3 ct3), sl3⟩) (c3 : PySem.W.codeIn K cd3 "times" = true) (k3 : PySem.W.keepIn K (.ref f3) = true)
    {f4 : Addr} {od4 an4 : Option Addr} {sl4 : Array (Option Value)} {oc4 kV4 dc4 pm4 cd4 ct4 : Value}
    (a4 : PySem.W.nsIn K mainGlobals "less" = some (some (.ref f4))) (l4 : K.lookup f4 = some ⟨oc4, od4, .func (PySem.W.fnOf "less" "less" (defArgs s_less) (defBody s_less) (defScope s_less) .none kV4 dc4 pm4 an4 cd4 ct4), sl4⟩) (c4 : PySem.W.codeIn K cd4 "less" = true) (k4 : PySem.W.keepIn K (.ref f4) = true)
    {f5 : Addr} {od5 an5 : Option Addr} {sl5 : Array (Option Value)} {oc5 kV5 dc5 pm5 cd5 ct5 : Value}
    (a5 : PySem.W.nsIn K mainGlobals "gives" = some (some (.ref f5))) (l5 : K.lookup f5 = some ⟨oc5, od5, .func (PySem.W.fnOf "gives" "gives" (defArgs s_gives) (defBody s_gives) (defScope s_gives) .none kV5 dc5 pm5 an5 cd5 ct5), sl5⟩) (c5 : PySem.W.codeIn K cd5 "gives" = true) (k5 : PySem.W.keepIn K (.ref f5) = true)
    {f6 : Addr} {od6 an6 : Option Addr} {sl6 : Array (Option Value)} {oc6 kV6 dc6 pm6 cd6 ct6 : Value}
    (a6 : PySem.W.nsIn K mainGlobals "mark" = some (some (.ref f6))) (l6 : K.lookup f6 = some ⟨oc6, od6, .func (PySem.W.fnOf "mark" "mark" (defArgs s_mark) (defBody s_mark) (defScope s_mark) .none kV6 dc6 pm6 an6 cd6 ct6), sl6⟩) (c6 : PySem.W.codeIn K cd6 "mark" = true) (k6 : PySem.W.keepIn K (.ref f6) = true)
    {f7 : Addr} {od7 an7 : Option Addr} {sl7 : Array (Option Value)} {oc7 kV7 dc7 pm7 cd7 ct7 : Value}
    (a7 : PySem.W.nsIn K mainGlobals "marked" = some (some (.ref f7))) (l7 : K.lookup f7 = some ⟨oc7, od7, .func (PySem.W.fnOf "marked" "marked" (defArgs s_marked) (defBody s_marked) (defScope s_marked) .none kV7 dc7 pm7 an7 cd7 ct7), sl7⟩) (c7 : PySem.W.codeIn K cd7 "marked" = true) (k7 : PySem.W.keepIn K (.ref f7) = true)
    {f8 : Addr} {od8 an8 : Option Addr} {sl8 : Array (Option Value)} {oc8 kV8 dc8 pm8 cd8 ct8 : Value}
    (a8 : PySem.W.nsIn K mainGlobals "mean" = some (some (.ref f8))) (l8 : K.lookup f8 = some ⟨oc8, od8, .func (PySem.W.fnOf "mean" "mean" (defArgs s_mean) (defBody s_mean) (defScope s_mean) .none kV8 dc8 pm8 an8 cd8 ct8), sl8⟩) (c8 : PySem.W.codeIn K cd8 "mean" = true) (k8 : PySem.W.keepIn K (.ref f8) = true)
    {f9 : Addr} {od9 an9 : Option Addr} {sl9 : Array (Option Value)} {oc9 kV9 dc9 pm9 cd9 ct9 : Value}
    (a9 : PySem.W.nsIn K mainGlobals "choices" = some (some (.ref f9))) (l9 : K.lookup f9 = some ⟨oc9, od9, .func (PySem.W.fnOf "choices" "choices" (defArgs s_choices) (defBody s_choices) (defScope s_choices) .none kV9 dc9 pm9 an9 cd9 ct9), sl9⟩) (c9 : PySem.W.codeIn K cd9 "choices" = true) (k9 : PySem.W.keepIn K (.ref f9) = true)
    {f10 : Addr} {od10 an10 : Option Addr} {sl10 : Array (Option Value)} {oc10 kV10 dc10 pm10 cd10 ct10 : Value}
    (a10 : PySem.W.nsIn K mainGlobals "left_out" = some (some (.ref f10))) (l10 : K.lookup f10 = some ⟨oc10, od10, .func (PySem.W.fnOf "left_out" "left_out" (defArgs s_left_out) (defBody s_left_out) (defScope s_left_out) .none kV10 dc10 pm10 an10 cd10 ct10), sl10⟩) (c10 : PySem.W.codeIn K cd10 "left_out" = true) (k10 : PySem.W.keepIn K (.ref f10) = true)
    {f11 : Addr} {od11 an11 : Option Addr} {sl11 : Array (Option Value)} {oc11 kV11 dc11 pm11 cd11 ct11 : Value}
    (a11 : PySem.W.nsIn K mainGlobals "part_share" = some (some (.ref f11))) (l11 : K.lookup f11 = some ⟨oc11, od11, .func (PySem.W.fnOf "part_share" "part_share" (defArgs s_part_share) (defBody s_part_share) (defScope s_part_share) .none kV11 dc11 pm11 an11 cd11 ct11), sl11⟩) (c11 : PySem.W.codeIn K cd11 "part_share" = true) (k11 : PySem.W.keepIn K (.ref f11) = true)
    {f12 : Addr} {od12 an12 : Option Addr} {sl12 : Array (Option Value)} {oc12 kV12 dc12 pm12 cd12 ct12 : Value}
    (a12 : PySem.W.nsIn K mainGlobals "grade" = some (some (.ref f12))) (l12 : K.lookup f12 = some ⟨oc12, od12, .func (PySem.W.fnOf "grade" "grade" (defArgs s_grade) (defBody s_grade) (defScope s_grade) .none kV12 dc12 pm12 an12 cd12 ct12), sl12⟩) (c12 : PySem.W.codeIn K cd12 "grade" = true) (k12 : PySem.W.keepIn K (.ref f12) = true)
    {f13 : Addr} {od13 an13 : Option Addr} {sl13 : Array (Option Value)} {oc13 kV13 dc13 pm13 cd13 ct13 : Value}
    (a13 : PySem.W.nsIn K mainGlobals "with_try" = some (some (.ref f13))) (l13 : K.lookup f13 = some ⟨oc13, od13, .func (PySem.W.fnOf "with_try" "with_try" (defArgs s_with_try) (defBody s_with_try) (defScope s_with_try) .none kV13 dc13 pm13 an13 cd13 ct13), sl13⟩) (c13 : PySem.W.codeIn K cd13 "with_try" = true) (k13 : PySem.W.keepIn K (.ref f13) = true)
    {f14 : Addr} {od14 an14 : Option Addr} {sl14 : Array (Option Value)} {oc14 kV14 dc14 pm14 cd14 ct14 : Value}
    (a14 : PySem.W.nsIn K mainGlobals "tried" = some (some (.ref f14))) (l14 : K.lookup f14 = some ⟨oc14, od14, .func (PySem.W.fnOf "tried" "tried" (defArgs s_tried) (defBody s_tried) (defScope s_tried) .none kV14 dc14 pm14 an14 cd14 ct14), sl14⟩) (c14 : PySem.W.codeIn K cd14 "tried" = true) (k14 : PySem.W.keepIn K (.ref f14) = true)
    {f15 : Addr} {od15 an15 : Option Addr} {sl15 : Array (Option Value)} {oc15 kV15 dc15 pm15 cd15 ct15 : Value}
    (a15 : PySem.W.nsIn K mainGlobals "reached" = some (some (.ref f15))) (l15 : K.lookup f15 = some ⟨oc15, od15, .func (PySem.W.fnOf "reached" "reached" (defArgs s_reached) (defBody s_reached) (defScope s_reached) .none kV15 dc15 pm15 an15 cd15 ct15), sl15⟩) (c15 : PySem.W.codeIn K cd15 "reached" = true) (k15 : PySem.W.keepIn K (.ref f15) = true)
    {f16 : Addr} {od16 an16 : Option Addr} {sl16 : Array (Option Value)} {oc16 kV16 dc16 pm16 cd16 ct16 : Value}
    (a16 : PySem.W.nsIn K mainGlobals "need_wish" = some (some (.ref f16))) (l16 : K.lookup f16 = some ⟨oc16, od16, .func (PySem.W.fnOf "need_wish" "need_wish" (defArgs s_need_wishX) (defBody s_need_wishX) (defScope s_need_wishX) .none kV16 dc16 pm16 an16 cd16 ct16), sl16⟩) (c16 : PySem.W.codeIn K cd16 "need_wish" = true) (k16 : PySem.W.keepIn K (.ref f16) = true)
    {f17 : Addr} {od17 an17 : Option Addr} {sl17 : Array (Option Value)} {oc17 kV17 dc17 pm17 cd17 ct17 : Value}
    (a17 : PySem.W.nsIn K mainGlobals "need_place" = some (some (.ref f17))) (l17 : K.lookup f17 = some ⟨oc17, od17, .func (PySem.W.fnOf "need_place" "need_place" (defArgs s_need_placeX) (defBody s_need_placeX) (defScope s_need_placeX) .none kV17 dc17 pm17 an17 cd17 ct17), sl17⟩) (c17 : PySem.W.codeIn K cd17 "need_place" = true) (k17 : PySem.W.keepIn K (.ref f17) = true)
    {f18 : Addr} {od18 an18 : Option Addr} {sl18 : Array (Option Value)} {oc18 kV18 dc18 pm18 cd18 ct18 : Value}
    (a18 : PySem.W.nsIn K mainGlobals "least_points" = some (some (.ref f18))) (l18 : K.lookup f18 = some ⟨oc18, od18, .func (PySem.W.fnOf "least_points" "least_points" (defArgs s_least_pointsX) (defBody s_least_pointsX) (defScope s_least_pointsX) .none kV18 dc18 pm18 an18 cd18 ct18), sl18⟩) (c18 : PySem.W.codeIn K cd18 "least_points" = true) (k18 : PySem.W.keepIn K (.ref f18) = true)
    {f19 : Addr} {od19 an19 : Option Addr} {sl19 : Array (Option Value)} {oc19 kV19 dc19 pm19 cd19 ct19 : Value}
    (a19 : PySem.W.nsIn K mainGlobals "all_tried" = some (some (.ref f19))) (l19 : K.lookup f19 = some ⟨oc19, od19, .func (PySem.W.fnOf "all_tried" "all_tried" (defArgs s_all_tried) (defBody s_all_tried) (defScope s_all_tried) .none kV19 dc19 pm19 an19 cd19 ct19), sl19⟩) (c19 : PySem.W.codeIn K cd19 "all_tried" = true) (k19 : PySem.W.keepIn K (.ref f19) = true)
    {f20 : Addr} {od20 an20 : Option Addr} {sl20 : Array (Option Value)} {oc20 kV20 dc20 pm20 cd20 ct20 : Value}
    (a20 : PySem.W.nsIn K mainGlobals "least_share" = some (some (.ref f20))) (l20 : K.lookup f20 = some ⟨oc20, od20, .func (PySem.W.fnOf "least_share" "least_share" (defArgs s_least_shareX) (defBody s_least_shareX) (defScope s_least_shareX) .none kV20 dc20 pm20 an20 cd20 ct20), sl20⟩) (c20 : PySem.W.codeIn K cd20 "least_share" = true) (k20 : PySem.W.keepIn K (.ref f20) = true)
    {f21 : Addr} {od21 an21 : Option Addr} {sl21 : Array (Option Value)} {oc21 kV21 dc21 pm21 cd21 ct21 : Value}
    (a21 : PySem.W.nsIn K mainGlobals "_law_cell_at" = some (some (.ref f21))) (l21 : K.lookup f21 = some ⟨oc21, od21, .func (PySem.W.fnOf "_law_cell_at" "_law_cell_at" (defArgs s_l_cell_at) (defBody s_l_cell_at) (defScope s_l_cell_at) .none kV21 dc21 pm21 an21 cd21 ct21), sl21⟩) (c21 : PySem.W.codeIn K cd21 "_law_cell_at" = true) (k21 : PySem.W.keepIn K (.ref f21) = true)
    {f22 : Addr} {od22 an22 : Option Addr} {sl22 : Array (Option Value)} {oc22 kV22 dc22 pm22 cd22 ct22 : Value}
    (a22 : PySem.W.nsIn K mainGlobals "_law_stream" = some (some (.ref f22))) (l22 : K.lookup f22 = some ⟨oc22, od22, .func (PySem.W.fnOf "_law_stream" "_law_stream" (defArgs s_l_stream13) (defBody s_l_stream13) (defScope s_l_stream13) .none kV22 dc22 pm22 an22 cd22 ct22), sl22⟩) (c22 : PySem.W.codeIn K cd22 "_law_stream" = true) (k22 : PySem.W.keepIn K (.ref f22) = true)
    {f23 : Addr} {od23 an23 : Option Addr} {sl23 : Array (Option Value)} {oc23 kV23 dc23 pm23 cd23 ct23 : Value}
    (a23 : PySem.W.nsIn K mainGlobals "_law_task_by" = some (some (.ref f23))) (l23 : K.lookup f23 = some ⟨oc23, od23, .func (PySem.W.fnOf "_law_task_by" "_law_task_by" (defArgs s_l_task_by) (defBody s_l_task_by) (defScope s_l_task_by) .none kV23 dc23 pm23 an23 cd23 ct23), sl23⟩) (c23 : PySem.W.codeIn K cd23 "_law_task_by" = true) (k23 : PySem.W.keepIn K (.ref f23) = true)
    {f24 : Addr} {od24 an24 : Option Addr} {sl24 : Array (Option Value)} {oc24 kV24 dc24 pm24 cd24 ct24 : Value}
    (a24 : PySem.W.nsIn K mainGlobals "_law_part_by" = some (some (.ref f24))) (l24 : K.lookup f24 = some ⟨oc24, od24, .func (PySem.W.fnOf "_law_part_by" "_law_part_by" (defArgs s_l_part_by) (defBody s_l_part_by) (defScope s_l_part_by) .none kV24 dc24 pm24 an24 cd24 ct24), sl24⟩) (c24 : PySem.W.codeIn K cd24 "_law_part_by" = true) (k24 : PySem.W.keepIn K (.ref f24) = true)
    {f25 : Addr} {od25 an25 : Option Addr} {sl25 : Array (Option Value)} {oc25 kV25 dc25 pm25 cd25 ct25 : Value}
    (a25 : PySem.W.nsIn K mainGlobals "_law_course_by" = some (some (.ref f25))) (l25 : K.lookup f25 = some ⟨oc25, od25, .func (PySem.W.fnOf "_law_course_by" "_law_course_by" (defArgs s_l_course_by) (defBody s_l_course_by) (defScope s_l_course_by) .none kV25 dc25 pm25 an25 cd25 ct25), sl25⟩) (c25 : PySem.W.codeIn K cd25 "_law_course_by" = true) (k25 : PySem.W.keepIn K (.ref f25) = true)
    {f26 : Addr} {od26 an26 : Option Addr} {sl26 : Array (Option Value)} {oc26 kV26 dc26 pm26 cd26 ct26 : Value}
    (a26 : PySem.W.nsIn K mainGlobals "_law_class" = some (some (.ref f26))) (l26 : K.lookup f26 = some ⟨oc26, od26, .func (PySem.W.fnOf "_law_class" "_law_class" (defArgs s_l_class) (defBody s_l_class) (defScope s_l_class) .none kV26 dc26 pm26 an26 cd26 ct26), sl26⟩) (c26 : PySem.W.codeIn K cd26 "_law_class" = true) (k26 : PySem.W.keepIn K (.ref f26) = true)
    {f27 : Addr} {od27 an27 : Option Addr} {sl27 : Array (Option Value)} {oc27 kV27 dc27 pm27 cd27 ct27 : Value}
    (a27 : PySem.W.nsIn K mainGlobals "_law_points" = some (some (.ref f27))) (l27 : K.lookup f27 = some ⟨oc27, od27, .func (PySem.W.fnOf "_law_points" "_law_points" (defArgs s_l_points13) (defBody s_l_points13) (defScope s_l_points13) .none kV27 dc27 pm27 an27 cd27 ct27), sl27⟩) (c27 : PySem.W.codeIn K cd27 "_law_points" = true) (k27 : PySem.W.keepIn K (.ref f27) = true)
    {f28 : Addr} {od28 an28 : Option Addr} {sl28 : Array (Option Value)} {oc28 kV28 dc28 pm28 cd28 ct28 : Value}
    (a28 : PySem.W.nsIn K mainGlobals "_law_least" = some (some (.ref f28))) (l28 : K.lookup f28 = some ⟨oc28, od28, .func (PySem.W.fnOf "_law_least" "_law_least" (defArgs s_l_least) (defBody s_l_least) (defScope s_l_least) .none kV28 dc28 pm28 an28 cd28 ct28), sl28⟩) (c28 : PySem.W.codeIn K cd28 "_law_least" = true) (k28 : PySem.W.keepIn K (.ref f28) = true)
    {f29 : Addr} {od29 an29 : Option Addr} {sl29 : Array (Option Value)} {oc29 kV29 dc29 pm29 cd29 ct29 : Value}
    (a29 : PySem.W.nsIn K mainGlobals "_law_wish" = some (some (.ref f29))) (l29 : K.lookup f29 = some ⟨oc29, od29, .func (PySem.W.fnOf "_law_wish" "_law_wish" (defArgs s_l_wish) (defBody s_l_wish) (defScope s_l_wish) .none kV29 dc29 pm29 an29 cd29 ct29), sl29⟩) (c29 : PySem.W.codeIn K cd29 "_law_wish" = true) (k29 : PySem.W.keepIn K (.ref f29) = true)
    {f30 : Addr} {od30 an30 : Option Addr} {sl30 : Array (Option Value)} {oc30 kV30 dc30 pm30 cd30 ct30 : Value}
    (a30 : PySem.W.nsIn K mainGlobals "_law_wish_bad" = some (some (.ref f30))) (l30 : K.lookup f30 = some ⟨oc30, od30, .func (PySem.W.fnOf "_law_wish_bad" "_law_wish_bad" (defArgs s_l_wish_bad) (defBody s_l_wish_bad) (defScope s_l_wish_bad) .none kV30 dc30 pm30 an30 cd30 ct30), sl30⟩) (c30 : PySem.W.codeIn K cd30 "_law_wish_bad" = true) (k30 : PySem.W.keepIn K (.ref f30) = true)
    {f31 : Addr} {od31 an31 : Option Addr} {sl31 : Array (Option Value)} {oc31 kV31 dc31 pm31 cd31 ct31 : Value}
    (a31 : PySem.W.nsIn K mainGlobals "_law_number" = some (some (.ref f31))) (l31 : K.lookup f31 = some ⟨oc31, od31, .func (PySem.W.fnOf "_law_number" "_law_number" (defArgs s_l_number13) (defBody s_l_number13) (defScope s_l_number13) .none kV31 dc31 pm31 an31 cd31 ct31), sl31⟩) (c31 : PySem.W.codeIn K cd31 "_law_number" = true) (k31 : PySem.W.keepIn K (.ref f31) = true)
    {f32 : Addr} {od32 an32 : Option Addr} {sl32 : Array (Option Value)} {oc32 kV32 dc32 pm32 cd32 ct32 : Value}
    (a32 : PySem.W.nsIn K mainGlobals "law" = some (some (.ref f32))) (l32 : K.lookup f32 = some ⟨oc32, od32, .func (PySem.W.fnOf "law" "law" (defArgs s_law_k13) (defBody s_law_k13) (defScope s_law_k13) .none kV32 dc32 pm32 an32 cd32 ct32), sl32⟩) (c32 : PySem.W.codeIn K cd32 "law" = true) (k32 : PySem.W.keepIn K (.ref f32) = true)
    (zz_ValueError : PySem.W.nsIn K mainGlobals "ValueError" = some none)
    (zz_abs : PySem.W.nsIn K mainGlobals "abs" = some none)
    (zz_isinstance : PySem.W.nsIn K mainGlobals "isinstance" = some none)
    (zz_len : PySem.W.nsIn K mainGlobals "len" = some none)
    (zz_list : PySem.W.nsIn K mainGlobals "list" = some none)
    (zz_max : PySem.W.nsIn K mainGlobals "max" = some none)
    (zz_min : PySem.W.nsIn K mainGlobals "min" = some none)
    (zz_range : PySem.W.nsIn K mainGlobals "range" = some none)
    (zz_sum : PySem.W.nsIn K mainGlobals "sum" = some none)
    (zz_tuple : PySem.W.nsIn K mainGlobals "tuple" = some none)
    {tk_MOST_TRIES : Tok} (gg_MOST_TRIES : PySem.W.nsIn K mainGlobals "MOST_TRIES" = some (some (.int 12 tk_MOST_TRIES)))
    {tk_THOUSAND_parts : Tok} (gg_THOUSAND_parts : PySem.W.nsIn K mainGlobals "THOUSAND_parts" = some (some (.int 1000 tk_THOUSAND_parts)))
    {tk_THOUSAND_wishes : Tok} (gg_THOUSAND_wishes : PySem.W.nsIn K mainGlobals "THOUSAND_wishes" = some (some (.int 1000 tk_THOUSAND_wishes)))
    {c_cap : Addr} {c_extra : Addr} {c_mark : Addr} {c_most : Addr} {c_place : Addr} {c_step : Addr} {c_top : Addr} {c_weight : Addr} {c_wish : Addr} {c_worst : Addr} {c_grade : Addr} {c_many : Addr}
    (gg_BadCap : PySem.W.nsIn K mainGlobals "BadCap" = some (some (.ref c_cap)))
    (gg_BadExtra : PySem.W.nsIn K mainGlobals "BadExtra" = some (some (.ref c_extra)))
    (gg_BadMark : PySem.W.nsIn K mainGlobals "BadMark" = some (some (.ref c_mark)))
    (gg_BadMost : PySem.W.nsIn K mainGlobals "BadMost" = some (some (.ref c_most)))
    (gg_BadPlace : PySem.W.nsIn K mainGlobals "BadPlace" = some (some (.ref c_place)))
    (gg_BadStep : PySem.W.nsIn K mainGlobals "BadStep" = some (some (.ref c_step)))
    (gg_BadTop : PySem.W.nsIn K mainGlobals "BadTop" = some (some (.ref c_top)))
    (gg_BadWeight : PySem.W.nsIn K mainGlobals "BadWeight" = some (some (.ref c_weight)))
    (gg_BadWish : PySem.W.nsIn K mainGlobals "BadWish" = some (some (.ref c_wish)))
    (gg_BadWorst : PySem.W.nsIn K mainGlobals "BadWorst" = some (some (.ref c_worst)))
    (gg_GradeError : PySem.W.nsIn K mainGlobals "GradeError" = some (some (.ref c_grade)))
    (gg_TooMany : PySem.W.nsIn K mainGlobals "TooMany" = some (some (.ref c_many)))
    (x_BadPlace : PySem.W.excIn K c_place [.type "ValueError", .type "Exception", .type "BaseException", .type "object"] "ValueError.__new__" = true) (k_BadPlace : PySem.W.keepIn K (.ref c_place) = true) (b_BadPlace : PySem.W.subIn K (.ref c_place) (.type "BaseException") = some true) (t_BadPlace : PySem.W.typeIn K (.ref c_place) = some (.type "type"))
    (x_BadWish : PySem.W.excIn K c_wish [.type "ValueError", .type "Exception", .type "BaseException", .type "object"] "ValueError.__new__" = true) (k_BadWish : PySem.W.keepIn K (.ref c_wish) = true) (b_BadWish : PySem.W.subIn K (.ref c_wish) (.type "BaseException") = some true) (t_BadWish : PySem.W.typeIn K (.ref c_wish) = some (.type "type"))
    (x_TooMany : PySem.W.excIn K c_many [.type "ValueError", .type "Exception", .type "BaseException", .type "object"] "ValueError.__new__" = true) (k_TooMany : PySem.W.keepIn K (.ref c_many) = true) (b_TooMany : PySem.W.subIn K (.ref c_many) (.type "BaseException") = some true) (t_TooMany : PySem.W.typeIn K (.ref c_many) = some (.type "type"))
    (en : PySem.W.specialIn K (.builtin "object.__class__") "__get__" = some (some (.builtin "getset_descriptor.__get__"))) (et : PySem.W.takesIn K (.builtin "object.__class__") = some true)
    (bt_grade : PySem.W.subIn K (.ref c_grade) (.type "BaseException") = some true) (ht_grade : PySem.W.hasDictIn K c_grade = true) (tt_grade : PySem.W.typeIn K (.ref c_grade) = some (.type "type")) (sy_grade : PySem.W.subIn K (.ref c_grade) (.ref c_grade) = some true)
    (bt_many : PySem.W.subIn K (.ref c_many) (.type "BaseException") = some true) (ht_many : PySem.W.hasDictIn K c_many = true) (tt_many : PySem.W.typeIn K (.ref c_many) = some (.type "type")) (sy_many : PySem.W.subIn K (.ref c_many) (.ref c_many) = some true)
    (bt_weight : PySem.W.subIn K (.ref c_weight) (.type "BaseException") = some true) (ht_weight : PySem.W.hasDictIn K c_weight = true) (tt_weight : PySem.W.typeIn K (.ref c_weight) = some (.type "type")) (sy_weight : PySem.W.subIn K (.ref c_weight) (.ref c_weight) = some true)
    (bt_worst : PySem.W.subIn K (.ref c_worst) (.type "BaseException") = some true) (ht_worst : PySem.W.hasDictIn K c_worst = true) (tt_worst : PySem.W.typeIn K (.ref c_worst) = some (.type "type")) (sy_worst : PySem.W.subIn K (.ref c_worst) (.ref c_worst) = some true)
    (bt_top : PySem.W.subIn K (.ref c_top) (.type "BaseException") = some true) (ht_top : PySem.W.hasDictIn K c_top = true) (tt_top : PySem.W.typeIn K (.ref c_top) = some (.type "type")) (sy_top : PySem.W.subIn K (.ref c_top) (.ref c_top) = some true)
    (bt_most : PySem.W.subIn K (.ref c_most) (.type "BaseException") = some true) (ht_most : PySem.W.hasDictIn K c_most = true) (tt_most : PySem.W.typeIn K (.ref c_most) = some (.type "type")) (sy_most : PySem.W.subIn K (.ref c_most) (.ref c_most) = some true)
    (bt_cap : PySem.W.subIn K (.ref c_cap) (.type "BaseException") = some true) (ht_cap : PySem.W.hasDictIn K c_cap = true) (tt_cap : PySem.W.typeIn K (.ref c_cap) = some (.type "type")) (sy_cap : PySem.W.subIn K (.ref c_cap) (.ref c_cap) = some true)
    (bt_mark : PySem.W.subIn K (.ref c_mark) (.type "BaseException") = some true) (ht_mark : PySem.W.hasDictIn K c_mark = true) (tt_mark : PySem.W.typeIn K (.ref c_mark) = some (.type "type")) (sy_mark : PySem.W.subIn K (.ref c_mark) (.ref c_mark) = some true)
    (bt_extra : PySem.W.subIn K (.ref c_extra) (.type "BaseException") = some true) (ht_extra : PySem.W.hasDictIn K c_extra = true) (tt_extra : PySem.W.typeIn K (.ref c_extra) = some (.type "type")) (sy_extra : PySem.W.subIn K (.ref c_extra) (.ref c_extra) = some true)
    (bt_place : PySem.W.subIn K (.ref c_place) (.type "BaseException") = some true) (ht_place : PySem.W.hasDictIn K c_place = true) (tt_place : PySem.W.typeIn K (.ref c_place) = some (.type "type")) (sy_place : PySem.W.subIn K (.ref c_place) (.ref c_place) = some true)
    (bt_wish : PySem.W.subIn K (.ref c_wish) (.type "BaseException") = some true) (ht_wish : PySem.W.hasDictIn K c_wish = true) (tt_wish : PySem.W.typeIn K (.ref c_wish) = some (.type "type")) (sy_wish : PySem.W.subIn K (.ref c_wish) (.ref c_wish) = some true)
    (bt_step : PySem.W.subIn K (.ref c_step) (.type "BaseException") = some true) (ht_step : PySem.W.hasDictIn K c_step = true) (tt_step : PySem.W.typeIn K (.ref c_step) = some (.type "type")) (sy_step : PySem.W.subIn K (.ref c_step) (.ref c_step) = some true)
    (e1_place : PySem.W.findIn K (.ref c_place) "__getattribute__" = some (some (.builtin "BaseException.__getattribute__"))) (e2_place : PySem.W.findIn K (.ref c_place) "__getattr__" = some none) (e5_place : PySem.W.findIn K (.ref c_place) "__class__" = some (some (.builtin "object.__class__"))) (e8_place : PySem.W.mroIn K c_place (.type "object") = some true)
    (sg_place : PySem.W.subIn K (.ref c_place) (.ref c_grade) = some true) (sv_place : PySem.W.subIn K (.ref c_place) (.type "ValueError") = some true)
    (ss_place_many : PySem.W.subIn K (.ref c_place) (.ref c_many) = some false)
    (ss_place_wish : PySem.W.subIn K (.ref c_place) (.ref c_wish) = some false)
    (ss_place_cap : PySem.W.subIn K (.ref c_place) (.ref c_cap) = some false)
    (ss_place_extra : PySem.W.subIn K (.ref c_place) (.ref c_extra) = some false)
    (ss_place_mark : PySem.W.subIn K (.ref c_place) (.ref c_mark) = some false)
    (ss_place_most : PySem.W.subIn K (.ref c_place) (.ref c_most) = some false)
    (ss_place_step : PySem.W.subIn K (.ref c_place) (.ref c_step) = some false)
    (ss_place_top : PySem.W.subIn K (.ref c_place) (.ref c_top) = some false)
    (ss_place_weight : PySem.W.subIn K (.ref c_place) (.ref c_weight) = some false)
    (ss_place_worst : PySem.W.subIn K (.ref c_place) (.ref c_worst) = some false)
    (e1_many : PySem.W.findIn K (.ref c_many) "__getattribute__" = some (some (.builtin "BaseException.__getattribute__"))) (e2_many : PySem.W.findIn K (.ref c_many) "__getattr__" = some none) (e5_many : PySem.W.findIn K (.ref c_many) "__class__" = some (some (.builtin "object.__class__"))) (e8_many : PySem.W.mroIn K c_many (.type "object") = some true)
    (sg_many : PySem.W.subIn K (.ref c_many) (.ref c_grade) = some true) (sv_many : PySem.W.subIn K (.ref c_many) (.type "ValueError") = some true)
    (ss_many_place : PySem.W.subIn K (.ref c_many) (.ref c_place) = some false)
    (ss_many_wish : PySem.W.subIn K (.ref c_many) (.ref c_wish) = some false)
    (ss_many_cap : PySem.W.subIn K (.ref c_many) (.ref c_cap) = some false)
    (ss_many_extra : PySem.W.subIn K (.ref c_many) (.ref c_extra) = some false)
    (ss_many_mark : PySem.W.subIn K (.ref c_many) (.ref c_mark) = some false)
    (ss_many_most : PySem.W.subIn K (.ref c_many) (.ref c_most) = some false)
    (ss_many_step : PySem.W.subIn K (.ref c_many) (.ref c_step) = some false)
    (ss_many_top : PySem.W.subIn K (.ref c_many) (.ref c_top) = some false)
    (ss_many_weight : PySem.W.subIn K (.ref c_many) (.ref c_weight) = some false)
    (ss_many_worst : PySem.W.subIn K (.ref c_many) (.ref c_worst) = some false)
    (e1_wish : PySem.W.findIn K (.ref c_wish) "__getattribute__" = some (some (.builtin "BaseException.__getattribute__"))) (e2_wish : PySem.W.findIn K (.ref c_wish) "__getattr__" = some none) (e5_wish : PySem.W.findIn K (.ref c_wish) "__class__" = some (some (.builtin "object.__class__"))) (e8_wish : PySem.W.mroIn K c_wish (.type "object") = some true)
    (sg_wish : PySem.W.subIn K (.ref c_wish) (.ref c_grade) = some true) (sv_wish : PySem.W.subIn K (.ref c_wish) (.type "ValueError") = some true)
    (ss_wish_place : PySem.W.subIn K (.ref c_wish) (.ref c_place) = some false)
    (ss_wish_many : PySem.W.subIn K (.ref c_wish) (.ref c_many) = some false)
    (ss_wish_cap : PySem.W.subIn K (.ref c_wish) (.ref c_cap) = some false)
    (ss_wish_extra : PySem.W.subIn K (.ref c_wish) (.ref c_extra) = some false)
    (ss_wish_mark : PySem.W.subIn K (.ref c_wish) (.ref c_mark) = some false)
    (ss_wish_most : PySem.W.subIn K (.ref c_wish) (.ref c_most) = some false)
    (ss_wish_step : PySem.W.subIn K (.ref c_wish) (.ref c_step) = some false)
    (ss_wish_top : PySem.W.subIn K (.ref c_wish) (.ref c_top) = some false)
    (ss_wish_weight : PySem.W.subIn K (.ref c_wish) (.ref c_weight) = some false)
    (ss_wish_worst : PySem.W.subIn K (.ref c_wish) (.ref c_worst) = some false)
    : ∃ fd : FuncData, (∀ (s : Shared) (v : Value), BindsTo s fd ⟨[v], []⟩ [("_law_script", v)]) ∧ ∀ base : Heap, K.In base → base.Ns mainGlobals mg → FnOk l.prog w K mg base CX0 11 fa fd p_law_k13 (sp_law_k13 K) := by
  have e := hfa.symm.trans (PySem.W.mg_of X G a32)
  cases e
  have z_ValueError := PySem.W.mg_none_of X G zz_ValueError
  have z_abs := PySem.W.mg_none_of X G zz_abs
  have z_isinstance := PySem.W.mg_none_of X G zz_isinstance
  have z_len := PySem.W.mg_none_of X G zz_len
  have z_list := PySem.W.mg_none_of X G zz_list
  have z_max := PySem.W.mg_none_of X G zz_max
  have z_min := PySem.W.mg_none_of X G zz_min
  have z_range := PySem.W.mg_none_of X G zz_range
  have z_sum := PySem.W.mg_none_of X G zz_sum
  have z_tuple := PySem.W.mg_none_of X G zz_tuple
  have m_MOST_TRIES := PySem.W.mg_of X G gg_MOST_TRIES
  have m_THOUSAND_parts := PySem.W.mg_of X G gg_THOUSAND_parts
  have m_THOUSAND_wishes := PySem.W.mg_of X G gg_THOUSAND_wishes
  let cv : Cv := fun c => match c with | .cap => c_cap | .extra => c_extra | .mark => c_mark | .most => c_most | .place => c_place | .step => c_step | .top => c_top | .weight => c_weight | .wish => c_wish | .worst => c_worst | .grade => c_grade | .many => c_many
  have g_BadCap : mg "BadCap" = some (.ref (cv .cap)) := PySem.W.mg_of X G gg_BadCap
  have g_BadExtra : mg "BadExtra" = some (.ref (cv .extra)) := PySem.W.mg_of X G gg_BadExtra
  have g_BadMark : mg "BadMark" = some (.ref (cv .mark)) := PySem.W.mg_of X G gg_BadMark
  have g_BadMost : mg "BadMost" = some (.ref (cv .most)) := PySem.W.mg_of X G gg_BadMost
  have g_BadPlace : mg "BadPlace" = some (.ref (cv .place)) := PySem.W.mg_of X G gg_BadPlace
  have g_BadStep : mg "BadStep" = some (.ref (cv .step)) := PySem.W.mg_of X G gg_BadStep
  have g_BadTop : mg "BadTop" = some (.ref (cv .top)) := PySem.W.mg_of X G gg_BadTop
  have g_BadWeight : mg "BadWeight" = some (.ref (cv .weight)) := PySem.W.mg_of X G gg_BadWeight
  have g_BadWish : mg "BadWish" = some (.ref (cv .wish)) := PySem.W.mg_of X G gg_BadWish
  have g_BadWorst : mg "BadWorst" = some (.ref (cv .worst)) := PySem.W.mg_of X G gg_BadWorst
  have g_GradeError : mg "GradeError" = some (.ref (cv .grade)) := PySem.W.mg_of X G gg_GradeError
  have g_TooMany : mg "TooMany" = some (.ref (cv .many)) := PySem.W.mg_of X G gg_TooMany
  have x_BadPlace : PySem.W.excIn K (cv .place) [.type "ValueError", .type "Exception", .type "BaseException", .type "object"] "ValueError.__new__" = true := x_BadPlace; have k_BadPlace : PySem.W.keepIn K (.ref (cv .place)) = true := k_BadPlace; have b_BadPlace : PySem.W.subIn K (.ref (cv .place)) (.type "BaseException") = some true := b_BadPlace; have t_BadPlace : PySem.W.typeIn K (.ref (cv .place)) = some (.type "type") := t_BadPlace
  have x_BadWish : PySem.W.excIn K (cv .wish) [.type "ValueError", .type "Exception", .type "BaseException", .type "object"] "ValueError.__new__" = true := x_BadWish; have k_BadWish : PySem.W.keepIn K (.ref (cv .wish)) = true := k_BadWish; have b_BadWish : PySem.W.subIn K (.ref (cv .wish)) (.type "BaseException") = some true := b_BadWish; have t_BadWish : PySem.W.typeIn K (.ref (cv .wish)) = some (.type "type") := t_BadWish
  have x_TooMany : PySem.W.excIn K (cv .many) [.type "ValueError", .type "Exception", .type "BaseException", .type "object"] "ValueError.__new__" = true := x_TooMany; have k_TooMany : PySem.W.keepIn K (.ref (cv .many)) = true := k_TooMany; have b_TooMany : PySem.W.subIn K (.ref (cv .many)) (.type "BaseException") = some true := b_TooMany; have t_TooMany : PySem.W.typeIn K (.ref (cv .many)) = some (.type "type") := t_TooMany
  have EF : EF_k13 K cv := by
    refine ⟨?_, ?_, ?_, ?_, ?_⟩
    · intro x hx; cases x with
      | many => exact ⟨e1_many, e2_many, bt_many, ht_many, e5_many, en, et, e8_many⟩
      | place => exact ⟨e1_place, e2_place, bt_place, ht_place, e5_place, en, et, e8_place⟩
      | wish => exact ⟨e1_wish, e2_wish, bt_wish, ht_wish, e5_wish, en, et, e8_wish⟩
      | _ => exact absurd hx (by decide)
    · intro x hx; cases x with
      | many => exact PySem.W.exm_ref bt_grade ht_grade tt_grade sg_many
      | place => exact PySem.W.exm_ref bt_grade ht_grade tt_grade sg_place
      | wish => exact PySem.W.exm_ref bt_grade ht_grade tt_grade sg_wish
      | _ => exact absurd hx (by decide)
    · exact trivial
    · intro x y hx hy; cases x with
      | many => cases y with
        | many => exact kit_self
        | weight => exact kit_ne ht_weight tt_weight sy_weight ss_many_weight
        | worst => exact kit_ne ht_worst tt_worst sy_worst ss_many_worst
        | top => exact kit_ne ht_top tt_top sy_top ss_many_top
        | most => exact kit_ne ht_most tt_most sy_most ss_many_most
        | cap => exact kit_ne ht_cap tt_cap sy_cap ss_many_cap
        | mark => exact kit_ne ht_mark tt_mark sy_mark ss_many_mark
        | extra => exact kit_ne ht_extra tt_extra sy_extra ss_many_extra
        | place => exact kit_ne ht_place tt_place sy_place ss_many_place
        | wish => exact kit_ne ht_wish tt_wish sy_wish ss_many_wish
        | step => exact kit_ne ht_step tt_step sy_step ss_many_step
        | _ => exact absurd hy (by decide)
      | place => cases y with
        | many => exact kit_ne ht_many tt_many sy_many ss_place_many
        | weight => exact kit_ne ht_weight tt_weight sy_weight ss_place_weight
        | worst => exact kit_ne ht_worst tt_worst sy_worst ss_place_worst
        | top => exact kit_ne ht_top tt_top sy_top ss_place_top
        | most => exact kit_ne ht_most tt_most sy_most ss_place_most
        | cap => exact kit_ne ht_cap tt_cap sy_cap ss_place_cap
        | mark => exact kit_ne ht_mark tt_mark sy_mark ss_place_mark
        | extra => exact kit_ne ht_extra tt_extra sy_extra ss_place_extra
        | place => exact kit_self
        | wish => exact kit_ne ht_wish tt_wish sy_wish ss_place_wish
        | step => exact kit_ne ht_step tt_step sy_step ss_place_step
        | _ => exact absurd hy (by decide)
      | wish => cases y with
        | many => exact kit_ne ht_many tt_many sy_many ss_wish_many
        | weight => exact kit_ne ht_weight tt_weight sy_weight ss_wish_weight
        | worst => exact kit_ne ht_worst tt_worst sy_worst ss_wish_worst
        | top => exact kit_ne ht_top tt_top sy_top ss_wish_top
        | most => exact kit_ne ht_most tt_most sy_most ss_wish_most
        | cap => exact kit_ne ht_cap tt_cap sy_cap ss_wish_cap
        | mark => exact kit_ne ht_mark tt_mark sy_mark ss_wish_mark
        | extra => exact kit_ne ht_extra tt_extra sy_extra ss_wish_extra
        | place => exact kit_ne ht_place tt_place sy_place ss_wish_place
        | wish => exact kit_self
        | step => exact kit_ne ht_step tt_step sy_step ss_wish_step
        | _ => exact absurd hy (by decide)
      | _ => exact absurd hx (by decide)
    · intro x hx; cases x with
      | many => exact kit_ve sv_many
      | place => exact kit_ve sv_place
      | wish => exact kit_ve sv_wish
      | _ => exact absurd hx (by decide)
  refine ⟨PySem.W.fnOf "law" "law" (defArgs s_law_k13) (defBody s_law_k13) (defScope s_law_k13) .none kV32 dc32 pm32 an32 cd32 ct32, fun s v => .of_eq rfl, fun base _ _ => ?_⟩
  have G_divisor : Fn l.prog w K mg base "divisor" p_divisor 1 (sp_divisor K) := ok_divisor (fun_mk (st := s_divisor) l0 c0 k0) (PySem.W.mg_of X G a0)
  have G_share : Fn l.prog w K mg base "share" p_share 2 (sp_share K) := ok_share G_divisor z_abs (fun_mk (st := s_share) l1 c1 k1) (PySem.W.mg_of X G a1)
  have G_plus : Fn l.prog w K mg base "plus" p_plus 3 (sp_plus K) := ok_plus G_share (fun_mk (st := s_plus) l2 c2 k2) (PySem.W.mg_of X G a2)
  have G_times : Fn l.prog w K mg base "times" p_times 3 (sp_times K) := ok_times G_share (fun_mk (st := s_times) l3 c3 k3) (PySem.W.mg_of X G a3)
  have G_less : Fn l.prog w K mg base "less" p_less 1 (sp_less K) := ok_less (fun_mk (st := s_less) l4 c4 k4) (PySem.W.mg_of X G a4)
  have G_gives : Fn l.prog w K mg base "gives" p_gives 1 (sp_gives K) := ok_gives z_list z_min (fun_mk (st := s_gives) l5 c5 k5) (PySem.W.mg_of X G a5)
  have G_mark : Fn l.prog w K mg base "mark" p_mark 2 (sp_mark K) := ok_mark G_gives z_max (fun_mk (st := s_mark) l6 c6 k6) (PySem.W.mg_of X G a6)
  have G_marked : Fn l.prog w K mg base "marked" p_marked 3 (sp_marked K) := ok_marked G_mark z_len z_range (fun_mk (st := s_marked) l7 c7 k7) (PySem.W.mg_of X G a7)
  have G_mean : Fn l.prog w K mg base "mean" p_mean 4 (sp_mean K) := ok_mean G_share G_plus G_mark (fun_mk (st := s_mean) l8 c8 k8) (PySem.W.mg_of X G a8)
  have G_choices : Fn l.prog w K mg base "choices" p_choices 1 (sp_choices K) := ok_choices z_range (fun_mk (st := s_choices) l9 c9 k9) (PySem.W.mg_of X G a9)
  have G_left_out : Fn l.prog w K mg base "left_out" p_left_out 5 (sp_left_out K) := ok_left_out G_less G_marked G_mean G_choices z_len z_max z_min (fun_mk (st := s_left_out) l10 c10 k10) (PySem.W.mg_of X G a10)
  have G_part_share : Fn l.prog w K mg base "part_share" p_part_share 6 (sp_part_share K) := ok_part_share G_share G_plus G_less G_marked G_mean G_left_out z_len z_min z_sum m_THOUSAND_parts (fun_mk (st := s_part_share) l11 c11 k11) (PySem.W.mg_of X G a11)
  have G_grade : Fn l.prog w K mg base "grade" p_grade 7 (sp_grade K) := ok_grade G_share G_plus G_times G_part_share (fun_mk (st := s_grade) l12 c12 k12) (PySem.W.mg_of X G a12)
  have G_with_try : Fn l.prog w K mg base "with_try" p_with_try 1 (sp_with_try K) := ok_with_try z_list z_tuple (fun_mk (st := s_with_try) l13 c13 k13) (PySem.W.mg_of X G a13)
  have G_tried : Fn l.prog w K mg base "tried" p_tried 2 (sp_tried K) := ok_tried G_with_try z_list (fun_mk (st := s_tried) l14 c14 k14) (PySem.W.mg_of X G a14)
  have G_reached : Fn l.prog w K mg base "reached" p_reached 8 (sp_reached K) := ok_reached G_less G_grade (fun_mk (st := s_reached) l15 c15 k15) (PySem.W.mg_of X G a15)
  have G_need_wishX : FnX l.prog w K mg base "need_wish" p_need_wishX 3 (sp_need_wishX K cv) := ok_need_wishX G_share g_BadWish x_BadWish k_BadWish b_BadWish t_BadWish (fun_mk (st := s_need_wishX) l16 c16 k16) (PySem.W.mg_of X G a16)
  have G_need_placeX : FnX l.prog w K mg base "need_place" p_need_placeX 1 (sp_need_placeX K cv) := ok_need_placeX z_len m_MOST_TRIES g_BadPlace g_TooMany x_BadPlace k_BadPlace b_BadPlace t_BadPlace x_TooMany k_TooMany b_TooMany t_TooMany (fun_mk (st := s_need_placeX) l17 c17 k17) (PySem.W.mg_of X G a17)
  have G_least_pointsX : FnX l.prog w K mg base "least_points" p_least_pointsX 9 (sp_least_pointsX K cv) := ok_least_pointsX G_tried G_reached G_need_wishX G_need_placeX (fun_mk (st := s_least_pointsX) l18 c18 k18) (PySem.W.mg_of X G a18)
  have G_all_tried : Fn l.prog w K mg base "all_tried" p_all_tried 2 (sp_all_tried K) := ok_all_tried G_with_try z_len z_list z_range m_THOUSAND_wishes (fun_mk (st := s_all_tried) l19 c19 k19) (PySem.W.mg_of X G a19)
  have G_least_shareX : FnX l.prog w K mg base "least_share" p_least_shareX 9 (sp_least_shareX K cv) := ok_least_shareX G_reached G_need_wishX G_all_tried m_THOUSAND_wishes (fun_mk (st := s_least_shareX) l20 c20 k20) (PySem.W.mg_of X G a20)
  have G_l_cell_at : Fn l.prog w K mg base "_law_cell_at" p_l_cell_at 1 (sp_l_cell_at K) := ok_l_cell_at z_len (fun_mk (st := s_l_cell_at) l21 c21 k21) (PySem.W.mg_of X G a21)
  have G_l_stream13 : Fn l.prog w K mg base "_law_stream" p_l_stream13 1 (sp_l_stream13 K) := ok_l_stream13 z_range (fun_mk (st := s_l_stream13) l22 c22 k22) (PySem.W.mg_of X G a22)
  have G_l_task_by : Fn l.prog w K mg base "_law_task_by" p_l_task_by 1 (sp_l_task_by K) := ok_l_task_by z_range z_tuple (fun_mk (st := s_l_task_by) l23 c23 k23) (PySem.W.mg_of X G a23)
  have G_l_part_by : Fn l.prog w K mg base "_law_part_by" p_l_part_by 2 (sp_l_part_by K) := ok_l_part_by G_l_stream13 G_l_task_by z_range z_tuple (fun_mk (st := s_l_part_by) l24 c24 k24) (PySem.W.mg_of X G a24)
  have G_l_course_by : Fn l.prog w K mg base "_law_course_by" p_l_course_by 3 (sp_l_course_by K) := ok_l_course_by G_l_cell_at G_l_part_by z_range (fun_mk (st := s_l_course_by) l25 c25 k25) (PySem.W.mg_of X G a25)
  have G_l_class : FnE l.prog w K mg base "_law_class" p_l_class 1 (sp_l_class K cv) := ok_l_class z_ValueError z_isinstance g_BadCap g_BadExtra g_BadMark g_BadMost g_BadPlace g_BadStep g_BadTop g_BadWeight g_BadWish g_BadWorst g_TooMany EF (fun_mk (st := s_l_class) l26 c26 k26) (PySem.W.mg_of X G a26)
  have G_l_points13 : Fn l.prog w K mg base "_law_points" p_l_points13 10 (sp_l_points13 K) := ok_l_points13 G_least_pointsX G_l_class g_GradeError EF (fun_mk (st := s_l_points13) l27 c27 k27) (PySem.W.mg_of X G a27)
  have G_l_least : Fn l.prog w K mg base "_law_least" p_l_least 10 (sp_l_least K) := ok_l_least G_least_shareX G_l_class g_GradeError EF (fun_mk (st := s_l_least) l28 c28 k28) (PySem.W.mg_of X G a28)
  have G_l_wish : Fn l.prog w K mg base "_law_wish" p_l_wish 1 (sp_l_wish K) := ok_l_wish (fun_mk (st := s_l_wish) l29 c29 k29) (PySem.W.mg_of X G a29)
  have G_l_wish_bad : Fn l.prog w K mg base "_law_wish_bad" p_l_wish_bad 1 (sp_l_wish_bad K) := ok_l_wish_bad (fun_mk (st := s_l_wish_bad) l30 c30 k30) (PySem.W.mg_of X G a30)
  have G_l_number13 : Fn l.prog w K mg base "_law_number" p_l_number13 1 (sp_l_number13 K) := ok_l_number13 (fun_mk (st := s_l_number13) l31 c31 k31) (PySem.W.mg_of X G a31)
  exact lawOk_k13 G_l_cell_at G_l_course_by G_l_points13 G_l_least G_l_wish G_l_wish_bad G_l_number13 z_len z_list (fun_mk (st := s_law_k13) l32 c32 k32)
end GW
open PySem PySem.W PyProof.Rows
set_option maxRecDepth 100000 in
set_option maxHeartbeats 0 in
theorem PySem.Challenge.cw_gradewish_k13_wishes_refused_holds : PySem.Challenge.rw_gradewish_k13_wishes_refused.Holds := by
  w_on; o_law; k_head; (case hw => w_witness2)
  k_fill
  refine L2.walk_of (l := PySem.Challenge.rw_gradewish_k13_wishes_refused) (n := 63) (k := 11) (x := "_law_script") (CX := fun _ => L2.CX0) (sp := fun w => GW.sp_law_k13 _) rfl (by decide) rfl ⟨rfl, by decide, by decide⟩ (fun w h Y => PySem.W.kIn_of Y) ?F (fun _ _ a ns hl _ hS => GW.law_pre hl hS fun ns h => ⟨ns, rfl, h, rfl⟩) (fun _ _ _ _ _ h => h)
  case F =>
    intro w mg fa h KX G hmg
    refine' GW.all_mk KX G hmg ?a0 ?l0 ?c0 ?k0 ?a1 ?l1 ?c1 ?k1 ?a2 ?l2 ?c2 ?k2 ?a3 ?l3 ?c3 ?k3 ?a4 ?l4 ?c4 ?k4 ?a5 ?l5 ?c5 ?k5 ?a6 ?l6 ?c6 ?k6 ?a7 ?l7 ?c7 ?k7 ?a8 ?l8 ?c8 ?k8 ?a9 ?l9 ?c9 ?k9 ?a10 ?l10 ?c10 ?k10 ?a11 ?l11 ?c11 ?k11 ?a12 ?l12 ?c12 ?k12 ?a13 ?l13 ?c13 ?k13 ?a14 ?l14 ?c14 ?k14 ?a15 ?l15 ?c15 ?k15 ?a16 ?l16 ?c16 ?k16 ?a17 ?l17 ?c17 ?k17 ?a18 ?l18 ?c18 ?k18 ?a19 ?l19 ?c19 ?k19 ?a20 ?l20 ?c20 ?k20 ?a21 ?l21 ?c21 ?k21 ?a22 ?l22 ?c22 ?k22 ?a23 ?l23 ?c23 ?k23 ?a24 ?l24 ?c24 ?k24 ?a25 ?l25 ?c25 ?k25 ?a26 ?l26 ?c26 ?k26 ?a27 ?l27 ?c27 ?k27 ?a28 ?l28 ?c28 ?k28 ?a29 ?l29 ?c29 ?k29 ?a30 ?l30 ?c30 ?k30 ?a31 ?l31 ?c31 ?k31 ?a32 ?l32 ?c32 ?k32 ?zz_ValueError ?zz_abs ?zz_isinstance ?zz_len ?zz_list ?zz_max ?zz_min ?zz_range ?zz_sum ?zz_tuple ?gg_MOST_TRIES ?gg_THOUSAND_parts ?gg_THOUSAND_wishes ?gg_BadCap ?gg_BadExtra ?gg_BadMark ?gg_BadMost ?gg_BadPlace ?gg_BadStep ?gg_BadTop ?gg_BadWeight ?gg_BadWish ?gg_BadWorst ?gg_GradeError ?gg_TooMany ?x_BadPlace ?k_BadPlace ?b_BadPlace ?t_BadPlace ?x_BadWish ?k_BadWish ?b_BadWish ?t_BadWish ?x_TooMany ?k_TooMany ?b_TooMany ?t_TooMany ?en ?et ?bt_grade ?ht_grade ?tt_grade ?sy_grade ?bt_many ?ht_many ?tt_many ?sy_many ?bt_weight ?ht_weight ?tt_weight ?sy_weight ?bt_worst ?ht_worst ?tt_worst ?sy_worst ?bt_top ?ht_top ?tt_top ?sy_top ?bt_most ?ht_most ?tt_most ?sy_most ?bt_cap ?ht_cap ?tt_cap ?sy_cap ?bt_mark ?ht_mark ?tt_mark ?sy_mark ?bt_extra ?ht_extra ?tt_extra ?sy_extra ?bt_place ?ht_place ?tt_place ?sy_place ?bt_wish ?ht_wish ?tt_wish ?sy_wish ?bt_step ?ht_step ?tt_step ?sy_step ?e1_place ?e2_place ?e5_place ?e8_place ?sg_place ?sv_place ?ss_place_many ?ss_place_wish ?ss_place_cap ?ss_place_extra ?ss_place_mark ?ss_place_most ?ss_place_step ?ss_place_top ?ss_place_weight ?ss_place_worst ?e1_many ?e2_many ?e5_many ?e8_many ?sg_many ?sv_many ?ss_many_place ?ss_many_wish ?ss_many_cap ?ss_many_extra ?ss_many_mark ?ss_many_most ?ss_many_step ?ss_many_top ?ss_many_weight ?ss_many_worst ?e1_wish ?e2_wish ?e5_wish ?e8_wish ?sg_wish ?sv_wish ?ss_wish_place ?ss_wish_many ?ss_wish_cap ?ss_wish_extra ?ss_wish_mark ?ss_wish_most ?ss_wish_step ?ss_wish_top ?ss_wish_weight ?ss_wish_worst
    (case a0 => k_is)
    (case l0 => k_is)
    (case c0 => k_is)
    (case k0 => k_is)
    (case a1 => k_is)
    (case l1 => k_is)
    (case c1 => k_is)
    (case k1 => k_is)
    (case a2 => k_is)
    (case l2 => k_is)
    (case c2 => k_is)
    (case k2 => k_is)
    (case a3 => k_is)
    (case l3 => k_is)
    (case c3 => k_is)
    (case k3 => k_is)
    (case a4 => k_is)
    (case l4 => k_is)
    (case c4 => k_is)
    (case k4 => k_is)
    (case a5 => k_is)
    (case l5 => k_is)
    (case c5 => k_is)
    (case k5 => k_is)
    (case a6 => k_is)
    (case l6 => k_is)
    (case c6 => k_is)
    (case k6 => k_is)
    (case a7 => k_is)
    (case l7 => k_is)
    (case c7 => k_is)
    (case k7 => k_is)
    (case a8 => k_is)
    (case l8 => k_is)
    (case c8 => k_is)
    (case k8 => k_is)
    (case a9 => k_is)
    (case l9 => k_is)
    (case c9 => k_is)
    (case k9 => k_is)
    (case a10 => k_is)
    (case l10 => k_is)
    (case c10 => k_is)
    (case k10 => k_is)
    (case a11 => k_is)
    (case l11 => k_is)
    (case c11 => k_is)
    (case k11 => k_is)
    (case a12 => k_is)
    (case l12 => k_is)
    (case c12 => k_is)
    (case k12 => k_is)
    (case a13 => k_is)
    (case l13 => k_is)
    (case c13 => k_is)
    (case k13 => k_is)
    (case a14 => k_is)
    (case l14 => k_is)
    (case c14 => k_is)
    (case k14 => k_is)
    (case a15 => k_is)
    (case l15 => k_is)
    (case c15 => k_is)
    (case k15 => k_is)
    (case a16 => k_is)
    (case l16 => k_is)
    (case c16 => k_is)
    (case k16 => k_is)
    (case a17 => k_is)
    (case l17 => k_is)
    (case c17 => k_is)
    (case k17 => k_is)
    (case a18 => k_is)
    (case l18 => k_is)
    (case c18 => k_is)
    (case k18 => k_is)
    (case a19 => k_is)
    (case l19 => k_is)
    (case c19 => k_is)
    (case k19 => k_is)
    (case a20 => k_is)
    (case l20 => k_is)
    (case c20 => k_is)
    (case k20 => k_is)
    (case a21 => k_is)
    (case l21 => k_is)
    (case c21 => k_is)
    (case k21 => k_is)
    (case a22 => k_is)
    (case l22 => k_is)
    (case c22 => k_is)
    (case k22 => k_is)
    (case a23 => k_is)
    (case l23 => k_is)
    (case c23 => k_is)
    (case k23 => k_is)
    (case a24 => k_is)
    (case l24 => k_is)
    (case c24 => k_is)
    (case k24 => k_is)
    (case a25 => k_is)
    (case l25 => k_is)
    (case c25 => k_is)
    (case k25 => k_is)
    (case a26 => k_is)
    (case l26 => k_is)
    (case c26 => k_is)
    (case k26 => k_is)
    (case a27 => k_is)
    (case l27 => k_is)
    (case c27 => k_is)
    (case k27 => k_is)
    (case a28 => k_is)
    (case l28 => k_is)
    (case c28 => k_is)
    (case k28 => k_is)
    (case a29 => k_is)
    (case l29 => k_is)
    (case c29 => k_is)
    (case k29 => k_is)
    (case a30 => k_is)
    (case l30 => k_is)
    (case c30 => k_is)
    (case k30 => k_is)
    (case a31 => k_is)
    (case l31 => k_is)
    (case c31 => k_is)
    (case k31 => k_is)
    (case a32 => k_is)
    (case l32 => k_is)
    (case c32 => k_is)
    (case k32 => k_is)
    (case zz_ValueError => k_is)
    (case zz_abs => k_is)
    (case zz_isinstance => k_is)
    (case zz_len => k_is)
    (case zz_list => k_is)
    (case zz_max => k_is)
    (case zz_min => k_is)
    (case zz_range => k_is)
    (case zz_sum => k_is)
    (case zz_tuple => k_is)
    (case gg_MOST_TRIES => k_is)
    (case gg_THOUSAND_parts => k_is)
    (case gg_THOUSAND_wishes => k_is)
    (case gg_BadCap => k_is)
    (case gg_BadExtra => k_is)
    (case gg_BadMark => k_is)
    (case gg_BadMost => k_is)
    (case gg_BadPlace => k_is)
    (case gg_BadStep => k_is)
    (case gg_BadTop => k_is)
    (case gg_BadWeight => k_is)
    (case gg_BadWish => k_is)
    (case gg_BadWorst => k_is)
    (case gg_GradeError => k_is)
    (case gg_TooMany => k_is)
    (case x_BadPlace => k_exc)
    (case k_BadPlace => k_is)
    (case b_BadPlace => k_is)
    (case t_BadPlace => k_is)
    (case x_BadWish => k_exc)
    (case k_BadWish => k_is)
    (case b_BadWish => k_is)
    (case t_BadWish => k_is)
    (case x_TooMany => k_exc)
    (case k_TooMany => k_is)
    (case b_TooMany => k_is)
    (case t_TooMany => k_is)
    (case en => k_is)
    (case et => k_is)
    (case bt_grade => k_is)
    (case ht_grade => k_is)
    (case tt_grade => k_is)
    (case sy_grade => k_is)
    (case bt_many => k_is)
    (case ht_many => k_is)
    (case tt_many => k_is)
    (case sy_many => k_is)
    (case bt_weight => k_is)
    (case ht_weight => k_is)
    (case tt_weight => k_is)
    (case sy_weight => k_is)
    (case bt_worst => k_is)
    (case ht_worst => k_is)
    (case tt_worst => k_is)
    (case sy_worst => k_is)
    (case bt_top => k_is)
    (case ht_top => k_is)
    (case tt_top => k_is)
    (case sy_top => k_is)
    (case bt_most => k_is)
    (case ht_most => k_is)
    (case tt_most => k_is)
    (case sy_most => k_is)
    (case bt_cap => k_is)
    (case ht_cap => k_is)
    (case tt_cap => k_is)
    (case sy_cap => k_is)
    (case bt_mark => k_is)
    (case ht_mark => k_is)
    (case tt_mark => k_is)
    (case sy_mark => k_is)
    (case bt_extra => k_is)
    (case ht_extra => k_is)
    (case tt_extra => k_is)
    (case sy_extra => k_is)
    (case bt_place => k_is)
    (case ht_place => k_is)
    (case tt_place => k_is)
    (case sy_place => k_is)
    (case bt_wish => k_is)
    (case ht_wish => k_is)
    (case tt_wish => k_is)
    (case sy_wish => k_is)
    (case bt_step => k_is)
    (case ht_step => k_is)
    (case tt_step => k_is)
    (case sy_step => k_is)
    (case e1_place => k_is)
    (case e2_place => k_is)
    (case e5_place => k_is)
    (case e8_place => k_is)
    (case sg_place => k_is)
    (case sv_place => k_is)
    (case ss_place_many => k_is)
    (case ss_place_wish => k_is)
    (case ss_place_cap => k_is)
    (case ss_place_extra => k_is)
    (case ss_place_mark => k_is)
    (case ss_place_most => k_is)
    (case ss_place_step => k_is)
    (case ss_place_top => k_is)
    (case ss_place_weight => k_is)
    (case ss_place_worst => k_is)
    (case e1_many => k_is)
    (case e2_many => k_is)
    (case e5_many => k_is)
    (case e8_many => k_is)
    (case sg_many => k_is)
    (case sv_many => k_is)
    (case ss_many_place => k_is)
    (case ss_many_wish => k_is)
    (case ss_many_cap => k_is)
    (case ss_many_extra => k_is)
    (case ss_many_mark => k_is)
    (case ss_many_most => k_is)
    (case ss_many_step => k_is)
    (case ss_many_top => k_is)
    (case ss_many_weight => k_is)
    (case ss_many_worst => k_is)
    (case e1_wish => k_is)
    (case e2_wish => k_is)
    (case e5_wish => k_is)
    (case e8_wish => k_is)
    (case sg_wish => k_is)
    (case sv_wish => k_is)
    (case ss_wish_place => k_is)
    (case ss_wish_many => k_is)
    (case ss_wish_cap => k_is)
    (case ss_wish_extra => k_is)
    (case ss_wish_mark => k_is)
    (case ss_wish_most => k_is)
    (case ss_wish_step => k_is)
    (case ss_wish_top => k_is)
    (case ss_wish_weight => k_is)
    (case ss_wish_worst => k_is)
