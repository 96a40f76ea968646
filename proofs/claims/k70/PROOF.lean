import PyProof.Rows.All
import Wide.All
import OpenK.AllK
import Wide.FinOn
import HandS.ForMost
import HandS.Evl
import HandS.Defaults
import HandS.Style
import HandS.IsInst
import HandS.SetBool
import HandS.Strs
import HandS.HeadHook1
import HandS.HeadHook2
import HandS.HeadHook3
import HandS.HeadHook4
import PySem.Challenge.RW_matchclocks_k70_hourglasses_over_matches
import HandS.TryOnly
import KE.KStateDown
import Lean
import HandS.Head0
import HandS.Head1
import HandS.Head2
import HandS.HeadEnd
set_option Elab.async false
set_option linter.all false
set_option maxRecDepth 100000
set_option maxHeartbeats 4000000
/-! D1: data that is seen in a heap without changing, objects that a def owns, judgements over both. -/
namespace DL
open PySem PySem.Spec PyProof.Rows L2 Evl

/-- data as the program handles it; at: an object that the def itself owns -/
inductive Dt where
  | non | bl (b : Bool) | int (i : Int) | str (x : Str) | at (a : Addr)
  | lst (xs : List Dt) | scr (xs : List Dt) | tup (xs : List Dt) | ins (C : Addr) (fs : List (Str × Dt)) | dT (kvs : List (List Key × Dt))

mutual
def Sees (K : PySem.W.Frag) (H : Hp) : Dt → V → Prop
  | .non, v => v = .non
  | .bl b, v => v = .bl b
  | .int i, v => v = .int i
  | .str x, v => v = .str x
  | .at a, v => v = .ref a
  | .lst xs, v => ∃ a vs, v = .ref a ∧ H a = some (.lst vs) ∧ Seen K H xs vs
  | .scr xs, v => ∃ a vs, v = .ref a ∧ SqL K H a vs ∧ Seen K H xs vs
  | .tup xs, v => ∃ a vs, v = .ref a ∧ SqT K H a vs ∧ Seen K H xs vs
  | .ins C fs, v => ∃ a dx vs, v = .ref a ∧ H a = some (.ins C dx vs) ∧ SeenF K H fs vs
  | .dT kvs, v => ∃ a vs, v = .ref a ∧ H a = some (.dT vs) ∧ SeenK K H kvs vs
def Seen (K : PySem.W.Frag) (H : Hp) : List Dt → List V → Prop
  | [], vs => vs = []
  | d :: ds, vs => ∃ v r, vs = v :: r ∧ Sees K H d v ∧ Seen K H ds r
def SeenF (K : PySem.W.Frag) (H : Hp) : List (Str × Dt) → List (Str × V) → Prop
  | [], vs => vs = []
  | d :: ds, vs => ∃ v r, vs = (d.1, v) :: r ∧ Sees K H d.2 v ∧ SeenF K H ds r
def SeenK (K : PySem.W.Frag) (H : Hp) : List (List Key × Dt) → List (List Key × V) → Prop
  | [], vs => vs = []
  | d :: ds, vs => ∃ v r, vs = (d.1, v) :: r ∧ Sees K H d.2 v ∧ SeenK K H ds r
end

section
variable {K : PySem.W.Frag} {H H' : Hp}
mutual
theorem Sees.mono (e : Ex H H') : ∀ (d : Dt) {v : V}, Sees K H d v → Sees K H' d v
  | .non, _, h => h
  | .bl _, _, h => h
  | .int _, _, h => h
  | .str _, _, h => h
  | .at _, _, h => h
  | .lst xs, _, h => by
    unfold Sees at h ⊢
    obtain ⟨a, vs, h1, h2, h3⟩ := h
    exact ⟨a, vs, h1, e _ _ h2, Seen.mono e xs h3⟩
  | .scr xs, _, h => by
    unfold Sees at h ⊢
    obtain ⟨a, vs, h1, h2, h3⟩ := h
    exact ⟨a, vs, h1, ex_l e h2, Seen.mono e xs h3⟩
  | .tup xs, _, h => by
    unfold Sees at h ⊢
    obtain ⟨a, vs, h1, h2, h3⟩ := h
    exact ⟨a, vs, h1, ex_t e h2, Seen.mono e xs h3⟩
  | .ins C fs, _, h => by
    unfold Sees at h ⊢
    obtain ⟨a, dx, vs, h1, h2, h3⟩ := h
    exact ⟨a, dx, vs, h1, e _ _ h2, SeenF.mono e fs h3⟩
  | .dT kvs, _, h => by
    unfold Sees at h ⊢
    obtain ⟨a, vs, h1, h2, h3⟩ := h
    exact ⟨a, vs, h1, e _ _ h2, SeenK.mono e kvs h3⟩
theorem Seen.mono (e : Ex H H') : ∀ (ds : List Dt) {vs : List V}, Seen K H ds vs → Seen K H' ds vs
  | [], _, h => by unfold Seen at h ⊢; exact h
  | d :: ds, _, h => by
    unfold Seen at h ⊢
    obtain ⟨v, r, h1, h2, h3⟩ := h
    exact ⟨v, r, h1, Sees.mono e d h2, Seen.mono e ds h3⟩
theorem SeenF.mono (e : Ex H H') : ∀ (ds : List (Str × Dt)) {vs : List (Str × V)}, SeenF K H ds vs → SeenF K H' ds vs
  | [], _, h => by unfold SeenF at h ⊢; exact h
  | (n, d) :: ds, _, h => by
    unfold SeenF at h ⊢
    obtain ⟨v, r, h1, h2, h3⟩ := h
    exact ⟨v, r, h1, Sees.mono e d h2, SeenF.mono e ds h3⟩
theorem SeenK.mono (e : Ex H H') : ∀ (ds : List (List Key × Dt)) {vs : List (List Key × V)}, SeenK K H ds vs → SeenK K H' ds vs
  | [], _, h => by unfold SeenK at h ⊢; exact h
  | (n, d) :: ds, _, h => by
    unfold SeenK at h ⊢
    obtain ⟨v, r, h1, h2, h3⟩ := h
    exact ⟨v, r, h1, Sees.mono e d h2, SeenK.mono e ds h3⟩
end

theorem Seen.nil : Seen K H [] [] := by unfold Seen; rfl
theorem Seen.cons {d : Dt} {v : V} {ds : List Dt} {vs : List V} (h : Sees K H d v) (t : Seen K H ds vs) : Seen K H (d :: ds) (v :: vs) := by
  unfold Seen; exact ⟨v, vs, rfl, h, t⟩
theorem Seen.nil_inv {vs : List V} (h : Seen K H [] vs) : vs = [] := by unfold Seen at h; exact h
theorem Seen.cons_inv {d : Dt} {ds : List Dt} {vs : List V} (h : Seen K H (d :: ds) vs) : ∃ v r, vs = v :: r ∧ Sees K H d v ∧ Seen K H ds r := by
  unfold Seen at h; exact h
theorem Seen.len : ∀ {ds : List Dt} {vs : List V}, Seen K H ds vs → ds.length = vs.length
  | [], _, h => by rw [h.nil_inv]; rfl
  | d :: ds, _, h => by
    obtain ⟨v, r, rfl, _, t⟩ := h.cons_inv
    rw [List.length_cons, List.length_cons, Seen.len t]
theorem Seen.get : ∀ {ds : List Dt} {vs : List V} {i : Nat} {d : Dt}, Seen K H ds vs → ds[i]? = some d → ∃ v, vs[i]? = some v ∧ Sees K H d v
  | [], _, _, _, _, e => by simp at e
  | d :: ds, _, 0, _, h, e => by
    obtain ⟨v, r, rfl, s, t⟩ := h.cons_inv
    simp at e; subst e
    exact ⟨v, by simp, s⟩
  | d :: ds, _, i + 1, _, h, e => by
    obtain ⟨v, r, rfl, s, t⟩ := h.cons_inv
    obtain ⟨u, h1, h2⟩ := Seen.get (i := i) t (by simpa using e)
    exact ⟨u, by simpa using h1, h2⟩
theorem Seen.getV : ∀ {ds : List Dt} {vs : List V} {i : Nat} {v : V}, Seen K H ds vs → vs[i]? = some v → ∃ d, ds[i]? = some d ∧ Sees K H d v
  | [], _, _, _, h, e => by rw [h.nil_inv] at e; simp at e
  | d :: ds, _, 0, _, h, e => by
    obtain ⟨v, r, rfl, s, t⟩ := h.cons_inv
    simp at e; subst e
    exact ⟨d, by simp, s⟩
  | d :: ds, _, i + 1, _, h, e => by
    obtain ⟨v, r, rfl, s, t⟩ := h.cons_inv
    obtain ⟨u, h1, h2⟩ := Seen.getV (i := i) t (by simpa using e)
    exact ⟨u, by simpa using h1, h2⟩
theorem Seen.append : ∀ {ds es : List Dt} {vs us : List V}, Seen K H ds vs → Seen K H es us → Seen K H (ds ++ es) (vs ++ us)
  | [], _, _, _, h, k => by rw [h.nil_inv]; exact k
  | d :: ds, _, _, _, h, k => by
    obtain ⟨v, r, rfl, s, t⟩ := h.cons_inv
    exact .cons s (Seen.append t k)
theorem Seen.set : ∀ {ds : List Dt} {vs : List V} {i : Nat} {d : Dt} {v : V}, Seen K H ds vs → Sees K H d v → Seen K H (ds.set i d) (vs.set i v)
  | [], _, _, _, _, h, _ => by rw [h.nil_inv]; exact .nil
  | d :: ds, _, 0, _, _, h, k => by
    obtain ⟨v, r, rfl, s, t⟩ := h.cons_inv
    exact .cons k t
  | d :: ds, _, i + 1, _, _, h, k => by
    obtain ⟨v, r, rfl, s, t⟩ := h.cons_inv
    exact .cons s (Seen.set t k)
theorem Seen.take : ∀ {ds : List Dt} {vs : List V} (n : Nat), Seen K H ds vs → Seen K H (ds.take n) (vs.take n)
  | _, _, 0, _ => .nil
  | [], _, n + 1, h => by rw [h.nil_inv]; exact .nil
  | d :: ds, _, n + 1, h => by
    obtain ⟨v, r, rfl, s, t⟩ := h.cons_inv
    exact .cons s (Seen.take n t)
theorem Seen.drop : ∀ {ds : List Dt} {vs : List V} (n : Nat), Seen K H ds vs → Seen K H (ds.drop n) (vs.drop n)
  | _, _, 0, h => h
  | [], _, n + 1, h => by rw [h.nil_inv]; exact .nil
  | d :: ds, _, n + 1, h => by
    obtain ⟨v, r, rfl, s, t⟩ := h.cons_inv
    exact Seen.drop n t
theorem Seen.replicate {d : Dt} {v : V} (h : Sees K H d v) : ∀ n : Nat, Seen K H (List.replicate n d) (List.replicate n v)
  | 0 => .nil
  | n + 1 => .cons h (Seen.replicate h n)
theorem Seen.getLast {ds : List Dt} {d : Dt} {vs : List V} (h : Seen K H (ds ++ [d]) vs) : ∃ us v, vs = us ++ [v] ∧ Seen K H ds us ∧ Sees K H d v := by
  induction ds generalizing vs with
  | nil =>
    obtain ⟨v, r, rfl, s, t⟩ := h.cons_inv
    rw [t.nil_inv]
    exact ⟨[], v, rfl, .nil, s⟩
  | cons e es ih =>
    obtain ⟨v, r, rfl, s, t⟩ := h.cons_inv
    obtain ⟨us, w, rfl, h1, h2⟩ := ih t
    exact ⟨v :: us, w, rfl, .cons s h1, h2⟩

theorem SeenF.get : ∀ {ds : List (Str × Dt)} {vs : List (Str × V)} {f : Str} {d : Dt}, SeenF K H ds vs → ds.lookup f = some d → ∃ v, vs.lookup f = some v ∧ Sees K H d v
  | [], _, _, _, _, e => by simp at e
  | (n, d) :: ds, _, f, e', h, e => by
    unfold SeenF at h
    obtain ⟨v, r, rfl, s, t⟩ := h
    rw [List.lookup_cons] at e
    rw [List.lookup_cons]
    cases q : (f == n) with
    | true =>
      simp only [q] at e
      cases e
      exact ⟨v, by simp [q], s⟩
    | false =>
      simp only [q] at e
      obtain ⟨u, h1, h2⟩ := SeenF.get t e
      exact ⟨u, by simp [q, h1], h2⟩
theorem SeenF.none : ∀ {ds : List (Str × Dt)} {vs : List (Str × V)} {f : Str}, SeenF K H ds vs → ds.lookup f = none → vs.lookup f = none
  | [], _, _, h, e => by unfold SeenF at h; rw [h]; rfl
  | (n, d) :: ds, _, f, h, e => by
    unfold SeenF at h
    obtain ⟨v, r, rfl, s, t⟩ := h
    rw [List.lookup_cons] at e
    rw [List.lookup_cons]
    cases q : (f == n) with
    | true => simp only [q] at e; cases e
    | false =>
      simp only [q] at e
      simp [q, SeenF.none t e]
theorem SeenF.len : ∀ {ds : List (Str × Dt)} {vs : List (Str × V)}, SeenF K H ds vs → ds.length = vs.length
  | [], _, h => by unfold SeenF at h; rw [h]; rfl
  | (n, d) :: ds, _, h => by
    unfold SeenF at h
    obtain ⟨v, r, rfl, s, t⟩ := h
    rw [List.length_cons, List.length_cons, SeenF.len t]
/-- a field stored -/
def putD (f : Str) (d : Dt) : List (Str × Dt) → List (Str × Dt)
  | [] => [(f, d)]
  | (n, e) :: r => if n = f then (n, d) :: r else (n, e) :: putD f d r
theorem SeenF.put : ∀ {ds : List (Str × Dt)} {vs : List (Str × V)} {f : Str} {d : Dt} {v : V}, SeenF K H ds vs → Sees K H d v → SeenF K H (putD f d ds) (putF f v vs)
  | [], _, f, d, v, h, k => by
    unfold SeenF at h
    rw [h]
    show SeenF K H [(f, d)] [(f, v)]
    unfold SeenF
    exact ⟨v, [], rfl, k, by unfold SeenF; rfl⟩
  | (n, e) :: ds, _, f, d, v, h, k => by
    unfold SeenF at h
    obtain ⟨u, r, rfl, s, t⟩ := h
    show SeenF K H (if n = f then (n, d) :: ds else (n, e) :: putD f d ds) (if n = f then (n, v) :: r else (n, u) :: putF f v r)
    by_cases q : n = f
    · rw [if_pos q, if_pos q]
      unfold SeenF
      exact ⟨v, r, rfl, k, t⟩
    · rw [if_neg q, if_neg q]
      unfold SeenF
      exact ⟨u, _, rfl, s, SeenF.put t k⟩
end

/-! ### the frame's slots -/
abbrev Sl := List (Option Dt)
structure EnvS (K : PySem.W.Frag) (G : Hp) (δ : Sl) (σ : L2.St) : Prop where
  len : δ.length = σ.length
  get : ∀ (i : Nat) (d : Dt), δ[i]? = some (some d) → ∃ v, σ[i]? = some (some v) ∧ Sees K G d v
section
variable {K : PySem.W.Frag} {G G' : Hp} {δ : Sl} {σ : L2.St}
theorem EnvS.mono (e : Ex G G') (h : EnvS K G δ σ) : EnvS K G' δ σ := ⟨h.len, fun i d q => let ⟨v, h1, h2⟩ := h.get i d q; ⟨v, h1, h2.mono e d⟩⟩
theorem EnvS.set {i : Nat} {d : Dt} {v : V} (h : EnvS K G δ σ) (s : Sees K G d v) : EnvS K G (δ.set i (some d)) (σ.set i (some v)) := by
  refine ⟨by simpa using h.len, fun j e q => ?_⟩
  by_cases hj : i = j
  · subst hj
    rw [List.getElem?_set] at q
    simp only [if_pos] at q
    split at q
    · rename_i hl
      cases q
      exact ⟨v, by rw [List.getElem?_set]; simp [← h.len, hl], s⟩
    · cases q
  · rw [List.getElem?_set_ne hj] at q
    obtain ⟨u, h1, h2⟩ := h.get j e q
    exact ⟨u, by rw [List.getElem?_set_ne hj]; exact h1, h2⟩
/-- forgetting -/
theorem EnvS.weak {δ' : Sl} (h : EnvS K G δ σ) (hl : δ'.length = δ.length) (w : ∀ (i : Nat) d, δ'[i]? = some (some d) → δ[i]? = some (some d)) : EnvS K G δ' σ :=
  ⟨hl.trans h.len, fun i d q => h.get i d (w i d q)⟩
def wipeD (δ : Sl) : List Nat → Sl
  | [] => δ
  | v :: vs => (wipeD δ vs).set v none
theorem EnvS.setNone {i : Nat} (h : EnvS K G δ σ) : EnvS K G (δ.set i none) (σ.set i none) := by
  refine ⟨by simpa using h.len, fun j e q => ?_⟩
  by_cases hj : i = j
  · subst hj
    rw [List.getElem?_set] at q
    simp only [if_pos] at q
    split at q <;> cases q
  · rw [List.getElem?_set_ne hj] at q
    obtain ⟨u, h1, h2⟩ := h.get j e q
    exact ⟨u, by rw [List.getElem?_set_ne hj]; exact h1, h2⟩
theorem EnvS.wipe (h : EnvS K G δ σ) : ∀ vs : List Nat, EnvS K G (wipeD δ vs) (L2.wipe σ vs)
  | [] => h
  | v :: vs => (EnvS.wipe h vs).setNone
end

/-! ### what is owned -/
inductive Ob where
  | lst (xs : List Dt) | ins (C dx : Addr) (fs : List (Str × Dt)) | dT (kvs : List (List Key × Dt))
def ObS (K : PySem.W.Frag) (G : Hp) : Ob → HO → Prop
  | .lst xs, ho => ∃ vs, ho = .lst vs ∧ Seen K G xs vs
  | .ins C dx fs, ho => ∃ vs, ho = .ins C dx vs ∧ SeenF K G fs vs
  | .dT kvs, ho => ∃ vs, ho = .dT vs ∧ SeenK K G kvs vs
theorem ObS.mono {K : PySem.W.Frag} {G G' : Hp} (e : Ex G G') {o : Ob} {ho : HO} (h : ObS K G o ho) : ObS K G' o ho := by
  cases o with
  | lst xs => obtain ⟨vs, h1, h2⟩ := h; exact ⟨vs, h1, h2.mono e xs⟩
  | ins C dx fs => obtain ⟨vs, h1, h2⟩ := h; exact ⟨vs, h1, h2.mono e fs⟩
  | dT kvs => obtain ⟨vs, h1, h2⟩ := h; exact ⟨vs, h1, h2.mono e kvs⟩
abbrev Os := List (Addr × Ob)
structure Own (K : PySem.W.Frag) (os : Os) (G H : Hp) : Prop where
  gh : Ex G H
  own : ∀ q ∈ os, G q.1 = none ∧ ∃ ho, H q.1 = some ho ∧ ObS K G q.2 ho
  nd : (os.map (·.1)).Nodup
structure Grow (G H G' H' : Hp) : Prop where
  gg : Ex G G'
  hh : Ex H H'
  gh : Ex G' H'
  new : ∀ a o, G' a = some o → G a = some o ∨ H a = none
section
variable {K : PySem.W.Frag} {os os' : Os} {G H G' H' G2 H2 : Hp}
theorem Grow.refl (h : Ex G H) : Grow G H G H := ⟨Ex.refl _, Ex.refl _, h, fun _ _ q => .inl q⟩
theorem Grow.trans (a : Grow G H G' H') (b : Grow G' H' G2 H2) : Grow G H G2 H2 :=
  ⟨a.gg.trans b.gg, a.hh.trans b.hh, b.gh, fun x o q => by
    rcases b.new x o q with z | z
    · exact a.new x o z
    · exact .inr (fresh_back a.hh z)⟩
theorem Own.grow (O : Own K os G H) (g : Grow G H G' H') : Own K os G' H' := by
  refine ⟨g.gh, fun q hq => ?_, O.nd⟩
  obtain ⟨h1, ho, h2, h3⟩ := O.own q hq
  refine ⟨?_, ho, g.hh _ _ h2, h3.mono g.gg⟩
  cases e : G' q.1 with
  | none => rfl
  | some o =>
    rcases g.new _ _ e with z | z
    · rw [h1] at z; cases z
    · rw [h2] at z; cases z
theorem Own.sub (O : Own K os G H) (h : ∀ q ∈ os', q ∈ os) (nd : (os'.map (·.1)).Nodup) : Own K os' G H := ⟨O.gh, fun q hq => O.own q (h q hq), nd⟩
/-- a new object, seen -/
theorem Grow.laid {p : Addr} {o : HO} (h : Ex G H) (hp : H p = none) : Grow G H (upd G p o) (upd H p o) := by
  have gp : G p = none := fresh_back h hp
  refine ⟨Ex.new gp, Ex.new hp, fun a u q => ?_, fun a u q => ?_⟩
  · by_cases e : a = p
    · subst e; rw [upd_same] at q ⊢; exact q
    · rw [upd_ne e] at q ⊢; exact h a u q
  · by_cases e : a = p
    · subst e; exact .inr hp
    · rw [upd_ne e] at q; exact .inl q
/-- a new object, not seen -/
theorem Grow.hid {p : Addr} {o : HO} (h : Ex G H) (hp : H p = none) : Grow G H G (upd H p o) :=
  ⟨Ex.refl _, Ex.new hp, h.trans (Ex.new hp), fun _ _ q => .inl q⟩
end

/-! ### what may be asked of code, the weakest way -/
def wE (X : Cx) (e : Expr) : TE := fun σ H Q => ∀ (pins : List (Addr × Obj)) (s : Shared), Inv X pins σ H s → wpAny (model X.prog X.w) X.A (eval e X.env) (EP X pins σ Q) X.xe s
theorem pe_w {X : Cx} {e : Expr} : PE X e (wE X e) := ⟨fun pins s _ _ _ I h => h pins s I⟩
theorem wE_of {X : Cx} {e : Expr} {t : TE} {σ : L2.St} {H : Hp} {Q : VK} (h : PE X e t) (q : t σ H Q) : wE X e σ H Q := fun pins s I => h.run pins s σ H Q I q
def wT (X : Cx) (e : Expr) : TT := fun σ H Q => ∀ (pins : List (Addr × Obj)) (s : Shared), Inv X pins σ H s → wpAny (model X.prog X.w) X.A (isTrue e X.env (eval e X.env)) (TP X pins σ Q) X.xe s
theorem pt_w {X : Cx} {e : Expr} : PT X e (wT X e) := ⟨fun pins s _ _ _ I h => h pins s I⟩
theorem wT_of {X : Cx} {e : Expr} {t : TT} {σ : L2.St} {H : Hp} {Q : Bool → Hp → Prop} (h : PT X e t) (q : t σ H Q) : wT X e σ H Q := fun pins s I => h.run pins s σ H Q I q
def wW (X : Cx) (e : Expr) : TT := fun σ H Q => ∀ (whole : Sem Value) (pins : List (Addr × Obj)) (s : Shared), Inv X pins σ H s → wpAny (model X.prog X.w) X.A (isTrue e X.env whole) (TP X pins σ Q) X.xe s
theorem pw_w {X : Cx} {e : Expr} : PW X e (wW X e) := ⟨fun wh pins s _ _ _ I h => h wh pins s I⟩
theorem wW_of {X : Cx} {e : Expr} {t : TT} {σ : L2.St} {H : Hp} {Q : Bool → Hp → Prop} (h : PW X e t) (q : t σ H Q) : wW X e σ H Q := fun wh pins s I => h.run wh pins s σ H Q I q
def wA (X : Cx) (es : List Expr) : TA := fun σ H Q => ∀ (pos : Pos) (pins : List (Addr × Obj)) (s : Shared), Inv X pins σ H s → wpAny (model X.prog X.w) X.A (spliced (backTo pos (starEach es X.env))) (AP X pins σ Q) X.xe s
theorem pa_w {X : Cx} {es : List Expr} : PA X es (wA X es) := ⟨fun pos pins s _ _ _ I h => h pos pins s I⟩
theorem wA_of {X : Cx} {es : List Expr} {t : TA} {σ : L2.St} {H : Hp} {Q : List V → Hp → Prop} (h : PA X es t) (q : t σ H Q) : wA X es σ H Q := fun pos pins s I => h.run pos pins s σ H Q I q
def wS (X : Cx) (st : Stmt) : TS := fun D σ H => ∀ (pins : List (Addr × Obj)) (s : Shared), Inv X pins σ H s → wpAny (model X.prog X.w) X.A (exec st X.env) (SP X pins D) X.xe s
theorem ps_w {X : Cx} {st : Stmt} : PS X st (wS X st) := ⟨fun pins s _ _ _ I h => h pins s I⟩
theorem wS_of {X : Cx} {st : Stmt} {t : TS} {σ : L2.St} {H : Hp} {D : Ends} (h : PS X st t) (q : t D σ H) : wS X st D σ H := fun pins s I => h.run pins s σ H D I q
def wB (X : Cx) (st : List Stmt) : TS := fun D σ H => ∀ (pins : List (Addr × Obj)) (s : Shared), Inv X pins σ H s → wpAny (model X.prog X.w) X.A (execs st X.env) (SP X pins D) X.xe s
theorem pss_w {X : Cx} {st : List Stmt} : PSs X st (wB X st) := ⟨fun pins s _ _ _ I h => h pins s I⟩
theorem wB_of {X : Cx} {st : List Stmt} {t : TS} {σ : L2.St} {H : Hp} {D : Ends} (h : PSs X st t) (q : t D σ H) : wB X st D σ H := fun pins s I => h.run pins s σ H D I q
def wO (X : Cx) (f : Value → Value → Sem Value) : R2 := fun x y H Q => ∀ (pins : List (Addr × Obj)) (s : Shared) (σ : L2.St) (v u : Value), Inv X pins σ H s → RelV x v → RelV y u → wpAny (model X.prog X.w) X.A (f v u) (EP X pins σ Q) X.xe s
theorem op_w {X : Cx} {f : Value → Value → Sem Value} : OpR X f (wO X f) := fun pins s σ _ _ _ v u _ I r1 r2 h => h pins s σ v u I r1 r2
theorem wO_of {X : Cx} {f : Value → Value → Sem Value} {r : R2} {x y : V} {H : Hp} {Q : VK} (h : OpR X f r) (q : r x y H Q) : wO X f x y H Q := fun pins s σ v u I r1 r2 => h pins s σ H x y v u Q I r1 r2 q

/-! ### the judgements over data -/
/-- e gives d; what was there stays -/
def JP (X : Cx) (e : Expr) (δ : Sl) (os : Os) (d : Dt) : Prop := ∀ (G H : Hp) (σ : L2.St), Own X.K os G H → EnvS X.K G δ σ → ∀ Q : VK, (∀ v G' H', Grow G H G' H' → Sees X.K G' d v → Q v H') → wE X e σ H Q
/-- e gives a new list of these -/
def JN (X : Cx) (e : Expr) (δ : Sl) (os : Os) (xs : List Dt) : Prop := ∀ (G H : Hp) (σ : L2.St), Own X.K os G H → EnvS X.K G δ σ → ∀ Q : VK,
  (∀ p vs G' H', Grow G H G' H' → H p = none → G' p = none → H' p = some (.lst vs) → Seen X.K G' xs vs → Q (.ref p) H') → wE X e σ H Q
def JT (X : Cx) (e : Expr) (δ : Sl) (os : Os) (b : Bool) : Prop := ∀ (G H : Hp) (σ : L2.St), Own X.K os G H → EnvS X.K G δ σ → ∀ Q : Bool → Hp → Prop, (∀ G' H', Grow G H G' H' → Q b H') → wT X e σ H Q
def JW (X : Cx) (e : Expr) (δ : Sl) (os : Os) (b : Bool) : Prop := ∀ (G H : Hp) (σ : L2.St), Own X.K os G H → EnvS X.K G δ σ → ∀ Q : Bool → Hp → Prop, (∀ G' H', Grow G H G' H' → Q b H') → wW X e σ H Q
def JA (X : Cx) (es : List Expr) (δ : Sl) (os : Os) (ds : List Dt) : Prop := ∀ (G H : Hp) (σ : L2.St), Own X.K os G H → EnvS X.K G δ σ → ∀ Q : List V → Hp → Prop, (∀ vs G' H', Grow G H G' H' → Seen X.K G' ds vs → Q vs H') → wA X es σ H Q
/-- a two-place operation on data -/
def JO (X : Cx) (f : Value → Value → Sem Value) (os : Os) (d e r : Dt) : Prop := ∀ (G H : Hp) (x y : V), Own X.K os G H → Sees X.K G d x → Sees X.K G e y → ∀ Q : VK, (∀ v G' H', Grow G H G' H' → Sees X.K G' r v → Q v H') → wO X f x y H Q
/-- .. that makes a list -/
def JON (X : Cx) (f : Value → Value → Sem Value) (os : Os) (d e : Dt) (xs : List Dt) : Prop := ∀ (G H : Hp) (x y : V), Own X.K os G H → Sees X.K G d x → Sees X.K G e y → ∀ Q : VK,
  (∀ p vs G' H', Grow G H G' H' → H p = none → G' p = none → H' p = some (.lst vs) → Seen X.K G' xs vs → Q (.ref p) H') → wO X f x y H Q

/-- the place where a body runs: B what its arguments were seen in, H0 the heap at its entry -/
structure At (K : PySem.W.Frag) (B H0 : Hp) (os : Os) (G H : Hp) : Prop where
  ow : Own K os G H
  bg : Ex B G
  h0 : Ex H0 H
  new : ∀ a o, G a = some o → B a = some o ∨ H0 a = none
  own0 : ∀ q ∈ os, H0 q.1 = none
/-- the ends over data -/
structure DE where
  nx : Sl → Os → Prop
  rt : Dt → Os → Prop
  bk : Sl → Os → Prop := fun _ _ => False
  ct : Sl → Os → Prop := fun _ _ => False
def upS (K : PySem.W.Frag) (B H0 : Hp) (P : Sl → Os → Prop) : L2.St → Hp → Prop := fun σ H => ∃ δ os G, At K B H0 os G H ∧ EnvS K G δ σ ∧ P δ os
def upV (K : PySem.W.Frag) (B H0 : Hp) (P : Dt → Os → Prop) : VK := fun v H => ∃ d os G, At K B H0 os G H ∧ Sees K G d v ∧ P d os
def DE.up (K : PySem.W.Frag) (B H0 : Hp) (D : DE) : Ends := { nx := upS K B H0 D.nx, rt := upV K B H0 D.rt, bk := upS K B H0 D.bk, ct := upS K B H0 D.ct }
def JS (X : Cx) (st : Stmt) (δ : Sl) (os : Os) (D : DE) : Prop := ∀ (B H0 G H : Hp) (σ : L2.St), At X.K B H0 os G H → EnvS X.K G δ σ → wS X st (D.up X.K B H0) σ H
def JB (X : Cx) (st : List Stmt) (δ : Sl) (os : Os) (D : DE) : Prop := ∀ (B H0 G H : Hp) (σ : L2.St), At X.K B H0 os G H → EnvS X.K G δ σ → wB X st (D.up X.K B H0) σ H

section
variable {K : PySem.W.Frag} {os os' : Os} {B B' H0 G H G' H' : Hp}
theorem At.grow (A : At K B H0 os G H) (g : Grow G H G' H') : At K B H0 os G' H' :=
  ⟨A.ow.grow g, A.bg.trans g.gg, A.h0.trans g.hh, fun a o q => by
    rcases g.new a o q with z | z
    · exact A.new a o z
    · exact .inr (fresh_back A.h0 z), A.own0⟩
/-- from what a piece saw at its beginning, back -/
theorem At.base (A : At K B' H0 os G H) (e : Ex B B') (n : ∀ a o, B' a = some o → B a = some o ∨ H0 a = none) : At K B H0 os G H :=
  ⟨A.ow, e.trans A.bg, A.h0, fun a o q => by
    rcases A.new a o q with z | z
    · exact n a o z
    · exact .inr z, A.own0⟩
theorem At.here (A : At K B H0 os G H) : At K G H0 os G H := ⟨A.ow, Ex.refl _, A.h0, fun _ _ q => .inl q, A.own0⟩
theorem At.fresh (A : At K B H0 os G H) {p : Addr} (hp : H p = none) : ∀ q ∈ os, q.1 ≠ p := fun q hq e => by
  obtain ⟨_, ho, h, _⟩ := A.ow.own q hq
  rw [e, hp] at h; cases h
/-- a new object becomes one's own -/
theorem At.take (A : At K B H0 os G H) {p : Addr} {ob : Ob} {ho : HO} (g : Grow G H G' H') (hp : H p = none) (gp : G' p = none) (h' : H' p = some ho) (o : ObS K G' ob ho) : At K B H0 ((p, ob) :: os) G' H' := by
  have A' := A.grow g
  refine ⟨⟨A'.ow.gh, fun q hq => ?_, ?_⟩, A'.bg, A'.h0, A'.new, fun q hq => ?_⟩
  · rcases List.mem_cons.mp hq with rfl | hq
    · exact ⟨gp, ho, h', o⟩
    · exact A'.ow.own q hq
  · rw [List.map_cons, List.nodup_cons]
    refine ⟨fun hm => ?_, A.ow.nd⟩
    obtain ⟨q, hq, e⟩ := List.mem_map.mp hm
    exact A.fresh hp q hq e
  · rcases List.mem_cons.mp hq with rfl | hq
    · exact fresh_back A.h0 hp
    · exact A.own0 q hq
/-- an owned object is written -/
def putO (p : Addr) (ob : Ob) : Os → Os
  | [] => []
  | (a, o) :: r => if a = p then (a, ob) :: r else (a, o) :: putO p ob r
theorem putO_keys {p : Addr} {ob : Ob} : ∀ os : Os, (putO p ob os).map (·.1) = os.map (·.1)
  | [] => rfl
  | (a, o) :: r => by
    show (if a = p then (a, ob) :: r else (a, o) :: putO p ob r).map (·.1) = _
    split
    · rfl
    · rw [List.map_cons, putO_keys r]; rfl
theorem putO_mem {p : Addr} {ob : Ob} : ∀ {os : Os} {q : Addr × Ob}, (os.map (·.1)).Nodup → q ∈ putO p ob os → (q = (p, ob)) ∨ (q ∈ os ∧ q.1 ≠ p)
  | [], _, _, h => by cases h
  | (a, o) :: r, q, nd, h => by
    rw [List.map_cons, List.nodup_cons] at nd
    have h : q ∈ (if a = p then (a, ob) :: r else (a, o) :: putO p ob r) := h
    split at h
    · rename_i e
      rcases List.mem_cons.mp h with rfl | h
      · exact .inl (by rw [e])
      · exact .inr ⟨List.mem_cons_of_mem _ h, fun z => nd.1 (List.mem_map.mpr ⟨q, h, z.trans e.symm⟩)⟩
    · rename_i e
      rcases List.mem_cons.mp h with rfl | h
      · exact .inr ⟨List.mem_cons_self, e⟩
      · rcases putO_mem nd.2 h with z | ⟨z, w⟩
        · exact .inl z
        · exact .inr ⟨List.mem_cons_of_mem _ z, w⟩
theorem At.put (A : At K B H0 os G H) {p : Addr} {ob ob' : Ob} {ho : HO} (hm : (p, ob) ∈ os) (o : ObS K G ob' ho) : At K B H0 (putO p ob' os) G (upd H p ho) := by
  obtain ⟨gp, h1, h2, h3⟩ := A.ow.own _ hm
  have e0 : H0 p = none := A.own0 _ hm
  refine ⟨⟨Ex.mut A.ow.gh gp, fun q hq => ?_, by rw [putO_keys]; exact A.ow.nd⟩, A.bg, Ex.mut A.h0 e0, A.new, fun q hq => ?_⟩
  · rcases putO_mem A.ow.nd hq with rfl | ⟨hq, ne⟩
    · exact ⟨gp, ho, upd_same, o⟩
    · obtain ⟨k1, u, k2, k3⟩ := A.ow.own q hq
      exact ⟨k1, u, by rw [upd_ne ne]; exact k2, k3⟩
  · rcases putO_mem A.ow.nd hq with rfl | ⟨hq, ne⟩
    · exact e0
    · exact A.own0 q hq
/-- given away: what was owned is seen from now on -/
theorem At.give (A : At K B H0 ((p, ob) :: os) G H) {ho : HO} (h : H p = some ho) : At K B H0 os (upd G p ho) H ∧ Ex G (upd G p ho) := by
  obtain ⟨gp, _, _, _⟩ := A.ow.own _ List.mem_cons_self
  have e0 : H0 p = none := A.own0 _ List.mem_cons_self
  have nd := A.ow.nd
  rw [List.map_cons, List.nodup_cons] at nd
  have ex : Ex G (upd G p ho) := Ex.new gp
  refine ⟨⟨⟨fun a u q => ?_, fun q hq => ?_, nd.2⟩, A.bg.trans ex, A.h0, fun a u q => ?_, fun q hq => A.own0 q (List.mem_cons_of_mem _ hq)⟩, ex⟩
  · by_cases e : a = p
    · subst e; rw [upd_same] at q; rw [h]; exact q
    · rw [upd_ne e] at q; exact A.ow.gh a u q
  · obtain ⟨k1, u, k2, k3⟩ := A.ow.own q (List.mem_cons_of_mem _ hq)
    have ne : q.1 ≠ p := fun z => nd.1 (List.mem_map.mpr ⟨q, hq, z⟩)
    exact ⟨by rw [upd_ne ne]; exact k1, u, k2, k3.mono ex⟩
  · by_cases e : a = p
    · subst e; exact .inr e0
    · rw [upd_ne e] at q; exact A.new a u q
theorem At.sub (A : At K B H0 os G H) (h : ∀ q ∈ os', q ∈ os) (nd : (os'.map (·.1)).Nodup) : At K B H0 os' G H := ⟨A.ow.sub h nd, A.bg, A.h0, A.new, fun q hq => A.own0 q (h q hq)⟩
end
theorem DE.up_mono {X : Cx} {st : List Stmt} {D D' : DE} {K : PySem.W.Frag} {B H0 B' : Hp} {σ : L2.St} {H : Hp} (h : wB X st (D.up K B' H0) σ H) (n : ∀ σ H, upS K B' H0 D.nx σ H → upS K B H0 D'.nx σ H) (r : ∀ v H, upV K B' H0 D.rt v H → upV K B H0 D'.rt v H)
    (b : ∀ σ H, upS K B' H0 D.bk σ H → upS K B H0 D'.bk σ H) (c : ∀ σ H, upS K B' H0 D.ct σ H → upS K B H0 D'.ct σ H) : wB X st (D'.up K B H0) σ H := fun pins s I => by
  refine thn (h pins s I) fun f s' q => ?_
  cases f with
  | next => obtain ⟨σ', H', I', q⟩ := q; exact ⟨σ', H', I', n _ _ q⟩
  | brk => obtain ⟨σ', H', I', q⟩ := q; exact ⟨σ', H', I', b _ _ q⟩
  | cont => obtain ⟨σ', H', I', q⟩ := q; exact ⟨σ', H', I', c _ _ q⟩
  | ret v => obtain ⟨x, σ', H', I', rv, q⟩ := q; exact ⟨x, σ', H', I', rv, r _ _ q⟩
end DL

set_option maxHeartbeats 4000000
/-! D2: rules for expressions, over data. -/
namespace DL
open PySem PySem.Spec PyProof.Rows L2 Evl

def visB (sc : Scope) (x : Str) : Bool := match sc.names.lookup x with
  | some .local => true
  | some .cell => true
  | some .free => true
  | _ => false
def stB (full : Bool) (sc : Scope) (x : Str) : Bool := match sc.names.lookup x with
  | some .local => true
  | some .cell => full
  | _ => false
/-- where a piece of code stands: its names by slot, its scope, which of the names are seen, which may be stored -/
structure Ctx (X : Cx) (N : List Str) (sc : Scope) (full : Bool) (vi st : List Bool) : Prop where
  hN : X.N = N
  hsc : X.env.scope = sc
  nd : N.Nodup
  calm : X.calm = true
  fn : full = true → ∀ x, X.fn x = true
  po : PassesOwn (model X.prog X.w) X.A X.env X.xe
  kind : sc.kind = .function
  hvi : N.map (visB sc) = vi
  hst : N.map (stB full sc) = st
section
variable {X : Cx} {N : List Str} {sc : Scope} {full : Bool} {vi st : List Bool} {δ : Sl} {os : Os}
theorem map_at {α β : Type} {f : α → β} {l : List α} {m : List β} (h : l.map f = m) {i : Nat} {x : α} {b : β} (hx : l[i]? = some x) (hb : m[i]? = some b) : f x = b := by
  rw [← h, List.getElem?_map, hx] at hb
  exact Option.some.inj hb
theorem visB_ok {x : Str} (h : visB sc x = true) : Vis sc x := by
  unfold visB at h
  unfold Vis
  split at h
  · rename_i e; exact .inl e
  · rename_i e; exact .inr (.inl e)
  · rename_i e; exact .inr (.inr e)
  · cases h
theorem stB_ok {x : Str} (h : stB full sc x = true) : L2.Loc sc x ∧ (full = true ∨ sc.names.lookup x = some .local) := by
  unfold stB at h
  unfold L2.Loc
  split at h
  · rename_i e; exact ⟨.inl e, .inr e⟩
  · rename_i e; exact ⟨.inr e, .inl h⟩
  · cases h
theorem Ctx.gl (C : Ctx X N sc full vi st) {x : Str} (h : sc.names.lookup x = some .globalImplicit) : Gl X x := by
  show X.env.scope.names.lookup x = _
  rw [C.hsc]; exact h
theorem Ctx.vis (C : Ctx X N sc full vi st) {i : Nat} {x : Str} (hN : N[i]? = some x) (h : vi[i]? = some true) : Vis X.env.scope x := by
  rw [C.hsc]; exact visB_ok (map_at C.hvi hN h)
theorem Ctx.loc (C : Ctx X N sc full vi st) {i : Nat} {x : Str} (hN : N[i]? = some x) (h : st[i]? = some true) : L2.Loc X.env.scope x := by
  rw [C.hsc]; exact (stB_ok (map_at C.hst hN h)).1
theorem Ctx.stf (C : Ctx X N sc full vi st) {i : Nat} {x : Str} (hN : N[i]? = some x) (h : st[i]? = some true) : X.fn x = true ∨ X.env.scope.names.lookup x = some .local := by
  rw [C.hsc]
  rcases (stB_ok (map_at C.hst hN h)).2 with e | e
  · exact .inl (C.fn e x)
  · exact .inr e
theorem Ctx.nth (C : Ctx X N sc full vi st) {i : Nat} {x : Str} (hN : N[i]? = some x) : X.N[i]? = some x := by rw [C.hN]; exact hN
theorem Ctx.ndX (C : Ctx X N sc full vi st) : X.N.Nodup := by rw [C.hN]; exact C.nd

/-! ### names and constants -/
theorem jp_var (C : Ctx X N sc full vi st) (i : Nat) {x : Str} {pos : Pos} {d : Dt} (hd : δ[i]? = some (some d)) (hN : N[i]? = some x) (hv : vi[i]? = some true) (h1 : (x == ("__debug__" : Str)) = false := by decide) (h2 : (x == ("__classdict__" : Str)) = false := by decide) :
    JP X (.Name x pos) δ os d := fun G H σ O E Q q => by
  obtain ⟨v, e, s⟩ := E.get i d hd
  exact wE_of (pe_var (C.nth hN) (C.vis hN hv) h1 h2) ⟨v, e, q v G H (Grow.refl O.gh) s⟩
theorem jp_c {e : Expr} {v : V} {d : Dt} (h : PE X e (tC v)) (s : ∀ G, Sees X.K G d v) : JP X e δ os d := fun G H σ O E Q q => wE_of h (q v G H (Grow.refl O.gh) (s G))
theorem jp_int {i : Int} {j pos} : JP X (.Constant (.int i) j pos) δ os (.int i) := jp_c pe_int fun _ => rfl
theorem jp_bl {b : Bool} {j pos} : JP X (.Constant (.bool b) j pos) δ os (.bl b) := jp_c pe_bl fun _ => rfl
theorem jp_non {j pos} : JP X (.Constant .none j pos) δ os .non := jp_c pe_non fun _ => rfl
theorem jp_str {x : Str} {j pos} : JP X (.Constant (.str x) j pos) δ os (.str x) := jp_c pe_str fun _ => rfl
/-- a module's int, text -/
theorem jp_gint (C : Ctx X N sc full vi st) {x : Str} {i : Int} {pos : Pos} (hm : ∃ t, X.mg x = some (.int i t)) (hg : sc.names.lookup x = some .globalImplicit) (hd : (x == ("__debug__" : Str)) = false := by decide) : JP X (.Name x pos) δ os (.int i) := by
  obtain ⟨t, hm⟩ := hm
  exact jp_c (pe_glob (C.gl hg) hm (v := .int i) ⟨t, rfl⟩ hd) fun _ => rfl
theorem jp_gstr (C : Ctx X N sc full vi st) {x y : Str} {pos : Pos} (hm : ∃ t, X.mg x = some (.str y t)) (hg : sc.names.lookup x = some .globalImplicit) (hd : (x == ("__debug__" : Str)) = false := by decide) : JP X (.Name x pos) δ os (.str y) := by
  obtain ⟨t, hm⟩ := hm
  exact jp_c (pe_glob (C.gl hg) hm (v := .str y) ⟨t, rfl⟩ hd) fun _ => rfl
/-- a module's tuple -/
def GTup (X : Cx) (x : Str) (ds : List Dt) : Prop := ∃ a vs, X.mg x = some (.ref a) ∧ (∀ H, SqT X.K H a vs) ∧ ∀ H, Seen X.K H ds vs
theorem jp_gtup (C : Ctx X N sc full vi st) {x : Str} {ds : List Dt} {pos : Pos} (hm : GTup X x ds) (hg : sc.names.lookup x = some .globalImplicit) (hd : (x == ("__debug__" : Str)) = false := by decide) : JP X (.Name x pos) δ os (.tup ds) := by
  obtain ⟨a, vs, hm, h1, h2⟩ := hm
  refine jp_c (pe_glob (C.gl hg) hm (v := .ref a) rfl hd) fun G => ?_
  unfold Sees
  exact ⟨a, vs, rfl, h1 G, h2 G⟩

/-! ### from a judgement to another -/
theorem jp_new {e : Expr} {xs : List Dt} (h : JN X e δ os xs) : JP X e δ os (.lst xs) := fun G H σ O E Q q => h G H σ O E _ fun p vs G' H' g hp gp h' s => by
  have ex : Ex G' (upd G' p (.lst vs)) := Ex.new gp
  refine q (.ref p) (upd G' p (.lst vs)) H' ⟨g.gg.trans ex, g.hh, fun a o z => ?_, fun a o z => ?_⟩ ?_
  · by_cases e : a = p
    · subst e; rw [upd_same] at z; rw [h']; exact z
    · rw [upd_ne e] at z; exact g.gh a o z
  · by_cases e : a = p
    · subst e; exact .inr hp
    · rw [upd_ne e] at z; exact g.new a o z
  · unfold Sees
    exact ⟨p, vs, rfl, upd_same, s.mono ex xs⟩
theorem jt_val {e : Expr} {b : Bool} (h : JP X e δ os (.bl b)) (he : ∀ whole, isTrue e X.env whole = (do let v ← whole; standAt e.pos; holding [v] (truthy v)) := by intro _; rfl) : JT X e δ os b := fun G H σ O E Q q =>
  wT_of (pt_val pe_w he) (h G H σ O E _ fun v G' H' g s => ⟨b, s, q G' H' g⟩)
theorem jt_w {e : Expr} {b : Bool} (h : JW X e δ os b) : JT X e δ os b := fun G H σ O E Q q => wT_of (PW.pt pw_w) (h G H σ O E Q q)
theorem JP.is {e : Expr} {d d' : Dt} (h : JP X e δ os d) (z : d = d') : JP X e δ os d' := z ▸ h
theorem JN.is {e : Expr} {d d' : List Dt} (h : JN X e δ os d) (z : d = d') : JN X e δ os d' := z ▸ h
theorem JT.is {e : Expr} {d d' : Bool} (h : JT X e δ os d) (z : d = d') : JT X e δ os d' := z ▸ h
theorem JO.is {f : Value → Value → Sem Value} {d e r r' : Dt} (h : JO X f os d e r) (z : r = r') : JO X f os d e r' := z ▸ h

/-! ### operators -/
variable {a b c : Expr} {d e r : Dt} {pos : Pos}
theorem two {Q : VK} {G H : Hp} {σ : L2.St} {R : R2} (ha : JP X a δ os d) (hb : JP X b δ os e) (O : Own X.K os G H) (E : EnvS X.K G δ σ)
    (k : ∀ x y G' H', Grow G H G' H' → Own X.K os G' H' → Sees X.K G' d x → Sees X.K G' e y → R x y H' Q) : wE X a σ H fun x H1 => wE X b σ H1 fun y H2 => R x y H2 Q :=
  ha G H σ O E _ fun x G1 H1 g1 s1 => hb G1 H1 σ (O.grow g1) (E.mono g1.gg) _ fun y G2 H2 g2 s2 => k x y G2 H2 (g1.trans g2) (O.grow (g1.trans g2)) (s1.mono g2.gg d) s2
theorem jp_op {op : Operator} (ha : JP X a δ os d) (hb : JP X b δ os e) (ho : JO X (binaryOp op) os d e r) : JP X (.BinOp a op b pos) δ os r := fun G H σ O E Q q =>
  wE_of (pe_op op_w pe_w pe_w) (two ha hb O E fun x y G' H' g O' s1 s2 => ho G' H' x y O' s1 s2 Q fun v G2 H2 g2 s => q v G2 H2 (g.trans g2) s)
theorem jn_op {op : Operator} {xs : List Dt} (ha : JP X a δ os d) (hb : JP X b δ os e) (ho : JON X (binaryOp op) os d e xs) : JN X (.BinOp a op b pos) δ os xs := fun G H σ O E Q q =>
  wE_of (pe_op op_w pe_w pe_w) (two ha hb O E fun x y G' H' g O' s1 s2 => ho G' H' x y O' s1 s2 Q fun p vs G2 H2 g2 hp gp h s => q p vs G2 H2 (g.trans g2) (fresh_back g.hh hp) gp h s)
theorem jp_cmp {op : CmpOp} (ha : JP X a δ os d) (hb : JP X b δ os e) (ho : JO X (compareOp op) os d e r) (hm : behindInMarks op b = false := by first | exact nomark _ | rfl) : JP X (.Compare a [op] [b] pos) δ os r := fun G H σ O E Q q =>
  wE_of (pe_cmpR op_w pe_w pe_w hm) (two ha hb O E fun x y G' H' g O' s1 s2 => ho G' H' x y O' s1 s2 Q fun v G2 H2 g2 s => q v G2 H2 (g.trans g2) s)
theorem jt_cmp {op : CmpOp} {k : Bool} (ha : JP X a δ os d) (hb : JP X b δ os e) (ho : JO X (compareOp op) os d e (.bl k)) (hm : behindInMarks op b = false := by first | exact nomark _ | rfl) : JT X (.Compare a [op] [b] pos) δ os k := fun G H σ O E Q q =>
  wT_of (pt_cmpR op_w pe_w pe_w hm) (two (R := fun x y H Q => wO X _ x y H Q) (Q := fun x H' => ∃ k, x = .bl k ∧ Q k H') ha hb O E fun x y G' H' g O' s1 s2 => ho G' H' x y O' s1 s2 _ fun v G2 H2 g2 s => ⟨k, s, q G2 H2 (g.trans g2)⟩)
theorem jo_of {f : Value → Value → Sem Value} {rr : R2} {z : V} (h : OpR X f rr) (k : ∀ (G H : Hp) (x y : V), Own X.K os G H → Sees X.K G d x → Sees X.K G e y → ∀ Q : VK, Q z H → rr x y H Q) (s : ∀ G, Sees X.K G r z) : JO X f os d e r := fun G H x y O s1 s2 Q q =>
  wO_of h (k G H x y O s1 s2 Q (q z G H (Grow.refl O.gh) (s G)))
theorem jo_add {i j : Int} : JO X (binaryOp .Add) os (.int i) (.int j) (.int (i + j)) := jo_of op_add (fun _ _ _ _ _ s1 s2 _ q => ⟨i, j, s1, s2, q⟩) fun _ => rfl
theorem jo_sub {i j : Int} : JO X (binaryOp .Sub) os (.int i) (.int j) (.int (i - j)) := jo_of op_sub (fun _ _ _ _ _ s1 s2 _ q => ⟨i, j, s1, s2, q⟩) fun _ => rfl
theorem jo_mul {i j : Int} (h : CMul i j) : JO X (binaryOp .Mult) os (.int i) (.int j) (.int (i * j)) := jo_of op_mul (fun _ _ _ _ _ s1 s2 _ q => ⟨i, j, s1, s2, h, q⟩) fun _ => rfl
theorem jo_mod {i j : Int} (h : 0 < j) : JO X (binaryOp .Mod) os (.int i) (.int j) (.int (i % j)) := jo_of op_mod (fun _ _ _ _ _ s1 s2 _ q => ⟨i, j, s1, s2, h, q⟩) fun _ => rfl
theorem jo_div {i j : Int} (h : CDiv i j) : JO X (binaryOp .FloorDiv) os (.int i) (.int j) (.int (i / j)) := jo_of op_fdiv (fun _ _ _ _ _ s1 s2 _ q => ⟨i, j, s1, s2, h, q⟩) fun _ => rfl
theorem jo_pow {i j : Int} (h : CPow i j) : JO X (binaryOp .Pow) os (.int i) (.int j) (.int (i ^ j.toNat)) := jo_of op_pow (fun _ _ _ _ _ s1 s2 _ q => ⟨i, j, s1, s2, h, q⟩) fun _ => rfl
theorem jo_lt {i j : Int} : JO X (compareOp .Lt) os (.int i) (.int j) (.bl (decide (i < j))) := jo_of op_lt (fun _ _ _ _ _ s1 s2 _ q => ⟨i, j, s1, s2, q⟩) fun _ => rfl
theorem jo_le {i j : Int} : JO X (compareOp .LtE) os (.int i) (.int j) (.bl (decide (i ≤ j))) := jo_of op_le (fun _ _ _ _ _ s1 s2 _ q => ⟨i, j, s1, s2, q⟩) fun _ => rfl
theorem jo_gt {i j : Int} : JO X (compareOp .Gt) os (.int i) (.int j) (.bl (decide (j < i))) := jo_of op_gt (fun _ _ _ _ _ s1 s2 _ q => ⟨i, j, s1, s2, q⟩) fun _ => rfl
theorem jo_ge {i j : Int} : JO X (compareOp .GtE) os (.int i) (.int j) (.bl (decide (j ≤ i))) := jo_of op_ge (fun _ _ _ _ _ s1 s2 _ q => ⟨i, j, s1, s2, q⟩) fun _ => rfl
/-- scalars as values -/
def toV : Dt → V
  | .non => .non
  | .bl b => .bl b
  | .int i => .int i
  | .str x => .str x
  | .at a => .ref a
  | _ => .ty ""
def scD : Dt → Bool
  | .non => true
  | .bl _ => true
  | .int _ => true
  | .str _ => true
  | .at _ => true
  | _ => false
theorem scD_v {K : PySem.W.Frag} {G : Hp} {d : Dt} {v : V} (h : scD d = true) (s : Sees K G d v) : v = toV d := by
  cases d <;> first | exact s | exact absurd h Bool.false_ne_true
theorem scD_s {K : PySem.W.Frag} {G : Hp} {d : Dt} (h : scD d = true) : Sees K G d (toV d) := by
  cases d <;> first | (unfold Sees; rfl) | exact absurd h Bool.false_ne_true
/-- == and != of scalars -/
theorem jo_eq (hs : scal (toV d) (toV e) = true) (h1 : scD d = true := by rfl) (h2 : scD e = true := by rfl) : JO X (compareOp .Eq) os d e (.bl (decide (toV d = toV e))) := jo_of op_eq (fun _ _ _ _ _ s1 s2 _ q => by
  rw [scD_v h1 s1, scD_v h2 s2]; exact ⟨hs, q⟩) fun _ => rfl
theorem jo_ne (hs : scal (toV d) (toV e) = true) (h1 : scD d = true := by rfl) (h2 : scD e = true := by rfl) : JO X (compareOp .NotEq) os d e (.bl (!decide (toV d = toV e))) := jo_of op_ne (fun _ _ _ _ _ s1 s2 _ q => by
  rw [scD_v h1 s1, scD_v h2 s2]; exact ⟨hs, q⟩) fun _ => rfl
theorem jo_eqI {i j : Int} : JO X (compareOp .Eq) os (.int i) (.int j) (.bl (decide (i = j))) := (jo_eq rfl).is (by show Dt.bl (decide (V.int i = V.int j)) = _; congr 1; simp)
theorem jo_neI {i j : Int} : JO X (compareOp .NotEq) os (.int i) (.int j) (.bl (!decide (i = j))) := (jo_ne rfl).is (by show Dt.bl (!decide (V.int i = V.int j)) = _; congr 2; simp)
/-- is None, of anything -/
def isNon : Dt → Bool
  | .non => true
  | _ => false
theorem isNon_v {K : PySem.W.Frag} {G : Hp} {d : Dt} {v : V} (s : Sees K G d v) : decide (v = .non) = isNon d := by
  cases d with
  | non => rw [show v = .non from s]; rfl
  | bl b => rw [show v = .bl b from s]; rfl
  | int b => rw [show v = .int b from s]; rfl
  | str b => rw [show v = .str b from s]; rfl
  | «at» b => rw [show v = .ref b from s]; rfl
  | lst xs => unfold Sees at s; obtain ⟨a, vs, h1, _⟩ := s; rw [h1]; rfl
  | scr xs => unfold Sees at s; obtain ⟨a, vs, h1, _⟩ := s; rw [h1]; rfl
  | tup xs => unfold Sees at s; obtain ⟨a, vs, h1, _⟩ := s; rw [h1]; rfl
  | ins C fs => unfold Sees at s; obtain ⟨a, dx, vs, h1, _⟩ := s; rw [h1]; rfl
  | dT kvs => unfold Sees at s; obtain ⟨a, vs, h1, _⟩ := s; rw [h1]; rfl
theorem jo_is : JO X (compareOp .Is) os d .non (.bl (isNon d)) := fun G H x y O s1 s2 Q q => wO_of op_isN ⟨s2, q _ G H (Grow.refl O.gh) (by rw [isNon_v s1]; unfold Sees; rfl)⟩
theorem jo_isnot : JO X (compareOp .IsNot) os d .non (.bl (!isNon d)) := fun G H x y O s1 s2 Q q => wO_of op_notN ⟨s2, q _ G H (Grow.refl O.gh) (by rw [isNon_v s1]; unfold Sees; rfl)⟩
theorem jp_neg {i : Int} (ha : JP X a δ os (.int i)) : JP X (.UnaryOp .USub a pos) δ os (.int (-i)) := fun G H σ O E Q q =>
  wE_of (pe_un un_neg pe_w) (ha G H σ O E _ fun v G' H' g s => ⟨i, s, q _ G' H' g (by unfold Sees; rfl)⟩)

/-! ### tests -/
theorem jt_not {k : Bool} (h : JT X a δ os k) : JT X (.UnaryOp .Not a pos) δ os (!k) := fun G H σ O E Q q => wT_of (pt_not pt_w) (h G H σ O E _ fun G' H' g => q G' H' g)
theorem jp_not {k : Bool} (h : JP X a δ os (.bl k)) : JP X (.UnaryOp .Not a pos) δ os (.bl (!k)) := fun G H σ O E Q q => wE_of (pe_not pe_w) (h G H σ O E _ fun v G' H' g s => ⟨k, s, q _ G' H' g (by unfold Sees; rfl)⟩)
variable {rest : List Expr} {k m : Bool}
theorem jw_and1 (h : JT X a δ os k) : JW X (.BoolOp .And [a] pos) δ os k := fun G H σ O E Q q => wW_of (pw_and1 pt_w) (h G H σ O E Q q)
theorem jw_or1 (h : JT X a δ os k) : JW X (.BoolOp .Or [a] pos) δ os k := fun G H σ O E Q q => wW_of (pw_or1 pt_w) (h G H σ O E Q q)
theorem jw_and (h : JT X a δ os k) (t : k = true → JW X (.BoolOp .And (b :: rest) pos) δ os m) : JW X (.BoolOp .And (a :: b :: rest) pos) δ os (k && m) := fun G H σ O E Q q =>
  wW_of (pw_and pt_w pw_w) (h G H σ O E _ fun G' H' g => by
    cases k with
    | true => exact t rfl G' H' σ (O.grow g) (E.mono g.gg) Q fun G2 H2 g2 => q G2 H2 (g.trans g2)
    | false => exact q G' H' g)
theorem jw_or (h : JT X a δ os k) (t : k = false → JW X (.BoolOp .Or (b :: rest) pos) δ os m) : JW X (.BoolOp .Or (a :: b :: rest) pos) δ os (k || m) := fun G H σ O E Q q =>
  wW_of (pw_or pt_w pw_w) (h G H σ O E _ fun G' H' g => by
    cases k with
    | false => exact t rfl G' H' σ (O.grow g) (E.mono g.gg) Q fun G2 H2 g2 => q G2 H2 (g.trans g2)
    | true => exact q G' H' g)
theorem jp_one {op} (h : JP X a δ os d) : JP X (.BoolOp op [a] pos) δ os d := fun G H σ O E Q q => wE_of (pe_one pe_w) (h G H σ O E Q q)
theorem jp_and (h : JP X a δ os (.bl k)) (t : k = true → JP X (.BoolOp .And (b :: rest) pos) δ os (.bl m)) : JP X (.BoolOp .And (a :: b :: rest) pos) δ os (.bl (k && m)) := fun G H σ O E Q q =>
  wE_of (pe_and pe_w pe_w) (h G H σ O E _ fun v G' H' g s => ⟨k, s, by
    cases k with
    | true => exact t rfl G' H' σ (O.grow g) (E.mono g.gg) Q fun v G2 H2 g2 => q v G2 H2 (g.trans g2)
    | false => exact q _ G' H' g (by unfold Sees; rfl)⟩)
theorem jp_or (h : JP X a δ os (.bl k)) (t : k = false → JP X (.BoolOp .Or (b :: rest) pos) δ os (.bl m)) : JP X (.BoolOp .Or (a :: b :: rest) pos) δ os (.bl (k || m)) := fun G H σ O E Q q =>
  wE_of (pe_or pe_w pe_w) (h G H σ O E _ fun v G' H' g s => ⟨k, s, by
    cases k with
    | false => exact t rfl G' H' σ (O.grow g) (E.mono g.gg) Q fun v G2 H2 g2 => q v G2 H2 (g.trans g2)
    | true => exact q _ G' H' g (by unfold Sees; rfl)⟩)
theorem jp_if {t : Expr} (h : JT X t δ os k) (h1 : k = true → JP X a δ os d) (h2 : k = false → JP X b δ os d) : JP X (.IfExp t a b pos) δ os d := fun G H σ O E Q q =>
  wE_of (pe_ifExp pt_w pe_w pe_w) (h G H σ O E _ fun G' H' g => by
    cases k with
    | true => exact h1 rfl G' H' σ (O.grow g) (E.mono g.gg) Q fun v G2 H2 g2 => q v G2 H2 (g.trans g2)
    | false => exact h2 rfl G' H' σ (O.grow g) (E.mono g.gg) Q fun v G2 H2 g2 => q v G2 H2 (g.trans g2))

/-! ### argument lists, displays -/
variable {es : List Expr} {ds : List Dt}
theorem ja_nil : JA X [] δ os [] := fun G H σ O E Q q => wA_of pa_nil (q [] G H (Grow.refl O.gh) .nil)
theorem ja_cons (h : JP X a δ os d) (t : JA X es δ os ds) (hs : starEach (a :: es) X.env = (false, eval a X.env) :: starEach es X.env := by rfl) : JA X (a :: es) δ os (d :: ds) := fun G H σ O E Q q =>
  wA_of (pa_cons pe_w pa_w hs) (h G H σ O E _ fun v G1 H1 g1 s1 => t G1 H1 σ (O.grow g1) (E.mono g1.gg) _ fun vs G2 H2 g2 s2 => q (v :: vs) G2 H2 (g1.trans g2) (.cons (s1.mono g2.gg d) s2))
theorem jp_tup {x1} (h : JA X es δ os ds) (hl : ds.length ≤ 100000 := by first | decide | (simp only [List.length_cons, List.length_nil]; decide)) : JP X (.Tuple es x1 pos) δ os (.tup ds) := fun G H σ O E Q q =>
  wE_of (pe_tup pa_w) (h G H σ O E _ fun vs G' H' g s => ⟨by rw [← s.len]; exact sz_of hl, fun p hp => by
    have gl := Grow.laid (o := .tup vs) g.gh hp
    refine q (.ref p) _ _ (g.trans gl) ?_
    unfold Sees
    exact ⟨p, vs, rfl, SqT.of upd_same, s.mono gl.gg ds⟩⟩)
theorem jn_lst (h : JA X es δ os ds) (hl : ds.length ≤ 100000 := by first | decide | (simp only [List.length_cons, List.length_nil]; decide)) : JN X (.List es pos) δ os ds := fun G H σ O E Q q =>
  wE_of (pe_lst pa_w) (h G H σ O E _ fun vs G' H' g s => ⟨by rw [← s.len]; exact sz_of hl, fun p hp =>
    q p vs G' _ (g.trans (Grow.hid g.gh hp)) (fresh_back g.hh hp) (fresh_back g.gh hp) upd_same s⟩)

/-! ### lists, owned or not; tuples -/
/-- the data that stands for a list with these items -/
def Lk (os : Os) (d : Dt) (xs : List Dt) : Prop := d = .lst xs ∨ ∃ p, d = .at p ∧ (p, Ob.lst xs) ∈ os
theorem Lk.l {xs : List Dt} : Lk os (.lst xs) xs := .inl rfl
theorem Lk.o {p : Addr} {xs : List Dt} (h : (p, Ob.lst xs) ∈ os) : Lk os (.at p) xs := .inr ⟨p, rfl, h⟩
theorem Lk.see {xs : List Dt} {K : PySem.W.Frag} {G H : Hp} {v : V} (h : Lk os d xs) (O : Own K os G H) (s : Sees K G d v) : ∃ a vs, v = .ref a ∧ H a = some (.lst vs) ∧ Seen K G xs vs := by
  rcases h with rfl | ⟨p, rfl, hm⟩
  · unfold Sees at s
    obtain ⟨a, vs, h1, h2, h3⟩ := s
    exact ⟨a, vs, h1, O.gh _ _ h2, h3⟩
  · obtain ⟨_, ho, h2, vs, rfl, h3⟩ := O.own _ hm
    exact ⟨p, vs, s, h2, h3⟩
theorem tup_see {xs : List Dt} {K : PySem.W.Frag} {G H : Hp} {v : V} (O : Own K os G H) (s : Sees K G (.tup xs) v) : ∃ a vs, v = .ref a ∧ SqT K H a vs ∧ Seen K G xs vs := by
  unfold Sees at s
  obtain ⟨a, vs, h1, h2, h3⟩ := s
  exact ⟨a, vs, h1, ex_t O.gh h2, h3⟩
theorem atI_nat' {α : Type} {xs : List α} {i : Nat} {x : α} (h : xs[i]? = some x) : atI xs (i : Int) = some x := by
  have hi : i < xs.length := (List.getElem?_eq_some_iff.mp h).1
  unfold atI ixN
  rw [if_pos (by omega), if_pos (by omega)]
  simpa using h
theorem atI_len {xs : List Dt} {vs : List V} {K : PySem.W.Frag} {G : Hp} {i : Int} (s : Seen K G xs vs) (h : atI xs i = some r) : ∃ v, atI vs i = some v ∧ Sees K G r v := by
  unfold atI at h ⊢
  rw [← s.len]
  cases e : ixN xs.length i with
  | none => rw [e] at h; cases h
  | some j =>
    rw [e] at h
    obtain ⟨v, h1, h2⟩ := s.get (i := j) h
    exact ⟨v, h1, h2⟩
theorem jp_ixL {xs : List Dt} {i : Int} (ha : JP X a δ os d) (hb : JP X b δ os (.int i)) (hl : Lk os d xs) (hi : atI xs i = some r) (hs : PlainIx b := by exact fun _ _ => rfl) : JP X (.Subscript a b pos) δ os r := fun G H σ O E Q q =>
  wE_of (pe_ix ix_list pe_w pe_w hs) (two ha hb O E fun x y G' H' g O' s1 s2 => by
    obtain ⟨p, vs, h1, h2, h3⟩ := hl.see O' s1
    obtain ⟨v, h4, h5⟩ := atI_len h3 hi
    exact ⟨p, vs, i, v, h1, s2, SqL.of h2, h4, q v G' H' g h5⟩)
theorem jp_ixT {xs : List Dt} {i : Int} (ha : JP X a δ os (.tup xs)) (hb : JP X b δ os (.int i)) (hi : atI xs i = some r) (hs : PlainIx b := by exact fun _ _ => rfl) : JP X (.Subscript a b pos) δ os r := fun G H σ O E Q q =>
  wE_of (pe_ix ix_tup pe_w pe_w hs) (two ha hb O E fun x y G' H' g O' s1 s2 => by
    obtain ⟨p, vs, h1, h2, h3⟩ := tup_see O' s1
    obtain ⟨v, h4, h5⟩ := atI_len h3 hi
    exact ⟨p, vs, i, v, h1, s2, h2, h4, q v G' H' g h5⟩)
theorem jp_ixS {xs : List Dt} {i : Int} (ha : JP X a δ os (.scr xs)) (hb : JP X b δ os (.int i)) (hi : atI xs i = some r) (hs : PlainIx b := by exact fun _ _ => rfl) : JP X (.Subscript a b pos) δ os r := fun G H σ O E Q q =>
  wE_of (pe_ix ix_list pe_w pe_w hs) (two ha hb O E fun x y G' H' g O' s1 s2 => by
    unfold Sees at s1
    obtain ⟨p, vs, h1, h2, h3⟩ := s1
    obtain ⟨v, h4, h5⟩ := atI_len h3 hi
    exact ⟨p, vs, i, v, h1, s2, ex_l O'.gh h2, h4, q v G' H' g h5⟩)
theorem jt_truth {xs : List Dt} (ha : JP X a δ os d) (hl : Lk os d xs) (he : ∀ whole, isTrue a X.env whole = (do let v ← whole; standAt a.pos; holding [v] (truthy v)) := by intro _; rfl) : JT X a δ os (!xs.isEmpty) := fun G H σ O E Q q =>
  wT_of (pt_truth pe_w he) (ha G H σ O E _ fun x G' H' g s => by
    obtain ⟨p, vs, h1, h2, h3⟩ := hl.see (O.grow g) s
    subst h1
    refine ⟨_, .inl ⟨vs, SqL.of h2, rfl⟩, ?_⟩
    have e : xs.isEmpty = vs.isEmpty := by
      cases xs with
      | nil => rw [h3.nil_inv]; rfl
      | cons x r => obtain ⟨v, r', rfl, _, _⟩ := h3.cons_inv; rfl
    rw [← e]
    exact q G' H' g)
/-- x in a list of scalars -/
theorem inV_seen {K : PySem.W.Frag} {G : Hp} {xs : List Dt} {vs : List V} (s : Seen K G xs vs) (h : xs.all scD = true) : vs = xs.map toV := by
  induction xs generalizing vs with
  | nil => rw [s.nil_inv]; rfl
  | cons x r ih =>
    obtain ⟨v, r', rfl, s1, s2⟩ := s.cons_inv
    rw [List.all_cons, Bool.and_eq_true] at h
    rw [List.map_cons, scD_v h.1 s1, ih s2 h.2]
def flatD : Dt → Bool
  | .non => true
  | .bl _ => true
  | .int _ => true
  | .str _ => true
  | _ => false
theorem flatD_sc {d : Dt} (h : flatD d = true) : scD d = true ∧ flatV (toV d) = true := by
  cases d <;> first | exact ⟨rfl, rfl⟩ | exact absurd h Bool.false_ne_true
theorem all_flat {xs : List Dt} (h : xs.all flatD = true) : xs.all scD = true ∧ (xs.map toV).all flatV = true := by
  rw [List.all_eq_true] at h
  refine ⟨List.all_eq_true.mpr fun x hx => (flatD_sc (h x hx)).1, List.all_eq_true.mpr fun v hv => ?_⟩
  obtain ⟨x, hx, rfl⟩ := List.mem_map.mp hv
  exact (flatD_sc (h x hx)).2
def inD (x : Dt) (xs : List Dt) : Bool := inV (toV x) (xs.map toV)
theorem jo_in {xs : List Dt} (hd : flatD d = true) (hf : xs.all flatD = true) (hl : Lk os e xs) : JO X (compareOp .In) os d e (.bl (inD d xs)) := fun G H x y O s1 s2 Q q => by
  obtain ⟨p, vs, h1, h2, h3⟩ := hl.see O s2
  obtain ⟨f1, f2⟩ := flatD_sc hd
  obtain ⟨a1, a2⟩ := all_flat hf
  have e1 := inV_seen h3 a1
  have e2 := scD_v f1 s1
  subst e1 e2
  exact wO_of op_in_seq ⟨p, _, h1, .inl (SqL.of h2), f2, a2, q _ G H (Grow.refl O.gh) (by unfold Sees; rfl)⟩
theorem jo_notIn {xs : List Dt} (hd : flatD d = true) (hf : xs.all flatD = true) (hl : Lk os e xs) : JO X (compareOp .NotIn) os d e (.bl (!inD d xs)) := fun G H x y O s1 s2 Q q => by
  obtain ⟨p, vs, h1, h2, h3⟩ := hl.see O s2
  obtain ⟨f1, f2⟩ := flatD_sc hd
  obtain ⟨a1, a2⟩ := all_flat hf
  have e1 := inV_seen h3 a1
  have e2 := scD_v f1 s1
  subst e1 e2
  exact wO_of op_notIn_seq ⟨p, _, h1, .inl (SqL.of h2), f2, a2, q _ G H (Grow.refl O.gh) (by unfold Sees; rfl)⟩
theorem jo_cat {xs ys : List Dt} (h1 : Lk os d xs) (h2 : Lk os e ys) (hz : xs.length + ys.length ≤ 100000) : JON X (binaryOp .Add) os d e (xs ++ ys) := fun G H x y O s1 s2 Q q => by
  obtain ⟨p, vs, e1, g1, t1⟩ := h1.see O s1
  obtain ⟨p2, us, e2, g2, t2⟩ := h2.see O s2
  exact wO_of op_cat ⟨p, p2, vs, us, e1, e2, g1, g2, by rw [← t1.len, ← t2.len]; exact sz_of hz, fun l hl => q l _ G _ (Grow.hid O.gh hl) hl (fresh_back O.gh hl) upd_same (t1.append t2)⟩
/-- [x] * n -/
theorem jo_rep {x0 : Dt} {n : Int} (h1 : Lk os d [x0]) (h0 : 0 ≤ n) (hz : n ≤ 100000) : JON X (binaryOp .Mult) os d (.int n) (List.replicate n.toNat x0) := fun G H x y O s1 s2 Q q => by
  obtain ⟨p, vs, e1, g1, t1⟩ := h1.see O s1
  obtain ⟨v, r, rfl, sv, sr⟩ := t1.cons_inv
  rw [sr.nil_inv] at g1
  refine wO_of op_rep ⟨p, n, [v], e1, s2, g1, by omega, by omega, sz_of (by simp; omega), fun l hl => q l (List.replicate n.toNat v) G _ (Grow.hid O.gh hl) hl (fresh_back O.gh hl) ?_ (Seen.replicate sv _)⟩
  rw [upd_same]
  congr 2
  generalize n.toNat = k
  induction k with
  | zero => rfl
  | succ k ih => rw [List.replicate_succ, List.flatten_cons, ih]; rfl

/-! ### calls of what is built in -/
theorem seen1 {K : PySem.W.Frag} {G : Hp} {d : Dt} {vs : List V} (s : Seen K G [d] vs) : ∃ v, vs = [v] ∧ Sees K G d v := by
  obtain ⟨v, r, rfl, s1, s2⟩ := s.cons_inv
  rw [s2.nil_inv]
  exact ⟨v, rfl, s1⟩
theorem seen2 {K : PySem.W.Frag} {G : Hp} {d e : Dt} {vs : List V} (s : Seen K G [d, e] vs) : ∃ v u, vs = [v, u] ∧ Sees K G d v ∧ Sees K G e u := by
  obtain ⟨v, r, rfl, s1, s2⟩ := s.cons_inv
  obtain ⟨u, rfl, s3⟩ := seen1 s2
  exact ⟨v, u, rfl, s1, s3⟩
theorem jp_len (C : Ctx X N sc full vi st) {xs : List Dt} {p : Pos} (hm : X.mg "len" = none) (ha : JP X a δ os d) (hl : Lk os d xs) (hg : sc.names.lookup ("len" : Str) = some .globalImplicit := by rfl) (hs : starEach [a] X.env = (false, eval a X.env) :: starEach [] X.env := by rfl) :
    JP X (.Call (.Name "len" p) [a] [] pos) δ os (.int xs.length) := fun G H σ O E Q q =>
  wE_of (pe_callB call_len_seq (C.gl hg) hm PySem.boot_len pa_w (he := hs)) (ja_cons ha ja_nil hs G H σ O E _ fun vs G' H' g s => by
    obtain ⟨v, rfl, s1⟩ := seen1 s
    obtain ⟨p, us, rfl, h2, h3⟩ := hl.see (O.grow g) s1
    exact ⟨p, us, rfl, .inl (SqL.of h2), q _ G' H' g (by rw [← h3.len]; unfold Sees; rfl)⟩)
theorem jp_lenT (C : Ctx X N sc full vi st) {xs : List Dt} {p : Pos} (hm : X.mg "len" = none) (ha : JP X a δ os (.tup xs)) (hg : sc.names.lookup ("len" : Str) = some .globalImplicit := by rfl) (hs : starEach [a] X.env = (false, eval a X.env) :: starEach [] X.env := by rfl) :
    JP X (.Call (.Name "len" p) [a] [] pos) δ os (.int xs.length) := fun G H σ O E Q q =>
  wE_of (pe_callB call_len_seq (C.gl hg) hm PySem.boot_len pa_w (he := hs)) (ja_cons ha ja_nil hs G H σ O E _ fun vs G' H' g s => by
    obtain ⟨v, rfl, s1⟩ := seen1 s
    obtain ⟨p, us, rfl, h2, h3⟩ := tup_see (O.grow g) s1
    exact ⟨p, us, rfl, .inr h2, q _ G' H' g (by rw [← h3.len]; unfold Sees; rfl)⟩)
theorem jp_lenS (C : Ctx X N sc full vi st) {xs : List Dt} {p : Pos} (hm : X.mg "len" = none) (ha : JP X a δ os (.scr xs)) (hg : sc.names.lookup ("len" : Str) = some .globalImplicit := by rfl) (hs : starEach [a] X.env = (false, eval a X.env) :: starEach [] X.env := by rfl) :
    JP X (.Call (.Name "len" p) [a] [] pos) δ os (.int xs.length) := fun G H σ O E Q q =>
  wE_of (pe_callB call_len_seq (C.gl hg) hm PySem.boot_len pa_w (he := hs)) (ja_cons ha ja_nil hs G H σ O E _ fun vs G' H' g s => by
    obtain ⟨v, rfl, s1⟩ := seen1 s
    unfold Sees at s1
    obtain ⟨p, us, rfl, h2, h3⟩ := s1
    exact ⟨p, us, rfl, .inl (ex_l g.gh h2), q _ G' H' g (by rw [← h3.len]; unfold Sees; rfl)⟩)
theorem jp_lenStr (C : Ctx X N sc full vi st) {x : Str} {p : Pos} (hm : X.mg "len" = none) (ha : JP X a δ os (.str x)) (hz : x.length ≤ 100000) (hg : sc.names.lookup ("len" : Str) = some .globalImplicit := by rfl) (hs : starEach [a] X.env = (false, eval a X.env) :: starEach [] X.env := by rfl) :
    JP X (.Call (.Name "len" p) [a] [] pos) δ os (.int x.length) := fun G H σ O E Q q =>
  wE_of (pe_callB call_len (C.gl hg) hm PySem.boot_len pa_w (he := hs)) (ja_cons ha ja_nil hs G H σ O E _ fun vs G' H' g s => by
    obtain ⟨v, rfl, s1⟩ := seen1 s
    have s1 : v = .str x := s1
    subst s1
    exact ⟨_, x.length, rfl, ⟨sz_of hz, rfl⟩, q _ G' H' g (by unfold Sees; rfl)⟩)
theorem jp_toint (C : Ctx X N sc full vi st) {i : Int} {p : Pos} (hm : X.mg "int" = none) (ha : JP X a δ os (.int i)) (hg : sc.names.lookup ("int" : Str) = some .globalImplicit := by rfl) (hs : starEach [a] X.env = (false, eval a X.env) :: starEach [] X.env := by rfl) :
    JP X (.Call (.Name "int" p) [a] [] pos) δ os (.int i) := fun G H σ O E Q q =>
  wE_of (pe_callTy call_int1 (C.gl hg) hm (by decide +kernel) pa_w (he := hs)) (ja_cons ha ja_nil hs G H σ O E _ fun vs G' H' g s => by
    obtain ⟨v, rfl, s1⟩ := seen1 s
    exact .inl ⟨i, by rw [show v = .int i from s1], q _ G' H' g (by unfold Sees; rfl)⟩)
theorem jp_abs (C : Ctx X N sc full vi st) {i : Int} {p : Pos} (hm : X.mg "abs" = none) (ha : JP X a δ os (.int i)) (hg : sc.names.lookup ("abs" : Str) = some .globalImplicit := by rfl) (hs : starEach [a] X.env = (false, eval a X.env) :: starEach [] X.env := by rfl) :
    JP X (.Call (.Name "abs" p) [a] [] pos) δ os (.int (if i < 0 then -i else i)) := fun G H σ O E Q q =>
  wE_of (pe_callB call_abs (C.gl hg) hm (by decide +kernel) pa_w (he := hs)) (ja_cons ha ja_nil hs G H σ O E _ fun vs G' H' g s => by
    obtain ⟨v, rfl, s1⟩ := seen1 s
    exact ⟨i, by rw [show v = .int i from s1], q _ G' H' g (by unfold Sees; rfl)⟩)
theorem jp_max2 (C : Ctx X N sc full vi st) {i j : Int} {p : Pos} (hm : X.mg "max" = none) (ha : JP X a δ os (.int i)) (hb : JP X b δ os (.int j)) (hg : sc.names.lookup ("max" : Str) = some .globalImplicit := by rfl)
    (hs : starEach [a, b] X.env = (false, eval a X.env) :: starEach [b] X.env := by rfl) (hs2 : starEach [b] X.env = (false, eval b X.env) :: starEach [] X.env := by rfl) (hpl : (backTo pos (starEach [b] X.env)).any (·.1) = false := by rfl) :
    JP X (.Call (.Name "max" p) [a, b] [] pos) δ os (.int (if j > i then j else i)) := fun G H σ O E Q q =>
  wE_of (pe_callB (call_max2 C.calm) (C.gl hg) hm (by decide +kernel) pa_w (he := hs) (hpl := hpl)) (ja_cons ha (ja_cons hb ja_nil hs2) hs G H σ O E _ fun vs G' H' g s => by
    obtain ⟨v, u, rfl, s1, s2⟩ := seen2 s
    exact ⟨i, j, by rw [show v = .int i from s1, show u = .int j from s2], q _ G' H' g (by unfold Sees; rfl)⟩)
theorem jp_min2 (C : Ctx X N sc full vi st) {i j : Int} {p : Pos} (hm : X.mg "min" = none) (ha : JP X a δ os (.int i)) (hb : JP X b δ os (.int j)) (hg : sc.names.lookup ("min" : Str) = some .globalImplicit := by rfl)
    (hs : starEach [a, b] X.env = (false, eval a X.env) :: starEach [b] X.env := by rfl) (hs2 : starEach [b] X.env = (false, eval b X.env) :: starEach [] X.env := by rfl) (hpl : (backTo pos (starEach [b] X.env)).any (·.1) = false := by rfl) :
    JP X (.Call (.Name "min" p) [a, b] [] pos) δ os (.int (if j < i then j else i)) := fun G H σ O E Q q =>
  wE_of (pe_callB (call_min2 C.calm) (C.gl hg) hm (by decide +kernel) pa_w (he := hs) (hpl := hpl)) (ja_cons ha (ja_cons hb ja_nil hs2) hs G H σ O E _ fun vs G' H' g s => by
    obtain ⟨v, u, rfl, s1, s2⟩ := seen2 s
    exact ⟨i, j, by rw [show v = .int i from s1, show u = .int j from s2], q _ G' H' g (by unfold Sees; rfl)⟩)
/-- list(a list), list(a tuple) -/
theorem jn_list (C : Ctx X N sc full vi st) {xs : List Dt} {p : Pos} (hm : X.mg "list" = none) (ha : JP X a δ os d) (hl : Lk os d xs) (hg : sc.names.lookup ("list" : Str) = some .globalImplicit := by rfl) (hs : starEach [a] X.env = (false, eval a X.env) :: starEach [] X.env := by rfl) :
    JN X (.Call (.Name "list" p) [a] [] pos) δ os xs := fun G H σ O E Q q =>
  wE_of (pe_callTy call_list_of (C.gl hg) hm (by decide +kernel) pa_w (he := hs)) (ja_cons ha ja_nil hs G H σ O E _ fun vs G' H' g s => by
    obtain ⟨v, rfl, s1⟩ := seen1 s
    obtain ⟨p, us, rfl, h2, h3⟩ := hl.see (O.grow g) s1
    exact ⟨p, us, rfl, .inl (SqL.of h2), fun l hl => q l us G' _ (g.trans (Grow.hid g.gh hl)) (fresh_back g.hh hl) (fresh_back g.gh hl) upd_same h3⟩)
theorem jn_listT (C : Ctx X N sc full vi st) {xs : List Dt} {p : Pos} (hm : X.mg "list" = none) (ha : JP X a δ os (.tup xs)) (hg : sc.names.lookup ("list" : Str) = some .globalImplicit := by rfl) (hs : starEach [a] X.env = (false, eval a X.env) :: starEach [] X.env := by rfl) :
    JN X (.Call (.Name "list" p) [a] [] pos) δ os xs := fun G H σ O E Q q =>
  wE_of (pe_callTy call_list_of (C.gl hg) hm (by decide +kernel) pa_w (he := hs)) (ja_cons ha ja_nil hs G H σ O E _ fun vs G' H' g s => by
    obtain ⟨v, rfl, s1⟩ := seen1 s
    obtain ⟨p, us, rfl, h2, h3⟩ := tup_see (O.grow g) s1
    exact ⟨p, us, rfl, .inr h2, fun l hl => q l us G' _ (g.trans (Grow.hid g.gh hl)) (fresh_back g.hh hl) (fresh_back g.gh hl) upd_same h3⟩)
theorem jp_tuple (C : Ctx X N sc full vi st) {xs : List Dt} {p : Pos} (hm : X.mg "tuple" = none) (ha : JP X a δ os d) (hl : Lk os d xs) (hg : sc.names.lookup ("tuple" : Str) = some .globalImplicit := by rfl) (hs : starEach [a] X.env = (false, eval a X.env) :: starEach [] X.env := by rfl) :
    JP X (.Call (.Name "tuple" p) [a] [] pos) δ os (.tup xs) := fun G H σ O E Q q =>
  wE_of (pe_callTy call_tuple_of (C.gl hg) hm (by decide +kernel) pa_w (he := hs)) (ja_cons ha ja_nil hs G H σ O E _ fun vs G' H' g s => by
    obtain ⟨v, rfl, s1⟩ := seen1 s
    obtain ⟨p, us, rfl, h2, h3⟩ := hl.see (O.grow g) s1
    refine ⟨p, us, rfl, .inl ⟨SqL.of h2, fun l hl => ?_⟩⟩
    have gl := Grow.laid (o := .tup us) g.gh hl
    refine q _ _ _ (g.trans gl) ?_
    unfold Sees
    exact ⟨l, us, rfl, SqT.of upd_same, h3.mono gl.gg xs⟩)
theorem jp_tupleT (C : Ctx X N sc full vi st) {xs : List Dt} {p : Pos} (hm : X.mg "tuple" = none) (ha : JP X a δ os (.tup xs)) (hg : sc.names.lookup ("tuple" : Str) = some .globalImplicit := by rfl) (hs : starEach [a] X.env = (false, eval a X.env) :: starEach [] X.env := by rfl) :
    JP X (.Call (.Name "tuple" p) [a] [] pos) δ os (.tup xs) := fun G H σ O E Q q =>
  wE_of (pe_callTy call_tupleT (C.gl hg) hm (by decide +kernel) pa_w (he := hs)) (ja_cons ha ja_nil hs G H σ O E _ fun vs G' H' g s => by
    obtain ⟨v, rfl, s1⟩ := seen1 s
    obtain ⟨p, us, rfl, h2, h3⟩ := tup_see (O.grow g) s1
    exact ⟨p, us, rfl, h2, q _ G' H' g s1⟩)
end
end DL

set_option maxHeartbeats 4000000
/-! D3: statements, targets, loops, what is walked, comprehensions, slices, fields. -/
namespace DL
open PySem PySem.Spec PyProof.Rows L2 Evl

theorem wB_mono {X : Cx} {st : List Stmt} {D D' : Ends} {σ : L2.St} {H : Hp} (h : wB X st D σ H) (n : ∀ σ H, D.nx σ H → D'.nx σ H) (r : ∀ v H, D.rt v H → D'.rt v H)
    (b : ∀ σ H, D.bk σ H → D'.bk σ H) (c : ∀ σ H, D.ct σ H → D'.ct σ H) : wB X st D' σ H := fun pins s I => by
  refine thn (h pins s I) fun f s' q => ?_
  cases f with
  | next => obtain ⟨σ', H', I', q⟩ := q; exact ⟨σ', H', I', n _ _ q⟩
  | brk => obtain ⟨σ', H', I', q⟩ := q; exact ⟨σ', H', I', b _ _ q⟩
  | cont => obtain ⟨σ', H', I', q⟩ := q; exact ⟨σ', H', I', c _ _ q⟩
  | ret v => obtain ⟨x, σ', H', I', rv, q⟩ := q; exact ⟨x, σ', H', I', rv, r _ _ q⟩

theorem obs_lst {K : PySem.W.Frag} {G : Hp} {xs : List Dt} {vs : List V} (s : Seen K G xs vs) : ObS K G (.lst xs) (.lst vs) := ⟨vs, rfl, s⟩
theorem obs_dT {K : PySem.W.Frag} {G : Hp} {xs : List (List Key × Dt)} {vs : List (List Key × V)} (s : SeenK K G xs vs) : ObS K G (.dT xs) (.dT vs) := ⟨vs, rfl, s⟩
section
variable {X : Cx} {N : List Str} {sc : Scope} {full : Bool} {vi st : List Bool} {δ : Sl} {os : Os} {D : DE}
variable {e a b : Expr} {d : Dt} {pos py : Pos} {body : List Stmt} {s1 : Stmt} {rest : List Stmt}

/-- an owned object among others -/
theorem putO_hd {p : Addr} {o o' : Ob} {os : Os} : putO p o' ((p, o) :: os) = (p, o') :: os := by
  show (if p = p then _ else _) = _
  rw [if_pos rfl]
theorem putO_tl {p q : Addr} {o o' : Ob} {os : Os} (h : q ≠ p) : putO p o' ((q, o) :: os) = (q, o) :: putO p o' os := by
  show (if q = p then _ else _) = _
  rw [if_neg h]
theorem putO_2 {p q : Addr} {o o1 o' : Ob} {os : Os} (h : q ≠ p) : putO p o' ((q, o1) :: (p, o) :: os) = (q, o1) :: (p, o') :: os := by
  rw [putO_tl h, putO_hd]
theorem putO_3 {p q r : Addr} {o o1 o2 o' : Ob} {os : Os} (h : q ≠ p) (h2 : r ≠ p) : putO p o' ((q, o1) :: (r, o2) :: (p, o) :: os) = (q, o1) :: (r, o2) :: (p, o') :: os := by
  rw [putO_tl h, putO_2 h2]
/-! ### blocks -/
theorem jb_nil (q : D.nx δ os) : JB X [] δ os D := fun B H0 G H σ A E => wB_of pss_nil (show (D.up X.K B H0).nx σ H from ⟨δ, os, G, A, E, q⟩)
theorem jb_cons (h : JS X s1 δ os { D with nx := fun δ' os' => JB X rest δ' os' D }) : JB X (s1 :: rest) δ os D := fun B H0 G H σ A E =>
  wB_of (pss_cons ps_w pss_w) (fun pins s I => by
    refine thn (h B H0 G H σ A E pins s I) fun f s' q => ?_
    cases f with
    | next => obtain ⟨σ', H', I', δ', os', G', A', E', q⟩ := q; exact ⟨σ', H', I', q B H0 G' H' σ' A' E'⟩
    | brk => exact q
    | cont => exact q
    | ret v => exact q)
/-- the same state, seen otherwise -/
theorem jb_view {δ' : Sl} {os' : Os} (v : ∀ B H0 G H σ, At X.K B H0 os G H → EnvS X.K G δ σ → ∃ G', At X.K B H0 os' G' H ∧ EnvS X.K G' δ' σ) (h : JB X body δ' os' D) : JB X body δ os D := fun B H0 G H σ A E => by
  obtain ⟨G', A', E'⟩ := v B H0 G H σ A E
  exact h B H0 G' H σ A' E'
theorem js_never {h : False} : JS X s1 δ os D := h.elim
theorem js_pass (q : D.nx δ os) : JS X (.Pass pos) δ os D := fun B H0 G H σ A E => wS_of ps_pass (show (D.up X.K B H0).nx σ H from ⟨δ, os, G, A, E, q⟩)
theorem js_break (q : D.bk δ os) : JS X (.Break pos) δ os D := fun B H0 G H σ A E => wS_of ps_break (show (D.up X.K B H0).bk σ H from ⟨δ, os, G, A, E, q⟩)
theorem js_continue (q : D.ct δ os) : JS X (.Continue pos) δ os D := fun B H0 G H σ A E => wS_of ps_continue (show (D.up X.K B H0).ct σ H from ⟨δ, os, G, A, E, q⟩)
theorem js_doc {x j pos'} (q : D.nx δ os) : JS X (.Expr (.Constant (.str x) j pos) pos') δ os D := fun B H0 G H σ A E => wS_of ps_doc (show (D.up X.K B H0).nx σ H from ⟨δ, os, G, A, E, q⟩)
theorem js_if {c : Expr} {th el : List Stmt} {k : Bool} (h : JT X c δ os k) (h1 : k = true → JB X th δ os D) (h2 : k = false → JB X el δ os D) : JS X (.If c th el pos) δ os D := fun B H0 G H σ A E =>
  wS_of (ps_if pt_w pss_w pss_w) (h G H σ A.ow E _ fun G' H' g => by
    cases k with
    | true => exact h1 rfl B H0 G' H' σ (A.grow g) (E.mono g.gg)
    | false => exact h2 rfl B H0 G' H' σ (A.grow g) (E.mono g.gg))
theorem js_ret (h : JP X e δ os d) (q : D.rt d os) : JS X (.Return (some e) pos) δ os D := fun B H0 G H σ A E =>
  wS_of (ps_ret pe_w) (h G H σ A.ow E _ fun v G' H' g s => ⟨d, os, G', A.grow g, s, q⟩)
theorem js_retN (q : D.rt .non os) : JS X (.Return none pos) δ os D := fun B H0 G H σ A E => wS_of ps_retN (show (D.up X.K B H0).rt .non H from ⟨.non, os, G, A, by unfold Sees; rfl, q⟩)
theorem js_drop (h : JP X e δ os d) (q : D.nx δ os) (hs : swapsWith e none pos.line X.env = pure false := by rfl) : JS X (.Expr e pos) δ os D := fun B H0 G H σ A E =>
  wS_of (ps_expr pe_w hs) (h G H σ A.ow E _ fun v G' H' g s => ⟨δ, os, G', A.grow g, E.mono g.gg, q⟩)
/-- a list of one's own is handed back -/
theorem js_retO {p : Addr} {xs : List Dt} (h : JP X e δ os (.at p)) (hm : (p, Ob.lst xs) ∈ os) (q : D.rt (.lst xs) []) : JS X (.Return (some e) pos) δ os D := fun B H0 G H σ A E =>
  wS_of (ps_ret pe_w) (h G H σ A.ow E _ fun v G' H' g s => by
    have A1 : At X.K B H0 [(p, Ob.lst xs)] G' H' := (A.grow g).sub (fun q hq => by rw [List.mem_singleton.mp hq]; exact hm) (by simp)
    obtain ⟨gp, ho, h1, vs, rfl, h3⟩ := A1.ow.own _ List.mem_cons_self
    obtain ⟨A2, ex⟩ := A1.give h1
    refine ⟨.lst xs, [], _, A2, ?_, q⟩
    unfold Sees
    exact ⟨p, vs, s, upd_same, h3.mono ex xs⟩)
theorem js_retD {p : Addr} {kvs : List (List Key × Dt)} (h : JP X e δ os (.at p)) (hm : (p, Ob.dT kvs) ∈ os) (q : D.rt (.dT kvs) []) : JS X (.Return (some e) pos) δ os D := fun B H0 G H σ A E =>
  wS_of (ps_ret pe_w) (h G H σ A.ow E _ fun v G' H' g s => by
    have A1 : At X.K B H0 [(p, Ob.dT kvs)] G' H' := (A.grow g).sub (fun q hq => by rw [List.mem_singleton.mp hq]; exact hm) (by simp)
    obtain ⟨gp, ho, h1, vs, rfl, h3⟩ := A1.ow.own _ List.mem_cons_self
    obtain ⟨A2, ex⟩ := A1.give h1
    refine ⟨.dT kvs, [], _, A2, ?_, q⟩
    unfold Sees
    exact ⟨p, vs, s, upd_same, h3.mono ex kvs⟩)

/-! ### names stored -/
theorem js_set (C : Ctx X N sc full vi st) (i : Nat) {x : Str} (h : JP X e δ os d) (q : D.nx (δ.set i (some d)) os) (hN : N[i]? = some x := by rfl) (hv : st[i]? = some true := by rfl) (hs : swapsWith e (some (.Name x py)) pos.line X.env = pure false := by rfl) :
    JS X (.Assign [.Name x py] e pos) δ os D := fun B H0 G H σ A E =>
  wS_of (ps_set C.ndX (C.nth hN) (C.loc hN hv) pe_w hs (C.stf hN hv)) (h G H σ A.ow E _ fun v G' H' g s => ⟨_, os, G', A.grow g, (E.mono g.gg).set s, q⟩)
/-- a new list becomes one's own -/
theorem js_own (C : Ctx X N sc full vi st) (i : Nat) {x : Str} {xs : List Dt} (h : JN X e δ os xs) (q : ∀ p, (∀ q ∈ os, q.1 ≠ p) → D.nx (δ.set i (some (.at p))) ((p, .lst xs) :: os)) (hN : N[i]? = some x := by rfl) (hv : st[i]? = some true := by rfl)
    (hs : swapsWith e (some (.Name x py)) pos.line X.env = pure false := by rfl) : JS X (.Assign [.Name x py] e pos) δ os D := fun B H0 G H σ A E =>
  wS_of (ps_set C.ndX (C.nth hN) (C.loc hN hv) pe_w hs (C.stf hN hv)) (h G H σ A.ow E _ fun p vs G' H' g hp gp h' s =>
    ⟨_, _, G', A.take g hp gp h' (obs_lst s), (E.mono g.gg).set (by unfold Sees; rfl), q p (A.fresh hp)⟩)
/-- {} -/
theorem js_ownD (C : Ctx X N sc full vi st) (i : Nat) {x : Str} {pd : Pos} (q : ∀ p, (∀ q ∈ os, q.1 ≠ p) → D.nx (δ.set i (some (.at p))) ((p, .dT []) :: os)) (hN : N[i]? = some x := by rfl) (hv : st[i]? = some true := by rfl)
    (hs : swapsWith (.Dict [] [] pd) (some (.Name x py)) pos.line X.env = pure false := by rfl) : JS X (.Assign [.Name x py] (.Dict [] [] pd) pos) δ os D := fun B H0 G H σ A E =>
  wS_of (ps_set C.ndX (C.nth hN) (C.loc hN hv) pe_dnewT hs (C.stf hN hv)) (fun p hp =>
    ⟨_, _, G, A.take (Grow.hid A.ow.gh hp) hp (fresh_back A.ow.gh hp) upd_same (obs_dT (by unfold SeenK; rfl)), E.set (by unfold Sees; rfl), q p (A.fresh hp)⟩)
theorem js_aug (C : Ctx X N sc full vi st) (i : Nat) {x : Str} {k m : Int} (hd : δ[i]? = some (some (.int k))) (h : JP X e δ os (.int m)) (q : D.nx (δ.set i (some (.int (k + m)))) os) (hN : N[i]? = some x := by rfl) (hv : st[i]? = some true := by rfl) :
    JS X (.AugAssign (.Name x py) .Add e pos) δ os D := fun B H0 G H σ A E => by
  obtain ⟨v, e1, s1⟩ := E.get i _ hd
  refine wS_of (ps_aug C.ndX (C.nth hN) (C.loc hN hv) pe_w ip_add (C.stf hN hv)) ⟨v, e1, h G H σ A.ow E _ fun u G' H' g s => ⟨k, m, s1, s, _, os, G', A.grow g, (E.mono g.gg).set (by unfold Sees; rfl), q⟩⟩
theorem js_augS (C : Ctx X N sc full vi st) (i : Nat) {x : Str} {k m : Int} (hd : δ[i]? = some (some (.int k))) (h : JP X e δ os (.int m)) (q : D.nx (δ.set i (some (.int (k - m)))) os) (hN : N[i]? = some x := by rfl) (hv : st[i]? = some true := by rfl) :
    JS X (.AugAssign (.Name x py) .Sub e pos) δ os D := fun B H0 G H σ A E => by
  obtain ⟨v, e1, s1⟩ := E.get i _ hd
  refine wS_of (ps_aug C.ndX (C.nth hN) (C.loc hN hv) pe_w ip_sub (C.stf hN hv)) ⟨v, e1, h G H σ A.ow E _ fun u G' H' g s => ⟨k, m, s1, s, _, os, G', A.grow g, (E.mono g.gg).set (by unfold Sees; rfl), q⟩⟩
/-- a list of one's own += a list -/
theorem js_augL {os' : Os} (C : Ctx X N sc full vi st) (i : Nat) {x : Str} {p : Addr} {xs ys : List Dt} (hd : δ[i]? = some (some (.at p))) (hm : (p, Ob.lst xs) ∈ os) (h : JP X e δ os d) (hl : Lk os d ys) (hz : xs.length + ys.length ≤ 100000)
    (q : D.nx δ os') (hN : N[i]? = some x := by rfl) (hv : st[i]? = some true := by rfl) (he : putO p (.lst (xs ++ ys)) os = os' := by first | exact putO_hd | exact putO_2 (by assumption)) : JS X (.AugAssign (.Name x py) .Add e pos) δ os D := fun B H0 G H σ A E => by
  obtain ⟨v, e1, s1⟩ := E.get i _ hd
  have s1 : v = .ref p := s1
  subst s1
  refine wS_of (ps_aug (ti := rExt2) C.ndX (C.nth hN) (C.loc hN hv) pe_w iop_ext (C.stf hN hv)) ⟨.ref p, e1, h G H σ A.ow E _ fun u G' H' g s => ?_⟩
  have A' := A.grow g
  obtain ⟨gp, ho, h1, vs, rfl, h3⟩ := A'.ow.own _ hm
  obtain ⟨b, us, rfl, h4, h5⟩ := hl.see A'.ow s
  refine ⟨p, b, vs, us, rfl, rfl, h1, h4, by rw [← h3.len, ← h5.len]; exact sz_of hz, δ, _, G', (he ▸ A'.put hm (obs_lst (h3.append h5))), ?_, q⟩
  have E' := E.mono g.gg
  have : EnvS X.K G' (δ.set i (some (.at p))) (σ.set i (some (.ref p))) := E'.set (by unfold Sees; rfl)
  refine ⟨by have := this.len; simpa using this, fun j dd hj => ?_⟩
  by_cases hji : i = j
  · subst hji
    rw [hd] at hj
    cases hj
    have hi : i < σ.length := (List.getElem?_eq_some_iff.mp e1).1
    exact ⟨.ref p, by rw [List.getElem?_set]; simp [hi], by unfold Sees; rfl⟩
  · rw [List.getElem?_set_ne hji]
    exact E'.get j dd hj

/-! ### objects of one's own, changed -/
theorem js_append {os' : Os} {o : Expr} {p : Addr} {xs : List Dt} {apos cpos : Pos} (ho : JP X o δ os (.at p)) (hm : (p, Ob.lst xs) ∈ os) (h : JP X e δ os d) (hz : xs.length < 100000) (q : D.nx δ os')
    (hbase : attributeBase o ("append" : Str) X.env (eval o X.env) = eval o X.env := by rfl) (hline : (apos.endLine == cpos.line) = true := by rfl) (hs : starEach [e] X.env = (false, eval e X.env) :: starEach [] X.env := by rfl)
    (hfew : ((backTo cpos (starEach [e] X.env)).all (fun x => !x.1) && (backToKw cpos (keywordEach [] X.env)).all (fun x => x.1.isSome) && decide ([e].length + ([] : List Keyword).length + (if ([] : List Keyword).isEmpty then 0 else 1) < 30)) = true := by rfl)
    (hsw : swapsWith (.Call (.Attribute o ("append" : Str) apos) [e] [] cpos) none pos.line X.env = pure false := by rfl) (he : putO p (.lst (xs ++ [d])) os = os' := by first | exact putO_hd | exact putO_2 (by assumption)) :
    JS X (.Expr (.Call (.Attribute o ("append" : Str) apos) [e] [] cpos) pos) δ os D := fun B H0 G H σ A E =>
  wS_of (ps_expr (pe_bm PySem.F.plainAttrs_list PySem.F.slot_list_append PySem.F.type_list_append mt_append pe_w (pa_cons pe_w pa_nil hs) hbase hfew hline hs) hsw) (ho G H σ A.ow E _ fun v G1 H1 g1 s1 => by
    have s1 : v = .ref p := s1
    subst s1
    obtain ⟨gp, hob, h1, vs, rfl, h3⟩ := (A.ow.grow g1).own _ hm
    refine ⟨.inl ⟨rfl, vs, SqL.of h1⟩, h G1 H1 σ (A.ow.grow g1) (E.mono g1.gg) _ fun u G2 H2 g2 s2 => ?_⟩
    have A2 := A.grow (g1.trans g2)
    have h3' := h3.mono g2.gg xs
    exact ⟨p, vs, u, rfl, rfl, g2.hh _ _ h1, by rw [← h3.len]; exact sz_lt hz, δ, _, G2, (he ▸ A2.put hm (obs_lst (h3'.append (.cons s2 .nil)))), (E.mono g1.gg).mono g2.gg, q⟩)
theorem js_extend {os' : Os} {o : Expr} {p : Addr} {xs ys : List Dt} {apos cpos : Pos} (ho : JP X o δ os (.at p)) (hm : (p, Ob.lst xs) ∈ os) (h : JP X e δ os d) (hl : Lk os d ys) (hz : xs.length + ys.length ≤ 100000) (q : D.nx δ os')
    (hbase : attributeBase o ("extend" : Str) X.env (eval o X.env) = eval o X.env := by rfl) (hline : (apos.endLine == cpos.line) = true := by rfl) (hs : starEach [e] X.env = (false, eval e X.env) :: starEach [] X.env := by rfl)
    (hfew : ((backTo cpos (starEach [e] X.env)).all (fun x => !x.1) && (backToKw cpos (keywordEach [] X.env)).all (fun x => x.1.isSome) && decide ([e].length + ([] : List Keyword).length + (if ([] : List Keyword).isEmpty then 0 else 1) < 30)) = true := by rfl)
    (hsw : swapsWith (.Call (.Attribute o ("extend" : Str) apos) [e] [] cpos) none pos.line X.env = pure false := by rfl) (he : putO p (.lst (xs ++ ys)) os = os' := by first | exact putO_hd | exact putO_2 (by assumption)) :
    JS X (.Expr (.Call (.Attribute o ("extend" : Str) apos) [e] [] cpos) pos) δ os D := fun B H0 G H σ A E =>
  wS_of (ps_expr (pe_bm PySem.F.plainAttrs_list PySem.F.slot_list_extend PySem.F.type_list_extend mt_extend pe_w (pa_cons pe_w pa_nil hs) hbase hfew hline hs) hsw) (ho G H σ A.ow E _ fun v G1 H1 g1 s1 => by
    have s1 : v = .ref p := s1
    subst s1
    obtain ⟨gp, hob, h1, vs, rfl, h3⟩ := (A.ow.grow g1).own _ hm
    refine ⟨.inl ⟨rfl, vs, SqL.of h1⟩, h G1 H1 σ (A.ow.grow g1) (E.mono g1.gg) _ fun u G2 H2 g2 s2 => ?_⟩
    have A2 := A.grow (g1.trans g2)
    have h3' := h3.mono g2.gg xs
    obtain ⟨b, us, rfl, h4, h5⟩ := hl.see A2.ow s2
    exact ⟨p, b, vs, us, rfl, rfl, g2.hh _ _ h1, h4, by rw [← h3.len, ← h5.len]; exact sz_of hz, δ, _, G2, (he ▸ A2.put hm (obs_lst (h3'.append h5))), (E.mono g1.gg).mono g2.gg, q⟩)
/-- x = o.pop() -/
theorem js_pop {os' : Os} (C : Ctx X N sc full vi st) (i : Nat) {x : Str} {o : Expr} {p : Addr} {xs : List Dt} {apos cpos : Pos} (ho : JP X o δ os (.at p)) (hm : (p, Ob.lst (xs ++ [d])) ∈ os) (q : D.nx (δ.set i (some d)) os')
    (hN : N[i]? = some x := by rfl) (hv : st[i]? = some true := by rfl) (hbase : attributeBase o ("pop" : Str) X.env (eval o X.env) = eval o X.env := by rfl) (hline : (apos.endLine == cpos.line) = true := by rfl)
    (hsw : swapsWith (.Call (.Attribute o ("pop" : Str) apos) [] [] cpos) (some (.Name x py)) pos.line X.env = pure false := by rfl) (he : putO p (.lst xs) os = os' := by first | exact putO_hd | exact putO_2 (by assumption)) :
    JS X (.Assign [.Name x py] (.Call (.Attribute o ("pop" : Str) apos) [] [] cpos) pos) δ os D := fun B H0 G H σ A E =>
  wS_of (ps_set C.ndX (C.nth hN) (C.loc hN hv) (pe_bm0 PySem.F.plainAttrs_list PySem.F.slot_list_pop PySem.F.type_list_pop mt_pop pe_w hbase hline) hsw (C.stf hN hv)) (ho G H σ A.ow E _ fun v G1 H1 g1 s1 => by
    have s1 : v = .ref p := s1
    subst s1
    have A1 := A.grow g1
    obtain ⟨gp, hob, h1, vs, rfl, h3⟩ := A1.ow.own _ hm
    obtain ⟨us, w, rfl, h4, h5⟩ := h3.getLast
    refine ⟨.inl ⟨rfl, _, SqL.of h1⟩, p, _, w, rfl, rfl, h1, by simp, ?_⟩
    have e : (us ++ [w]).dropLast = us := by simp
    rw [e]
    exact ⟨_, _, G1, (he ▸ A1.put hm (obs_lst h4)), (E.mono g1.gg).set h5, q⟩)
/-- o[i] = e, o a list of one's own -/
theorem js_seti {os' : Os} {o ix : Expr} {p : Addr} {xs : List Dt} {j : Nat} {p1 : Pos} (h : JP X e δ os d) (ho : JP X o δ os (.at p)) (hi : JP X ix δ os (.int (j : Int))) (hm : (p, Ob.lst xs) ∈ os) (hj : j < xs.length) (q : D.nx δ os')
    (hs : swapsWithSole [.Subscript o ix p1] e pos.line X.env = pure false := by rfl) (hw : swappedStores [.Subscript o ix p1] e X.env = pure none := by rfl)
    (h1 : (assignEach [.Subscript o ix p1] X.env).map (·.2) = [assign (.Subscript o ix p1) X.env] := by rfl)
    (ha : ∀ v, assign (.Subscript o ix p1) X.env v = (do
      let ov ← holding [v] (eval o X.env)
      let iv ← holding [v, ov] (eval ix X.env)
      standAt p1
      holding [v, ov, iv] (setItem ov iv v)
      release [v, ov, iv] []) := by intro _; rfl) (he : putO p (.lst (xs.set j d)) os = os' := by first | exact putO_hd | exact putO_2 (by assumption)) :
    JS X (.Assign [.Subscript o ix p1] e pos) δ os D := fun B H0 G H σ A E =>
  wS_of (ps_asg pe_w (pg_sub pe_w pe_w set_list ha) hs hw h1) (h G H σ A.ow E _ fun v G1 H1 g1 s1 => ho G1 H1 σ (A.ow.grow g1) (E.mono g1.gg) _ fun w G2 H2 g2 s2 => hi G2 H2 σ ((A.ow.grow g1).grow g2) ((E.mono g1.gg).mono g2.gg) _ fun u G3 H3 g3 s3 => by
    have s2 : w = .ref p := s2
    have s3 : u = .int (j : Int) := s3
    subst s2 s3
    have A3 := ((A.grow g1).grow g2).grow g3
    obtain ⟨gp, hob, k1, vs, rfl, k3⟩ := A3.ow.own _ hm
    refine ⟨p, vs, (j : Int), j, rfl, rfl, k1, ?_, δ, _, G3, (he ▸ A3.put hm (obs_lst (k3.set ((s1.mono g2.gg d).mono g3.gg d)))), ((E.mono g1.gg).mono g2.gg).mono g3.gg, q⟩
    exact ixN_nat (by rw [← k3.len]; exact hj))

theorem js_setI {os' : Os} {o ix : Expr} {p : Addr} {xs : List Dt} {i : Int} {p1 : Pos} (h : JP X e δ os d) (ho : JP X o δ os (.at p)) (hi : JP X ix δ os (.int i)) (hm : (p, Ob.lst xs) ∈ os) (h0 : 0 ≤ i) (hj : i < xs.length) (q : D.nx δ os')
    (hs : swapsWithSole [.Subscript o ix p1] e pos.line X.env = pure false := by rfl) (hw : swappedStores [.Subscript o ix p1] e X.env = pure none := by rfl)
    (h1 : (assignEach [.Subscript o ix p1] X.env).map (·.2) = [assign (.Subscript o ix p1) X.env] := by rfl)
    (ha : ∀ v, assign (.Subscript o ix p1) X.env v = (do
      let ov ← holding [v] (eval o X.env)
      let iv ← holding [v, ov] (eval ix X.env)
      standAt p1
      holding [v, ov, iv] (setItem ov iv v)
      release [v, ov, iv] []) := by intro _; rfl) (he : putO p (.lst (xs.set i.toNat d)) os = os' := by first | exact putO_hd | exact putO_2 (by assumption)) :
    JS X (.Assign [.Subscript o ix p1] e pos) δ os D := by
  have e0 : i = ((i.toNat : Nat) : Int) := by omega
  rw [e0] at hi
  exact js_seti h ho hi hm (by omega) q hs hw h1 ha he

/-! ### targets -/
def wG (X : Cx) (tg : Expr) : TG := fun v σ H Q => ∀ (pins : List (Addr × Obj)) (s : Shared) (u : Value), Inv X pins σ H s → RelV v u → wpAny (model X.prog X.w) X.A (assign tg X.env u) (fun _ s' => ∃ σ' H', Inv X pins σ' H' s' ∧ Q σ' H') X.xe s
theorem pg_w {tg : Expr} : PG X tg (wG X tg) := ⟨fun pins s σ H v u Q I r h => h pins s u I r⟩
theorem wG_of {tg : Expr} {t : TG} {v : V} {σ : L2.St} {H : Hp} {Q : L2.St → Hp → Prop} (h : PG X tg t) (q : t v σ H Q) : wG X tg v σ H Q := fun pins s u I r => h.run pins s σ H v u Q I r q
def wGs (X : Cx) (ts : List Expr) : TGs := fun vs σ H Q => ∀ (pins : List (Addr × Obj)) (s : Shared) (us : List Value), Inv X pins σ H s → Vals vs us → wpAny (model X.prog X.w) X.A (assignInOrder ((assignEach ts X.env).map (·.2)) us) (fun _ s' => ∃ σ' H', Inv X pins σ' H' s' ∧ Q σ' H') X.xe s
theorem pgs_w {ts : List Expr} : PGs X ts (wGs X ts) := ⟨fun pins s σ H vs us Q I r h => h pins s us I r⟩
theorem wGs_of {ts : List Expr} {t : TGs} {vs : List V} {σ : L2.St} {H : Hp} {Q : L2.St → Hp → Prop} (h : PGs X ts t) (q : t vs σ H Q) : wGs X ts vs σ H Q := fun pins s us I r => h.run pins s σ H vs us Q I r q
/-- unlike at the slots ws alone -/
structure But (ws : List Nat) (σ σ' : L2.St) : Prop where
  len : σ'.length = σ.length
  at_ : ∀ j, j ∉ ws → σ'[j]? = σ[j]?
theorem But.refl {ws : List Nat} {σ : L2.St} : But ws σ σ := ⟨rfl, fun _ _ => rfl⟩
theorem But.trans {ws : List Nat} {σ σ' σ2 : L2.St} (a : But ws σ σ') (b : But ws σ' σ2) : But ws σ σ2 := ⟨b.len.trans a.len, fun j h => (b.at_ j h).trans (a.at_ j h)⟩
theorem But.set {ws : List Nat} {σ : L2.St} {i : Nat} {v : Option V} (h : i ∈ ws) : But ws σ (σ.set i v) := ⟨by simp, fun j hj => by rw [List.getElem?_set_ne (fun e => hj (by rw [← e]; exact h))]⟩
theorem wipe_at {σ : L2.St} : ∀ {ws : List Nat} {j : Nat}, (L2.wipe σ ws)[j]? = if j ∈ ws ∧ j < σ.length then some none else σ[j]?
  | [], j => by show σ[j]? = _; simp
  | w :: ws, j => by
    show ((L2.wipe σ ws).set w none)[j]? = _
    rw [List.getElem?_set]
    by_cases e : w = j
    · subst e
      simp only [if_true, List.mem_cons_self, true_and, L2.wipe_length]
      split
      · rfl
      · rename_i h; rw [List.getElem?_eq_none (by omega)]
    · rw [if_neg e, wipe_at]
      have : (j ∈ w :: ws) ↔ j ∈ ws := by
        rw [List.mem_cons]
        exact ⟨fun h => h.resolve_left (fun z => e z.symm), .inr⟩
      simp only [this]
theorem But.wipe {ws : List Nat} {σ σ' : L2.St} (h : But ws σ σ') : L2.wipe σ' ws = L2.wipe σ ws := by
  apply List.ext_getElem?
  intro j
  rw [wipe_at, wipe_at, h.len]
  by_cases e : j ∈ ws
  · by_cases l : j < σ.length
    · simp [e, l]
    · simp only [l, and_false, if_false]
      rw [List.getElem?_eq_none (by rw [h.len]; omega), List.getElem?_eq_none (by omega)]
  · simp [e, h.at_ j e]
theorem wipe_wipe {σ : L2.St} (ws : List Nat) : L2.wipe (L2.wipe σ ws) ws = L2.wipe σ ws := by
  apply List.ext_getElem?
  intro j
  rw [wipe_at, wipe_at, L2.wipe_length]
  split <;> rfl
def JG (X : Cx) (tg : Expr) (ws : List Nat) (d : Dt) (δ δ' : Sl) : Prop := ∀ (os : Os) (G H : Hp) (σ : L2.St) (v : V), Own X.K os G H → EnvS X.K G δ σ → Sees X.K G d v → ∀ Q : L2.St → Hp → Prop, (∀ σ', EnvS X.K G δ' σ' → But ws σ σ' → Q σ' H) → wG X tg v σ H Q
def JGs (X : Cx) (ts : List Expr) (ws : List Nat) (ds : List Dt) (δ δ' : Sl) : Prop := ∀ (os : Os) (G H : Hp) (σ : L2.St) (vs : List V), Own X.K os G H → EnvS X.K G δ σ → Seen X.K G ds vs → ∀ Q : L2.St → Hp → Prop, (∀ σ', EnvS X.K G δ' σ' → But ws σ σ' → Q σ' H) → wGs X ts vs σ H Q
theorem jg_name (C : Ctx X N sc full vi st) (i : Nat) {x : Str} {ws : List Nat} (hw : i ∈ ws := by decide) (hN : N[i]? = some x := by rfl) (hv : st[i]? = some true := by rfl) : JG X (.Name x pos) ws d δ (δ.set i (some d)) := fun os G H σ v O E s Q q =>
  wG_of (pg_name C.ndX (C.nth hN) (C.loc hN hv) (C.stf hN hv)) (q _ (E.set s) (.set hw))
theorem jgs_nil {ws : List Nat} : JGs X [] ws [] δ δ := fun os G H σ vs O E s Q q => wGs_of pgs_nil ⟨s.nil_inv, q σ E .refl⟩
theorem jgs_cons {t : Expr} {ts : List Expr} {ws : List Nat} {ds : List Dt} {δ1 δ2 : Sl} (h : JG X t ws d δ δ1) (k : JGs X ts ws ds δ1 δ2) (hs : (assignEach (t :: ts) X.env).map (·.2) = assign t X.env :: (assignEach ts X.env).map (·.2) := by rfl) : JGs X (t :: ts) ws (d :: ds) δ δ2 := fun os G H σ vs O E s Q q => by
  obtain ⟨v, r, rfl, s1, s2⟩ := s.cons_inv
  exact wGs_of (pgs_cons pg_w pgs_w hs) ⟨v, r, rfl, h os G H σ v O E s1 _ fun σ1 E1 b1 => k os G H σ1 r O E1 s2 Q fun σ2 E2 b2 => q σ2 E2 (b1.trans b2)⟩
theorem jg_tup (C : Ctx X N sc full vi st) {ts : List Expr} {ws : List Nat} {ds : List Dt} {k : Nat} {δ' : Sl} (h : JGs X ts ws ds δ δ') (hn : (assignEach ts X.env).length = ds.length := by rfl) (hst : (assignEach ts X.env).findIdx? (·.1) = none := by rfl) :
    JG X (.Tuple ts k pos) ws (.tup ds) δ δ' := fun os G H σ v O E s Q q => by
  obtain ⟨a, vs, rfl, h2, h3⟩ := tup_see O s
  exact wG_of (pg_tup C.calm pgs_w hn hst) ⟨a, vs, rfl, h2, h3.len.symm, h os G H σ vs O E h3 Q q⟩
theorem js_asg {tg : Expr} {ws : List Nat} {δ' : Sl} (h : JP X e δ os d) (hg : JG X tg ws d δ δ') (q : D.nx δ' os) (hs : swapsWithSole [tg] e pos.line X.env = pure false := by rfl) (hw : swappedStores [tg] e X.env = pure none := by rfl)
    (h1 : (assignEach [tg] X.env).map (·.2) = [assign tg X.env] := by rfl) : JS X (.Assign [tg] e pos) δ os D := fun B H0 G H σ A E =>
  wS_of (ps_asg pe_w pg_w hs hw h1) (h G H σ A.ow E _ fun v G' H' g s => hg os G' H' σ v (A.ow.grow g) (E.mono g.gg) s _ fun σ' E' _ => ⟨δ', os, G', A.grow g, E', q⟩)

/-! ### what is walked -/
/-- J yields these, as long as what is seen stays -/
def ItOk (K : PySem.W.Frag) (G : Hp) (J : It) (xs : List Dt) : Prop := ∃ vs, Seen K G xs vs ∧ (∀ H2, Ex G H2 → ∀ i, i < vs.length → J.go i H2) ∧ (∀ H2, Ex G H2 → J.stop vs.length H2) ∧
  ∀ H2 i x H3, Ex G H2 → i < vs.length → J.yld i H2 x H3 → H3 = H2 ∧ vs[i]? = some x
def wI (X : Cx) (tg it : Expr) : TI := fun σ H R => ∀ (pins : List (Addr × Obj)) (s : Shared), Inv X pins σ H s → wpAny (model X.prog X.w) X.A (eval it X.env) (fun v s1 => wpAny (model X.prog X.w) X.A (pyIter v) (PIE X pins σ tg R) X.xe s1) X.xe s
theorem pi_w {tg it : Expr} : PI X tg it (wI X tg it) := ⟨fun pins s σ H R I h => h pins s I⟩
theorem wI_of {tg it : Expr} {wi : TI} {σ : L2.St} {H : Hp} {R : It → Hp → Prop} (h : PI X tg it wi) (q : wi σ H R) : wI X tg it σ H R := fun pins s I => h.run pins s σ H R I q
def JI (X : Cx) (tg it : Expr) (δ : Sl) (os : Os) (xs : List Dt) : Prop := ∀ (G H : Hp) (σ : L2.St), Own X.K os G H → EnvS X.K G δ σ → ∀ R : It → Hp → Prop, (∀ J G' H', Grow G H G' H' → ItOk X.K G' J xs → R J H') → wI X tg it σ H R
variable {tg it : Expr}
theorem SqL.inj {K : PySem.W.Frag} {G H : Hp} {a : Addr} {vs us : List V} (h : H a = some (.lst vs)) (e : Ex G H) (g : ∀ us, SqL K H a us → us = vs) (k : SqL K H a us) : us = vs := g us k
theorem ji_list {xs : List Dt} (h : JP X it δ os (.lst xs)) : JI X tg it δ os xs := fun G H σ O E R q =>
  wI_of (pi_list pe_w) (h G H σ O E _ fun v G' H' g s => by
    unfold Sees at s
    obtain ⟨a, vs, rfl, h2, h3⟩ := s
    refine ⟨a, rfl, ⟨vs, SqL.of (g.gh _ _ h2)⟩, q _ G' H' g ⟨vs, h3, fun H2 e i hi => ⟨vs, vs[i], SqL.of (e _ _ h2), by simp [hi]⟩, fun H2 e => ⟨vs, SqL.of (e _ _ h2), Nat.le_refl _⟩, fun H2 i x H3 e hi y => ⟨y.1, y.2 vs (SqL.of (e _ _ h2))⟩⟩⟩)
theorem ji_tup {xs : List Dt} (h : JP X it δ os (.tup xs)) : JI X tg it δ os xs := fun G H σ O E R q =>
  wI_of (pi_tup pe_w) (h G H σ O E _ fun v G' H' g s => by
    unfold Sees at s
    obtain ⟨a, vs, rfl, h2, h3⟩ := s
    refine ⟨a, rfl, ⟨vs, ex_t g.gh h2⟩, q _ G' H' g ⟨vs, h3, fun H2 e i hi => ⟨vs, vs[i], ex_t e h2, by simp [hi]⟩, fun H2 e => ⟨vs, ex_t e h2, Nat.le_refl _⟩, fun H2 i x H3 e hi y => ⟨y.1, y.2 vs (ex_t e h2)⟩⟩⟩)
/-- lo, lo + 1, .. -/
def itsR (lo : Int) (n : Nat) : List Dt := (List.range n).map fun (k : Nat) => Dt.int (lo + (k : Int))
theorem itsR_seen {K : PySem.W.Frag} {G : Hp} (lo : Int) (n : Nat) : Seen K G (itsR lo n) ((List.range n).map fun (k : Nat) => V.int (lo + (k : Int))) := by
  unfold itsR
  generalize List.range n = l
  induction l with
  | nil => exact .nil
  | cons k l ih => exact .cons (by unfold Sees; rfl) ih
theorem itr_ok {K : PySem.W.Frag} {G : Hp} {lo : Int} {n : Nat} : ItOk K G (Itr lo n) (itsR lo n) := by
  refine ⟨_, itsR_seen lo n, fun H2 e i hi => ?_, fun H2 e => ?_, fun H2 i x H3 e hi y => ?_⟩
  · show i < n
    simpa using hi
  · show n ≤ _
    simp
  · obtain ⟨y1, y2⟩ := y
    refine ⟨y1, ?_⟩
    rw [y2, List.getElem?_map, List.getElem?_range (by simpa using hi)]
    rfl
theorem ji_range1 (C : Ctx X N sc full vi st) {n : Int} {p : Pos} (hm : X.mg "range" = none) (h : JP X a δ os (.int n)) (hz : n ≤ 100000) (h0 : 0 ≤ n) (hg : sc.names.lookup ("range" : Str) = some .globalImplicit := by rfl) (hs : starEach [a] X.env = [(false, eval a X.env)] := by rfl) :
    JI X tg (.Call (.Name "range" p) [a] [] pos) δ os (itsR 0 n.toNat) := fun G H σ O E R q =>
  wI_of (pi_range1 (C.gl hg) hm pa_w hs) (ja_cons h ja_nil hs G H σ O E _ fun vs G' H' g s => by
    obtain ⟨v, rfl, s1⟩ := seen1 s
    exact ⟨n, by rw [show v = .int n from s1], by omega, by omega, q _ G' H' g itr_ok⟩)
theorem ji_range2 (C : Ctx X N sc full vi st) {m n : Int} {p : Pos} (hm : X.mg "range" = none) (h : JP X a δ os (.int m)) (k : JP X b δ os (.int n)) (hz : -100000 ≤ m ∧ m ≤ 100000 ∧ -100000 ≤ n ∧ n ≤ 100000) (hg : sc.names.lookup ("range" : Str) = some .globalImplicit := by rfl)
    (hs : starEach [a, b] X.env = [(false, eval a X.env), (false, eval b X.env)] := by rfl) (hs2 : starEach [b] X.env = [(false, eval b X.env)] := by rfl) :
    JI X tg (.Call (.Name "range" p) [a, b] [] pos) δ os (itsR m (n - m).toNat) := fun G H σ O E R q =>
  wI_of (pi_range2 (C.gl hg) hm pa_w hs hs2) (ja_cons h (ja_cons k ja_nil hs2) (by rw [hs, hs2]) G H σ O E _ fun vs G' H' g s => by
    obtain ⟨v, u, rfl, s1, s2⟩ := seen2 s
    exact ⟨m, n, by rw [show v = .int m from s1, show u = .int n from s2], ⟨by omega, by omega, by omega, by omega⟩, q _ G' H' g itr_ok⟩)

/-! ### for, while -/
theorem js_for (C : Ctx X N sc full vi st) {xs : List Dt} {ws : List Nat} (h : JI X tg it δ os xs) (I : Nat → Sl → Os → Prop) (h0 : I 0 δ os)
    (hs : ∀ i x δ' os', xs[i]? = some x → I i δ' os' → ∃ δ2, JG X tg ws x δ' δ2 ∧ JB X body δ2 os' { nx := I (i + 1), ct := I (i + 1), rt := D.rt, bk := D.nx })
    (hd : ∀ δ' os', I xs.length δ' os' → D.nx δ' os') (hf : ∀ x, foldedSetIterable it X.env x = pure x := by intro _; rfl) : JS X (.For tg it body [] pos) δ os D := fun B H0 G H σ A E =>
  wS_of (ps_for C.po C.calm pi_w pg_w pss_w hf) (h G H σ A.ow E _ fun J G' H' g ok => by
    obtain ⟨vs, s, hgo, hstop, hy⟩ := ok
    have A' := A.grow g
    refine ⟨fun i m σ2 H2 => m = vs.length - i ∧ i ≤ vs.length ∧ upS X.K G' H0 (I i) σ2 H2, ⟨vs.length, by simp, Nat.zero_le _, δ, os, G', A'.here, E.mono g.gg, h0⟩, ?_⟩
    rintro i m σ2 H2 ⟨rfl, hi, δ2, os2, G2, A2, E2, p⟩
    have ex2 : Ex G' H2 := A2.bg.trans A2.ow.gh
    have back : ∀ {os3 : Os} {G3 H3 : Hp}, At X.K G' H0 os3 G3 H3 → At X.K B H0 os3 G3 H3 := fun A3 => A3.base A'.bg A'.new
    by_cases hlt : i < vs.length
    · refine .inr ⟨hgo H2 ex2 i hlt, upS X.K G' H0 (I (i + 1)), fun σ3 H3 q3 => ⟨vs.length - (i + 1), by omega, rfl, hlt, q3⟩, fun x H3 y => ?_⟩
      obtain ⟨rfl, hx⟩ := hy H2 i x H3 ex2 hlt y
      obtain ⟨dx, hdx, sx⟩ := s.getV hx
      obtain ⟨δ3, hg, hb⟩ := hs i dx δ2 os2 hdx p
      refine hg os2 G2 H3 σ2 x A2.ow E2 (sx.mono A2.bg dx) _ fun σ4 E4 _ => ?_
      exact wB_mono (hb G' H0 G2 H3 σ4 A2 E4) (fun _ _ q => q) (fun v H5 ⟨d5, os5, G5, A5, s5, q5⟩ => ⟨d5, os5, G5, back A5, s5, q5⟩) (fun σ5 H5 ⟨δ5, os5, G5, A5, E5, q5⟩ => ⟨δ5, os5, G5, back A5, E5, q5⟩) (fun _ _ q => q)
    · have e : i = vs.length := by omega
      subst e
      exact .inl ⟨hstop H2 ex2, δ2, os2, G2, back A2, E2, hd δ2 os2 (by rw [s.len]; exact p)⟩)
/-- over data that are the picture of a list -/
theorem js_forM (C : Ctx X N sc full vi st) {α : Type} (l : List α) (f : α → Dt) {ws : List Nat} (h : JI X tg it δ os (l.map f)) (I : List α → Sl → Os → Prop) (h0 : I [] δ os)
    (hs : ∀ pre t post δ' os', l = pre ++ t :: post → I pre δ' os' → ∃ δ2, JG X tg ws (f t) δ' δ2 ∧ JB X body δ2 os' { nx := I (pre ++ [t]), ct := I (pre ++ [t]), rt := D.rt, bk := D.nx })
    (hd : ∀ δ' os', I l δ' os' → D.nx δ' os') (hf : ∀ x, foldedSetIterable it X.env x = pure x := by intro _; rfl) : JS X (.For tg it body [] pos) δ os D := by
  refine js_for (ws := ws) C h (fun i δ' os' => I (l.take i) δ' os') h0 (fun i x δ' os' hx p => ?_) (fun δ' os' p => hd δ' os' ?_) hf
  · rw [List.getElem?_map] at hx
    obtain ⟨t, ht, rfl⟩ := Option.map_eq_some_iff.mp hx
    have hi : i < l.length := (List.getElem?_eq_some_iff.mp ht).1
    have e : l = l.take i ++ t :: l.drop (i + 1) := by
      have z : l[i] = t := (List.getElem?_eq_some_iff.mp ht).2
      rw [← z, ← List.drop_eq_getElem_cons hi, List.take_append_drop]
    have e2 : l.take (i + 1) = l.take i ++ [t] := by
      rw [List.take_add_one, ht]; rfl
    rw [e2]
    exact hs (l.take i) t (l.drop (i + 1)) δ' os' e p
  · rw [List.length_map, List.take_length] at p
    exact p
theorem js_while (C : Ctx X N sc full vi st) {c : Expr} (W : Nat → Sl → Os → Prop) (m0 : Nat) (h0 : W m0 δ os)
    (hs : ∀ m δ' os', W m δ' os' → ∃ k, JT X c δ' os' k ∧ (k = true → JB X body δ' os' { nx := fun δ2 os2 => ∃ m', m' < m ∧ W m' δ2 os2, ct := fun δ2 os2 => ∃ m', m' < m ∧ W m' δ2 os2, rt := D.rt, bk := D.nx }) ∧ (k = false → D.nx δ' os')) :
    JS X (.While c body [] pos) δ os D := fun B H0 G H σ A E =>
  wS_of (ps_while C.po pt_w pss_w) ⟨fun m σ2 H2 => upS X.K B H0 (W m) σ2 H2, ⟨m0, δ, os, G, A, E, h0⟩, by
    rintro m σ2 H2 ⟨δ2, os2, G2, A2, E2, w⟩
    obtain ⟨k, ht, h1, h2⟩ := hs m δ2 os2 w
    refine ht G2 H2 σ2 A2.ow E2 _ fun G3 H3 g3 => ?_
    cases k with
    | true =>
      rw [if_pos rfl]
      refine ⟨upS X.K B H0 fun δ4 os4 => ∃ m', m' < m ∧ W m' δ4 os4, fun σ4 H4 ⟨δ4, os4, G4, A4, E4, m', lt, w4⟩ => ⟨m', lt, δ4, os4, G4, A4, E4, w4⟩, ?_⟩
      exact h1 rfl B H0 G3 H3 σ2 (A2.grow g3) (E2.mono g3.gg)
    | false =>
      rw [if_neg Bool.false_ne_true]
      exact ⟨δ2, os2, G3, A2.grow g3, E2.mono g3.gg, h2 rfl⟩⟩
end
end DL

set_option maxHeartbeats 4000000
/-! D4: comprehensions, slices, fields, dicts, defs and their calls. -/
namespace DL
open PySem PySem.Spec PyProof.Rows L2 Evl
section
variable {X : Cx} {N : List Str} {sc : Scope} {full : Bool} {vi st : List Bool} {δ : Sl} {os : Os} {D : DE}
variable {e a b : Expr} {d : Dt} {pos py : Pos} {body : List Stmt} {s1 : Stmt} {rest : List Stmt} {tg it elt : Expr}

/-! ### comprehensions -/
/-- a comprehension's block -/
structure InBlk (X X' : Cx) : Prop where
  prog : X'.prog = X.prog
  w : X'.w = X.w
  K : X'.K = X.K
  mg : X'.mg = X.mg
  base : X'.base = X.base
  A : X'.A = X.A
theorem blk_ctx (C : Ctx X N sc full vi st) {scope : Scope} {s : Shared} {H : Hp} {Cc : Addr} {cl : List (Str × Addr)} {fp : List Addr} {vi' st' : List Bool} (hk : scope.kind = .function) (h1 : N.map (visB (relS scope sc)) = vi') (h2 : N.map (stB false (relS scope sc)) = st') :
    Ctx (X.blk s H scope (compEnvC scope cl Cc X.env) fp) N (relS scope sc) false vi' st' where
  hN := C.hN
  hsc := by
    show relabel scope X.env = relS scope sc
    rw [← C.hsc]
    rfl
  nd := C.nd
  calm := C.calm
  fn := fun h => by cases h
  po := PassesOwn.never
  kind := hk
  hvi := h1
  hst := h2
def wFs (X : Cx) (ifs : List Expr) : TT := fun σ H Q => ∀ (pins : List (Addr × Obj)) (s : Shared), Inv X pins σ H s → wpAny (model X.prog X.w) X.A (forIn ifs true fun c r => if r = true then do let ok ← isTrue c X.env (eval c X.env); pure (ForInStep.yield ok) else pure (ForInStep.yield r)) (TP X pins σ Q) X.xe s
/-- the tests of a clause -/
def JFs (X : Cx) (ifs : List Expr) (δ : Sl) (os : Os) (k : Bool) : Prop := ∀ (G H : Hp) (σ : L2.St), Own X.K os G H → EnvS X.K G δ σ → ∀ Q : Bool → Hp → Prop, (∀ G' H', Grow G H G' H' → Q k H') → wFs X ifs σ H Q
theorem pfs_w {ifs : List Expr} : PTs X ifs (wFs X ifs) := ⟨fun pins s σ H Q I h => h pins s I⟩
theorem jfs_nil : JFs X [] δ os true := fun G H σ O E Q q pins s I => pts_nil.run pins s σ H Q I (q G H (Grow.refl O.gh))
theorem jfs_one {c : Expr} {k : Bool} (h : JT X c δ os k) : JFs X [c] δ os k := fun G H σ O E Q q pins s I => (pts_one pt_w).run pins s σ H Q I (h G H σ O E Q q)
/-- what comes out: the items that pass, each as it is told -/
def outs {α : Type} (l : List α) (kp : α → Bool) (g : α → Dt) : List Dt := (l.filter kp).map g
theorem outs_snoc {α : Type} (l : List α) (t : α) (kp : α → Bool) (g : α → Dt) : outs (l ++ [t]) kp g = outs l kp g ++ (if kp t = true then [g t] else []) := by
  unfold outs
  rw [List.filter_append, List.map_append]
  congr 1
  by_cases h : kp t = true
  · rw [if_pos h, List.filter_cons, if_pos h]; rfl
  · rw [if_neg h, List.filter_cons, if_neg h]; rfl
theorem outs_len {α : Type} (l : List α) (kp : α → Bool) (g : α → Dt) : (outs l kp g).length ≤ l.length := by
  unfold outs
  rw [List.length_map]
  exact List.length_filter_le kp l
/-- the reading of a list comprehension -/
theorem lc_read (C : Ctx X N sc full vi st) {α : Type} (l : List α) (f : α → Dt) (kp : α → Bool) (g : α → Dt) {scope : Scope} {own : List (Str × Nat)} {ifs : List Expr} {vi' st' : List Bool} (hk : scope.kind = .function)
    (h1 : N.map (visB (relS scope sc)) = vi') (h2 : N.map (stB false (relS scope sc)) = st') (hi : JI X tg it δ os (l.map f)) (hz : l.length < 100000)
    (hs : ∀ t ∈ l, ∃ δ2, ∀ X', InBlk X X' → Ctx X' N (relS scope sc) false vi' st' → JG X' tg (own.map (·.2)) (f t) (wipeD δ (own.map (·.2))) δ2 ∧ JFs X' ifs δ2 os (kp t) ∧ (kp t = true → JP X' elt δ2 os (g t)))
    {G H : Hp} {σ : L2.St} (O : Own X.K os G H) (E : EnvS X.K G δ σ) {Q : VK} (q : ∀ p vs G' H', Grow G H G' H' → H p = none → G' p = none → H' p = some (.lst vs) → Seen X.K G' (outs l kp g) vs → Q (.ref p) H') :
    tLc (wI X tg it) (fun v σ H Q => ∀ s H0 Cc cl fp, wG (X.blk s H0 scope (compEnvC scope cl Cc X.env) fp) tg v σ H Q) (fun σ H Q => ∀ s H0 Cc cl fp, wFs (X.blk s H0 scope (compEnvC scope cl Cc X.env) fp) ifs σ H Q)
      (fun σ H Q => ∀ s H0 Cc cl fp, wE (X.blk s H0 scope (compEnvC scope cl Cc X.env) fp) elt σ H Q) (own.map (·.2)) σ H Q := by
  refine hi G H σ O E _ fun J G1 H1 g1 ok Da hD => ?_
  obtain ⟨vs, s, hgo, hstop, hy⟩ := ok
  have hlen : l.length = vs.length := by rw [← s.len, List.length_map]
  refine ⟨fun i m H2 => m = vs.length - i ∧ i ≤ vs.length ∧ ∃ G2 acc, Grow G1 H1 G2 H2 ∧ H2 Da = some (.lst acc) ∧ Seen X.K G2 (outs (l.take i) kp g) acc ∧ G2 Da = none,
    ⟨vs.length, by simp, Nat.zero_le _, G1, [], Grow.hid g1.gh hD, upd_same, .nil, fresh_back g1.gh hD⟩, ?_⟩
  rintro i m H2 ⟨rfl, hi', G2, acc, g2, hacc, sacc, gD⟩
  have ex2 : Ex G1 H2 := g2.gg.trans g2.gh
  by_cases hlt : i < vs.length
  · refine .inr ⟨hgo H2 ex2 i hlt, fun H3 => ∃ G3 acc, Grow G1 H1 G3 H3 ∧ H3 Da = some (.lst acc) ∧ Seen X.K G3 (outs (l.take (i + 1)) kp g) acc ∧ G3 Da = none,
      fun H3 q3 => ⟨vs.length - (i + 1), by omega, rfl, hlt, q3⟩, fun x H3 y => ?_⟩
    obtain ⟨rfl, hx⟩ := hy H2 i x H3 ex2 hlt y
    have hil : i < l.length := by omega
    have hmem : l[i] ∈ l := List.getElem_mem _
    obtain ⟨dx, hdx, sx⟩ := s.getV hx
    rw [List.getElem?_map, List.getElem?_eq_getElem hil] at hdx
    obtain rfl : f l[i] = dx := Option.some.inj hdx
    have e2 : l.take (i + 1) = l.take i ++ [l[i]] := by rw [List.take_add_one, List.getElem?_eq_getElem hil]; rfl
    have Ow : Own X.K os G2 H3 := (O.grow g1).grow g2
    have Ew : EnvS X.K G2 (wipeD δ (own.map (·.2))) (L2.wipe σ (own.map (·.2))) := ((E.mono g1.gg).mono g2.gg).wipe _
    obtain ⟨δ2, hx2⟩ := hs l[i] hmem
    intro s0 H0 Cc cl fp
    refine (hx2 (X.blk s0 H0 scope (compEnvC scope cl Cc X.env) fp) ⟨rfl, rfl, rfl, rfl, rfl, rfl⟩ (blk_ctx C (s := s0) (H := H0) (Cc := Cc) (cl := cl) (fp := fp) hk h1 h2)).1 os G2 H3 _ x Ow Ew (sx.mono g2.gg _) _ fun σ4 E4 b4 => ⟨b4.wipe.trans (wipe_wipe _), ?_⟩
    intro s5 H5 Cc5 cl5 fp5
    obtain ⟨_, ht', _⟩ := hx2 (X.blk s5 H5 scope (compEnvC scope cl5 Cc5 X.env) fp5) ⟨rfl, rfl, rfl, rfl, rfl, rfl⟩ (blk_ctx C (s := s5) (H := H5) (Cc := Cc5) (cl := cl5) (fp := fp5) hk h1 h2)
    refine ht' G2 H3 σ4 Ow E4 _ fun G6 H6 g6 => ?_
    have aft : ∀ {Ga Ha : Hp}, Grow G2 H3 Ga Ha → Ha Da = some (.lst acc) ∧ Ga Da = none := fun {Ga Ha} ga => by
      refine ⟨ga.hh _ _ hacc, ?_⟩
      cases z : Ga Da with
      | none => rfl
      | some o =>
        rcases ga.new _ _ z with w | w
        · rw [gD] at w; cases w
        · rw [hacc] at w; cases w
    cases hkp : kp l[i] with
    | true =>
      rw [if_pos rfl]
      intro s7 H7 Cc7 cl7 fp7
      obtain ⟨_, _, he'⟩ := hx2 (X.blk s7 H7 scope (compEnvC scope cl7 Cc7 X.env) fp7) ⟨rfl, rfl, rfl, rfl, rfl, rfl⟩ (blk_ctx C (s := s7) (H := H7) (Cc := Cc7) (cl := cl7) (fp := fp7) hk h1 h2)
      refine he' hkp G6 H6 σ4 (Ow.grow g6) (E4.mono g6.gg) _ fun y G8 H8 g8 s8 => ?_
      have g68 := g6.trans g8
      obtain ⟨k1, k2⟩ := aft g68
      have la : acc.length < 100000 := by
        have := outs_len (l.take i) kp g
        rw [sacc.len] at this
        have := List.length_take_le i l
        omega
      refine ⟨acc, k1, sz_lt la, G8, acc ++ [y], ?_, upd_same, ?_, k2⟩
      · have gg := g2.trans g68
        exact ⟨gg.gg, Ex.mut gg.hh hD, Ex.mut gg.gh k2, gg.new⟩
      · rw [e2, outs_snoc, if_pos hkp]
        exact (sacc.mono g68.gg _).append (.cons s8 .nil)
    | false =>
      rw [if_neg Bool.false_ne_true]
      obtain ⟨k1, k2⟩ := aft g6
      refine ⟨G6, acc, g2.trans g6, k1, ?_, k2⟩
      rw [e2, outs_snoc, if_neg (by rw [hkp]; exact Bool.false_ne_true), List.append_nil]
      exact sacc.mono g6.gg _
  · have e : i = vs.length := by omega
    subst e
    refine .inl ⟨hstop H2 ex2, q Da acc G2 H2 (g1.trans g2) (fresh_back g1.hh hD) gD hacc ?_⟩
    rw [← hlen, List.take_length] at sacc
    exact sacc
theorem BlkOk.to (C : Ctx X N sc full vi st) {scope : Scope} {own : List (Str × Nat)} (ok : blkC N sc scope own = true) : BlkOk X.N X.env.scope scope own := by
  rw [C.hN, C.hsc]
  exact blkOk_by ok
theorem jn_lc (C : Ctx X N sc full vi st) {α : Type} (l : List α) (f : α → Dt) (kp : α → Bool) (g : α → Dt) (own : List (Str × Nat)) {scope : Scope} {ifs : List Expr} {vi' st' : List Bool} (hi : JI X tg it δ os (l.map f))
    (hs : ∀ t ∈ l, ∃ δ2, ∀ X', InBlk X X' → Ctx X' N (relS scope sc) false vi' st' → JG X' tg (own.map (·.2)) (f t) (wipeD δ (own.map (·.2))) δ2 ∧ JFs X' ifs δ2 os (kp t) ∧ (kp t = true → JP X' elt δ2 os (g t))) (hz : l.length < 100000)
    (h1 : N.map (visB (relS scope sc)) = vi') (h2 : N.map (stB false (relS scope sc)) = st') (ok : blkC N sc scope own = true) (hk : scope.kind = .function) (hf : ∀ x, foldedSetIterable it X.env x = pure x := by intro _; rfl) :
    JN X (.ListComp elt [⟨tg, it, ifs, 0⟩] scope pos) δ os (outs l kp g) := fun G H σ O E Q q =>
  wE_of (pe_lc C.calm C.ndX pi_w (BlkOk.to C ok) (fun s H C cl fp => ⟨fun pins s5 σ H5 v u Q I r h => h _ _ _ _ _ pins s5 u I r⟩) (fun s H C cl fp => ⟨fun pins s5 σ H5 Q I h => h _ _ _ _ _ pins s5 I⟩) (fun s H C cl fp => ⟨fun pins s5 σ H5 Q I h => h _ _ _ _ _ pins s5 I⟩) hf)
    (lc_read C l f kp g hk h1 h2 hi hz hs O E q)
/-- name = [..], the list one's own -/
theorem js_lcO (C : Ctx X N sc full vi st) (i : Nat) {x : Str} {α : Type} (l : List α) (f : α → Dt) (kp : α → Bool) (g : α → Dt) (own : List (Str × Nat)) {scope : Scope} {ifs : List Expr} {vi' st' : List Bool} {cpos : Pos} (hi : JI X tg it δ os (l.map f))
    (hs : ∀ t ∈ l, ∃ δ2, ∀ X', InBlk X X' → Ctx X' N (relS scope sc) false vi' st' → JG X' tg (own.map (·.2)) (f t) (wipeD δ (own.map (·.2))) δ2 ∧ JFs X' ifs δ2 os (kp t) ∧ (kp t = true → JP X' elt δ2 os (g t))) (hz : l.length < 100000)
    (h1 : N.map (visB (relS scope sc)) = vi') (h2 : N.map (stB false (relS scope sc)) = st') (ok : blkC N sc scope own = true) (hk : scope.kind = .function) (hN : N[i]? = some x) (hy : sc.names.lookup x = some .local) (hl : (py.line == cpos.line) = true)
    (ha : (scope.names.any fun (n, k) => n == x && (k == .local || k == .cell)) = false) (q : ∀ p, (∀ q ∈ os, q.1 ≠ p) → D.nx (δ.set i (some (.at p))) ((p, .lst (outs l kp g)) :: os)) (hf : ∀ x, foldedSetIterable it X.env x = pure x := by intro _; rfl) :
    JS X (.Assign [.Name x py] (.ListComp elt [⟨tg, it, ifs, 0⟩] scope cpos) pos) δ os D := fun B H0 G H σ A E =>
  wS_of (ps_setLc C.calm C.ndX (C.nth hN) (by rw [C.hsc]; exact hy) (sw_true (by rw [C.hsc]; exact C.kind) (by rw [C.hsc]; exact hy) hl ha) pi_w (BlkOk.to C ok)
    (fun s H C cl fp => ⟨fun pins s5 σ H5 v u Q I r h => h _ _ _ _ _ pins s5 u I r⟩) (fun s H C cl fp => ⟨fun pins s5 σ H5 Q I h => h _ _ _ _ _ pins s5 I⟩) (fun s H C cl fp => ⟨fun pins s5 σ H5 Q I h => h _ _ _ _ _ pins s5 I⟩) hf)
    (lc_read C l f kp g hk h1 h2 hi hz hs A.ow E fun p vs G' H' g hp gp h' s => ⟨_, _, G', A.take g hp gp h' (obs_lst s), (E.mono g.gg).set (by unfold Sees; rfl), q p (A.fresh hp)⟩)
theorem jsO_jsP {i : Nat} {xs : List Dt} {B H0 G H G' H' : Hp} {σ : L2.St} {p : Addr} {vs : List V} (A : At X.K B H0 os G H) (E : EnvS X.K G δ σ) (g : Grow G H G' H') (hp : H p = none) (gp : G' p = none) (h' : H' p = some (.lst vs)) (s : Seen X.K G' xs vs) :
    ∃ G2, At X.K B H0 os G2 H' ∧ EnvS X.K G2 (δ.set i (some (.lst xs))) (σ.set i (some (.ref p))) := by
  have A' := A.take (ob := .lst xs) g hp gp h' (obs_lst s)
  obtain ⟨A2, ex⟩ := A'.give h'
  refine ⟨_, A2, ((E.mono g.gg).mono ex).set ?_⟩
  unfold Sees
  exact ⟨p, vs, rfl, upd_same, s.mono ex xs⟩
/-- name = [..] -/
theorem js_lc (C : Ctx X N sc full vi st) (i : Nat) {x : Str} {α : Type} (l : List α) (f : α → Dt) (kp : α → Bool) (g : α → Dt) (own : List (Str × Nat)) {scope : Scope} {ifs : List Expr} {vi' st' : List Bool} {cpos : Pos} (hi : JI X tg it δ os (l.map f))
    (hs : ∀ t ∈ l, ∃ δ2, ∀ X', InBlk X X' → Ctx X' N (relS scope sc) false vi' st' → JG X' tg (own.map (·.2)) (f t) (wipeD δ (own.map (·.2))) δ2 ∧ JFs X' ifs δ2 os (kp t) ∧ (kp t = true → JP X' elt δ2 os (g t))) (hz : l.length < 100000)
    (h1 : N.map (visB (relS scope sc)) = vi') (h2 : N.map (stB false (relS scope sc)) = st') (ok : blkC N sc scope own = true) (hk : scope.kind = .function) (hN : N[i]? = some x) (hy : sc.names.lookup x = some .local) (hl : (py.line == cpos.line) = true)
    (ha : (scope.names.any fun (n, k) => n == x && (k == .local || k == .cell)) = false) (q : D.nx (δ.set i (some (.lst (outs l kp g)))) os) (hf : ∀ x, foldedSetIterable it X.env x = pure x := by intro _; rfl) :
    JS X (.Assign [.Name x py] (.ListComp elt [⟨tg, it, ifs, 0⟩] scope cpos) pos) δ os D := fun B H0 G H σ A E =>
  wS_of (ps_setLc C.calm C.ndX (C.nth hN) (by rw [C.hsc]; exact hy) (sw_true (by rw [C.hsc]; exact C.kind) (by rw [C.hsc]; exact hy) hl ha) pi_w (BlkOk.to C ok)
    (fun s H C cl fp => ⟨fun pins s5 σ H5 v u Q I r h => h _ _ _ _ _ pins s5 u I r⟩) (fun s H C cl fp => ⟨fun pins s5 σ H5 Q I h => h _ _ _ _ _ pins s5 I⟩) (fun s H C cl fp => ⟨fun pins s5 σ H5 Q I h => h _ _ _ _ _ pins s5 I⟩) hf)
    (lc_read C l f kp g hk h1 h2 hi hz hs A.ow E fun p vs G' H' g hp gp h' s => by
      obtain ⟨G2, A2, E2⟩ := jsO_jsP (i := i) A E g hp gp h' s
      exact ⟨_, os, G2, A2, E2, q⟩)

/-! ### slices -/
def wP (X : Cx) (o : Option Expr) : TO := fun σ H Q => ∀ (pins : List (Addr × Obj)) (s : Shared), Inv X pins σ H s → wpAny (model X.prog X.w) X.A (evalPart o X.env) (fun u s' => ∃ o H', Inv X pins σ H' s' ∧ IsPart u o ∧ Q o H') X.xe s
theorem po_w {o : Option Expr} : PO X o (wP X o) := ⟨fun pins s σ H Q I h => h pins s I⟩
def JPo (X : Cx) (o : Option Expr) (δ : Sl) (os : Os) (k : Option Int) : Prop := ∀ (G H : Hp) (σ : L2.St), Own X.K os G H → EnvS X.K G δ σ → ∀ Q : Option Int → Hp → Prop, (∀ G' H', Grow G H G' H' → Q k H') → wP X o σ H Q
theorem jpo_none : JPo X none δ os none := fun G H σ O E Q q pins s I => po_none.run pins s σ H Q I (q G H (Grow.refl O.gh))
theorem jpo_some {k : Int} (h : JP X e δ os (.int k)) : JPo X (some e) δ os (some k) := fun G H σ O E Q q pins s I => (po_some pe_w).run pins s σ H Q I (h G H σ O E _ fun v G' H' g s => ⟨k, s, q G' H' g⟩)
def cutD {α : Type} (xs : List α) (lo hi : Option Int) : List α := (xs.drop (HT.sIx xs.length 0 lo)).take (HT.sIx xs.length xs.length hi - HT.sIx xs.length 0 lo)
theorem Seen.cut {K : PySem.W.Frag} {G : Hp} {xs : List Dt} {vs : List V} (s : Seen K G xs vs) (lo hi : Option Int) : Seen K G (cutD xs lo hi) (cutV vs lo hi) := by
  unfold cutD cutV
  rw [← s.len]
  exact (s.drop _).take _
variable {lo hi : Option Expr} {kl kh : Option Int} {p2 : Pos}
theorem jn_slice {xs : List Dt} (h : JP X e δ os d) (hl : Lk os d xs) (h1 : JPo X lo δ os kl) (h2 : JPo X hi δ os kh) : JN X (.Subscript e (.Slice lo hi none p2) pos) δ os (cutD xs kl kh) := fun G H σ O E Q q =>
  wE_of (pe_slice sl_list pe_w po_w po_w) (h G H σ O E _ fun v G1 H1 g1 s1 => h1 G1 H1 σ (O.grow g1) (E.mono g1.gg) _ fun G2 H2 g2 => h2 G2 H2 σ ((O.grow g1).grow g2) ((E.mono g1.gg).mono g2.gg) _ fun G3 H3 g3 => by
    have g := (g1.trans g2).trans g3
    obtain ⟨a, vs, rfl, k2, k3⟩ := hl.see (O.grow g) ((s1.mono g2.gg d).mono g3.gg d)
    exact ⟨a, vs, rfl, SqL.of k2, fun p hp => q p _ G3 _ (g.trans (Grow.hid g3.gh hp)) (fresh_back g.hh hp) (fresh_back g3.gh hp) upd_same (k3.cut _ _)⟩)
theorem jp_sliceT {xs : List Dt} (h : JP X e δ os (.tup xs)) (h1 : JPo X lo δ os kl) (h2 : JPo X hi δ os kh) (hn : ¬ (HT.sIx xs.length 0 kl = 0 ∧ HT.sIx xs.length xs.length kh = xs.length)) : JP X (.Subscript e (.Slice lo hi none p2) pos) δ os (.tup (cutD xs kl kh)) := fun G H σ O E Q q =>
  wE_of (pe_slice sl_tup pe_w po_w po_w) (h G H σ O E _ fun v G1 H1 g1 s1 => h1 G1 H1 σ (O.grow g1) (E.mono g1.gg) _ fun G2 H2 g2 => h2 G2 H2 σ ((O.grow g1).grow g2) ((E.mono g1.gg).mono g2.gg) _ fun G3 H3 g3 => by
    have g := (g1.trans g2).trans g3
    obtain ⟨a, vs, rfl, k2, k3⟩ := tup_see (O.grow g) ((s1.mono g2.gg _).mono g3.gg _)
    refine ⟨a, vs, rfl, k2, by rw [← k3.len]; exact hn, fun p hp => ?_⟩
    have gl := Grow.laid (o := .tup (cutV vs kl kh)) g3.gh hp
    refine q _ _ _ (g.trans gl) ?_
    unfold Sees
    exact ⟨p, _, rfl, SqT.of upd_same, (k3.cut _ _).mono gl.gg _⟩)

/-! ### fields -/
theorem jp_fld {Cl : Addr} {fs : List (Str × Dt)} {f : Str} (h : JP X e δ os (.ins Cl fs)) (hc : Cls X.K Cl) (hn : NoAttr X.K Cl f) (hf : fs.lookup f = some d) (hb : attributeBase e f X.env (eval e X.env) = eval e X.env := by rfl) : JP X (.Attribute e f pos) δ os d := fun G H σ O E Q q =>
  wE_of (pe_fld pe_w hb) (h G H σ O E _ fun v G' H' g s => by
    unfold Sees at s
    obtain ⟨a, dx, vs, rfl, k2, k3⟩ := s
    obtain ⟨u, k4, k5⟩ := k3.get hf
    exact ⟨a, Cl, dx, vs, u, rfl, g.gh _ _ k2, hc, hn, k4, q u G' H' g k5⟩)
/-- self.f = e in an __init__ -/
theorem js_fld {os' : Os} {o : Expr} {Cl dx p : Addr} {fs : List (Str × Dt)} {f : Str} {pos' : Pos} (h : JP X e δ os d) (ho : JP X o δ os (.at p)) (hm : (p, Ob.ins Cl dx fs) ∈ os) (hc : Cls X.K Cl) (hn : NoAttr X.K Cl f) (hl : fs.length < 1000) (q : D.nx δ os')
    (hs : swapsWith e (some (.Attribute o f pos')) pos.line X.env = pure false := by rfl) (he : putO p (.ins Cl dx (putD f d fs)) os = os' := by first | exact putO_hd | exact putO_2 (by assumption)) : JS X (.Assign [.Attribute o f pos'] e pos) δ os D := fun B H0 G H σ A E =>
  wS_of (ps_fld pe_w pe_w hs) (h G H σ A.ow E _ fun v G1 H1 g1 s1 => ho G1 H1 σ (A.ow.grow g1) (E.mono g1.gg) _ fun w G2 H2 g2 s2 => by
    have s2 : w = .ref p := s2
    subst s2
    have A2 := (A.grow g1).grow g2
    obtain ⟨gp, hob, k1, vs, rfl, k3⟩ := A2.ow.own _ hm
    exact ⟨p, Cl, dx, vs, rfl, k1, hc, hn, by rw [← k3.len]; exact hl, δ, _, G2, (he ▸ A2.put (ob' := .ins Cl dx (putD f d fs)) hm ⟨_, rfl, k3.put (s1.mono g2.gg d)⟩), (E.mono g1.gg).mono g2.gg, q⟩)

/-! ### dicts by tuples of ints and texts -/
def kD : Key → Dt
  | .inl i => .int i
  | .inr x => .str x
theorem kD_seen {K : PySem.W.Frag} {G : Hp} : ∀ {k : List Key} {vs : List V}, Seen K G (k.map kD) vs → vs = k.map kV
  | [], vs, h => h.nil_inv
  | .inl i :: k, vs, h => by
    obtain ⟨v, r, rfl, s1, s2⟩ := h.cons_inv
    rw [show v = .int i from s1, kD_seen s2]; rfl
  | .inr x :: k, vs, h => by
    obtain ⟨v, r, rfl, s1, s2⟩ := h.cons_inv
    rw [show v = .str x from s1, kD_seen s2]; rfl
def getT (kvs : List (List Key × Dt)) (k : List Key) : Option Dt := (kvs.find? fun kv => decide (kv.1 = k)).map (·.2)
def putT (kvs : List (List Key × Dt)) (k : List Key) (d : Dt) : List (List Key × Dt) := if (kvs.any fun kv => decide (kv.1 = k)) = true then kvs.map (fun kv => if kv.1 = k then (kv.1, d) else kv) else kvs ++ [(k, d)]
section
variable {K : PySem.W.Frag} {G : Hp}
theorem SeenK.len : ∀ {ds : List (List Key × Dt)} {vs : List (List Key × V)}, SeenK K G ds vs → ds.length = vs.length
  | [], _, h => by unfold SeenK at h; rw [h]; rfl
  | (n, d) :: ds, _, h => by
    unfold SeenK at h
    obtain ⟨v, r, rfl, s, t⟩ := h
    rw [List.length_cons, List.length_cons, SeenK.len t]
theorem SeenK.get {k : List Key} : ∀ {ds : List (List Key × Dt)} {vs : List (List Key × V)} {d : Dt}, SeenK K G ds vs → getT ds k = some d → ∃ v, valV vs k = some v ∧ Sees K G d v
  | [], _, _, h, e => by cases e
  | (n, d') :: ds, _, d, h, e => by
    unfold SeenK at h
    obtain ⟨v, r, rfl, s, t⟩ := h
    by_cases z : n = k
    · have e1 : getT ((n, d') :: ds) k = some d' := by unfold getT; simp [List.find?_cons, z]
      rw [e1] at e; cases e
      exact ⟨v, valV_pos z, s⟩
    · have e1 : getT ((n, d') :: ds) k = getT ds k := by unfold getT; simp [List.find?_cons, z]
      rw [e1] at e
      rw [valV_neg z]
      exact SeenK.get t e
theorem SeenK.any {k : List Key} : ∀ {ds : List (List Key × Dt)} {vs : List (List Key × V)}, SeenK K G ds vs → (ds.any fun kv => decide (kv.1 = k)) = vs.any fun kv => decide (kv.1 = k)
  | [], _, h => by unfold SeenK at h; rw [h]; rfl
  | (n, d) :: ds, _, h => by
    unfold SeenK at h
    obtain ⟨v, r, rfl, s, t⟩ := h
    rw [List.any_cons, List.any_cons, SeenK.any t]
theorem SeenK.mapp {k : List Key} {d : Dt} {v : V} (s0 : Sees K G d v) : ∀ {ds : List (List Key × Dt)} {vs : List (List Key × V)}, SeenK K G ds vs → SeenK K G (ds.map fun kv => if kv.1 = k then (kv.1, d) else kv) (vs.map fun kv => if kv.1 = k then (kv.1, v) else kv)
  | [], _, h => by unfold SeenK at h; rw [h]; unfold SeenK; rfl
  | (n, d') :: ds, _, h => by
    unfold SeenK at h
    obtain ⟨u, r, rfl, s, t⟩ := h
    have ih := SeenK.mapp (k := k) s0 t
    rw [List.map_cons, List.map_cons]
    by_cases z : n = k
    · simp only [z, if_true]
      unfold SeenK
      exact ⟨v, _, rfl, s0, ih⟩
    · simp only [z, if_false]
      unfold SeenK
      exact ⟨u, _, rfl, s, ih⟩
theorem SeenK.app : ∀ {ds es : List (List Key × Dt)} {vs us : List (List Key × V)}, SeenK K G ds vs → SeenK K G es us → SeenK K G (ds ++ es) (vs ++ us)
  | [], _, _, _, h, k => by unfold SeenK at h; rw [h]; exact k
  | (n, d') :: ds, _, _, _, h, k => by
    unfold SeenK at h
    obtain ⟨u, r, rfl, s, t⟩ := h
    show SeenK K G ((n, d') :: (ds ++ _)) _
    unfold SeenK
    exact ⟨u, _, rfl, s, SeenK.app t k⟩
theorem SeenK.put {k : List Key} {d : Dt} {v : V} {ds : List (List Key × Dt)} {vs : List (List Key × V)} (h : SeenK K G ds vs) (s : Sees K G d v) : SeenK K G (putT ds k d) (putK vs k v) := by
  unfold putT putK
  rw [h.any]
  split
  · exact h.mapp s
  · refine h.app ?_
    unfold SeenK
    exact ⟨v, [], rfl, s, by unfold SeenK; rfl⟩
end
/-- the data that stands for a dict with these -/
def Dk (os : Os) (d : Dt) (kvs : List (List Key × Dt)) : Prop := d = .dT kvs ∨ ∃ p, d = .at p ∧ (p, Ob.dT kvs) ∈ os
theorem Dk.see {kvs : List (List Key × Dt)} {K : PySem.W.Frag} {G H : Hp} {v : V} (h : Dk os d kvs) (O : Own K os G H) (s : Sees K G d v) : ∃ a vs, v = .ref a ∧ H a = some (.dT vs) ∧ SeenK K G kvs vs := by
  rcases h with rfl | ⟨p, rfl, hm⟩
  · unfold Sees at s
    obtain ⟨a, vs, h1, h2, h3⟩ := s
    exact ⟨a, vs, h1, O.gh _ _ h2, h3⟩
  · obtain ⟨_, ho, h2, vs, rfl, h3⟩ := O.own _ hm
    exact ⟨p, vs, s, h2, h3⟩
theorem jp_dget {kvs : List (List Key × Dt)} {k : List Key} {r : Dt} {es : List Expr} {x1 : Nat} {tpos : Pos} (hu : X.A.units + 1 < cLine) (h : JP X e δ os d) (hd : Dk os d kvs) (ha : JA X es δ os (k.map kD)) (hr : getT kvs k = some r) (hl : k.length ≤ 1000)
    (hs : NoSl (.Tuple es x1 tpos) := by exact fun _ _ => rfl) : JP X (.Subscript e (.Tuple es x1 tpos) pos) δ os r := fun G H σ O E Q q =>
  wE_of (pe_dget hu pe_w (pe_tup pa_w) hs) (h G H σ O E _ fun v G1 H1 g1 s1 => ha G1 H1 σ (O.grow g1) (E.mono g1.gg) _ fun vs G2 H2 g2 s2 => by
    have e2 := kD_seen s2
    subst e2
    refine ⟨by rw [List.length_map]; exact sz_of (by omega), fun p hp => ?_⟩
    have g := g1.trans g2
    obtain ⟨a, us, rfl, k2, k3⟩ := hd.see (O.grow g) (s1.mono g2.gg d)
    obtain ⟨w, k4, k5⟩ := k3.get hr
    have gl := Grow.laid (o := .tup (k.map kV)) g2.gh hp
    refine ⟨a, w, rfl, ?_, q w _ _ (g.trans gl) (k5.mono gl.gg r)⟩
    rw [← k4]
    exact DGet.t (by rw [upd_ne (ne_of_none k2 hp)]; exact k2) upd_same)
theorem js_dput {os' : Os} {o : Expr} {p : Addr} {kvs : List (List Key × Dt)} {k : List Key} {es : List Expr} {x1 : Nat} {tpos pos' : Pos} (hu : X.A.units + 1 < cLine) (h : JP X e δ os d) (ho : JP X o δ os (.at p)) (ha : JA X es δ os (k.map kD)) (hm : (p, Ob.dT kvs) ∈ os) (hl : k.length ≤ 1000) (hz : kvs.length < 100000)
    (q : D.nx δ os') (hs : swapsWith e (some (.Subscript o (.Tuple es x1 tpos) pos')) pos.line X.env = pure false := by rfl) (he : putO p (.dT (putT kvs k d)) os = os' := by first | exact putO_hd | exact putO_2 (by assumption)) : JS X (.Assign [.Subscript o (.Tuple es x1 tpos) pos'] e pos) δ os D := fun B H0 G H σ A E =>
  wS_of (ps_dput hu pe_w (pe_tup pa_w) pe_w hs) (h G H σ A.ow E _ fun v G1 H1 g1 s1 => ho G1 H1 σ (A.ow.grow g1) (E.mono g1.gg) _ fun w G2 H2 g2 s2 => ha G2 H2 σ ((A.ow.grow g1).grow g2) ((E.mono g1.gg).mono g2.gg) _ fun vs G3 H3 g3 s3 => by
    have s2 : w = .ref p := s2
    subst s2
    have e2 := kD_seen s3
    subst e2
    refine ⟨by rw [List.length_map]; exact sz_of (by omega), fun t ht => ?_⟩
    have gl := Grow.hid (o := .tup (k.map kV)) g3.gh ht
    have A3 := (((A.grow g1).grow g2).grow g3).grow gl
    obtain ⟨gp, hob, k1, us, rfl, k3⟩ := A3.ow.own _ hm
    exact ⟨p, _, rfl, DPut.t k1 upd_same (by rw [← k3.len]; exact sz_lt hz), δ, _, G3, (he ▸ A3.put hm (obs_dT (k3.put ((s1.mono g2.gg d).mono g3.gg d)))), ((E.mono g1.gg).mono g2.gg).mono g3.gg, q⟩)
end
end DL

set_option maxHeartbeats 4000000
/-! D5: defs: what they promise, their calls, their bodies; classes made; isinstance. -/
namespace DL
open PySem PySem.Spec PyProof.Rows L2 Evl

/-- called with data ds a def hands back d, and leaves all that was there -/
def spD (K : PySem.W.Frag) (R : List Dt → Dt → Prop) : Sp := fun vs H Q _ => ∃ B ds d, Ex B H ∧ Seen K B ds vs ∧ R ds d ∧ ∀ v G H', Grow B H G H' → Sees K G d v → Q v H'
/-- .. a new list -/
def spN (K : PySem.W.Frag) (R : List Dt → List Dt → Prop) : Sp := fun vs H Q _ => ∃ B ds xs, Ex B H ∧ Seen K B ds vs ∧ R ds xs ∧ ∀ p us G H', Grow B H G H' → H p = none → G p = none → H' p = some (.lst us) → Seen K G xs us → Q (.ref p) H'
/-- an __init__: the new instance's fields -/
def spI (K : PySem.W.Frag) (C : Addr) (R : List Dt → List (Str × Dt) → Prop) : Sp := fun vs H Q _ => ∃ B p dx us ds fs, vs = .ref p :: us ∧ H p = some (.ins C dx []) ∧ B p = none ∧ Ex B H ∧ Seen K B ds us ∧ R ds fs ∧
  ∀ G H' ws, Ex B G → (∀ a o, a ≠ p → H a = some o → H' a = some o) → Ex G H' → (∀ a o, G a = some o → B a = some o ∨ H a = none) → H' p = some (.ins C dx ws) → SeenF K G fs ws → Q .non H'
structure Def (P : Program) (w : World) (K : PySem.W.Frag) (mg : Str → Option Value) (base : Heap) (x : Str) (ps : List Str) (k : Nat) (sp : Sp) : Prop where
  ex : ∃ f fd, mg x = some (.ref f) ∧ PySem.W.keepIn K (.ref f) = true ∧ Binds K fd ps [] ∧ FnOk P w K mg base CX0 k f fd ps sp
structure DefM (P : Program) (w : World) (K : PySem.W.Frag) (mg : Str → Option Value) (base : Heap) (C : Addr) (x : Str) (ps : List Str) (k : Nat) (sp : Sp) : Prop where
  ex : ∃ f fd, Meth K C x f ∧ Binds K fd ps [] ∧ FnOk P w K mg base CX0 k f fd ps sp
structure DefI (P : Program) (w : World) (K : PySem.W.Frag) (mg : Str → Option Value) (base : Heap) (C : Addr) (x : Str) (ps : List Str) (k : Nat) (sp : Sp) : Prop where
  ex : ∃ f fd, mg x = some (.ref C) ∧ Mk K C f ∧ Binds K fd ps [] ∧ FnOk P w K mg base CX0 k f fd ps sp
abbrev DefX (X : Cx) := Def X.prog X.w X.K X.mg X.base
abbrev DefMX (X : Cx) := DefM X.prog X.w X.K X.mg X.base
abbrev DefIX (X : Cx) := DefI X.prog X.w X.K X.mg X.base

section
variable {X : Cx} {N : List Str} {sc : Scope} {full : Bool} {vi st : List Bool} {δ : Sl} {os : Os} {D : DE}
variable {e a b : Expr} {d : Dt} {pos py : Pos} {es : List Expr} {ds : List Dt} {x : Str} {p : Pos} {ps : List Str} {k : Nat} {R : List Dt → Dt → Prop} {R' : List Dt → List Dt → Prop}

/-! ### calls -/
theorem jp_call (C : Ctx X N sc full vi st) (h : DefX X x ps k (spD X.K R)) (hr : Room k X.A) (ha : JA X (e :: es) δ os ds) (hR : R ds d) (hg : sc.names.lookup x = some .globalImplicit) (hdb : (x == ("__debug__" : Str)) = false := by decide)
    (he : starEach (e :: es) X.env = (false, eval e X.env) :: starEach es X.env := by rfl) (hpl : (backTo pos (starEach es X.env)).any (·.1) = false := by rfl) : JP X (.Call (.Name x p) (e :: es) [] pos) δ os d := fun G H σ O E Q q => by
  obtain ⟨f, fd, hm, kp, hb, F⟩ := h.ex
  exact wE_of (pe_call F hr (C.gl hg) hm kp hb .nil pass0 pa_w hdb he hpl) (ha G H σ O E _ fun vs G' H' g s => ⟨G', ds, d, g.gh, by rw [List.append_nil]; exact s, hR, fun v G2 H2 g2 s2 => q v G2 H2 (g.trans g2) s2⟩)
theorem jn_call (C : Ctx X N sc full vi st) {xs : List Dt} (h : DefX X x ps k (spN X.K R')) (hr : Room k X.A) (ha : JA X (e :: es) δ os ds) (hR : R' ds xs) (hg : sc.names.lookup x = some .globalImplicit) (hdb : (x == ("__debug__" : Str)) = false := by decide)
    (he : starEach (e :: es) X.env = (false, eval e X.env) :: starEach es X.env := by rfl) (hpl : (backTo pos (starEach es X.env)).any (·.1) = false := by rfl) : JN X (.Call (.Name x p) (e :: es) [] pos) δ os xs := fun G H σ O E Q q => by
  obtain ⟨f, fd, hm, kp, hb, F⟩ := h.ex
  exact wE_of (pe_call F hr (C.gl hg) hm kp hb .nil pass0 pa_w hdb he hpl) (ha G H σ O E _ fun vs G' H' g s => ⟨G', ds, xs, g.gh, by rw [List.append_nil]; exact s, hR, fun p us G2 H2 g2 hp gp h' s2 => q p us G2 H2 (g.trans g2) (fresh_back g.hh hp) gp h' s2⟩)
/-! a call that is handed what one owns; a scalar comes back -/
mutual
inductive Deep (os : Os) : Dt → Dt → Prop where
  | same (d : Dt) : Deep os d d
  | lst {p : Addr} {xs ys : List Dt} : (p, Ob.lst xs) ∈ os → DeepL os xs ys → Deep os (.at p) (.lst ys)
  | dT {p : Addr} {kvs : List (List Key × Dt)} : (p, Ob.dT kvs) ∈ os → Deep os (.at p) (.dT kvs)
inductive DeepL (os : Os) : List Dt → List Dt → Prop where
  | nil : DeepL os [] []
  | cons {d d' : Dt} {ds ds' : List Dt} : Deep os d d' → DeepL os ds ds' → DeepL os (d :: ds) (d' :: ds')
end
theorem DeepL.same : ∀ ds : List Dt, DeepL os ds ds
  | [] => .nil
  | d :: ds => .cons (.same d) (DeepL.same ds)
/-- what is seen and what is owned, together -/
def whole (os : Os) (G H : Hp) : Hp := fun a => if a ∈ os.map (·.1) then H a else G a
theorem whole_h {K : PySem.W.Frag} {G H : Hp} (O : Own K os G H) : Ex (whole os G H) H := fun a o h => by
  unfold whole at h
  split at h
  · exact h
  · exact O.gh a o h
theorem whole_g {K : PySem.W.Frag} {G H : Hp} (O : Own K os G H) : Ex G (whole os G H) := fun a o h => by
  unfold whole
  split
  · exact O.gh a o h
  · exact h
theorem whole_o {G H : Hp} {q : Addr × Ob} (h : q ∈ os) : whole os G H q.1 = H q.1 := by
  unfold whole
  rw [if_pos (List.mem_map.mpr ⟨q, h, rfl⟩)]
mutual
theorem Deep.sees {K : PySem.W.Frag} {G H : Hp} (O : Own K os G H) : ∀ {d d' : Dt} {v : V}, Deep os d d' → Sees K G d v → Sees K (whole os G H) d' v
  | _, _, _, .same d, s => s.mono (whole_g O) d
  | _, _, _, .lst (p := p) (ys := ys) hm hd, s => by
    obtain ⟨_, ho, h2, vs, rfl, h3⟩ := O.own _ hm
    unfold Sees
    exact ⟨p, vs, s, (whole_o hm).trans h2, DeepL.seen O hd h3⟩
  | _, _, _, .dT (p := p) (kvs := kvs) hm, s => by
    obtain ⟨_, ho, h2, vs, rfl, h3⟩ := O.own _ hm
    unfold Sees
    exact ⟨p, vs, s, (whole_o hm).trans h2, h3.mono (whole_g O) kvs⟩
theorem DeepL.seen {K : PySem.W.Frag} {G H : Hp} (O : Own K os G H) : ∀ {ds ds' : List Dt} {vs : List V}, DeepL os ds ds' → Seen K G ds vs → Seen K (whole os G H) ds' vs
  | _, _, _, .nil, s => by rw [s.nil_inv]; exact .nil
  | _, _, _, .cons h t, s => by
    obtain ⟨v, r, rfl, s1, s2⟩ := s.cons_inv
    exact .cons (Deep.sees O h s1) (DeepL.seen O t s2)
end
theorem jp_callO (C : Ctx X N sc full vi st) {ds' : List Dt} (h : DefX X x ps k (spD X.K R)) (hr : Room k X.A) (ha : JA X (e :: es) δ os ds) (hd : DeepL os ds ds') (hR : R ds' d) (hsc : scD d = true) (hg : sc.names.lookup x = some .globalImplicit) (hdb : (x == ("__debug__" : Str)) = false := by decide)
    (he : starEach (e :: es) X.env = (false, eval e X.env) :: starEach es X.env := by rfl) (hpl : (backTo pos (starEach es X.env)).any (·.1) = false := by rfl) : JP X (.Call (.Name x p) (e :: es) [] pos) δ os d := fun G H σ O E Q q => by
  obtain ⟨f, fd, hm, kp, hb, F⟩ := h.ex
  refine wE_of (pe_call F hr (C.gl hg) hm kp hb .nil pass0 pa_w hdb he hpl) (ha G H σ O E _ fun vs G' H' g s => ?_)
  have O' := O.grow g
  refine ⟨whole os G' H', ds', d, whole_h O', by rw [List.append_nil]; exact DeepL.seen O' hd s, hR, fun v G2 H2 g2 s2 => ?_⟩
  rw [scD_v hsc s2]
  exact q _ G' H2 (g.trans ⟨Ex.refl _, g2.hh, g.gh.trans g2.hh, fun _ _ z => .inl z⟩) (scD_s hsc)
/-- o.m(..) -/
theorem jp_meth {Cl : Addr} {fs : List (Str × Dt)} {o : Expr} {m : Str} {apos : Pos} {pl : Sem Bool} (hc : Cls X.K Cl) (h : DefMX X Cl m ps k (spD X.K R)) (hr : Room k X.A) (ho : JP X o δ os (.ins Cl fs)) (hn : fs.lookup m = none) (ha : JA X (e :: es) δ os ds) (hR : R (.ins Cl fs :: ds) d)
    (hst : starEach (e :: es) X.env = (false, eval e X.env) :: starEach es X.env := by rfl) (hpl : (backTo pos (starEach es X.env)).any (·.1) = false := by rfl)
    (ht : eval (.Call (.Attribute o m apos) (e :: es) [] pos) X.env = (do
      let ov ← eval o X.env
      standAt apos.atName
      let (f, first) ← holding [ov] (getMethod ov m pl)
      callWith pos f first (backTo pos (starEach (e :: es) X.env)) (backToKw pos (keywordEach [] X.env))) := by rfl) :
    JP X (.Call (.Attribute o m apos) (e :: es) [] pos) δ os d := fun G H σ O E Q q => by
  obtain ⟨f, fd, hm, hb, F⟩ := h.ex
  refine wE_of (pe_meth pe_w hc hm F hr hb .nil pass0 pa_w hst hpl ht) (ho G H σ O E _ fun v G1 H1 g1 s1 => ?_)
  have s1' := s1
  unfold Sees at s1'
  obtain ⟨a, dx, us, rfl, k2, k3⟩ := s1'
  refine ⟨a, dx, us, rfl, g1.gh _ _ k2, k3.none hn, ha G1 H1 σ (O.grow g1) (E.mono g1.gg) _ fun vs G2 H2 g2 s2 => ⟨G2, _, d, g2.gh, by rw [List.append_nil]; exact .cons (s1.mono g2.gg _) s2, hR, fun v G3 H3 g3 s3 => q v G3 H3 ((g1.trans g2).trans g3) s3⟩⟩
theorem jp_meth0 {Cl : Addr} {fs : List (Str × Dt)} {o : Expr} {m : Str} {apos : Pos} {pl : Sem Bool} (hc : Cls X.K Cl) (h : DefMX X Cl m ps k (spD X.K R)) (hr : Room k X.A) (ho : JP X o δ os (.ins Cl fs)) (hn : fs.lookup m = none) (hR : R [.ins Cl fs] d)
    (ht : eval (.Call (.Attribute o m apos) [] [] pos) X.env = (do
      let ov ← eval o X.env
      standAt apos.atName
      let (f, first) ← holding [ov] (getMethod ov m pl)
      callWith pos f first (backTo pos (starEach [] X.env)) (backToKw pos (keywordEach [] X.env))) := by rfl) :
    JP X (.Call (.Attribute o m apos) [] [] pos) δ os d := fun G H σ O E Q q => by
  obtain ⟨f, fd, hm, hb, F⟩ := h.ex
  refine wE_of (pe_meth0 pe_w hc hm F hr hb .nil pass0 ht) (ho G H σ O E _ fun v G1 H1 g1 s1 => ?_)
  have s1' := s1
  unfold Sees at s1'
  obtain ⟨a, dx, us, rfl, k2, k3⟩ := s1'
  exact ⟨a, dx, us, rfl, g1.gh _ _ k2, k3.none hn, G1, _, d, g1.gh, by rw [List.append_nil]; exact .cons s1 .nil, hR, fun v G3 H3 g3 s3 => q v G3 H3 (g1.trans g3) s3⟩
theorem jn_meth {Cl : Addr} {fs : List (Str × Dt)} {o : Expr} {m : Str} {apos : Pos} {pl : Sem Bool} {xs : List Dt} (hc : Cls X.K Cl) (h : DefMX X Cl m ps k (spN X.K R')) (hr : Room k X.A) (ho : JP X o δ os (.ins Cl fs)) (hn : fs.lookup m = none) (ha : JA X (e :: es) δ os ds) (hR : R' (.ins Cl fs :: ds) xs)
    (hst : starEach (e :: es) X.env = (false, eval e X.env) :: starEach es X.env := by rfl) (hpl : (backTo pos (starEach es X.env)).any (·.1) = false := by rfl)
    (ht : eval (.Call (.Attribute o m apos) (e :: es) [] pos) X.env = (do
      let ov ← eval o X.env
      standAt apos.atName
      let (f, first) ← holding [ov] (getMethod ov m pl)
      callWith pos f first (backTo pos (starEach (e :: es) X.env)) (backToKw pos (keywordEach [] X.env))) := by rfl) :
    JN X (.Call (.Attribute o m apos) (e :: es) [] pos) δ os xs := fun G H σ O E Q q => by
  obtain ⟨f, fd, hm, hb, F⟩ := h.ex
  refine wE_of (pe_meth pe_w hc hm F hr hb .nil pass0 pa_w hst hpl ht) (ho G H σ O E _ fun v G1 H1 g1 s1 => ?_)
  have s1' := s1
  unfold Sees at s1'
  obtain ⟨a, dx, us, rfl, k2, k3⟩ := s1'
  refine ⟨a, dx, us, rfl, g1.gh _ _ k2, k3.none hn, ha G1 H1 σ (O.grow g1) (E.mono g1.gg) _ fun vs G2 H2 g2 s2 => ⟨G2, _, xs, g2.gh, by rw [List.append_nil]; exact .cons (s1.mono g2.gg _) s2, hR, fun p us G3 H3 g3 hp gp h' s3 => q p us G3 H3 ((g1.trans g2).trans g3) (fresh_back (g1.trans g2).hh hp) gp h' s3⟩⟩
/-- C(..) -/
theorem jp_make (C : Ctx X N sc full vi st) {Cl : Addr} {RI : List Dt → List (Str × Dt) → Prop} {fs : List (Str × Dt)} (h : DefIX X Cl x ps k (spI X.K Cl RI)) (hr : Room (k + 1) X.A) (ha : JA X (e :: es) δ os ds) (hR : RI ds fs) (hg : sc.names.lookup x = some .globalImplicit) (hdb : (x == ("__debug__" : Str)) = false := by decide)
    (he : starEach (e :: es) X.env = (false, eval e X.env) :: starEach es X.env := by rfl) (hpl : (backTo pos (starEach es X.env)).any (·.1) = false := by rfl) : JP X (.Call (.Name x p) (e :: es) [] pos) δ os (.ins Cl fs) := fun G H σ O E Q q => by
  obtain ⟨f, fd, hm, mk, hb, F⟩ := h.ex
  refine wE_of (pe_make mk F hr (C.gl hg) hm hb .nil pass0 pa_w hdb he hpl) (ha G H σ O E _ fun vs G1 H1 g1 s1 => fun xn dx nx ndx ne => ?_)
  have e1 : Ex H1 (upd (upd H1 dx (.own xn)) xn (.ins Cl dx [])) := fun a o z => by
    rw [upd_ne (ne_of_none z nx), upd_ne (ne_of_none z ndx)]; exact z
  refine ⟨G1, xn, dx, vs, ds, fs, by rw [List.append_nil], upd_same, fresh_back g1.gh nx, g1.gh.trans e1, s1, hR, fun G2 H2 ws eg hk g2h new hx sf => ⟨rfl, ?_⟩⟩
  have gx : G2 xn = none := by
    cases z : G2 xn with
    | none => rfl
    | some o =>
      rcases new _ _ z with w | w
      · have := g1.gh _ _ w; rw [nx] at this; cases this
      · rw [upd_same] at w; cases w
  have ex2 : Ex G2 (upd G2 xn (.ins Cl dx ws)) := Ex.new gx
  refine q (.ref xn) (upd G2 xn (.ins Cl dx ws)) H2 (g1.trans ⟨eg.trans ex2, fun a o z => hk a o (ne_of_none z nx) (e1 a o z), fun a o z => ?_, fun a o z => ?_⟩) ?_
  · by_cases w : a = xn
    · subst w; rw [upd_same] at z; rw [hx]; exact z
    · rw [upd_ne w] at z; exact g2h a o z
  · by_cases w : a = xn
    · subst w; exact .inr nx
    · rw [upd_ne w] at z
      rcases new a o z with y | y
      · exact .inl y
      · exact .inr (fresh_back e1 y)
  · unfold Sees
    exact ⟨xn, dx, ws, rfl, upd_same, sf.mono ex2 fs⟩

/-! ### isinstance -/
/-- isinstance(e, int), isinstance(e, bool), isinstance(e, list) of a scalar, a list -/
def isiD (T : String) : Dt → Option Bool
  | .non => L2.kitB "NoneType" T
  | .bl _ => L2.kitB "bool" T
  | .int _ => L2.kitB "int" T
  | .str _ => L2.kitB "str" T
  | .lst _ => L2.kitB "list" T
  | .tup _ => none
  | _ => none
theorem jp_isi (C : Ctx X N sc full vi st) {T : String} {y : Str} {p2 : Pos} {r : Bool} (hm : X.mg "isinstance" = none) (ha : JP X a δ os d) (hy : X.mg y = none) (hT : bootBuiltins y = some (.type T)) (hr : isiD T d = some r) (hg : sc.names.lookup ("isinstance" : Str) = some .globalImplicit := by rfl) (hgy : sc.names.lookup y = some .globalImplicit := by rfl)
    (hs : starEach [a, .Name y p2] X.env = (false, eval a X.env) :: starEach [.Name y p2] X.env := by rfl) (hs2 : starEach [.Name y p2] X.env = (false, eval (.Name y p2) X.env) :: starEach [] X.env := by rfl) (hpl : (backTo pos (starEach [.Name y p2] X.env)).any (·.1) = false := by rfl)
    (hn : y ≠ "__name__" := by decide) (hdb : (y == ("__debug__" : Str)) = false := by decide) :
    JP X (.Call (.Name "isinstance" p) [a, .Name y p2] [] pos) δ os (.bl r) := fun G H σ O E Q q =>
  wE_of (pe_callB call_isi (C.gl hg) hm (by decide +kernel) (pa_cons pe_w (pa_cons (pe_bltn (C.gl hgy) hy hT (v := .ty T) rfl hn hdb) pa_nil hs2) hs) (he := hs) (hpl := hpl)) (ha G H σ O E _ fun v G' H' g s => by
    have fin : Q (.bl r) H' := q _ G' H' g (by unfold Sees; rfl)
    cases d with
    | non => exact ⟨v, .ty T, _, _, r, rfl, .ty T, (by rw [show v = .non from s]; exact .base (.non)), hr, fin⟩
    | bl b => exact ⟨v, .ty T, _, _, r, rfl, .ty T, (by rw [show v = .bl b from s]; exact .base (.bl _)), hr, fin⟩
    | int b => exact ⟨v, .ty T, _, _, r, rfl, .ty T, (by rw [show v = .int b from s]; exact .base (.int _)), hr, fin⟩
    | str b => exact ⟨v, .ty T, _, _, r, rfl, .ty T, (by rw [show v = .str b from s]; exact .base (.str _)), hr, fin⟩
    | lst xs =>
      unfold Sees at s
      obtain ⟨a, vs, rfl, h2, h3⟩ := s
      exact ⟨.ref a, .ty T, _, _, r, rfl, .ty T, .base (.lst (g.gh _ _ h2)), hr, fin⟩
    | _ => cases hr)
end

/-! ### bodies -/
section
variable {P : Program} {w : World} {K : PySem.W.Frag} {mg : Str → Option Value} {base : Heap} {nm qual : Str} {params : Arguments} {body : List Stmt} {scope : Scope} {dvs : List V} {kws : List (Str × V)} {f : Addr} {fd : FuncData} {N ps : List Str} {k : Nat} {vi st : List Bool}
/-- a body's place -/
structure InDef (P : Program) (w : World) (K : PySem.W.Frag) (mg : Str → Option Value) (base : Heap) (X : Cx) : Prop where
  prog : X.prog = P
  w : X.w = w
  K : X.K = K
  mg : X.mg = mg
  base : X.base = base
abbrev slots (N : List Str) (ds : List Dt) : Sl := ds.map some ++ List.replicate (N.length - ds.length) none
theorem env_start {G : Hp} {ds : List Dt} {vs : List V} (h : Seen K G ds vs) (hl : ds.length ≤ N.length) : EnvS K G (slots N ds) (L2.start N vs) := by
  refine ⟨?_, fun i d e => ?_⟩
  · unfold slots L2.start
    rw [List.length_append, List.length_append, List.length_map, List.length_map, List.length_replicate, List.length_replicate, h.len]
  · unfold slots at e
    unfold L2.start
    by_cases hi : i < ds.length
    · rw [List.getElem?_append_left (by simpa using hi), List.getElem?_map] at e
      obtain ⟨d', e1, e2⟩ := Option.map_eq_some_iff.mp e
      cases e2
      obtain ⟨v, h1, h2⟩ := h.get e1
      exact ⟨v, by rw [List.getElem?_append_left (by rw [List.length_map, ← h.len]; exact hi), List.getElem?_map, h1]; rfl, h2⟩
    · rw [List.getElem?_append_right (by simpa using hi), List.getElem?_replicate] at e
      split at e <;> cases e
theorem ctx_of {cdv : Value} {A : Around} {outer : List Env} {s : Shared} {H : Hp} {E : XK} (S : FnScope N ps scope) (h1 : N.map (visB scope) = vi) (h2 : N.map (stB true scope) = st) : Ctx (cxOf CX0 P w K mg base N qual scope f cdv A outer s H E).nox N scope true vi st where
  hN := rfl
  hsc := rfl
  nd := S.nd
  calm := rfl
  fn := fun _ _ => rfl
  po := PassesOwn.never
  kind := S.kind
  hvi := h1
  hst := h2
theorem fn_D {R : List Dt → Dt → Prop} (F : FunD K nm qual params body scope dvs kws f fd) (S : FnScope N ps scope) (h1 : N.map (visB scope) = vi) (h2 : N.map (stB true scope) = st) (hl : ∀ ds d, R ds d → ds.length = ps.length)
    (h : ∀ X : Cx, InDef P w K mg base X → Ctx X N scope true vi st → Room k X.A → ∀ ds d, R ds d → JB X body (slots N ds) [] { nx := fun _ _ => d = .non, rt := fun d' _ => d' = d }) : FnOk P w K mg base CX0 (k + 1) f fd ps (spD K R) := by
  have hpl : ps.length ≤ N.length := by have := congrArg List.length S.pre; rw [List.length_take] at this; omega
  refine F.ok S (fun vs H Q E hsp => ?_) (fun cdv A outer s H vs Q E hr hsp => ?_)
  · obtain ⟨B, ds, d, _, hs, hR, _⟩ := hsp
    rw [← hs.len, hl ds d hR]
  · obtain ⟨B, ds, d, hB, hs, hR, q⟩ := hsp
    refine ⟨wB (cxOf CX0 P w K mg base N qual scope f cdv A outer s H E).nox body, PSs.nox pss_w, ?_⟩
    have J := h _ ⟨rfl, rfl, rfl, rfl, rfl⟩ (ctx_of (P := P) (w := w) (K := K) (mg := mg) (base := base) (qual := qual) (f := f) (cdv := cdv) (A := A) (outer := outer) (s := s) (H := H) (E := E) S h1 h2) hr ds d hR
    have A0 : At K B H [] B H := ⟨⟨hB, fun _ z => (nomatch z), List.nodup_nil⟩, Ex.refl _, Ex.refl _, fun _ _ z => .inl z, fun _ z => (nomatch z)⟩
    refine wB_mono (J B H B H _ A0 (env_start hs (by rw [hl ds d hR]; exact hpl))) (fun σ H' ⟨δ, os, G, A', _, e⟩ => ?_) (fun v H' ⟨d', os, G, A', s', e⟩ => ?_) (fun σ H' ⟨_, _, _, _, _, z⟩ => z) (fun σ H' ⟨_, _, _, _, _, z⟩ => z)
    · subst e
      exact q .non G H' ⟨A'.bg, A'.h0, A'.ow.gh, A'.new⟩ (by unfold Sees; rfl)
    · subst e
      exact q v G H' ⟨A'.bg, A'.h0, A'.ow.gh, A'.new⟩ s'
/-- a def that hands back a list of its own -/
theorem fn_N {R : List Dt → List Dt → Prop} (F : FunD K nm qual params body scope dvs kws f fd) (S : FnScope N ps scope) (h1 : N.map (visB scope) = vi) (h2 : N.map (stB true scope) = st) (hl : ∀ ds d, R ds d → ds.length = ps.length)
    (h : ∀ X : Cx, InDef P w K mg base X → Ctx X N scope true vi st → Room k X.A → ∀ ds xs, R ds xs → JB X body (slots N ds) [] { nx := fun _ _ => False, rt := fun d' os => ∃ p, d' = .at p ∧ (p, Ob.lst xs) ∈ os }) : FnOk P w K mg base CX0 (k + 1) f fd ps (spN K R) := by
  have hpl : ps.length ≤ N.length := by have := congrArg List.length S.pre; rw [List.length_take] at this; omega
  refine F.ok S (fun vs H Q E hsp => ?_) (fun cdv A outer s H vs Q E hr hsp => ?_)
  · obtain ⟨B, ds, d, _, hs, hR, _⟩ := hsp
    rw [← hs.len, hl ds d hR]
  · obtain ⟨B, ds, xs, hB, hs, hR, q⟩ := hsp
    refine ⟨wB (cxOf CX0 P w K mg base N qual scope f cdv A outer s H E).nox body, PSs.nox pss_w, ?_⟩
    have J := h _ ⟨rfl, rfl, rfl, rfl, rfl⟩ (ctx_of (P := P) (w := w) (K := K) (mg := mg) (base := base) (qual := qual) (f := f) (cdv := cdv) (A := A) (outer := outer) (s := s) (H := H) (E := E) S h1 h2) hr ds xs hR
    have A0 : At K B H [] B H := ⟨⟨hB, fun _ z => (nomatch z), List.nodup_nil⟩, Ex.refl _, Ex.refl _, fun _ _ z => .inl z, fun _ z => (nomatch z)⟩
    refine wB_mono (J B H B H _ A0 (env_start hs (by rw [hl ds xs hR]; exact hpl))) (fun σ H' ⟨δ, os, G, A', _, e⟩ => e.elim) (fun v H' ⟨d', os, G, A', s', p, e, hm⟩ => ?_) (fun σ H' ⟨_, _, _, _, _, z⟩ => z) (fun σ H' ⟨_, _, _, _, _, z⟩ => z)
    subst e
    obtain ⟨gp, ho, k1, us, rfl, k3⟩ := A'.ow.own _ hm
    have s' : v = .ref p := s'
    subst s'
    exact q p us G H' ⟨A'.bg, A'.h0, A'.ow.gh, A'.new⟩ (A'.own0 _ hm) gp k1 k3
/-- an __init__ -/
theorem fn_I {C : Addr} {R : List Dt → List (Str × Dt) → Prop} (F : FunD K nm qual params body scope dvs kws f fd) (S : FnScope N ps scope) (h1 : N.map (visB scope) = vi) (h2 : N.map (stB true scope) = st) (hl : ∀ ds d, R ds d → ds.length + 1 = ps.length)
    (h : ∀ X : Cx, InDef P w K mg base X → Ctx X N scope true vi st → Room k X.A → ∀ ds fs, R ds fs → ∀ p dx, JB X body (slots N (.at p :: ds)) [(p, .ins C dx [])] { nx := fun _ os => (p, Ob.ins C dx fs) ∈ os, rt := fun _ _ => False }) : FnOk P w K mg base CX0 (k + 1) f fd ps (spI K C R) := by
  have hpl : ps.length ≤ N.length := by have := congrArg List.length S.pre; rw [List.length_take] at this; omega
  refine F.ok S (fun vs H Q E hsp => ?_) (fun cdv A outer s H vs Q E hr hsp => ?_)
  · obtain ⟨B, p, dx, us, ds, fs, rfl, _, _, _, hs, hR, _⟩ := hsp
    rw [List.length_cons, ← hs.len, hl ds fs hR]
  · obtain ⟨B, p, dx, us, ds, fs, rfl, hp, bp, hB, hs, hR, q⟩ := hsp
    refine ⟨wB (cxOf CX0 P w K mg base N qual scope f cdv A outer s H E).nox body, PSs.nox pss_w, ?_⟩
    have J := h _ ⟨rfl, rfl, rfl, rfl, rfl⟩ (ctx_of (P := P) (w := w) (K := K) (mg := mg) (base := base) (qual := qual) (f := f) (cdv := cdv) (A := A) (outer := outer) (s := s) (H := H) (E := E) S h1 h2) hr ds fs hR p dx
    -- the heap at the entry, the instance left out
    let H0 : Hp := fun a => if a = p then none else H a
    have e0 : Ex H0 H := fun a o z => by
      have z : (if a = p then none else H a) = some o := z
      split at z
      · cases z
      · exact z
    have A0 : At K B H0 [(p, .ins C dx [])] B H := by
      refine ⟨⟨hB, fun q hq => ?_, by simp⟩, Ex.refl _, e0, fun _ _ z => .inl z, fun q hq => ?_⟩
      · rw [List.mem_singleton.mp hq]
        exact ⟨bp, _, hp, [], rfl, by unfold SeenF; rfl⟩
      · rw [List.mem_singleton.mp hq]
        show (if p = p then none else H p) = none
        rw [if_pos rfl]
    have hs' : Seen K B (.at p :: ds) (.ref p :: us) := .cons (by unfold Sees; rfl) hs
    refine wB_mono (J B H0 B H _ A0 (env_start hs' (by rw [List.length_cons, hl ds fs hR]; exact hpl))) (fun σ H' ⟨δ, os, G, A', _, hm⟩ => ?_) (fun v H' ⟨d', os, G, A', s', e⟩ => e.elim) (fun σ H' ⟨_, _, _, _, _, z⟩ => z) (fun σ H' ⟨_, _, _, _, _, z⟩ => z)
    obtain ⟨gp, ho, k1, ws, rfl, k3⟩ := A'.ow.own _ hm
    refine q G H' ws A'.bg (fun a o ne z => A'.h0 a o ?_) A'.ow.gh (fun a o z => ?_) k1 k3
    · show (if a = p then none else H a) = some o
      rw [if_neg ne]; exact z
    · rcases A'.new a o z with y | y
      · exact .inl y
      · have y : (if a = p then none else H a) = none := y
        split at y
        · rename_i e; subst e; rw [gp] at z; cases z
        · exact .inr y
end
end DL

set_option maxHeartbeats 4000000
/-! D6: rules that look at the data themselves; small words. -/
namespace DL
open PySem PySem.Spec PyProof.Rows L2 Evl
section
variable {X : Cx} {N : List Str} {sc : Scope} {full : Bool} {vi st : List Bool} {δ : Sl} {os : Os} {D : DE}
variable {a b e it tg : Expr} {d f r : Dt} {pos p : Pos}
inductive Ixd (os : Os) : Dt → Dt → Dt → Prop where
  | lst {d : Dt} {xs : List Dt} {i : Int} {r : Dt} (h : Lk os d xs) (k : atI xs i = some r) : Ixd os d (.int i) r
  | tup {xs : List Dt} {i : Int} {r : Dt} (k : atI xs i = some r) : Ixd os (.tup xs) (.int i) r
  | scr {xs : List Dt} {i : Int} {r : Dt} (k : atI xs i = some r) : Ixd os (.scr xs) (.int i) r
theorem jp_ix (ha : JP X a δ os d) (hb : JP X b δ os f) (h : Ixd os d f r) (hs : PlainIx b := by exact fun _ _ => rfl) : JP X (.Subscript a b pos) δ os r := by
  cases h with
  | lst h k => exact jp_ixL ha hb h k hs
  | tup k => exact jp_ixT ha hb k hs
  | scr k => exact jp_ixS ha hb k hs
inductive Lnd (os : Os) : Dt → Int → Prop where
  | lst {d : Dt} {xs : List Dt} (h : Lk os d xs) : Lnd os d xs.length
  | tup {xs : List Dt} : Lnd os (.tup xs) xs.length
  | scr {xs : List Dt} : Lnd os (.scr xs) xs.length
  | str {x : Str} (h : x.length ≤ 100000) : Lnd os (.str x) x.length
theorem jp_lenX (C : Ctx X N sc full vi st) {n : Int} (hm : X.mg "len" = none) (ha : JP X a δ os d) (h : Lnd os d n) (hg : sc.names.lookup ("len" : Str) = some .globalImplicit := by rfl) (hs : starEach [a] X.env = (false, eval a X.env) :: starEach [] X.env := by rfl) :
    JP X (.Call (.Name "len" p) [a] [] pos) δ os (.int n) := by
  cases h with
  | lst h => exact jp_len C hm ha h hg hs
  | tup => exact jp_lenT C hm ha hg hs
  | scr => exact jp_lenS C hm ha hg hs
  | str h => exact jp_lenStr C hm ha h hg hs
inductive Sqd (os : Os) : Dt → List Dt → Prop where
  | lst {d : Dt} {xs : List Dt} (h : Lk os d xs) : Sqd os d xs
  | tup {xs : List Dt} : Sqd os (.tup xs) xs
theorem jp_tupleX (C : Ctx X N sc full vi st) {xs : List Dt} (hm : X.mg "tuple" = none) (ha : JP X a δ os d) (h : Sqd os d xs) (hg : sc.names.lookup ("tuple" : Str) = some .globalImplicit := by rfl) (hs : starEach [a] X.env = (false, eval a X.env) :: starEach [] X.env := by rfl) :
    JP X (.Call (.Name "tuple" p) [a] [] pos) δ os (.tup xs) := by
  cases h with
  | lst h => exact jp_tuple C hm ha h hg hs
  | tup => exact jp_tupleT C hm ha hg hs
theorem jn_listX (C : Ctx X N sc full vi st) {xs : List Dt} (hm : X.mg "list" = none) (ha : JP X a δ os d) (h : Sqd os d xs) (hg : sc.names.lookup ("list" : Str) = some .globalImplicit := by rfl) (hs : starEach [a] X.env = (false, eval a X.env) :: starEach [] X.env := by rfl) :
    JN X (.Call (.Name "list" p) [a] [] pos) δ os xs := by
  cases h with
  | lst h => exact jn_list C hm ha h hg hs
  | tup => exact jn_listT C hm ha hg hs
inductive Itd : Dt → List Dt → Prop where
  | lst {xs : List Dt} : Itd (.lst xs) xs
  | tup {xs : List Dt} : Itd (.tup xs) xs
theorem ji_X {xs : List Dt} (h : JP X it δ os d) (k : Itd d xs) : JI X tg it δ os xs := by
  cases k with
  | lst => exact ji_list h
  | tup => exact ji_tup h
theorem JI.is {xs ys : List Dt} (h : JI X tg it δ os xs) (e : xs = ys) : JI X tg it δ os ys := e ▸ h
/-- a text, sign by sign -/
def signs (x : Str) : List Dt := x.cps.toList.map fun (c : Nat) => Dt.str ⟨#[c]⟩
theorem signs_seen {K : PySem.W.Frag} {G : Hp} (l : List Nat) : Seen K G (l.map fun (c : Nat) => Dt.str ⟨#[c]⟩) (l.map fun (c : Nat) => V.str ⟨#[c]⟩) := by
  induction l with
  | nil => exact .nil
  | cons k l ih => exact .cons (by unfold Sees; rfl) ih
theorem ji_str {x : Str} (h : JP X it δ os (.str x)) : JI X tg it δ os (signs x) := fun G H σ O E R q =>
  wI_of (pi_str pe_w) (h G H σ O E _ fun v G' H' g s => by
    refine ⟨x, s, q _ G' H' g ⟨_, signs_seen _, fun H2 e i hi => ?_, fun H2 e => ?_, fun H2 i y H3 e hi yl => ?_⟩⟩
    · show i < x.cps.size
      simpa using hi
    · show x.cps.size ≤ _
      simp
    · obtain ⟨y1, c, y2, y3⟩ := yl
      refine ⟨y1, ?_⟩
      rw [List.getElem?_map, y3]
      have : x.cps.toList[i]? = some c := by rw [Array.getElem?_toList]; exact y2
      rw [this]; rfl)
theorem jo_inS {c : Nat} {z : Str} : JO X (compareOp .In) os (.str ⟨#[c]⟩) (.str z) (.bl (decide (c ∈ z.cps.toList))) := jo_of op_in_sign (fun _ _ _ _ _ s1 s2 _ q => ⟨c, z, s1, s2, q⟩) fun _ => rfl
theorem jo_notInS {c : Nat} {z : Str} : JO X (compareOp .NotIn) os (.str ⟨#[c]⟩) (.str z) (.bl (!decide (c ∈ z.cps.toList))) := jo_of op_notIn_sign (fun _ _ _ _ _ s1 s2 _ q => ⟨c, z, s1, s2, q⟩) fun _ => rfl
/-- facts of the program's text in a block -/
theorem InBlk.tx {X' : Cx} (h : InBlk X X') {M : Program → World → PySem.W.Frag → (Str → Option Value) → Heap → Prop} (T : M X.prog X.w X.K X.mg X.base) : M X'.prog X'.w X'.K X'.mg X'.base := by
  obtain ⟨h1, h2, h3, h4, h5, _⟩ := h
  rw [h1, h2, h3, h4, h5]
  exact T
theorem InBlk.rm {X' : Cx} (h : InBlk X X') {k : Nat} (r : Room k X.A) : Room k X'.A := by rw [h.A]; exact r
end
/-- a value: None or a number -/
def oi : Option Int → Dt
  | none => .non
  | some i => .int i
theorem oi_none : oi none = .non := rfl
theorem oi_some (i : Int) : oi (some i) = .int i := rfl
theorem isNon_oi (x : Option Int) : isNon (oi x) = x.isNone := by cases x <;> rfl
theorem scD_oi (x : Option Int) : scD (oi x) = true := by cases x <;> rfl
theorem at_map {α : Type} {l : List α} {f : α → Dt} {i : Int} {t : α} (h0 : 0 ≤ i) (h : l[i.toNat]? = some t) : atI (l.map f) i = some (f t) := by
  obtain ⟨n, rfl⟩ : ∃ n : Nat, i = (n : Int) := ⟨i.toNat, by omega⟩
  exact atI_nat' (by rw [List.getElem?_map]; simp only [Int.toNat_natCast] at h; rw [h]; rfl)
theorem at_mapN {α : Type} {l : List α} {f : α → Dt} {n : Nat} {t : α} (h : l[n]? = some t) : atI (l.map f) (n : Int) = some (f t) := at_map (by omega) (by simpa using h)
theorem at_getD {l : List Int} {i : Int} (h0 : 0 ≤ i) (h : i < l.length) : atI (l.map Dt.int) i = some (.int (l.getD i.toNat 0)) := by
  refine at_map h0 ?_
  have : i.toNat < l.length := by omega
  rw [List.getD_eq_getElem?_getD, List.getElem?_eq_getElem this]
  rfl
theorem outs_all {α : Type} (l : List α) (g : α → Dt) : outs l (fun _ => true) g = l.map g := by
  unfold outs
  rw [List.filter_eq_self.mpr (fun _ _ => rfl)]
theorem putD_le {f : Str} {d : Dt} : ∀ {fs : List (Str × Dt)} {n : Nat}, fs.length ≤ n → (putD f d fs).length ≤ n + 1
  | [], n, _ => by show 1 ≤ n + 1; omega
  | (m, e) :: r, n, h => by
    rw [List.length_cons] at h
    show (if m = f then (m, d) :: r else (m, e) :: putD f d r).length ≤ n + 1
    split
    · rw [List.length_cons]; omega
    · have := putD_le (f := f) (d := d) (fs := r) (n := n - 1) (by omega)
      rw [List.length_cons]; omega
/-- a list or a tuple of these -/
def SeqIs (d : Dt) (xs : List Dt) : Prop := d = .tup xs ∨ d = .lst xs
theorem SeqIs.it {d : Dt} {xs : List Dt} (h : SeqIs d xs) : Itd d xs := by
  rcases h with rfl | rfl
  · exact .tup
  · exact .lst
theorem SeqIs.sq {d : Dt} {xs : List Dt} {os : Os} (h : SeqIs d xs) : Sqd os d xs := by
  rcases h with rfl | rfl
  · exact .tup
  · exact .lst .l
theorem SeqIs.ln {d : Dt} {xs : List Dt} {os : Os} (h : SeqIs d xs) : Lnd os d (xs.length : Int) := by
  rcases h with rfl | rfl
  · exact .tup
  · exact .lst .l
theorem SeqIs.ix {d r : Dt} {xs : List Dt} {os : Os} {i : Int} (h : SeqIs d xs) (k : atI xs i = some r) : Ixd os d (.int i) r := by
  rcases h with rfl | rfl
  · exact .tup k
  · exact .lst .l k
theorem Lnd.is {os : Os} {d : Dt} {n m : Int} (h : Lnd os d n) (e : n = m) : Lnd os d m := e ▸ h
theorem SeqIs.t {xs : List Dt} : SeqIs (.tup xs) xs := .inl rfl
theorem SeqIs.l {xs : List Dt} : SeqIs (.lst xs) xs := .inr rfl
end DL

set_option maxHeartbeats 4000000
/-! D7: a list of new lists, all one's own; groups given away; comparisons of numbers that may lack; the greatest of a list; pairs compared. -/
namespace DL
open PySem PySem.Spec PyProof.Rows L2 Evl
section
variable {X : Cx} {N : List Str} {sc : Scope} {full : Bool} {vi st : List Bool} {δ : Sl} {os os' grp : Os} {D : DE}
variable {a b e it tg elt : Expr} {d d' f r : Dt} {pos py p : Pos} {body : List Stmt}
theorem jo_eqO {x : Option Int} {j : Int} : JO X (compareOp .Eq) os (oi x) (.int j) (.bl (decide (x = some j))) := by
  cases x with
  | none => exact (jo_eq (d := .non) (e := .int j) rfl).is (by show Dt.bl (decide (V.non = V.int j)) = _; congr 1)
  | some i => exact (jo_eq (d := .int i) (e := .int j) rfl).is (by show Dt.bl (decide (V.int i = V.int j)) = _; congr 1; simp)
theorem jo_neO {x y : Option Int} : JO X (compareOp .NotEq) os (oi x) (oi y) (.bl (!decide (x = y))) := by
  cases x with
  | none =>
    cases y with
    | none => exact (jo_ne (d := .non) (e := .non) rfl).is (by show Dt.bl (!decide (V.non = V.non)) = _; simp)
    | some j => exact (jo_ne (d := .non) (e := .int j) rfl).is (by show Dt.bl (!decide (V.non = V.int j)) = _; congr 1)
  | some i =>
    cases y with
    | none => exact (jo_ne (d := .int i) (e := .non) rfl).is (by show Dt.bl (!decide (V.int i = V.non)) = _; congr 1)
    | some j => exact (jo_ne (d := .int i) (e := .int j) rfl).is (by show Dt.bl (!decide (V.int i = V.int j)) = _; congr 2; simp)
/-- == on what may lack, as the law asks it -/
theorem jo_eqOo {x : Option Int} {j : Int} (hx : d = oi x) : JO X (compareOp .Eq) os d (.int j) (.bl (decide (x = some j))) := hx ▸ jo_eqO
theorem seenI {K : PySem.W.Frag} {G : Hp} : ∀ {ns : List Int} {vs : List V}, Seen K G (ns.map Dt.int) vs → vs = ns.map V.int
  | [], _, h => h.nil_inv
  | n :: ns, _, h => by
    obtain ⟨v, r, rfl, s, t⟩ := h.cons_inv
    rw [show v = .int n from s, seenI t]; rfl
theorem jp_maxL (C : Ctx X N sc full vi st) {ns : List Int} {m : Int} (hm : X.mg "max" = none) (ha : JP X a δ os d) (hl : Lk os d (ns.map Dt.int)) (h1 : m ∈ ns) (h2 : ∀ y ∈ ns, y ≤ m) (hg : sc.names.lookup ("max" : Str) = some .globalImplicit := by rfl)
    (hs : starEach [a] X.env = (false, eval a X.env) :: starEach [] X.env := by rfl) : JP X (.Call (.Name "max" p) [a] [] pos) δ os (.int m) := fun G H σ O E Q q =>
  wE_of (pe_callB (cr_max C.calm) (C.gl hg) hm (by decide +kernel) pa_w (he := hs)) (ja_cons ha ja_nil hs G H σ O E _ fun vs G' H' g s => by
    obtain ⟨v, rfl, s1⟩ := seen1 s
    obtain ⟨p, us, rfl, k2, k3⟩ := hl.see (O.grow g) s1
    obtain rfl := seenI k3
    refine ⟨p, ns, rfl, SqL.of k2, List.length_pos_of_mem h1, fun m' k4 k5 => ?_⟩
    have : m' = m := Int.le_antisymm (h2 m' k4) (k5 m h1)
    subst this
    exact q _ G' H' g (by unfold Sees; rfl))
theorem dp2 {K : PySem.W.Frag} {G H : Hp} {os : Os} {v : V} {i j : Int} (O : Own K os G H) (s : Sees K G (.tup [.int i, .int j]) v) : Dp K H v (.tuple [.int i, .int j]) := by
  obtain ⟨a, vs, rfl, h2, h3⟩ := tup_see O s
  obtain ⟨v1, v2, rfl, s1, s2⟩ := seen2 h3
  rw [show v1 = .int i from s1, show v2 = .int j from s2] at h2
  exact .tup h2 (.cons (.int i) (.cons (.int j) .nil))
theorem jo_neT {i j k l : Int} (hu : X.A.units + 64 < cLine) : JO X (compareOp .NotEq) os (.tup [.int i, .int j]) (.tup [.int k, .int l]) (.bl (!(i == k && j == l))) := fun G H x y O s1 s2 Q q =>
  wO_of (op_neD hu) ⟨_, _, dp2 O s1, dp2 O s2, rfl, rfl, by
    have : PyData.eqv (.tuple [.int i, .int j]) (.tuple [.int k, .int l]) = (i == k && j == l) := by
      simp [PyData.eqv, PyData.eqvAll]
    rw [this]
    exact q _ G H (Grow.refl O.gh) (by unfold Sees; rfl)⟩
/-! ### a list of new lists -/
def zipO (ps : List Addr) (yss : List (List Dt)) : Os := (ps.zip yss).map fun q => (q.1, Ob.lst q.2)
theorem zipO_nil : zipO [] [] = [] := rfl
theorem zipO_cons {p : Addr} {ps : List Addr} {ys : List Dt} {yss : List (List Dt)} : zipO (p :: ps) (ys :: yss) = (p, .lst ys) :: zipO ps yss := rfl
theorem zipO_keys : ∀ {ps : List Addr} {yss : List (List Dt)}, ps.length = yss.length → (zipO ps yss).map (·.1) = ps
  | [], _, _ => by simp [zipO]
  | p :: ps, [], h => by cases h
  | p :: ps, ys :: yss, h => by rw [zipO_cons, List.map_cons, zipO_keys (by simpa using h)]
theorem zipO_snoc {ps : List Addr} {yss : List (List Dt)} {p : Addr} {ys : List Dt} (h : ps.length = yss.length) : zipO (ps ++ [p]) (yss ++ [ys]) = zipO ps yss ++ [(p, .lst ys)] := by
  unfold zipO
  rw [List.zip_append h, List.map_append]; rfl
theorem zipO_mem {ps : List Addr} {yss : List (List Dt)} {j : Nat} {p : Addr} {ys : List Dt} (h1 : ps[j]? = some p) (h2 : yss[j]? = some ys) : (p, Ob.lst ys) ∈ zipO ps yss := by
  refine List.mem_map.mpr ⟨(p, ys), List.mem_iff_getElem?.mpr ⟨j, ?_⟩, rfl⟩
  rw [List.getElem?_zip_eq_some]
  exact ⟨h1, h2⟩
theorem zipO_put : ∀ {ps : List Addr} {yss : List (List Dt)} {j : Nat} {p : Addr} {ys : List Dt} {os : Os}, ps.Nodup → ps.length = yss.length → ps[j]? = some p → putO p (.lst ys) (zipO ps yss ++ os) = zipO ps (yss.set j ys) ++ os
  | [], _, _, _, _, _, _, _, h => by simp at h
  | p :: ps, [], _, _, _, _, _, h, _ => by cases h
  | p :: ps, zs :: yss, 0, q, ys, os, nd, h, e => by
    simp at e; subst e
    rw [zipO_cons, List.set_cons_zero, zipO_cons]
    exact putO_hd
  | p :: ps, zs :: yss, j + 1, q, ys, os, nd, h, e => by
    have e : ps[j]? = some q := by simpa using e
    have hne : p ≠ q := fun z => (List.nodup_cons.mp nd).1 (z ▸ List.mem_of_getElem? e)
    rw [zipO_cons, List.set_cons_succ, zipO_cons, List.cons_append, putO_tl hne, zipO_put (List.nodup_cons.mp nd).2 (by simpa using h) e]; rfl
theorem zipO_deep : ∀ {ps : List Addr} {yss : List (List Dt)} {os : Os}, ps.length = yss.length → (∀ q ∈ zipO ps yss, q ∈ os) → DeepL os (ps.map .at) (yss.map .lst)
  | [], [], _, _, _ => .nil
  | [], _ :: _, _, h, _ => by cases h
  | p :: ps, [], _, h, _ => by cases h
  | p :: ps, ys :: yss, os, h, k => .cons (.lst (k _ List.mem_cons_self) (DeepL.same _)) (zipO_deep (by simpa using h) fun q hq => k q (List.mem_cons_of_mem _ hq))
/-- what is kept of the lists made so far -/
structure Made (K : PySem.W.Frag) (Ga Ha G H : Hp) (Da : Addr) (ps : List Addr) (yss : List (List Dt)) : Prop where
  gr : Grow Ga Ha G H
  len : ps.length = yss.length
  nd : (Da :: ps).Nodup
  da : H Da = some (.lst (ps.map V.ref))
  gd : G Da = none
  it : ∀ q ∈ zipO ps yss, Ha q.1 = none ∧ G q.1 = none ∧ ∃ ho, H q.1 = some ho ∧ ObS K G q.2 ho
theorem lcN_read (C : Ctx X N sc full vi st) {α : Type} (l : List α) (f : α → Dt) (g : α → List Dt) {scope : Scope} {own : List (Str × Nat)} {vi' st' : List Bool} (hk : scope.kind = .function)
    (h1 : N.map (visB (relS scope sc)) = vi') (h2 : N.map (stB false (relS scope sc)) = st') (hi : JI X tg it δ os (l.map f)) (hz : l.length < 100000)
    (hs : ∀ t ∈ l, ∃ δ2, ∀ X', InBlk X X' → Ctx X' N (relS scope sc) false vi' st' → JG X' tg (own.map (·.2)) (f t) (wipeD δ (own.map (·.2))) δ2 ∧ JN X' elt δ2 os (g t))
    {G H : Hp} {σ : L2.St} (O : Own X.K os G H) (E : EnvS X.K G δ σ) {Q : VK} (q : ∀ p ps Ga Ha G' H', Grow G H Ga Ha → Ha p = none → Made X.K Ga Ha G' H' p ps (l.map g) → Q (.ref p) H') :
    tLc (wI X tg it) (fun v σ H Q => ∀ s H0 Cc cl fp, wG (X.blk s H0 scope (compEnvC scope cl Cc X.env) fp) tg v σ H Q) (fun σ H Q => ∀ s H0 Cc cl fp, wFs (X.blk s H0 scope (compEnvC scope cl Cc X.env) fp) [] σ H Q)
      (fun σ H Q => ∀ s H0 Cc cl fp, wE (X.blk s H0 scope (compEnvC scope cl Cc X.env) fp) elt σ H Q) (own.map (·.2)) σ H Q := by
  refine hi G H σ O E _ fun J G1 H1 g1 ok Da hD => ?_
  obtain ⟨vs, s, hgo, hstop, hy⟩ := ok
  have hlen : l.length = vs.length := by rw [← s.len, List.length_map]
  refine ⟨fun i m H2 => m = vs.length - i ∧ i ≤ vs.length ∧ ∃ G2 ps, Made X.K G1 H1 G2 H2 Da ps ((l.take i).map g),
    ⟨vs.length, by simp, Nat.zero_le _, G1, [], ⟨Grow.hid g1.gh hD, rfl, by simp, upd_same, fresh_back g1.gh hD, fun q hq => by simp [zipO] at hq⟩⟩, ?_⟩
  rintro i m H2 ⟨rfl, hi', G2, ps, M⟩
  have ex2 : Ex G1 H2 := M.gr.gg.trans M.gr.gh
  by_cases hlt : i < vs.length
  · refine .inr ⟨hgo H2 ex2 i hlt, fun H3 => ∃ G3 ps, Made X.K G1 H1 G3 H3 Da ps ((l.take (i + 1)).map g),
      fun H3 q3 => ⟨vs.length - (i + 1), by omega, rfl, hlt, q3⟩, fun x H3 y => ?_⟩
    obtain ⟨rfl, hx⟩ := hy H2 i x H3 ex2 hlt y
    have hil : i < l.length := by omega
    have hmem : l[i] ∈ l := List.getElem_mem _
    obtain ⟨dx, hdx, sx⟩ := s.getV hx
    rw [List.getElem?_map, List.getElem?_eq_getElem hil] at hdx
    obtain rfl : f l[i] = dx := Option.some.inj hdx
    have e2 : (l.take (i + 1)).map g = (l.take i).map g ++ [g l[i]] := by rw [List.take_add_one, List.getElem?_eq_getElem hil, List.map_append]; rfl
    have Ow : Own X.K os G2 H3 := (O.grow g1).grow M.gr
    have Ew : EnvS X.K G2 (wipeD δ (own.map (·.2))) (L2.wipe σ (own.map (·.2))) := ((E.mono g1.gg).mono M.gr.gg).wipe _
    obtain ⟨δ2, hx2⟩ := hs l[i] hmem
    intro s0 H0 Cc cl fp
    refine (hx2 (X.blk s0 H0 scope (compEnvC scope cl Cc X.env) fp) ⟨rfl, rfl, rfl, rfl, rfl, rfl⟩ (blk_ctx C (s := s0) (H := H0) (Cc := Cc) (cl := cl) (fp := fp) hk h1 h2)).1 os G2 H3 _ x Ow Ew (sx.mono M.gr.gg _) _ fun σ4 E4 b4 => ⟨b4.wipe.trans (wipe_wipe _), ?_⟩
    intro s5 H5 Cc5 cl5 fp5
    refine (jfs_nil (X := X.blk s5 H5 scope (compEnvC scope cl5 Cc5 X.env) fp5) (δ := δ2) (os := os)) G2 H3 σ4 Ow E4 _ fun G6 H6 g6 => ?_
    rw [if_pos rfl]
    intro s7 H7 Cc7 cl7 fp7
    obtain ⟨_, he'⟩ := hx2 (X.blk s7 H7 scope (compEnvC scope cl7 Cc7 X.env) fp7) ⟨rfl, rfl, rfl, rfl, rfl, rfl⟩ (blk_ctx C (s := s7) (H := H7) (Cc := Cc7) (cl := cl7) (fp := fp7) hk h1 h2)
    refine he' G6 H6 σ4 (Ow.grow g6) (E4.mono g6.gg) _ fun pn ws G8 H8 g8 hp8 gp8 h8 s8 => ?_
    have g68 := g6.trans g8
    have hpn3 : H3 pn = none := fresh_back g6.hh hp8
    have keep : ∀ q ∈ zipO ps ((l.take i).map g), H1 q.1 = none ∧ G8 q.1 = none ∧ ∃ ho, H8 q.1 = some ho ∧ ObS X.K G8 q.2 ho := fun q hq => by
      obtain ⟨k1, k2, ho, k3, k4⟩ := M.it q hq
      refine ⟨k1, ?_, ho, g68.hh _ _ k3, k4.mono g68.gg⟩
      cases z : G8 q.1 with
      | none => rfl
      | some o =>
        rcases g68.new _ _ z with w | w
        · rw [k2] at w; cases w
        · rw [k3] at w; cases w
    have daN : G8 Da = none := by
      cases z : G8 Da with
      | none => rfl
      | some o =>
        rcases g68.new _ _ z with w | w
        · rw [M.gd] at w; cases w
        · rw [M.da] at w; cases w
    have pne : pn ≠ Da := fun z => by rw [z, M.da] at hpn3; cases hpn3
    have pnotin : pn ∉ ps := fun z => by
      rw [← zipO_keys M.len] at z
      obtain ⟨q, hq, e⟩ := List.mem_map.mp z
      obtain ⟨_, _, ho, k3, _⟩ := M.it q hq
      rw [e, hpn3] at k3; cases k3
    have gg := M.gr.trans g68
    have la : (ps.map V.ref).length < 100000 := by
      rw [List.length_map, M.len, List.length_map]
      have := List.length_take_le i l
      omega
    refine ⟨_, g68.hh _ _ M.da, sz_lt la, G8, ps ++ [pn], ⟨⟨gg.gg, Ex.mut gg.hh hD, Ex.mut gg.gh daN, gg.new⟩, ?_, ?_, ?_, daN, ?_⟩⟩
    · rw [e2, List.length_append, List.length_append, M.len]; rfl
    · have nd := M.nd
      rw [List.nodup_cons] at nd ⊢
      refine ⟨fun z => ?_, ?_⟩
      · rcases List.mem_append.mp z with z | z
        · exact nd.1 z
        · exact pne (List.mem_singleton.mp z).symm
      · rw [List.nodup_append]
        refine ⟨nd.2, by simp, fun u hu w hw e => ?_⟩
        rw [List.mem_singleton.mp hw] at e
        exact pnotin (e ▸ hu)
    · rw [upd_same, List.map_append]; rfl
    · intro q hq
      rw [e2, zipO_snoc M.len] at hq
      rcases List.mem_append.mp hq with hq | hq
      · obtain ⟨k1, k2, ho, k3, k4⟩ := keep q hq
        have : q.1 ≠ Da := fun z => by
          refine (List.nodup_cons.mp M.nd).1 ?_
          rw [← z, ← zipO_keys M.len]
          exact List.mem_map_of_mem hq
        exact ⟨k1, k2, ho, by rw [upd_ne this]; exact k3, k4⟩
      · obtain rfl := List.mem_singleton.mp hq
        exact ⟨fresh_back M.gr.hh hpn3, gp8, _, by rw [upd_ne pne]; exact h8, obs_lst s8⟩
  · have e : i = vs.length := by omega
    subst e
    refine .inl ⟨hstop H2 ex2, q Da ps G1 H1 G2 H2 g1 hD ?_⟩
    rw [← hlen, List.take_length] at M
    exact M
theorem At.freshN {K : PySem.W.Frag} {B H0 G H Ga Ha G' H' : Hp} (A : At K B H0 os G H) {p : Addr} {ps : List Addr} {yss : List (List Dt)} (g : Grow G H Ga Ha) (hp : Ha p = none) (M : Made K Ga Ha G' H' p ps yss) : ∀ q ∈ os, q.1 ∉ p :: ps := fun q hq z => by
  have A1 := A.grow g
  rcases List.mem_cons.mp z with z | z
  · exact A1.fresh hp q hq z
  · rw [← zipO_keys M.len] at z
    obtain ⟨u, hu, e⟩ := List.mem_map.mp z
    exact A1.fresh (M.it u hu).1 q hq e.symm
theorem At.takeN {K : PySem.W.Frag} {B H0 G H Ga Ha G' H' : Hp} (A : At K B H0 os G H) {p : Addr} {ps : List Addr} {yss : List (List Dt)} (g : Grow G H Ga Ha) (hp : Ha p = none) (M : Made K Ga Ha G' H' p ps yss) : At K B H0 ((p, .lst (ps.map .at)) :: (zipO ps yss ++ os)) G' H' := by
  have A1 := A.grow g
  have A' := A1.grow M.gr
  have fr : ∀ q ∈ os, q.1 ≠ p ∧ q.1 ∉ ps := fun q hq => by
    refine ⟨A1.fresh hp q hq, fun z => ?_⟩
    rw [← zipO_keys M.len] at z
    obtain ⟨u, hu, e⟩ := List.mem_map.mp z
    exact A1.fresh (M.it u hu).1 q hq e.symm
  refine ⟨⟨A'.ow.gh, fun q hq => ?_, ?_⟩, A'.bg, A'.h0, A'.new, fun q hq => ?_⟩
  · rcases List.mem_cons.mp hq with rfl | hq
    · refine ⟨M.gd, _, M.da, ps.map V.ref, rfl, ?_⟩
      clear M fr hq
      induction ps with
      | nil => exact .nil
      | cons p ps ih => exact .cons (by unfold Sees; rfl) ih
    · rcases List.mem_append.mp hq with hq | hq
      · exact (M.it q hq).2
      · exact A'.ow.own q hq
  · rw [List.map_cons, List.map_append, zipO_keys M.len, List.nodup_cons]
    have nd := List.nodup_cons.mp M.nd
    refine ⟨fun z => ?_, ?_⟩
    · rcases List.mem_append.mp z with z | z
      · exact nd.1 z
      · obtain ⟨q, hq, e⟩ := List.mem_map.mp z
        exact (fr q hq).1 e
    · rw [List.nodup_append]
      refine ⟨nd.2, A.ow.nd, fun u hu w hw e => ?_⟩
      obtain ⟨q, hq, e2⟩ := List.mem_map.mp hw
      exact (fr q hq).2 (by rw [e2, ← e]; exact hu)
  · rcases List.mem_cons.mp hq with rfl | hq
    · exact fresh_back A1.h0 hp
    · rcases List.mem_append.mp hq with hq | hq
      · exact fresh_back A1.h0 (M.it q hq).1
      · exact A'.own0 q hq
/-- name = [[..] for ..], the list and its items one's own -/
theorem js_lcN (C : Ctx X N sc full vi st) (i : Nat) {x : Str} {α : Type} (l : List α) (f : α → Dt) (g : α → List Dt) (own : List (Str × Nat)) {scope : Scope} {vi' st' : List Bool} {cpos : Pos} (hi : JI X tg it δ os (l.map f))
    (hs : ∀ t ∈ l, ∃ δ2, ∀ X', InBlk X X' → Ctx X' N (relS scope sc) false vi' st' → JG X' tg (own.map (·.2)) (f t) (wipeD δ (own.map (·.2))) δ2 ∧ JN X' elt δ2 os (g t)) (hz : l.length < 100000)
    (h1 : N.map (visB (relS scope sc)) = vi') (h2 : N.map (stB false (relS scope sc)) = st') (ok : blkC N sc scope own = true) (hk : scope.kind = .function) (hN : N[i]? = some x) (hy : sc.names.lookup x = some .local) (hl : (py.line == cpos.line) = true)
    (ha : (scope.names.any fun (n, k) => n == x && (k == .local || k == .cell)) = false) (q : ∀ p ps, ps.length = l.length → (p :: ps).Nodup → (∀ q ∈ os, q.1 ∉ p :: ps) → D.nx (δ.set i (some (.at p))) ((p, .lst (ps.map .at)) :: (zipO ps (l.map g) ++ os))) (hf : ∀ x, foldedSetIterable it X.env x = pure x := by intro _; rfl) :
    JS X (.Assign [.Name x py] (.ListComp elt [⟨tg, it, [], 0⟩] scope cpos) pos) δ os D := fun B H0 G H σ A E =>
  wS_of (ps_setLc C.calm C.ndX (C.nth hN) (by rw [C.hsc]; exact hy) (sw_true (by rw [C.hsc]; exact C.kind) (by rw [C.hsc]; exact hy) hl ha) pi_w (BlkOk.to C ok)
    (fun s H C cl fp => ⟨fun pins s5 σ H5 v u Q I r h => h _ _ _ _ _ pins s5 u I r⟩) (fun s H C cl fp => ⟨fun pins s5 σ H5 Q I h => h _ _ _ _ _ pins s5 I⟩) (fun s H C cl fp => ⟨fun pins s5 σ H5 Q I h => h _ _ _ _ _ pins s5 I⟩) hf)
    (lcN_read C l f g hk h1 h2 hi hz hs A.ow E fun p ps Ga Ha G' H' g hp M => ⟨_, _, G', A.takeN g hp M, ((E.mono g.gg).mono M.gr.gg).set (by unfold Sees; rfl), q p ps (by rw [M.len, List.length_map]) M.nd (A.freshN g hp M)⟩)
/-! ### a group given away -/
theorem At.giveAll {K : PySem.W.Frag} {B H0 G H : Hp} (A : At K B H0 os G H) (hp : os.Perm (grp ++ os')) : At K B H0 os' (whole grp G H) H ∧ Ex G (whole grp G H) := by
  have nd : ((grp ++ os').map (·.1)).Nodup := (hp.map (·.1)).nodup_iff.mp A.ow.nd
  rw [List.map_append, List.nodup_append] at nd
  have Og : Own K grp G H := A.ow.sub (fun q hq => hp.mem_iff.mpr (List.mem_append_left _ hq)) nd.1
  have ex := whole_g Og
  refine ⟨⟨⟨whole_h Og, fun q hq => ?_, nd.2.1⟩, A.bg.trans ex, A.h0, fun a o h => ?_, fun q hq => A.own0 q (hp.mem_iff.mpr (List.mem_append_right _ hq))⟩, ex⟩
  · obtain ⟨k1, ho, k2, k3⟩ := A.ow.own q (hp.mem_iff.mpr (List.mem_append_right _ hq))
    refine ⟨?_, ho, k2, k3.mono ex⟩
    unfold whole
    rw [if_neg fun z => nd.2.2 _ z _ (List.mem_map_of_mem hq) rfl]
    exact k1
  · unfold whole at h
    split at h
    · rename_i z
      obtain ⟨q, hq, e⟩ := List.mem_map.mp z
      exact .inr (by rw [← e]; exact A.own0 q (hp.mem_iff.mpr (List.mem_append_left _ hq)))
    · exact A.new a o h
/-- the slot's object and what it holds become data -/
theorem jb_give (i : Nat) (hd : δ[i]? = some (some d)) (hD : Deep grp d d') (hp : os.Perm (grp ++ os')) (h : JB X body (δ.set i (some d')) os' D) : JB X body δ os D :=
  jb_view (fun B H0 G H σ A E => by
    obtain ⟨A2, ex⟩ := A.giveAll hp
    have nd : ((grp ++ os').map (·.1)).Nodup := (hp.map (·.1)).nodup_iff.mp A.ow.nd
    rw [List.map_append, List.nodup_append] at nd
    have Og : Own X.K grp G H := A.ow.sub (fun q hq => hp.mem_iff.mpr (List.mem_append_left _ hq)) nd.1
    obtain ⟨v, e1, s1⟩ := E.get i _ hd
    refine ⟨_, A2, ?_⟩
    have E2 := (E.mono ex).set (i := i) (hD.sees Og s1)
    have : σ.set i (some v) = σ := by
      apply List.ext_getElem?
      intro j
      by_cases hj : i = j
      · subst hj; rw [List.getElem?_set, if_pos rfl, if_pos (List.getElem?_eq_some_iff.mp e1).1, e1]
      · rw [List.getElem?_set_ne hj]
    rw [this] at E2
    exact E2) h
end
end DL

set_option maxHeartbeats 4000000
/-! D8: statements joined at a named meeting place; loops over a range, counted. -/
namespace DL
open PySem PySem.Spec PyProof.Rows L2 Evl
section
variable {X : Cx} {N : List Str} {sc : Scope} {full : Bool} {vi st : List Bool} {δ : Sl} {os os' : Os} {D : DE}
variable {a b e it tg : Expr} {d : Dt} {pos p : Pos} {body rest : List Stmt} {s1 : Stmt}
theorem wS_mono {X : Cx} {st : Stmt} {D D' : Ends} {σ : L2.St} {H : Hp} (h : wS X st D σ H) (n : ∀ σ H, D.nx σ H → D'.nx σ H) (r : ∀ v H, D.rt v H → D'.rt v H)
    (b : ∀ σ H, D.bk σ H → D'.bk σ H) (c : ∀ σ H, D.ct σ H → D'.ct σ H) : wS X st D' σ H := fun pins s I => by
  refine thn (h pins s I) fun f s' q => ?_
  cases f with
  | next => obtain ⟨σ', H', I', q⟩ := q; exact ⟨σ', H', I', n _ _ q⟩
  | brk => obtain ⟨σ', H', I', q⟩ := q; exact ⟨σ', H', I', b _ _ q⟩
  | cont => obtain ⟨σ', H', I', q⟩ := q; exact ⟨σ', H', I', c _ _ q⟩
  | ret v => obtain ⟨x, σ', H', I', rv, q⟩ := q; exact ⟨x, σ', H', I', rv, r _ _ q⟩
/-- one statement, then the rest from wherever it may have ended -/
theorem jb_mid (M : Sl → Os → Prop) (h : JS X s1 δ os { D with nx := M }) (k : ∀ δ' os', M δ' os' → JB X rest δ' os' D) : JB X (s1 :: rest) δ os D :=
  jb_cons fun B H0 G H σ A E => wS_mono (h B H0 G H σ A E) (fun _ _ ⟨δ', os', G', A', E', m⟩ => ⟨δ', os', G', A', E', k δ' os' m⟩) (fun _ _ q => q) (fun _ _ q => q) (fun _ _ q => q)
theorem itsR0 {n : Nat} : itsR 0 n = (List.range n).map fun (k : Nat) => Dt.int (k : Int) := by
  unfold itsR
  congr 1
  funext k
  rw [Int.zero_add]
theorem ji_rangeN (C : Ctx X N sc full vi st) {n : Int} {p : Pos} (hm : X.mg "range" = none) (h : JP X a δ os (.int n)) (hz : n ≤ 100000) (h0 : 0 ≤ n) (hg : sc.names.lookup ("range" : Str) = some .globalImplicit := by rfl) (hs : starEach [a] X.env = [(false, eval a X.env)] := by rfl) :
    JI X tg (.Call (.Name "range" p) [a] [] pos) δ os ((List.range n.toNat).map fun (k : Nat) => Dt.int (k : Int)) := (ji_range1 C hm h hz h0 hg hs).is itsR0
theorem js_forR (C : Ctx X N sc full vi st) (n : Int) {ws : List Nat} (h : JI X tg it δ os ((List.range n.toNat).map fun (k : Nat) => Dt.int (k : Int))) (I : Nat → Sl → Os → Prop) (h0 : I 0 δ os)
    (hs : ∀ i δ' os', i < n.toNat → I i δ' os' → ∃ δ2, JG X tg ws (.int (i : Int)) δ' δ2 ∧ JB X body δ2 os' { nx := I (i + 1), ct := I (i + 1), rt := D.rt, bk := D.nx })
    (hd : ∀ δ' os', I n.toNat δ' os' → D.nx δ' os') (hf : ∀ x, foldedSetIterable it X.env x = pure x := by intro _; rfl) : JS X (.For tg it body [] pos) δ os D := by
  refine js_for (ws := ws) C h I h0 (fun i x δ' os' hx p => ?_) (fun δ' os' p => hd δ' os' ?_) hf
  · rw [List.getElem?_map] at hx
    obtain ⟨t, ht, rfl⟩ := Option.map_eq_some_iff.mp hx
    obtain ⟨hi, e⟩ := List.getElem?_eq_some_iff.mp ht
    rw [List.getElem_range] at e
    subst e
    exact hs i δ' os' (by simpa using hi) p
  · rw [List.length_map, List.length_range] at p
    exact p
end
end DL

set_option maxHeartbeats 4000000
/-! DS: a set of whole numbers out of two walks, and its sorted list. The proofs of the two loops follow those of the list comprehension with two clauses. -/
namespace DL
open PySem PySem.Spec PyProof.Rows L2 Evl PpSet
theorem compTurnS2_out (elt t0 i0 t1 i1 : Expr) (ifs0 ifs1 : List Expr) (scope : Scope) (pos : Pos) (it acc : Value) (env : Env) :
    compTurn (.SetComp elt [⟨t0, i0, ifs0, 0⟩, ⟨t1, i1, ifs1, 0⟩] scope pos) 0 it acc env = (do
      standAt i0.pos
      match ← pyNext it with
      | none => pure (.done .next)
      | some v =>
        letOwnedTupleGo t0 it v
        assign t0 env v
        let mut ok := true
        for c in ifs0 do
          if ok then ok ← isTrue c env (eval c env)
        if ok then
          let x ← eval i1 env
          standAt i1.pos
          let x ← foldedSetIterable i1 env x
          let _ ← runOwn (.compStart (.SetComp elt [⟨t0, i0, ifs0, 0⟩, ⟨t1, i1, ifs1, 0⟩] scope pos) 1 (← holding [x] (pyIter x)) acc env) env
        again (.compLoop (.SetComp elt [⟨t0, i0, ifs0, 0⟩, ⟨t1, i1, ifs1, 0⟩] scope pos) 0 it acc env)) := by rfl
theorem compTurnS2_in (elt t0 i0 t1 i1 : Expr) (ifs0 ifs1 : List Expr) (scope : Scope) (pos : Pos) (it acc : Value) (env : Env) :
    compTurn (.SetComp elt [⟨t0, i0, ifs0, 0⟩, ⟨t1, i1, ifs1, 0⟩] scope pos) 1 it acc env = (do
      standAt i1.pos
      match ← pyNext it with
      | none => pure (.done .next)
      | some v =>
        letOwnedTupleGo t1 it v
        assign t1 env v
        let mut ok := true
        for c in ifs1 do
          if ok then ok ← isTrue c env (eval c env)
        if ok then
          (do let v ← eval elt env; standAt elt.pos; let _ ← call (.builtin "set.add") [acc, v])
        again (.compLoop (.SetComp elt [⟨t0, i0, ifs0, 0⟩, ⟨t1, i1, ifs1, 0⟩] scope pos) 1 it acc env)) := by rfl

section
variable {prog : Program} {w : World} {A : Around} {R : Result → Shared → Prop} {s : Shared} {elt t0 i0 t1 i1 : Expr} {ifs0 ifs1 : List Expr} {scope : Scope} {pos : Pos} {it acc : Value} {env : Env}
/-- the loop of the first clause -/
theorem compLoopS2_out (hs : ∀ x, foldedSetIterable i1 env x = pure x) (I : Nat → Shared → Prop)
    (turn : ∀ n s, I n s → wpAny (model prog w) A (pyNext it) (fun r s₁ => match r with
      | none => R (.ok .next) s₁
      | some v => wpAny (model prog w) A (letOwnedTupleGo t0 it v) (fun _ s₁' => wpAny (model prog w) A (assign t0 env v) (fun _ s₂ =>
          wpAny (model prog w) A (forIn ifs0 true fun c r => if r = true then do let ok ← isTrue c env (eval c env); pure (ForInStep.yield ok) else pure (ForInStep.yield r)) (fun ok s₃ =>
            if ok = true then wpAny (model prog w) A (eval i1 env) (fun x s₄ => wpAny (model prog w) A (pyIter x) (fun it1 s₅ =>
              codeAny (model prog w) A (.compStart (.SetComp elt [⟨t0, i0, ifs0, 0⟩, ⟨t1, i1, ifs1, 0⟩] scope pos) 1 it1 acc env) (fun r s' => match r with
                | .ok _ => ∃ m, m < n ∧ I m s'
                | .error _ => False) s₅) (notedBy (model prog w) A env fun e s' => R (.error e) s') s₄) (notedBy (model prog w) A env fun e s' => R (.error e) s') s₃
            else ∃ m, m < n ∧ I m s₃) (notedBy (model prog w) A env fun e s' => R (.error e) s') s₂) (notedBy (model prog w) A env fun e s' => R (.error e) s') s₁') (notedBy (model prog w) A env fun e s' => R (.error e) s') s₁) (notedBy (model prog w) A env fun e s' => R (.error e) s') s)
    (n : Nat) (h : I n s) :
    codeAny (model prog w) A (.compLoop (.SetComp elt [⟨t0, i0, ifs0, 0⟩, ⟨t1, i1, ifs1, 0⟩] scope pos) 0 it acc env) R s := by
  refine codeAny_loop rfl I (fun n s hI => ?_) n h
  show wpAny _ A ((compTurn (.SetComp elt [⟨t0, i0, ifs0, 0⟩, ⟨t1, i1, ifs1, 0⟩] scope pos) 0 it acc env).onRaise (fun x => do noteFrame x env; theTreesLotGoes x)) _ _ s
  refine wpAny_noted ?_
  rw [compTurnS2_out]
  refine wpAny_bind (wpAny_standAt (wpAny_bind (wpAny_mono (turn n s hI) (fun r s₁ h₁ => ?_) fun _ _ h' => h')))
  cases r with
  | none => exact wpAny_pure h₁
  | some v =>
    refine wpAny_bind (wpAny_mono h₁ (fun _ s₁' h₁' => ?_) fun _ _ h' => h')
    refine wpAny_bind (wpAny_mono h₁' (fun _ s₂ h₂ => wpAny_bind (wpAny_mono h₂ (fun ok s₃ h₃ => ?_) fun _ _ h' => h')) fun _ _ h' => h')
    cases ok with
    | false => exact wpAny_pure ⟨rfl, h₃⟩
    | true =>
      refine wpAny_bind (wpAny_mono h₃ (fun x s₄ h₄ => ?_) fun _ _ h' => h')
      refine wpAny_bind (wpAny_standAt (wpAny_bind (wpAny_of_eq (hs x) (wpAny_bind (wpAny_holding (wpAny_mono h₄ (fun it1 s₅ h₅ => ?_) fun _ _ h' => h'))))))
      refine wpAny_bind (wpAny_runOwn ?_)
      rw [Around.mark_none]
      refine codeAny_mono h₅ fun r s' hr => ?_
      cases r with
      | ok f =>
        first
          | exact wpAny_pure ⟨rfl, hr⟩
          | exact wpAny_bind (wpAny_pure (wpAny_pure ⟨rfl, hr⟩))
      | error e => exact hr.elim
/-- the loop of the second -/
theorem compLoopS2_in (I : Nat → Shared → Prop)
    (turn : ∀ n s, I n s → wpAny (model prog w) A (pyNext it) (fun r s₁ => match r with
      | none => R (.ok .next) s₁
      | some v => wpAny (model prog w) A (letOwnedTupleGo t1 it v) (fun _ s₁' => wpAny (model prog w) A (assign t1 env v) (fun _ s₂ =>
          wpAny (model prog w) A (forIn ifs1 true fun c r => if r = true then do let ok ← isTrue c env (eval c env); pure (ForInStep.yield ok) else pure (ForInStep.yield r)) (fun ok s₃ =>
            if ok = true then wpAny (model prog w) A (eval elt env) (fun x s₄ =>
              wpAny (model prog w) A (call (.builtin "set.add") [acc, x]) (fun _ s₅ => ∃ m, m < n ∧ I m s₅) (notedBy (model prog w) A env fun e s' => R (.error e) s') s₄) (notedBy (model prog w) A env fun e s' => R (.error e) s') s₃
            else ∃ m, m < n ∧ I m s₃) (notedBy (model prog w) A env fun e s' => R (.error e) s') s₂) (notedBy (model prog w) A env fun e s' => R (.error e) s') s₁') (notedBy (model prog w) A env fun e s' => R (.error e) s') s₁) (notedBy (model prog w) A env fun e s' => R (.error e) s') s)
    (n : Nat) (h : I n s) :
    codeAny (model prog w) A (.compLoop (.SetComp elt [⟨t0, i0, ifs0, 0⟩, ⟨t1, i1, ifs1, 0⟩] scope pos) 1 it acc env) R s := by
  refine codeAny_loop rfl I (fun n s hI => ?_) n h
  show wpAny _ A ((compTurn (.SetComp elt [⟨t0, i0, ifs0, 0⟩, ⟨t1, i1, ifs1, 0⟩] scope pos) 1 it acc env).onRaise (fun x => do noteFrame x env; theTreesLotGoes x)) _ _ s
  refine wpAny_noted ?_
  rw [compTurnS2_in]
  refine wpAny_bind (wpAny_standAt (wpAny_bind (wpAny_mono (turn n s hI) (fun r s₁ h₁ => ?_) fun _ _ h' => h')))
  cases r with
  | none => exact wpAny_pure h₁
  | some v =>
    refine wpAny_bind (wpAny_mono h₁ (fun _ s₁' h₁' => ?_) fun _ _ h' => h')
    refine wpAny_bind (wpAny_mono h₁' (fun _ s₂ h₂ => wpAny_bind (wpAny_mono h₂ (fun ok s₃ h₃ => ?_) fun _ _ h' => h')) fun _ _ h' => h')
    cases ok with
    | false => exact wpAny_pure ⟨rfl, h₃⟩
    | true =>
      exact wpAny_bind (wpAny_bind (wpAny_mono h₃ (fun x s₄ h₄ => wpAny_bind (wpAny_standAt (wpAny_bind (wpAny_mono h₄ (fun _ s₅ h₅ => wpAny_pure (wpAny_pure ⟨rfl, h₅⟩)) fun _ _ h' => h')))) fun _ _ h' => h'))
/-- the second clause's start -/
theorem compStartS1_ok (h0 : codeAny (model prog w) A (.compLoop (.SetComp elt [⟨t0, i0, ifs0, 0⟩, ⟨t1, i1, ifs1, 0⟩] scope pos) 1 it acc env) R s)
    (h : wpAny (model prog w) A (pyIter it) (fun it' s' => codeAny (model prog w) A (.compLoop (.SetComp elt [⟨t0, i0, ifs0, 0⟩, ⟨t1, i1, ifs1, 0⟩] scope pos) 1 it' acc env) R s')
      (notedBy (model prog w) A env fun x s' => R (.error x) s') s) :
    codeAny (model prog w) A (.compStart (.SetComp elt [⟨t0, i0, ifs0, 0⟩, ⟨t1, i1, ifs1, 0⟩] scope pos) 1 it acc env) R s := by
  refine codeAny_of_tree ?_
  show wpAny _ _ ((compStart (.SetComp elt [⟨t0, i0, ifs0, 0⟩, ⟨t1, i1, ifs1, 0⟩] scope pos) 1 it acc env).onRaise (fun x => do noteFrame x env; standAt theWindowsPlace)) _ _ s
  refine wpAny_notedAt ?_
  unfold compStart
  show wpAny _ _ (ask >>= _) _ _ s
  refine wpAny_bind (wpAny_askSetting (wpAny_ite ?_))
  split
  · first
      | exact wpAny_bind (wpAny_pure (wpAny_pure (And.intro rfl h0)))
      | exact wpAny_pure (And.intro rfl h0)
  · first
      | exact wpAny_bind (wpAny_rule (wpAny_bind (wpAny_standAt (wpAny_bind (wpAny_mono h (fun it' s' h' => wpAny_pure (And.intro rfl h')) fun _ _ x => x)))))
      | (refine wpAny_bind (wpAny_rule ?_); show wpAny _ _ (standAt i1.pos >>= _) _ _ s; exact wpAny_bind (wpAny_standAt (wpAny_bind (wpAny_mono h (fun it' s' h' => wpAny_pure (And.intro rfl h')) fun _ _ x => x))))
end
section
variable {X : Cx}
/-- set.add of a whole number -/
theorem addI_ok {pins : List (Addr × Obj)} {σ : L2.St} {H : Hp} {s : Shared} {E : Value → Shared → Prop} {D : Addr} {S : Int → Bool} {n : Nat} {y : Int} {tk : Tok} {Q : Value → Shared → Prop} (I : Inv X pins σ H s) (hD : H D = some (SetO X.w D S n)) (room : n + 1 < scanBound)
    (h : ∀ s', Inv X pins σ (upd H D (SetO X.w D (fun j => S j || decide (j = y)) (if S y = true then n else n + 1))) s' → Q .none s') : wpAny (model X.prog X.w) X.A (call (.builtin "set.add") [.ref D, .int y tk]) Q E s := by
  have R := setO_get I hD
  refine setR_add R room fun h' sb new => ?_
  have he : ∃ u, h'.get? D = some u := by
    have ⟨o, _, _, _, ho, _⟩ := new
    exact ⟨o, ho⟩
  exact h _ (I.write (e := D) (t' := s.toks + 1) (by rw [hD]; trivial) (.inl rfl) (fun b u hb hu => (sb.2 b hb).trans hu) he (setO_new new))
def tSc2 (w : World) (wi : TI) (g : TG) (tt : TT) (wi1 : TI) (g1 : TG) (tt1 : TT) (te : TE) (vs vs1 : List Nat) : TE := fun σ H Q => wi σ H fun J H1 => ∀ D, H1 D = none → ∃ W : Nat → Nat → Hp → Prop, (∃ m, W 0 m (upd H1 D (SetO w D (fun _ => false) 0))) ∧ ∀ i m H, W i m H →
  (J.stop i H ∧ Q (.ref D) H) ∨ (J.go i H ∧ ∃ Nx : Hp → Prop, (∀ H', Nx H' → ∃ m', m' < m ∧ W (i + 1) m' H') ∧ ∀ x H', J.yld i H x H' → g x (L2.wipe σ vs) H' fun σ2 H2 => L2.wipe σ2 vs = L2.wipe σ vs ∧ tt σ2 H2 fun b H3 =>
    if b = true then wi1 σ2 H3 fun J1 H4 => ∃ W1 : Nat → Nat → Hp → Prop, (∃ m, W1 0 m H4) ∧ ∀ j k H, W1 j k H →
      (J1.stop j H ∧ Nx H) ∨ (J1.go j H ∧ ∃ Nx1 : Hp → Prop, (∀ H', Nx1 H' → ∃ k', k' < k ∧ W1 (j + 1) k' H') ∧ ∀ x H', J1.yld j H x H' → g1 x (L2.wipe σ2 vs1) H' fun σ3 H5 => L2.wipe σ3 vs1 = L2.wipe σ2 vs1 ∧ tt1 σ3 H5 fun b H6 =>
        if b = true then te σ3 H6 fun y H7 => ∃ (c : Int) (S : Int → Bool) (n : Nat), y = .int c ∧ H7 D = some (SetO w D S n) ∧ n + 1 < scanBound ∧ Nx1 (upd H7 D (SetO w D (fun j => S j || decide (j = c)) (if S c = true then n else n + 1))) else Nx1 H6)
    else Nx H3)
theorem sc2_core {pins : List (Addr × Obj)} {s : Shared} {σ : L2.St} {H : Hp} {Q : VK} {elt tg iter tg1 iter1 : Expr} {ifs ifs1 : List Expr} {scope : Scope} {own : List (Str × Nat)} {vs1 : List Nat} {pos pos' : Pos} {wi wi1 : TI} {g g1 : TG} {tt tt1 : TT} {te : TE} {use : Option (Value → Sem Unit)} {Qf : Value → Shared → Prop}
    (hc : X.calm = true) (hN : X.N.Nodup) (I : Inv X pins σ H s) (hi : PI X tg iter wi) (ok : BlkOk X.N X.env.scope scope own) (hv : ∀ i ∈ vs1, i ∈ own.map (·.2))
    (hg : ∀ (s : Shared) (H : Hp) (C : Addr) (cl : List (Str × Addr)) (fp : List Addr), PG (X.blk s H scope (compEnvC scope cl C X.env) fp) tg g) (ht : ∀ (s : Shared) (H : Hp) (C : Addr) (cl : List (Str × Addr)) (fp : List Addr), PTs (X.blk s H scope (compEnvC scope cl C X.env) fp) ifs tt)
    (he : ∀ (s : Shared) (H : Hp) (C : Addr) (cl : List (Str × Addr)) (fp : List Addr), PE (X.blk s H scope (compEnvC scope cl C X.env) fp) elt te) (hs : ∀ x, foldedSetIterable iter X.env x = pure x)
    (hi1 : ∀ (s : Shared) (H : Hp) (C : Addr) (cl : List (Str × Addr)) (fp : List Addr), PI (X.blk s H scope (compEnvC scope cl C X.env) fp) tg1 iter1 wi1)
    (hg1 : ∀ (s : Shared) (H : Hp) (C : Addr) (cl : List (Str × Addr)) (fp : List Addr), PG (X.blk s H scope (compEnvC scope cl C X.env) fp) tg1 g1)
    (ht1 : ∀ (s : Shared) (H : Hp) (C : Addr) (cl : List (Str × Addr)) (fp : List Addr), PTs (X.blk s H scope (compEnvC scope cl C X.env) fp) ifs1 tt1)
    (hs1 : ∀ env x, foldedSetIterable iter1 env x = pure x)
    (h : tSc2 X.w wi g tt wi1 g1 tt1 te (own.map (·.2)) vs1 σ H Q)
    (hRR : ∀ D C s' m H', Inv X pins σ H' s' → Q (.ref D) H' → s'.heap.Ns C m → FpOk X pins H' C → compPost (model X.prog X.w) X.A X.xe use Qf (.ref D) C (.ok .next) s') :
    wpAny (model X.prog X.w) X.A (comprehension (.SetComp elt [⟨tg, iter, ifs, 0⟩, ⟨tg1, iter1, ifs1, 0⟩] scope pos) scope X.env pos' (newSet (.type "set")) false (eval iter X.env) use) Qf X.xe s := by
  have hfree : ∀ y ∈ scope.names, y.2 = .free → ∃ c, X.env.cells.lookup y.1 = some c := fun y hy e => by
    rcases ok.free y hy e with k | k
    · exact I.ok.has _ (.inl k)
    · exact I.ok.has _ (.inr k)
  refine wpAny_comprehension_free (use := use) rfl hs (closure_ok hfree) ok.kind (fun y hy e => by rw [ok.uniq y hy, e])
    (thn (hi.run pins s σ H _ I h) fun xv s1 hx => thn hx fun itv s2 h2 => ?_)
  obtain ⟨it, fp, tn, J, H2, e, I2, T, st2, f2, q⟩ := h2
  subst e
  refine newSet_ok (newEnv_comp ?_)
  generalize hD : s2.heap.objs.size = D
  have hDn : H2 D = none := I2.hok.fresh (Nat.le_of_eq hD)
  obtain ⟨W, ⟨m0, w0⟩, turn⟩ := q D hDn
  -- the new list
  generalize hs3 : ({ s2 with heap := s2.heap.push { cls := .type "set", dict := none, data := .set #[] 0 (.fresh 0 0 (!X.w.params.followText "set-order")) } } : Shared) = s3
  have I3 : Inv X pins σ (upd H2 D (SetO X.w D (fun _ => false) 0)) s3 := by
    rw [← hs3]
    refine I2.laid (t' := s2.toks) (fun b o e => Heap.get?_push_of_some _ e) (Nat.le_of_eq hD) ?_
    rw [← hD]
    exact setO_new (setR_fresh X.w)
  have h3 : s3.heap = s2.heap.push { cls := .type "set", dict := none, data := .set #[] 0 (.fresh 0 0 (!X.w.params.followText "set-order")) } := by rw [← hs3]
  have sz : ∀ b ∈ fp, b < s2.heap.objs.size := fun b hb => by
    obtain ⟨o, e, _⟩ := T.obj _ _ st2 b hb
    exact Heap.lt_size e
  have f3 : ∀ b ∈ fp, FpOk X pins (upd H2 D (SetO X.w D (fun _ => false) 0)) b ∧ b < s3.heap.objs.size := fun b hb => by
    have hlt := sz b hb
    refine ⟨⟨?_, (f2 b hb).2⟩, by rw [h3, Heap.size_push]; exact Nat.lt_succ_of_lt hlt⟩
    rw [upd_ne (by rw [← hD]; exact Nat.ne_of_lt hlt)]
    exact (f2 b hb).1
  have st3 : tn 0 s3.heap := T.keep _ _ _ st2 fun b _ o e => by rw [h3]; exact Heap.get?_push_of_some _ e
  have I4 := block_start I3 ok hN f3
  have pg := hg s3 (upd H2 D (SetO X.w D (fun _ => false) 0)) s3.heap.objs.size (cellsFrom (s3.heap.objs.size + 1) scope.names (cloFrom X.env.cells scope.names [])) fp
  have pt := ht s3 (upd H2 D (SetO X.w D (fun _ => false) 0)) s3.heap.objs.size (cellsFrom (s3.heap.objs.size + 1) scope.names (cloFrom X.env.cells scope.names [])) fp
  have pe := he s3 (upd H2 D (SetO X.w D (fun _ => false) 0)) s3.heap.objs.size (cellsFrom (s3.heap.objs.size + 1) scope.names (cloFrom X.env.cells scope.names [])) fp
  have pi1 := hi1 s3 (upd H2 D (SetO X.w D (fun _ => false) 0)) s3.heap.objs.size (cellsFrom (s3.heap.objs.size + 1) scope.names (cloFrom X.env.cells scope.names [])) fp
  have pg1 := hg1 s3 (upd H2 D (SetO X.w D (fun _ => false) 0)) s3.heap.objs.size (cellsFrom (s3.heap.objs.size + 1) scope.names (cloFrom X.env.cells scope.names [])) fp
  have pt1 := ht1 s3 (upd H2 D (SetO X.w D (fun _ => false) 0)) s3.heap.objs.size (cellsFrom (s3.heap.objs.size + 1) scope.names (cloFrom X.env.cells scope.names [])) fp
  show codeAny _ _ (.compStart (.SetComp elt [⟨tg, iter, ifs, 0⟩, ⟨tg1, iter1, ifs1, 0⟩] scope pos) 0 (.ref it) (.ref D) (compEnvC scope (cellsFrom (s3.heap.objs.size + 1) scope.names (cloFrom X.env.cells scope.names [])) s3.heap.objs.size X.env)) (compPost (model X.prog X.w) X.A X.xe use Qf (.ref D) s3.heap.objs.size) { s3 with heap := pushCells (s3.heap.push { cls := .type "dict", data := .dict #[] }) scope.names }
  have nfp : ∀ b ∈ fp, (upd H2 D (SetO X.w D (fun _ => false) 0)) b = none := fun b hb => (f3 b hb).1.1
  generalize hce : compEnvC scope (cellsFrom (s3.heap.objs.size + 1) scope.names (cloFrom X.env.cells scope.names [])) s3.heap.objs.size X.env = ce at I4 pg pt pe pi1 pg1 pt1 ⊢
  have cL : ce.locals = s3.heap.objs.size := by subst hce; rfl
  generalize hH3 : upd H2 D (SetO X.w D (fun _ => false) 0) = H3 at I3 I4 pg pt pe pi1 pg1 pt1 w0 nfp f3
  generalize hs4 : ({ s3 with heap := pushCells (s3.heap.push { cls := .type "dict", data := .dict #[] }) scope.names } : Shared) = s4 at I4 ⊢
  have st4 : tn 0 s4.heap := T.keep _ _ _ st3 fun b _ o e => by rw [← hs4]; exact pushCells_keeps _ _ _ _ (Heap.get?_push_of_some _ e)
  have stat : ∀ {σ' : L2.St} {H' : Hp} {s' : Shared}, Inv (X.blk s3 H3 scope ce fp) [] σ' H' s' → (∀ b ∈ fp, H' b = none) → ∀ b ∈ fp, FpOk (X.blk s3 H3 scope ce fp) [] H' b := fun {σ' H' s'} I' hn b hb =>
    ⟨hn b hb, (I'.ok.exf b hb).1, I'.ok.exfs b hb, .inl hb, fun x c e => (I'.ok.exf b hb).2 x c e, fun p hp => absurd (show p ∈ ([] : List (Addr × Obj)) ++ [] from hp) (by simp)⟩
  have loop : codeAny (model X.prog X.w) X.A (.compLoop (.SetComp elt [⟨tg, iter, ifs, 0⟩, ⟨tg1, iter1, ifs1, 0⟩] scope pos) 0 (.ref it) (.ref D) ce) (compPost (model X.prog X.w) X.A X.xe use Qf (.ref D) s3.heap.objs.size) s4 := by
    refine compLoopS2_out (hs1 ce) (fun n s' => ∃ i H', Inv (X.blk s3 H3 scope ce fp) [] (L2.wipe σ (own.map (·.2))) H' s' ∧ tn i s'.heap ∧ (∀ b ∈ fp, H' b = none) ∧ W i n H') ?_ m0 ⟨0, H3, I4, st4, nfp, w0⟩
    rintro n s5 ⟨i, H5, I5, st5, n5, w5⟩
    rcases turn i n H5 w5 with ⟨stop, qq⟩ | ⟨go, Nx, hNx, step⟩
    · have td := T.done (X.blk s3 H3 scope ce fp) rfl rfl rfl hc i [] s5 _ H5 (fun _ _ => False) I5 (stat I5 n5) st5 stop
      refine thnF td fun r s6 ⟨hr, I6⟩ => ?_
      subst hr
      -- back in the def's context
      have I7 : Inv X pins σ H5 s6 := I3.call' (ch := fp) I6.os I6.base I6.hok I6.bare fun b hb => ⟨(f3 b hb).1.2.2.2.1, (f3 b hb).1.2.1, (f3 b hb).1.2.2.2.2.1, (f3 b hb).1.2.2.2.2.2⟩
      have nC : H5 s3.heap.objs.size = none := by
        have z : H5 ce.locals = none := I6.free
        rw [cL] at z
        exact z
      obtain ⟨m, hn, _⟩ := I6.loc
      have hn : s6.heap.Ns ce.locals m := hn
      rw [cL] at hn
      exact hRR D s3.heap.objs.size s6 m H5 I7 qq hn (I3.fpOk (Nat.le_refl _) nC)
    · have ti := T.item (X.blk s3 H3 scope ce fp) rfl rfl rfl hc i [] s5 _ H5 (fun _ _ => False) I5 (stat I5 n5) st5 go
      refine thnF ti fun r s6 ⟨u, hr, h6⟩ => ?_
      subst hr
      refine thnF h6 fun _ s7 ⟨x, H7, I7, r7, y7, st7, n7⟩ => ?_
      have I7' := I7.pinned (stat I7 n7) (T.obj _ _ st7)
      refine thnF (pg.run _ s7 _ H7 x u _ I7' r7 (step x H7 y7)) fun _ s8 ⟨σ8, H8, I8, hw8, q8⟩ => ?_
      refine thnF (pt.run _ s8 σ8 H8 _ I8 q8) fun b s9 ⟨H9, I9, q9⟩ => ?_
      -- the turn's end, from any slots that know what the block knew at its start
      have fin : ∀ {σ9 : L2.St} {s' : Shared} {H' : Hp}, Inv (X.blk s3 H3 scope ce fp) ([] ++ pinsAt fp s7.heap) σ9 H' s' → (L2.wipe σ (own.map (·.2))).length = σ9.length → (∀ (j : Nat) v, (L2.wipe σ (own.map (·.2)))[j]? = some (some v) → σ9[j]? = some (some v)) → Nx H' →
          ∃ m, m < n ∧ ∃ i H', Inv (X.blk s3 H3 scope ce fp) [] (L2.wipe σ (own.map (·.2))) H' s' ∧ tn i s'.heap ∧ (∀ b ∈ fp, H' b = none) ∧ W i m H' := fun {σ9 s' H'} I' hl hk nx => by
        obtain ⟨m', hm, w'⟩ := hNx H' nx
        have pin' : ∀ b ∈ fp, ∀ o, s7.heap.get? b = some o → s'.heap.get? b = some o ∧ H' b = none := fun b hb o e =>
          let z := I'.pin (b, o) (List.mem_append_right _ (List.mem_append_right _ (mem_pinsAt hb e)))
          ⟨z.1, z.2.1⟩
        refine ⟨m', hm, i + 1, H', (I'.unpinned (pins := [])).weak hl hk, T.keep _ _ _ st7 fun b hb o e => (pin' b hb o e).1, fun b hb => ?_, w'⟩
        obtain ⟨o, e, _⟩ := T.obj _ _ st7 b hb
        exact (pin' b hb o e).2
      have hl8 : (L2.wipe σ (own.map (·.2))).length = σ8.length := by rw [← hw8, wipe_length]
      have hk8 : ∀ (j : Nat) v, (L2.wipe σ (own.map (·.2)))[j]? = some (some v) → σ8[j]? = some (some v) := fun j v e => by
        rw [← hw8] at e
        exact (wipe_some e).1
      have hk9 : ∀ (j : Nat) v, (L2.wipe σ (own.map (·.2)))[j]? = some (some v) → (L2.wipe σ8 vs1)[j]? = some (some v) := fun j v e => by
        rw [← hw8] at e
        obtain ⟨e1, e2⟩ := wipe_some e
        rw [wipe_out fun z => e2 (hv j z)]
        exact e1
      cases b with
      | false =>
        simp only [Bool.false_eq_true, if_false] at q9 ⊢
        exact fin I9 hl8 hk8 q9
      | true =>
        simp only [if_true] at q9 ⊢
        refine thnF (pi1.run _ s9 σ8 H9 _ I9 q9) fun xv s10 hx => thnF hx fun itv s11 h11 => ?_
        obtain ⟨it1, fp1, tn1, J1, H11, e1, I11, T1, st11, f11, W1, ⟨m1, w1⟩, turn1⟩ := h11
        subst e1
        -- the inner loop
        have stat1 : ∀ {H' : Hp}, (∀ b ∈ fp1, H' b = none) → ∀ b ∈ fp1, FpOk (X.blk s3 H3 scope ce fp) ([] ++ pinsAt fp s7.heap) H' b := fun hn b hb => ⟨hn b hb, (f11 b hb).2⟩
        have loop1 : codeAny (model X.prog X.w) X.A (.compLoop (.SetComp elt [⟨tg, iter, ifs, 0⟩, ⟨tg1, iter1, ifs1, 0⟩] scope pos) 1 (.ref it1) (.ref D) ce)
            (fun r s' => match r with
              | .ok _ => ∃ m, m < n ∧ ∃ i H', Inv (X.blk s3 H3 scope ce fp) [] (L2.wipe σ (own.map (·.2))) H' s' ∧ tn i s'.heap ∧ (∀ b ∈ fp, H' b = none) ∧ W i m H'
              | .error _ => False) s11 := by
          refine compLoopS2_in (fun k s' => ∃ j H', Inv (X.blk s3 H3 scope ce fp) ([] ++ pinsAt fp s7.heap) (L2.wipe σ8 vs1) H' s' ∧ tn1 j s'.heap ∧ (∀ b ∈ fp1, H' b = none) ∧ W1 j k H') ?_ m1 ⟨0, H11, I11.weak (wipe_length _ _) (fun j v e => (wipe_some e).1), st11, fun b hb => (f11 b hb).1, w1⟩
          rintro k s12 ⟨j, H12, I12, st12, n12, w12⟩
          rcases turn1 j k H12 w12 with ⟨stop1, nx1⟩ | ⟨go1, Nx1, hNx1, step1⟩
          · refine thnF (T1.done (X.blk s3 H3 scope ce fp) rfl rfl rfl hc j _ s12 (L2.wipe σ8 vs1) H12 (fun _ _ => False) I12 (stat1 n12) st12 stop1) fun r s13 ⟨hr, I13⟩ => ?_
            subst hr
            exact fin I13 (hl8.trans (wipe_length σ8 vs1).symm) hk9 nx1
          · refine thnF (T1.item (X.blk s3 H3 scope ce fp) rfl rfl rfl hc j _ s12 (L2.wipe σ8 vs1) H12 (fun _ _ => False) I12 (stat1 n12) st12 go1) fun r s13 ⟨u1, hr, h13⟩ => ?_
            subst hr
            refine thnF h13 fun _ s14 ⟨x1, H14, I14, r14, y14, st14, n14⟩ => ?_
            have I14' := I14.pinned (stat1 n14) (T1.obj _ _ st14)
            refine thnF (pg1.run _ s14 (L2.wipe σ8 vs1) H14 x1 u1 _ I14' r14 (step1 x1 H14 y14)) fun _ s15 ⟨σ15, H15, I15, hw15, q15⟩ => ?_
            refine thnF (pt1.run _ s15 σ15 H15 _ I15 q15) fun b1 s16 ⟨H16, I16, q16⟩ => ?_
            have fin1 : ∀ {s' : Shared} {H' : Hp}, Inv (X.blk s3 H3 scope ce fp) (([] ++ pinsAt fp s7.heap) ++ pinsAt fp1 s14.heap) σ15 H' s' → Nx1 H' → ∃ m, m < k ∧ ∃ j H', Inv (X.blk s3 H3 scope ce fp) ([] ++ pinsAt fp s7.heap) (L2.wipe σ8 vs1) H' s' ∧ tn1 j s'.heap ∧ (∀ b ∈ fp1, H' b = none) ∧ W1 j m H' := fun {s' H'} I' nx => by
              obtain ⟨m', hm, w'⟩ := hNx1 H' nx
              have pin' : ∀ b ∈ fp1, ∀ o, s14.heap.get? b = some o → s'.heap.get? b = some o ∧ H' b = none := fun b hb o e =>
                let z := I'.pin (b, o) (List.mem_append_right _ (List.mem_append_right _ (mem_pinsAt hb e)))
                ⟨z.1, z.2.1⟩
              refine ⟨m', hm, j + 1, H', I'.unpinned.weak (by rw [← hw15, wipe_length]) (fun j v e => by rw [← hw15] at e; exact (wipe_some e).1), T1.keep _ _ _ st14 fun b hb o e => (pin' b hb o e).1, fun b hb => ?_, w'⟩
              obtain ⟨o, e, _⟩ := T1.obj _ _ st14 b hb
              exact (pin' b hb o e).2
            cases b1 with
            | false =>
              simp only [Bool.false_eq_true, if_false] at q16 ⊢
              exact fin1 I16 q16
            | true =>
              simp only [if_true] at q16 ⊢
              refine thnF (pe.run _ s16 σ15 H16 _ I16 q16) fun z s17 ⟨yv, H17, I17, r17, cb, S0, n0, ey, hD17, hz17, nx⟩ => ?_
              subst ey
              obtain ⟨tk, rfl⟩ := (show ∃ tk, z = Value.int cb tk from r17)
              exact addI_ok (X := X.blk s3 H3 scope ce fp) I17 hD17 hz17 fun s18 I18 => fin1 I18 nx
        exact compStartS1_ok loop1 (T1.self X.A 0 _ _ _ st11 loop1)
  exact codeAny_compStart_set loop (T.self X.A 0 _ _ _ st4 loop)
/-- as a value -/
theorem pe_sc2 {elt tg iter tg1 iter1 : Expr} {ifs ifs1 : List Expr} {scope : Scope} {own : List (Str × Nat)} {vs1 : List Nat} {pos : Pos} {wi wi1 : TI} {g g1 : TG} {tt tt1 : TT} {te : TE} (hc : X.calm = true) (hN : X.N.Nodup) (hi : PI X tg iter wi) (ok : BlkOk X.N X.env.scope scope own) (hv : ∀ i ∈ vs1, i ∈ own.map (·.2))
    (hg : ∀ (s : Shared) (H : Hp) (C : Addr) (cl : List (Str × Addr)) (fp : List Addr), PG (X.blk s H scope (compEnvC scope cl C X.env) fp) tg g) (ht : ∀ (s : Shared) (H : Hp) (C : Addr) (cl : List (Str × Addr)) (fp : List Addr), PTs (X.blk s H scope (compEnvC scope cl C X.env) fp) ifs tt)
    (hi1 : ∀ (s : Shared) (H : Hp) (C : Addr) (cl : List (Str × Addr)) (fp : List Addr), PI (X.blk s H scope (compEnvC scope cl C X.env) fp) tg1 iter1 wi1)
    (hg1 : ∀ (s : Shared) (H : Hp) (C : Addr) (cl : List (Str × Addr)) (fp : List Addr), PG (X.blk s H scope (compEnvC scope cl C X.env) fp) tg1 g1) (ht1 : ∀ (s : Shared) (H : Hp) (C : Addr) (cl : List (Str × Addr)) (fp : List Addr), PTs (X.blk s H scope (compEnvC scope cl C X.env) fp) ifs1 tt1)
    (he : ∀ (s : Shared) (H : Hp) (C : Addr) (cl : List (Str × Addr)) (fp : List Addr), PE (X.blk s H scope (compEnvC scope cl C X.env) fp) elt te) (hs : ∀ x, foldedSetIterable iter X.env x = pure x := by intro _; rfl) (hs1 : ∀ env x, foldedSetIterable iter1 env x = pure x := by intro _ _; rfl) :
    PE X (.SetComp elt [⟨tg, iter, ifs, 0⟩, ⟨tg1, iter1, ifs1, 0⟩] scope pos) (tSc2 X.w wi g tt wi1 g1 tt1 te (own.map (·.2)) vs1) := by
  refine ⟨fun pins s σ H Q I h => ?_⟩
  rw [eval_SetComp]
  refine sc2_core hc hN I hi ok hv hg ht he hs hi1 hg1 ht1 hs1 h fun D C s' m H' I' q hn f => ⟨m, hn, fun h'' sb => ?_⟩
  obtain ⟨f0, f1, f2, f3, f4, f5⟩ := f
  exact ⟨.ref D, H', I'.turned (t' := s'.toks) (fun b o hb e => (sb.2 b hb).trans e) f0 f1 f3 f4 f5, rfl, q⟩
end

theorem seenInts {K : PySem.W.Frag} {G : Hp} : ∀ ns : List Int, Seen K G (ns.map Dt.int) (ns.map V.int)
  | [] => .nil
  | k :: ns => .cons (by unfold Sees; rfl) (seenInts ns)
theorem riseOne : ∀ {a b : List Int}, a.Pairwise (· < ·) → b.Pairwise (· < ·) → (∀ x, x ∈ a ↔ x ∈ b) → a = b
  | [], [], _, _, _ => rfl
  | [], y :: b, _, _, h => nomatch (h y).mpr List.mem_cons_self
  | x :: a, [], _, _, h => nomatch (h x).mp List.mem_cons_self
  | x :: a, y :: b, ha, hb, h => by
    rw [List.pairwise_cons] at ha hb
    have e : x = y := by
      rcases List.mem_cons.mp ((h x).mp List.mem_cons_self) with e | e
      · exact e
      · rcases List.mem_cons.mp ((h y).mpr List.mem_cons_self) with e2 | e2
        · exact e2.symm
        · have := ha.1 y e2; have := hb.1 x e; omega
    subst e
    rw [riseOne ha.2 hb.2 fun z => ⟨fun hz => ?_, fun hz => ?_⟩]
    · rcases List.mem_cons.mp ((h z).mp (List.mem_cons_of_mem _ hz)) with e | e
      · have := ha.1 z hz; omega
      · exact e
    · rcases List.mem_cons.mp ((h z).mpr (List.mem_cons_of_mem _ hz)) with e | e
      · have := hb.1 z hz; omega
      · exact e
section
variable {X : Cx} {N : List PySem.Str} {sc : Scope} {full : Bool} {vi st : List Bool} {δ : Sl} {os : Os}
variable {it tg it1 tg1 elt : Expr} {pos p cpos : Pos}
theorem sc2_read (C : Ctx X N sc full vi st) {α β : Type} (l : List α) (f : α → Dt) (l1 : List β) (f1 : β → Dt) (v : α → β → Int) {scope : Scope} {own : List (PySem.Str × Nat)} {vs1 : List Nat} {vi' st' : List Bool} (hk : scope.kind = .function)
    (h1 : N.map (visB (relS scope sc)) = vi') (h2 : N.map (stB false (relS scope sc)) = st') (hi : JI X tg it δ os (l.map f)) (hz : l.length * l1.length < 64)
    (hs : ∀ t ∈ l, ∃ δ2, ∃ δ3 : β → Sl, ∀ X', InBlk X X' → Ctx X' N (relS scope sc) false vi' st' → JG X' tg (own.map (·.2)) (f t) (wipeD δ (own.map (·.2))) δ2 ∧ JI X' tg1 it1 δ2 os (l1.map f1) ∧ ∀ u ∈ l1, JG X' tg1 vs1 (f1 u) (wipeD δ2 vs1) (δ3 u) ∧ JP X' elt (δ3 u) os (.int (v t u)))
    {G H : Hp} {σ : L2.St} (O : Own X.K os G H) (E : EnvS X.K G δ σ) {Q : VK} (q : ∀ D S n G' H', Grow G H G' H' → H D = none → G' D = none → H' D = some (SetO X.w D S n) → (∀ k, S k = true ↔ ∃ t ∈ l, ∃ u ∈ l1, v t u = k) → n < 64 → Q (.ref D) H') :
    tSc2 X.w (wI X tg it) (fun v σ H Q => ∀ s H0 Cc cl fp, wG (X.blk s H0 scope (compEnvC scope cl Cc X.env) fp) tg v σ H Q) (fun σ H Q => ∀ s H0 Cc cl fp, wFs (X.blk s H0 scope (compEnvC scope cl Cc X.env) fp) [] σ H Q)
      (fun σ H R => ∀ s H0 Cc cl fp, wI (X.blk s H0 scope (compEnvC scope cl Cc X.env) fp) tg1 it1 σ H R) (fun v σ H Q => ∀ s H0 Cc cl fp, wG (X.blk s H0 scope (compEnvC scope cl Cc X.env) fp) tg1 v σ H Q) (fun σ H Q => ∀ s H0 Cc cl fp, wFs (X.blk s H0 scope (compEnvC scope cl Cc X.env) fp) [] σ H Q)
      (fun σ H Q => ∀ s H0 Cc cl fp, wE (X.blk s H0 scope (compEnvC scope cl Cc X.env) fp) elt σ H Q) (own.map (·.2)) vs1 σ H Q := by
  refine hi G H σ O E _ fun J G1 H1 g1 ok Da hD => ?_
  obtain ⟨vs, s, hgo, hstop, hy⟩ := ok
  have hlen : l.length = vs.length := by rw [← s.len, List.length_map]
  have keep : ∀ {Ga Ha Gb Hb : Hp} {S : Int → Bool} {n : Nat}, Grow Ga Ha Gb Hb → Ha Da = some (SetO X.w Da S n) → Ga Da = none → Hb Da = some (SetO X.w Da S n) ∧ Gb Da = none := fun {Ga Ha Gb Hb S n} ga ha hn => by
    refine ⟨ga.hh _ _ ha, ?_⟩
    cases z : Gb Da with
    | none => rfl
    | some o =>
      rcases ga.new _ _ z with w | w
      · rw [hn] at w; cases w
      · rw [ha] at w; cases w
  refine ⟨fun i m H2 => m = vs.length - i ∧ i ≤ vs.length ∧ ∃ G2 S n, Grow G1 H1 G2 H2 ∧ H2 Da = some (SetO X.w Da S n) ∧ G2 Da = none ∧ (∀ k, S k = true ↔ ∃ t ∈ l.take i, ∃ u ∈ l1, v t u = k) ∧ n ≤ i * l1.length,
    ⟨vs.length, by simp, Nat.zero_le _, G1, _, 0, Grow.hid g1.gh hD, upd_same, fresh_back g1.gh hD, fun k => by simp, Nat.zero_le _⟩, ?_⟩
  rintro i m H2 ⟨rfl, hi', G2, S, n, g2, hS, gD, hm, hn⟩
  have ex2 : Ex G1 H2 := g2.gg.trans g2.gh
  by_cases hlt : i < vs.length
  · refine .inr ⟨hgo H2 ex2 i hlt, fun H3 => ∃ G3 S n, Grow G1 H1 G3 H3 ∧ H3 Da = some (SetO X.w Da S n) ∧ G3 Da = none ∧ (∀ k, S k = true ↔ ∃ t ∈ l.take (i + 1), ∃ u ∈ l1, v t u = k) ∧ n ≤ (i + 1) * l1.length,
      fun H3 q3 => ⟨vs.length - (i + 1), by omega, rfl, hlt, q3⟩, fun x H3 y => ?_⟩
    obtain ⟨rfl, hx⟩ := hy H2 i x H3 ex2 hlt y
    have hil : i < l.length := by omega
    have hmem : l[i] ∈ l := List.getElem_mem _
    obtain ⟨dx, hdx, sx⟩ := s.getV hx
    rw [List.getElem?_map, List.getElem?_eq_getElem hil] at hdx
    obtain rfl : f l[i] = dx := Option.some.inj hdx
    have e2 : l.take (i + 1) = l.take i ++ [l[i]] := by rw [List.take_add_one, List.getElem?_eq_getElem hil]; rfl
    have Ow : Own X.K os G2 H3 := (O.grow g1).grow g2
    have Ew : EnvS X.K G2 (wipeD δ (own.map (·.2))) (L2.wipe σ (own.map (·.2))) := ((E.mono g1.gg).mono g2.gg).wipe _
    obtain ⟨δ2, δ3, hx2⟩ := hs l[i] hmem
    intro s0 H0 Cc cl fp
    refine (hx2 (X.blk s0 H0 scope (compEnvC scope cl Cc X.env) fp) ⟨rfl, rfl, rfl, rfl, rfl, rfl⟩ (blk_ctx C (s := s0) (H := H0) (Cc := Cc) (cl := cl) (fp := fp) hk h1 h2)).1 os G2 H3 _ x Ow Ew (sx.mono g2.gg _) _ fun σ4 E4 b4 => ⟨b4.wipe.trans (wipe_wipe _), ?_⟩
    intro s5 H5 Cc5 cl5 fp5
    refine (jfs_nil (X := X.blk s5 H5 scope (compEnvC scope cl5 Cc5 X.env) fp5) (δ := δ2) (os := os)) G2 H3 σ4 Ow E4 _ fun G6 H6 g6 => ?_
    rw [if_pos rfl]
    intro s7 H7 Cc7 cl7 fp7
    obtain ⟨_, hji, _⟩ := hx2 (X.blk s7 H7 scope (compEnvC scope cl7 Cc7 X.env) fp7) ⟨rfl, rfl, rfl, rfl, rfl, rfl⟩ (blk_ctx C (s := s7) (H := H7) (Cc := Cc7) (cl := cl7) (fp := fp7) hk h1 h2)
    refine hji G6 H6 σ4 (Ow.grow g6) (E4.mono g6.gg) _ fun J1 G8 H8 g8 ok1 => ?_
    obtain ⟨us, su, hgo1, hstop1, hy1⟩ := ok1
    have hlen1 : l1.length = us.length := by rw [← su.len, List.length_map]
    have g68 := g6.trans g8
    obtain ⟨k1, k2⟩ := keep g68 hS gD
    have E8 : EnvS X.K G8 δ2 σ4 := (E4.mono g6.gg).mono g8.gg
    have Ow8 : Own X.K os G8 H8 := Ow.grow g68
    refine ⟨fun j k Ha => k = us.length - j ∧ j ≤ us.length ∧ ∃ Ga S n, Grow G1 H1 Ga Ha ∧ Ex G8 Ga ∧ Own X.K os Ga Ha ∧ Ha Da = some (SetO X.w Da S n) ∧ Ga Da = none ∧ (∀ k, S k = true ↔ (∃ t ∈ l.take i, ∃ u ∈ l1, v t u = k) ∨ ∃ u ∈ l1.take j, v l[i] u = k) ∧ n ≤ i * l1.length + j,
      ⟨us.length, by simp, Nat.zero_le _, G8, S, n, g2.trans g68, Ex.refl _, Ow8, k1, k2, fun k => by rw [hm k]; simp, hn⟩, ?_⟩
    rintro j kk Ha ⟨rfl, hj, Ga, S1, n1, ga, ea, Owa, hSa, gDa, hma, hna⟩
    have exa : Ex G8 Ha := ea.trans ga.gh
    by_cases hlt1 : j < us.length
    · refine .inr ⟨hgo1 Ha exa j hlt1, fun Hb => ∃ Gb S n, Grow G1 H1 Gb Hb ∧ Ex G8 Gb ∧ Own X.K os Gb Hb ∧ Hb Da = some (SetO X.w Da S n) ∧ Gb Da = none ∧ (∀ k, S k = true ↔ (∃ t ∈ l.take i, ∃ u ∈ l1, v t u = k) ∨ ∃ u ∈ l1.take (j + 1), v l[i] u = k) ∧ n ≤ i * l1.length + (j + 1),
        fun Hb qb => ⟨us.length - (j + 1), by omega, rfl, hlt1, qb⟩, fun x1 Hb y1 => ?_⟩
      obtain ⟨rfl, hx1⟩ := hy1 Ha j x1 Hb exa hlt1 y1
      have hjl : j < l1.length := by omega
      have hmem1 : l1[j] ∈ l1 := List.getElem_mem _
      obtain ⟨dy, hdy, sy⟩ := su.getV hx1
      rw [List.getElem?_map, List.getElem?_eq_getElem hjl] at hdy
      obtain rfl : f1 l1[j] = dy := Option.some.inj hdy
      have e3 : l1.take (j + 1) = l1.take j ++ [l1[j]] := by rw [List.take_add_one, List.getElem?_eq_getElem hjl]; rfl
      have Ewa : EnvS X.K Ga (wipeD δ2 vs1) (L2.wipe σ4 vs1) := (E8.mono ea).wipe _
      intro sa H0a Cca cla fpa
      refine ((hx2 (X.blk sa H0a scope (compEnvC scope cla Cca X.env) fpa) ⟨rfl, rfl, rfl, rfl, rfl, rfl⟩ (blk_ctx C (s := sa) (H := H0a) (Cc := Cca) (cl := cla) (fp := fpa) hk h1 h2)).2.2 l1[j] hmem1).1 os Ga Hb _ x1 Owa Ewa (sy.mono ea _) _ fun σ9 E9 b9 => ⟨b9.wipe.trans (wipe_wipe _), ?_⟩
      intro sb H0b Ccb clb fpb
      refine (jfs_nil (X := X.blk sb H0b scope (compEnvC scope clb Ccb X.env) fpb) (δ := δ3 l1[j]) (os := os)) Ga Hb σ9 Owa E9 _ fun Gc Hc gc => ?_
      rw [if_pos rfl]
      intro sd H0d Ccd cld fpd
      refine ((hx2 (X.blk sd H0d scope (compEnvC scope cld Ccd X.env) fpd) ⟨rfl, rfl, rfl, rfl, rfl, rfl⟩ (blk_ctx C (s := sd) (H := H0d) (Cc := Ccd) (cl := cld) (fp := fpd) hk h1 h2)).2.2 l1[j] hmem1).2 Gc Hc σ9 (Owa.grow gc) (E9.mono gc.gg) _ fun z Gd Hd gd sz => ?_
      have gcd := gc.trans gd
      obtain ⟨m1, m2⟩ := keep gcd hSa gDa
      have hzv : z = .int (v l[i] l1[j]) := sz
      have hn64 : n1 < 64 := by
        have a : (i + 1) * l1.length ≤ l.length * l1.length := Nat.mul_le_mul_right _ hil
        rw [Nat.add_mul] at a
        omega
      have gg := ga.trans gcd
      refine ⟨v l[i] l1[j], S1, n1, hzv, m1, Nat.lt_trans (Nat.lt_succ_of_lt (Nat.succ_lt_succ hn64)) (by decide), Gd, _, _, ⟨gg.gg, Ex.mut gg.hh hD, Ex.mut gg.gh m2, gg.new⟩, ea.trans gcd.gg, ?_, upd_same, m2, fun k => ?_, ?_⟩
      · have Od := Owa.grow gcd
        refine ⟨Ex.mut Od.gh m2, fun u hu => ?_, Od.nd⟩
        obtain ⟨w1, ho, w2, w3⟩ := Od.own u hu
        have : u.1 ≠ Da := fun e => by
          obtain ⟨_, ho1, w5, _⟩ := (O.grow g1).own u hu
          rw [e, hD] at w5; cases w5
        exact ⟨w1, ho, by rw [upd_ne this]; exact w2, w3⟩
      · rw [Bool.or_eq_true, hma k, decide_eq_true_iff, e3]
        constructor
        · rintro ((a | ⟨u, hu, e⟩) | rfl)
          · exact .inl a
          · exact .inr ⟨u, List.mem_append_left _ hu, e⟩
          · exact .inr ⟨l1[j], List.mem_append_right _ List.mem_cons_self, rfl⟩
        · rintro (a | ⟨u, hu, e⟩)
          · exact .inl (.inl a)
          · rcases List.mem_append.mp hu with hu | hu
            · exact .inl (.inr ⟨u, hu, e⟩)
            · rw [List.mem_singleton.mp hu] at e; exact .inr e.symm
      · split <;> omega
    · have e : j = us.length := by omega
      subst e
      refine .inl ⟨hstop1 Ha exa, Ga, S1, n1, ga, hSa, gDa, fun k => ?_, by rw [Nat.add_mul, hlen1]; rw [hlen1] at hna; omega⟩
      rw [hma k, ← hlen1, List.take_length, e2]
      constructor
      · rintro (⟨t, ht, a⟩ | a)
        · exact ⟨t, List.mem_append_left _ ht, a⟩
        · exact ⟨l[i], List.mem_append_right _ List.mem_cons_self, a⟩
      · rintro ⟨t, ht, a⟩
        rcases List.mem_append.mp ht with ht | ht
        · exact .inl ⟨t, ht, a⟩
        · rw [List.mem_singleton.mp ht] at a; exact .inr a
  · have e : i = vs.length := by omega
    subst e
    refine .inl ⟨hstop H2 ex2, q Da S n G2 H2 (g1.trans g2) (fresh_back g1.hh hD) gD hS (fun k => ?_) ?_⟩
    · rw [hm k, ← hlen, List.take_length]
    · rw [← hlen] at hn; omega
/-- sorted({.. for .. in .. for .. in ..}) -/
theorem jn_sortedSC (C : Ctx X N sc full vi st) {α β : Type} (l : List α) (f : α → Dt) (l1 : List β) (f1 : β → Dt) (v : α → β → Int) (own : List (PySem.Str × Nat)) (vs1 : List Nat) {scope : Scope} {vi' st' : List Bool} {ns : List Int} (hm : X.mg "sorted" = none)
    (hi : JI X tg it δ os (l.map f))
    (hs : ∀ t ∈ l, ∃ δ2, ∃ δ3 : β → Sl, ∀ X', InBlk X X' → Ctx X' N (relS scope sc) false vi' st' → JG X' tg (own.map (·.2)) (f t) (wipeD δ (own.map (·.2))) δ2 ∧ JI X' tg1 it1 δ2 os (l1.map f1) ∧ ∀ u ∈ l1, JG X' tg1 vs1 (f1 u) (wipeD δ2 vs1) (δ3 u) ∧ JP X' elt (δ3 u) os (.int (v t u)))
    (hz : l.length * l1.length < 64) (ha : ns.Pairwise (· < ·)) (hn : ∀ k, k ∈ ns ↔ ∃ t ∈ l, ∃ u ∈ l1, v t u = k) (hv : ∀ i ∈ vs1, i ∈ own.map (·.2))
    (h1 : N.map (visB (relS scope sc)) = vi') (h2 : N.map (stB false (relS scope sc)) = st') (ok : blkC N sc scope own = true) (hk : scope.kind = .function) (hg : sc.names.lookup ("sorted" : PySem.Str) = some .globalImplicit)
    (hf : ∀ x, foldedSetIterable it X.env x = pure x := by intro _; rfl) (hf1 : ∀ env x, foldedSetIterable it1 env x = pure x := by intro _ _; rfl)
    (hst : starEach [.SetComp elt [⟨tg, it, [], 0⟩, ⟨tg1, it1, [], 0⟩] scope cpos] X.env = (false, eval (.SetComp elt [⟨tg, it, [], 0⟩, ⟨tg1, it1, [], 0⟩] scope cpos) X.env) :: starEach [] X.env := by rfl) :
    JN X (.Call (.Name "sorted" p) [.SetComp elt [⟨tg, it, [], 0⟩, ⟨tg1, it1, [], 0⟩] scope cpos] [] pos) δ os (ns.map Dt.int) := fun G H σ O E Q q =>
by
  have hp : PE X (.SetComp elt [⟨tg, it, [], 0⟩, ⟨tg1, it1, [], 0⟩] scope cpos) (tSc2 X.w (wI X tg it) (fun v σ H Q => ∀ s H0 Cc cl fp, wG (X.blk s H0 scope (compEnvC scope cl Cc X.env) fp) tg v σ H Q) (fun σ H Q => ∀ s H0 Cc cl fp, wFs (X.blk s H0 scope (compEnvC scope cl Cc X.env) fp) [] σ H Q)
      (fun σ H R => ∀ s H0 Cc cl fp, wI (X.blk s H0 scope (compEnvC scope cl Cc X.env) fp) tg1 it1 σ H R) (fun v σ H Q => ∀ s H0 Cc cl fp, wG (X.blk s H0 scope (compEnvC scope cl Cc X.env) fp) tg1 v σ H Q) (fun σ H Q => ∀ s H0 Cc cl fp, wFs (X.blk s H0 scope (compEnvC scope cl Cc X.env) fp) [] σ H Q)
      (fun σ H Q => ∀ s H0 Cc cl fp, wE (X.blk s H0 scope (compEnvC scope cl Cc X.env) fp) elt σ H Q) (own.map (·.2)) vs1) :=
    pe_sc2 C.calm C.ndX pi_w (BlkOk.to C ok) hv
      (fun s H C cl fp => ⟨fun pins s5 σ H5 v u Q I r h => h _ _ _ _ _ pins s5 u I r⟩) (fun s H C cl fp => ⟨fun pins s5 σ H5 Q I h => h _ _ _ _ _ pins s5 I⟩)
      (fun s H C cl fp => ⟨fun pins s5 σ H5 Q I h => h _ _ _ _ _ pins s5 I⟩) (fun s H C cl fp => ⟨fun pins s5 σ H5 v u Q I r h => h _ _ _ _ _ pins s5 u I r⟩) (fun s H C cl fp => ⟨fun pins s5 σ H5 Q I h => h _ _ _ _ _ pins s5 I⟩)
      (fun s H C cl fp => ⟨fun pins s5 σ H5 R I h => h _ _ _ _ _ pins s5 I⟩) hf hf1
  refine wE_of (pe_callB (cr_sortedSet C.calm) (C.gl hg) hm (by decide +kernel) (pa_cons hp pa_nil hst) (he := hst)) ?_
  refine sc2_read (Q := fun u H1 => rSortedSet X.w [u] H1 Q) C l f l1 f1 v hk h1 h2 hi hz hs O E fun D S n G' H' g hD gD hS hm n64 => ⟨D, S, n, rfl, hS, n64, fun ns' p asc mem _ hp => ?_⟩
  have e : ns' = ns := riseOne asc ha fun k => by rw [mem k, hm k, hn k]
  subst e
  refine q p _ G' _ (g.trans (Grow.hid g.gh hp)) (fresh_back g.hh hp) (fresh_back g.gh hp) upd_same ?_
  exact seenInts ns'
end
end DL

set_option maxHeartbeats 4000000
namespace K70
open PySem PySem.Spec PyProof.Rows L2 DL
def top (i : Nat) : Stmt := PySem.Challenge.pw_matchclocks_k70_hourglasses_over_matches.main.body.getD i (.Pass ⟨0, 0, 0, 0⟩)
abbrev s_checked_amount : Stmt := top 13
abbrev s_other_side : Stmt := top 14
abbrev s_lesser : Stmt := top 15
abbrev s_suffices : Stmt := top 16
abbrev s_is_word : Stmt := top 29
abbrev s_moves_fit : Stmt := top 30
abbrev s_position_fits : Stmt := top 31
abbrev s_guards : Stmt := top 32
abbrev s_Game_init : Stmt := inClass (top 33) 0
abbrev s_Game_checked : Stmt := inClass (top 33) 1
abbrev s_Game_mover : Stmt := inClass (top 33) 2
abbrev s_Game_is_safe : Stmt := inClass (top 33) 3
abbrev s_Game_turned : Stmt := inClass (top 33) 5
abbrev s_Game_eq : Stmt := inClass (top 33) 8
abbrev s_ended_outcome : Stmt := top 34
abbrev s_check_total : Stmt := top 37
abbrev s_least_for_one : Stmt := top 38
abbrev s_least_for_all : Stmt := top 39
abbrev s_renewed : Stmt := top 40
abbrev s_hourglass_least : Stmt := top 41
abbrev s_hourglass_outcome : Stmt := top 42
abbrev s_scores_below : Stmt := top 45
abbrev s_checked_score : Stmt := top 46
abbrev s_points_by_flag : Stmt := top 47
abbrev s_leg_position : Stmt := top 48
abbrev s_leg_game : Stmt := top 49
abbrev s_match_slots : Stmt := top 50
abbrev s_match_size : Stmt := top 51
abbrev s_match_position : Stmt := top 52
abbrev s_position_after : Stmt := top 53
abbrev s_check_unadded : Stmt := top 54
abbrev s_match_moves : Stmt := top 55
abbrev s_match_game : Stmt := top 56
abbrev s_leg_fits : Stmt := top 61
abbrev s_turned_leg : Stmt := top 62
abbrev s_score_rows : Stmt := top 63
abbrev s_Match_init : Stmt := inClass (top 64) 0
abbrev s_Match_checked_leg : Stmt := inClass (top 64) 1
abbrev s_Match_game_of : Stmt := inClass (top 64) 2
abbrev s_Match_begins : Stmt := inClass (top 64) 3
abbrev s_Match_added_after : Stmt := inClass (top 64) 4
abbrev s_Match_points_for : Stmt := inClass (top 64) 5
abbrev s_Match_scores : Stmt := inClass (top 64) 6
abbrev s_Match_still_open : Stmt := inClass (top 64) 7
abbrev s_Match_turned : Stmt := inClass (top 64) 8
abbrev s_Match_iter : Stmt := inClass (top 64) 10
abbrev s_Match_eq : Stmt := inClass (top 64) 11
abbrev s_L_cell : Stmt := top 66
abbrev s_L_numbers : Stmt := top 67
abbrev s_L_is : Stmt := top 68
abbrev s_L_made : Stmt := top 69
abbrev s_L_turned : Stmt := top 70
abbrev s_L_ladder : Stmt := top 71
abbrev s_L_worth : Stmt := top 72
abbrev s_L_scores : Stmt := top 73
abbrev s_L_seen : Stmt := top 74
abbrev s_L_flag : Stmt := top 75
abbrev s_L_contest : Stmt := top 76
abbrev s_L_match : Stmt := top 77
abbrev s_L_next : Stmt := top 78
abbrev s_L_wins : Stmt := top 79
abbrev s_L_search : Stmt := top 80
abbrev s_L_asked : Stmt := top 81
abbrev s_law : Stmt := top 82
def fa : List He.Fa := [.int "MOST" (1000000000000000000000000000000),
  .int "FIRST" (1),
  .int "SECOND" (2),
  .int "WON" (3),
  .int "LOST" (4),
  .int "DRAWN" (5),
  .int "MOST_POSITIONS" (1000),
  .int "MOST_MOVES" (16),
  .int "MOST_NEED" (9),
  .str "WORD_SIGNS" "abcdefghijklmnopqrstuvwxyz0123456789",
  .int "MOST_STANDINGS" (20000),
  .str "LED_ON" "on",
  .int "MOST_LEGS" (6),
  .int "MOST_WIN" (9),
  .int "MOST_ADDED" (60),
  .glo "TURNED_MARKS",
  .glo "ENDED_OUTCOMES",
  .glo "checked_amount",
  .glo "other_side",
  .glo "lesser",
  .glo "suffices",
  .glo "is_word",
  .glo "moves_fit",
  .glo "position_fits",
  .glo "guards",
  .glo "Game",
  .glo "ended_outcome",
  .glo "check_total",
  .glo "least_for_one",
  .glo "least_for_all",
  .glo "renewed",
  .glo "hourglass_least",
  .glo "hourglass_outcome",
  .glo "scores_below",
  .glo "checked_score",
  .glo "points_by_flag",
  .glo "leg_position",
  .glo "leg_game",
  .glo "match_slots",
  .glo "match_size",
  .glo "match_position",
  .glo "position_after",
  .glo "check_unadded",
  .glo "match_moves",
  .glo "match_game",
  .glo "leg_fits",
  .glo "turned_leg",
  .glo "score_rows",
  .glo "Match",
  .glo "_law_cell",
  .glo "_law_numbers",
  .glo "_law_is",
  .glo "_law_made",
  .glo "_law_turned",
  .glo "_law_ladder",
  .glo "_law_worth",
  .glo "_law_scores",
  .glo "_law_seen",
  .glo "_law_flag",
  .glo "_law_contest",
  .glo "_law_match",
  .glo "_law_next",
  .glo "_law_wins",
  .glo "_law_search",
  .glo "_law_asked",
  .glo "law",
  .free "abs",
  .free "bool",
  .free "int",
  .free "isinstance",
  .free "iter",
  .free "len",
  .free "list",
  .free "max",
  .free "min",
  .free "range",
  .free "sorted",
  .free "super",
  .free "tuple",
  .cls "Game",
  .mkr "Game",
  .meth "Game" "checked",
  .meth "Game" "mover",
  .meth "Game" "is_safe",
  .meth "Game" "turned",
  .noat "Game" "size",
  .noat "Game" "marks",
  .noat "Game" "moves",
  .noat "Game" "safe",
  .noat "Game" "_guarded",
  .cls "Match",
  .mkr "Match",
  .meth "Match" "checked_leg",
  .meth "Match" "game_of",
  .meth "Match" "begins",
  .meth "Match" "added_after",
  .meth "Match" "points_for",
  .meth "Match" "scores",
  .meth "Match" "still_open",
  .meth "Match" "turned",
  .noat "Match" "legs",
  .noat "Match" "win",
  .noat "Match" "draw",
  .noat "Match" "_scores",
  .noat "Match" "_games"]
def fn : List He.DefD := [⟨("checked_amount", none), "checked_amount", "checked_amount", defArgs s_checked_amount, defBody s_checked_amount, defScope s_checked_amount, [], []⟩,
  ⟨("other_side", none), "other_side", "other_side", defArgs s_other_side, defBody s_other_side, defScope s_other_side, [], []⟩,
  ⟨("lesser", none), "lesser", "lesser", defArgs s_lesser, defBody s_lesser, defScope s_lesser, [], []⟩,
  ⟨("suffices", none), "suffices", "suffices", defArgs s_suffices, defBody s_suffices, defScope s_suffices, [], []⟩,
  ⟨("is_word", none), "is_word", "is_word", defArgs s_is_word, defBody s_is_word, defScope s_is_word, [], []⟩,
  ⟨("moves_fit", none), "moves_fit", "moves_fit", defArgs s_moves_fit, defBody s_moves_fit, defScope s_moves_fit, [], []⟩,
  ⟨("position_fits", none), "position_fits", "position_fits", defArgs s_position_fits, defBody s_position_fits, defScope s_position_fits, [], []⟩,
  ⟨("guards", none), "guards", "guards", defArgs s_guards, defBody s_guards, defScope s_guards, [], []⟩,
  ⟨("Game", some "__init__"), "__init__", "Game.__init__", defArgs s_Game_init, defBody s_Game_init, defScope s_Game_init, [.adr (He.dflAt ("Game", some "__init__") 0)], []⟩,
  ⟨("Game", some "checked"), "checked", "Game.checked", defArgs s_Game_checked, defBody s_Game_checked, defScope s_Game_checked, [], []⟩,
  ⟨("Game", some "mover"), "mover", "Game.mover", defArgs s_Game_mover, defBody s_Game_mover, defScope s_Game_mover, [], []⟩,
  ⟨("Game", some "is_safe"), "is_safe", "Game.is_safe", defArgs s_Game_is_safe, defBody s_Game_is_safe, defScope s_Game_is_safe, [], []⟩,
  ⟨("Game", some "turned"), "turned", "Game.turned", defArgs s_Game_turned, defBody s_Game_turned, defScope s_Game_turned, [], []⟩,
  ⟨("Game", some "__eq__"), "__eq__", "Game.__eq__", defArgs s_Game_eq, defBody s_Game_eq, defScope s_Game_eq, [], []⟩,
  ⟨("ended_outcome", none), "ended_outcome", "ended_outcome", defArgs s_ended_outcome, defBody s_ended_outcome, defScope s_ended_outcome, [], []⟩,
  ⟨("check_total", none), "check_total", "check_total", defArgs s_check_total, defBody s_check_total, defScope s_check_total, [], []⟩,
  ⟨("least_for_one", none), "least_for_one", "least_for_one", defArgs s_least_for_one, defBody s_least_for_one, defScope s_least_for_one, [], []⟩,
  ⟨("least_for_all", none), "least_for_all", "least_for_all", defArgs s_least_for_all, defBody s_least_for_all, defScope s_least_for_all, [], []⟩,
  ⟨("renewed", none), "renewed", "renewed", defArgs s_renewed, defBody s_renewed, defScope s_renewed, [], []⟩,
  ⟨("hourglass_least", none), "hourglass_least", "hourglass_least", defArgs s_hourglass_least, defBody s_hourglass_least, defScope s_hourglass_least, [], []⟩,
  ⟨("hourglass_outcome", none), "hourglass_outcome", "hourglass_outcome", defArgs s_hourglass_outcome, defBody s_hourglass_outcome, defScope s_hourglass_outcome, [], []⟩,
  ⟨("scores_below", none), "scores_below", "scores_below", defArgs s_scores_below, defBody s_scores_below, defScope s_scores_below, [], []⟩,
  ⟨("checked_score", none), "checked_score", "checked_score", defArgs s_checked_score, defBody s_checked_score, defScope s_checked_score, [], []⟩,
  ⟨("points_by_flag", none), "points_by_flag", "points_by_flag", defArgs s_points_by_flag, defBody s_points_by_flag, defScope s_points_by_flag, [], []⟩,
  ⟨("leg_position", none), "leg_position", "leg_position", defArgs s_leg_position, defBody s_leg_position, defScope s_leg_position, [], []⟩,
  ⟨("leg_game", none), "leg_game", "leg_game", defArgs s_leg_game, defBody s_leg_game, defScope s_leg_game, [], []⟩,
  ⟨("match_slots", none), "match_slots", "match_slots", defArgs s_match_slots, defBody s_match_slots, defScope s_match_slots, [], []⟩,
  ⟨("match_size", none), "match_size", "match_size", defArgs s_match_size, defBody s_match_size, defScope s_match_size, [], []⟩,
  ⟨("match_position", none), "match_position", "match_position", defArgs s_match_position, defBody s_match_position, defScope s_match_position, [], []⟩,
  ⟨("position_after", none), "position_after", "position_after", defArgs s_position_after, defBody s_position_after, defScope s_position_after, [], []⟩,
  ⟨("check_unadded", none), "check_unadded", "check_unadded", defArgs s_check_unadded, defBody s_check_unadded, defScope s_check_unadded, [], []⟩,
  ⟨("match_moves", none), "match_moves", "match_moves", defArgs s_match_moves, defBody s_match_moves, defScope s_match_moves, [], []⟩,
  ⟨("match_game", none), "match_game", "match_game", defArgs s_match_game, defBody s_match_game, defScope s_match_game, [], []⟩,
  ⟨("leg_fits", none), "leg_fits", "leg_fits", defArgs s_leg_fits, defBody s_leg_fits, defScope s_leg_fits, [], []⟩,
  ⟨("turned_leg", none), "turned_leg", "turned_leg", defArgs s_turned_leg, defBody s_turned_leg, defScope s_turned_leg, [], []⟩,
  ⟨("score_rows", none), "score_rows", "score_rows", defArgs s_score_rows, defBody s_score_rows, defScope s_score_rows, [], []⟩,
  ⟨("Match", some "__init__"), "__init__", "Match.__init__", defArgs s_Match_init, defBody s_Match_init, defScope s_Match_init, [.int 2, .int 1], []⟩,
  ⟨("Match", some "checked_leg"), "checked_leg", "Match.checked_leg", defArgs s_Match_checked_leg, defBody s_Match_checked_leg, defScope s_Match_checked_leg, [], []⟩,
  ⟨("Match", some "game_of"), "game_of", "Match.game_of", defArgs s_Match_game_of, defBody s_Match_game_of, defScope s_Match_game_of, [], []⟩,
  ⟨("Match", some "begins"), "begins", "Match.begins", defArgs s_Match_begins, defBody s_Match_begins, defScope s_Match_begins, [], []⟩,
  ⟨("Match", some "added_after"), "added_after", "Match.added_after", defArgs s_Match_added_after, defBody s_Match_added_after, defScope s_Match_added_after, [], []⟩,
  ⟨("Match", some "points_for"), "points_for", "Match.points_for", defArgs s_Match_points_for, defBody s_Match_points_for, defScope s_Match_points_for, [], []⟩,
  ⟨("Match", some "scores"), "scores", "Match.scores", defArgs s_Match_scores, defBody s_Match_scores, defScope s_Match_scores, [], []⟩,
  ⟨("Match", some "still_open"), "still_open", "Match.still_open", defArgs s_Match_still_open, defBody s_Match_still_open, defScope s_Match_still_open, [], []⟩,
  ⟨("Match", some "turned"), "turned", "Match.turned", defArgs s_Match_turned, defBody s_Match_turned, defScope s_Match_turned, [], []⟩,
  ⟨("Match", some "__iter__"), "__iter__", "Match.__iter__", defArgs s_Match_iter, defBody s_Match_iter, defScope s_Match_iter, [], []⟩,
  ⟨("Match", some "__eq__"), "__eq__", "Match.__eq__", defArgs s_Match_eq, defBody s_Match_eq, defScope s_Match_eq, [], []⟩,
  ⟨("_law_cell", none), "_law_cell", "_law_cell", defArgs s_L_cell, defBody s_L_cell, defScope s_L_cell, [], []⟩,
  ⟨("_law_numbers", none), "_law_numbers", "_law_numbers", defArgs s_L_numbers, defBody s_L_numbers, defScope s_L_numbers, [], []⟩,
  ⟨("_law_is", none), "_law_is", "_law_is", defArgs s_L_is, defBody s_L_is, defScope s_L_is, [], []⟩,
  ⟨("_law_made", none), "_law_made", "_law_made", defArgs s_L_made, defBody s_L_made, defScope s_L_made, [], []⟩,
  ⟨("_law_turned", none), "_law_turned", "_law_turned", defArgs s_L_turned, defBody s_L_turned, defScope s_L_turned, [], []⟩,
  ⟨("_law_ladder", none), "_law_ladder", "_law_ladder", defArgs s_L_ladder, defBody s_L_ladder, defScope s_L_ladder, [], []⟩,
  ⟨("_law_worth", none), "_law_worth", "_law_worth", defArgs s_L_worth, defBody s_L_worth, defScope s_L_worth, [], []⟩,
  ⟨("_law_scores", none), "_law_scores", "_law_scores", defArgs s_L_scores, defBody s_L_scores, defScope s_L_scores, [], []⟩,
  ⟨("_law_seen", none), "_law_seen", "_law_seen", defArgs s_L_seen, defBody s_L_seen, defScope s_L_seen, [], []⟩,
  ⟨("_law_flag", none), "_law_flag", "_law_flag", defArgs s_L_flag, defBody s_L_flag, defScope s_L_flag, [], []⟩,
  ⟨("_law_contest", none), "_law_contest", "_law_contest", defArgs s_L_contest, defBody s_L_contest, defScope s_L_contest, [], []⟩,
  ⟨("_law_match", none), "_law_match", "_law_match", defArgs s_L_match, defBody s_L_match, defScope s_L_match, [], []⟩,
  ⟨("_law_next", none), "_law_next", "_law_next", defArgs s_L_next, defBody s_L_next, defScope s_L_next, [], []⟩,
  ⟨("_law_wins", none), "_law_wins", "_law_wins", defArgs s_L_wins, defBody s_L_wins, defScope s_L_wins, [], []⟩,
  ⟨("_law_search", none), "_law_search", "_law_search", defArgs s_L_search, defBody s_L_search, defScope s_L_search, [], []⟩,
  ⟨("_law_asked", none), "_law_asked", "_law_asked", defArgs s_L_asked, defBody s_L_asked, defScope s_L_asked, [], []⟩,
  ⟨("law", none), "law", "law", defArgs s_law, defBody s_law, defScope s_law, [], []⟩]
def ex (K : PySem.W.Frag) : Bool := He.tupB K "TURNED_MARKS" [.int 0, .int 2, .int 1, .int 4, .int 3, .int 5] && He.tupB K "ENDED_OUTCOMES" [.non, .non, .non, .int 1, .int 2, .int 0]
/-- what the head tells -/
structure Txt (P : Program) (w : World) (K : PySem.W.Frag) (mg : Str → Option Value) (base : Heap) : Prop where
  says : He.SaysD fa fn K
  more : ex K = true
  at_ : ∃ h : Heap, K.In h ∧ h.Ns mainGlobals mg
section
variable {P : Program} {w : World} {K : PySem.W.Frag} {mg : Str → Option Value} {base : Heap}
theorem Txt.fact (T : Txt P w K mg base) (i : Nat) {f : He.Fa} (h : fa[i]? = some f) : f.ok K = true := T.says.fact i h
theorem Txt.glo (T : Txt P w K mg base) (i : Nat) {x : Str} (h : fa[i]? = some (.glo x) := by rfl) : mg x = some (.ref (He.ga K x)) := let ⟨_, X, G⟩ := T.at_; He.glo_ok X G (T.fact i h)
theorem Txt.free (T : Txt P w K mg base) (i : Nat) {x : Str} (h : fa[i]? = some (.free x) := by rfl) : mg x = none := let ⟨_, X, G⟩ := T.at_; He.free_ok X G (T.fact i h)
theorem Txt.int_ (T : Txt P w K mg base) (i : Nat) {x : Str} {j : Int} (h : fa[i]? = some (.int x j) := by rfl) : ∃ t, mg x = some (.int j t) := let ⟨_, X, G⟩ := T.at_; He.int_ok X G (T.fact i h)
theorem Txt.str_ (T : Txt P w K mg base) (i : Nat) {x y : Str} (h : fa[i]? = some (.str x y) := by rfl) : ∃ t, mg x = some (.str y t) := let ⟨_, X, G⟩ := T.at_; He.str_ok X G (T.fact i h)
theorem Txt.k_MOST (T : Txt P w K mg base) : ∃ t, mg "MOST" = some (.int 1000000000000000000000000000000 t) := T.int_ 0
theorem Txt.k_FIRST (T : Txt P w K mg base) : ∃ t, mg "FIRST" = some (.int 1 t) := T.int_ 1
theorem Txt.k_SECOND (T : Txt P w K mg base) : ∃ t, mg "SECOND" = some (.int 2 t) := T.int_ 2
theorem Txt.k_WON (T : Txt P w K mg base) : ∃ t, mg "WON" = some (.int 3 t) := T.int_ 3
theorem Txt.k_LOST (T : Txt P w K mg base) : ∃ t, mg "LOST" = some (.int 4 t) := T.int_ 4
theorem Txt.k_DRAWN (T : Txt P w K mg base) : ∃ t, mg "DRAWN" = some (.int 5 t) := T.int_ 5
theorem Txt.k_MOST_POSITIONS (T : Txt P w K mg base) : ∃ t, mg "MOST_POSITIONS" = some (.int 1000 t) := T.int_ 6
theorem Txt.k_MOST_MOVES (T : Txt P w K mg base) : ∃ t, mg "MOST_MOVES" = some (.int 16 t) := T.int_ 7
theorem Txt.k_MOST_NEED (T : Txt P w K mg base) : ∃ t, mg "MOST_NEED" = some (.int 9 t) := T.int_ 8
theorem Txt.k_WORD_SIGNS (T : Txt P w K mg base) : ∃ t, mg "WORD_SIGNS" = some (.str "abcdefghijklmnopqrstuvwxyz0123456789" t) := T.str_ 9
theorem Txt.k_MOST_STANDINGS (T : Txt P w K mg base) : ∃ t, mg "MOST_STANDINGS" = some (.int 20000 t) := T.int_ 10
theorem Txt.k_LED_ON (T : Txt P w K mg base) : ∃ t, mg "LED_ON" = some (.str "on" t) := T.str_ 11
theorem Txt.k_MOST_LEGS (T : Txt P w K mg base) : ∃ t, mg "MOST_LEGS" = some (.int 6 t) := T.int_ 12
theorem Txt.k_MOST_WIN (T : Txt P w K mg base) : ∃ t, mg "MOST_WIN" = some (.int 9 t) := T.int_ 13
theorem Txt.k_MOST_ADDED (T : Txt P w K mg base) : ∃ t, mg "MOST_ADDED" = some (.int 60 t) := T.int_ 14
theorem Txt.g_TURNED_MARKS (T : Txt P w K mg base) : mg "TURNED_MARKS" = some (.ref (He.ga K "TURNED_MARKS")) := T.glo 15
theorem Txt.g_ENDED_OUTCOMES (T : Txt P w K mg base) : mg "ENDED_OUTCOMES" = some (.ref (He.ga K "ENDED_OUTCOMES")) := T.glo 16
theorem Txt.g_checked_amount (T : Txt P w K mg base) : mg "checked_amount" = some (.ref (He.ga K "checked_amount")) := T.glo 17
theorem Txt.g_other_side (T : Txt P w K mg base) : mg "other_side" = some (.ref (He.ga K "other_side")) := T.glo 18
theorem Txt.g_lesser (T : Txt P w K mg base) : mg "lesser" = some (.ref (He.ga K "lesser")) := T.glo 19
theorem Txt.g_suffices (T : Txt P w K mg base) : mg "suffices" = some (.ref (He.ga K "suffices")) := T.glo 20
theorem Txt.g_is_word (T : Txt P w K mg base) : mg "is_word" = some (.ref (He.ga K "is_word")) := T.glo 21
theorem Txt.g_moves_fit (T : Txt P w K mg base) : mg "moves_fit" = some (.ref (He.ga K "moves_fit")) := T.glo 22
theorem Txt.g_position_fits (T : Txt P w K mg base) : mg "position_fits" = some (.ref (He.ga K "position_fits")) := T.glo 23
theorem Txt.g_guards (T : Txt P w K mg base) : mg "guards" = some (.ref (He.ga K "guards")) := T.glo 24
theorem Txt.g_Game (T : Txt P w K mg base) : mg "Game" = some (.ref (He.ga K "Game")) := T.glo 25
theorem Txt.g_ended_outcome (T : Txt P w K mg base) : mg "ended_outcome" = some (.ref (He.ga K "ended_outcome")) := T.glo 26
theorem Txt.g_check_total (T : Txt P w K mg base) : mg "check_total" = some (.ref (He.ga K "check_total")) := T.glo 27
theorem Txt.g_least_for_one (T : Txt P w K mg base) : mg "least_for_one" = some (.ref (He.ga K "least_for_one")) := T.glo 28
theorem Txt.g_least_for_all (T : Txt P w K mg base) : mg "least_for_all" = some (.ref (He.ga K "least_for_all")) := T.glo 29
theorem Txt.g_renewed (T : Txt P w K mg base) : mg "renewed" = some (.ref (He.ga K "renewed")) := T.glo 30
theorem Txt.g_hourglass_least (T : Txt P w K mg base) : mg "hourglass_least" = some (.ref (He.ga K "hourglass_least")) := T.glo 31
theorem Txt.g_hourglass_outcome (T : Txt P w K mg base) : mg "hourglass_outcome" = some (.ref (He.ga K "hourglass_outcome")) := T.glo 32
theorem Txt.g_scores_below (T : Txt P w K mg base) : mg "scores_below" = some (.ref (He.ga K "scores_below")) := T.glo 33
theorem Txt.g_checked_score (T : Txt P w K mg base) : mg "checked_score" = some (.ref (He.ga K "checked_score")) := T.glo 34
theorem Txt.g_points_by_flag (T : Txt P w K mg base) : mg "points_by_flag" = some (.ref (He.ga K "points_by_flag")) := T.glo 35
theorem Txt.g_leg_position (T : Txt P w K mg base) : mg "leg_position" = some (.ref (He.ga K "leg_position")) := T.glo 36
theorem Txt.g_leg_game (T : Txt P w K mg base) : mg "leg_game" = some (.ref (He.ga K "leg_game")) := T.glo 37
theorem Txt.g_match_slots (T : Txt P w K mg base) : mg "match_slots" = some (.ref (He.ga K "match_slots")) := T.glo 38
theorem Txt.g_match_size (T : Txt P w K mg base) : mg "match_size" = some (.ref (He.ga K "match_size")) := T.glo 39
theorem Txt.g_match_position (T : Txt P w K mg base) : mg "match_position" = some (.ref (He.ga K "match_position")) := T.glo 40
theorem Txt.g_position_after (T : Txt P w K mg base) : mg "position_after" = some (.ref (He.ga K "position_after")) := T.glo 41
theorem Txt.g_check_unadded (T : Txt P w K mg base) : mg "check_unadded" = some (.ref (He.ga K "check_unadded")) := T.glo 42
theorem Txt.g_match_moves (T : Txt P w K mg base) : mg "match_moves" = some (.ref (He.ga K "match_moves")) := T.glo 43
theorem Txt.g_match_game (T : Txt P w K mg base) : mg "match_game" = some (.ref (He.ga K "match_game")) := T.glo 44
theorem Txt.g_leg_fits (T : Txt P w K mg base) : mg "leg_fits" = some (.ref (He.ga K "leg_fits")) := T.glo 45
theorem Txt.g_turned_leg (T : Txt P w K mg base) : mg "turned_leg" = some (.ref (He.ga K "turned_leg")) := T.glo 46
theorem Txt.g_score_rows (T : Txt P w K mg base) : mg "score_rows" = some (.ref (He.ga K "score_rows")) := T.glo 47
theorem Txt.g_Match (T : Txt P w K mg base) : mg "Match" = some (.ref (He.ga K "Match")) := T.glo 48
theorem Txt.g_L_cell (T : Txt P w K mg base) : mg "_law_cell" = some (.ref (He.ga K "_law_cell")) := T.glo 49
theorem Txt.g_L_numbers (T : Txt P w K mg base) : mg "_law_numbers" = some (.ref (He.ga K "_law_numbers")) := T.glo 50
theorem Txt.g_L_is (T : Txt P w K mg base) : mg "_law_is" = some (.ref (He.ga K "_law_is")) := T.glo 51
theorem Txt.g_L_made (T : Txt P w K mg base) : mg "_law_made" = some (.ref (He.ga K "_law_made")) := T.glo 52
theorem Txt.g_L_turned (T : Txt P w K mg base) : mg "_law_turned" = some (.ref (He.ga K "_law_turned")) := T.glo 53
theorem Txt.g_L_ladder (T : Txt P w K mg base) : mg "_law_ladder" = some (.ref (He.ga K "_law_ladder")) := T.glo 54
theorem Txt.g_L_worth (T : Txt P w K mg base) : mg "_law_worth" = some (.ref (He.ga K "_law_worth")) := T.glo 55
theorem Txt.g_L_scores (T : Txt P w K mg base) : mg "_law_scores" = some (.ref (He.ga K "_law_scores")) := T.glo 56
theorem Txt.g_L_seen (T : Txt P w K mg base) : mg "_law_seen" = some (.ref (He.ga K "_law_seen")) := T.glo 57
theorem Txt.g_L_flag (T : Txt P w K mg base) : mg "_law_flag" = some (.ref (He.ga K "_law_flag")) := T.glo 58
theorem Txt.g_L_contest (T : Txt P w K mg base) : mg "_law_contest" = some (.ref (He.ga K "_law_contest")) := T.glo 59
theorem Txt.g_L_match (T : Txt P w K mg base) : mg "_law_match" = some (.ref (He.ga K "_law_match")) := T.glo 60
theorem Txt.g_L_next (T : Txt P w K mg base) : mg "_law_next" = some (.ref (He.ga K "_law_next")) := T.glo 61
theorem Txt.g_L_wins (T : Txt P w K mg base) : mg "_law_wins" = some (.ref (He.ga K "_law_wins")) := T.glo 62
theorem Txt.g_L_search (T : Txt P w K mg base) : mg "_law_search" = some (.ref (He.ga K "_law_search")) := T.glo 63
theorem Txt.g_L_asked (T : Txt P w K mg base) : mg "_law_asked" = some (.ref (He.ga K "_law_asked")) := T.glo 64
theorem Txt.g_law (T : Txt P w K mg base) : mg "law" = some (.ref (He.ga K "law")) := T.glo 65
theorem Txt.f_abs (T : Txt P w K mg base) : mg "abs" = none := T.free 66
theorem Txt.f_bool (T : Txt P w K mg base) : mg "bool" = none := T.free 67
theorem Txt.f_int (T : Txt P w K mg base) : mg "int" = none := T.free 68
theorem Txt.f_isinstance (T : Txt P w K mg base) : mg "isinstance" = none := T.free 69
theorem Txt.f_iter (T : Txt P w K mg base) : mg "iter" = none := T.free 70
theorem Txt.f_len (T : Txt P w K mg base) : mg "len" = none := T.free 71
theorem Txt.f_list (T : Txt P w K mg base) : mg "list" = none := T.free 72
theorem Txt.f_max (T : Txt P w K mg base) : mg "max" = none := T.free 73
theorem Txt.f_min (T : Txt P w K mg base) : mg "min" = none := T.free 74
theorem Txt.f_range (T : Txt P w K mg base) : mg "range" = none := T.free 75
theorem Txt.f_sorted (T : Txt P w K mg base) : mg "sorted" = none := T.free 76
theorem Txt.f_super (T : Txt P w K mg base) : mg "super" = none := T.free 77
theorem Txt.f_tuple (T : Txt P w K mg base) : mg "tuple" = none := T.free 78
theorem Txt.cl_Game (T : Txt P w K mg base) : Cls K (He.ga K "Game") := He.cls_ok (T.fact 79 rfl)
theorem Txt.mk_Game (T : Txt P w K mg base) : Mk K (He.ga K "Game") (He.ma K (He.ga K "Game") "__init__") := He.mkr_ok (T.fact 80 rfl)
theorem Txt.me_Game_checked (T : Txt P w K mg base) : Meth K (He.ga K "Game") "checked" (He.ma K (He.ga K "Game") "checked") := He.meth_ok (T.fact 81 rfl)
theorem Txt.me_Game_mover (T : Txt P w K mg base) : Meth K (He.ga K "Game") "mover" (He.ma K (He.ga K "Game") "mover") := He.meth_ok (T.fact 82 rfl)
theorem Txt.me_Game_is_safe (T : Txt P w K mg base) : Meth K (He.ga K "Game") "is_safe" (He.ma K (He.ga K "Game") "is_safe") := He.meth_ok (T.fact 83 rfl)
theorem Txt.me_Game_turned (T : Txt P w K mg base) : Meth K (He.ga K "Game") "turned" (He.ma K (He.ga K "Game") "turned") := He.meth_ok (T.fact 84 rfl)
theorem Txt.na_Game_size (T : Txt P w K mg base) : NoAttr K (He.ga K "Game") "size" := He.noat_ok (T.fact 85 rfl)
theorem Txt.na_Game_marks (T : Txt P w K mg base) : NoAttr K (He.ga K "Game") "marks" := He.noat_ok (T.fact 86 rfl)
theorem Txt.na_Game_moves (T : Txt P w K mg base) : NoAttr K (He.ga K "Game") "moves" := He.noat_ok (T.fact 87 rfl)
theorem Txt.na_Game_safe (T : Txt P w K mg base) : NoAttr K (He.ga K "Game") "safe" := He.noat_ok (T.fact 88 rfl)
theorem Txt.na_Game_guarded (T : Txt P w K mg base) : NoAttr K (He.ga K "Game") "_guarded" := He.noat_ok (T.fact 89 rfl)
theorem Txt.cl_Match (T : Txt P w K mg base) : Cls K (He.ga K "Match") := He.cls_ok (T.fact 90 rfl)
theorem Txt.mk_Match (T : Txt P w K mg base) : Mk K (He.ga K "Match") (He.ma K (He.ga K "Match") "__init__") := He.mkr_ok (T.fact 91 rfl)
theorem Txt.me_Match_checked_leg (T : Txt P w K mg base) : Meth K (He.ga K "Match") "checked_leg" (He.ma K (He.ga K "Match") "checked_leg") := He.meth_ok (T.fact 92 rfl)
theorem Txt.me_Match_game_of (T : Txt P w K mg base) : Meth K (He.ga K "Match") "game_of" (He.ma K (He.ga K "Match") "game_of") := He.meth_ok (T.fact 93 rfl)
theorem Txt.me_Match_begins (T : Txt P w K mg base) : Meth K (He.ga K "Match") "begins" (He.ma K (He.ga K "Match") "begins") := He.meth_ok (T.fact 94 rfl)
theorem Txt.me_Match_added_after (T : Txt P w K mg base) : Meth K (He.ga K "Match") "added_after" (He.ma K (He.ga K "Match") "added_after") := He.meth_ok (T.fact 95 rfl)
theorem Txt.me_Match_points_for (T : Txt P w K mg base) : Meth K (He.ga K "Match") "points_for" (He.ma K (He.ga K "Match") "points_for") := He.meth_ok (T.fact 96 rfl)
theorem Txt.me_Match_scores (T : Txt P w K mg base) : Meth K (He.ga K "Match") "scores" (He.ma K (He.ga K "Match") "scores") := He.meth_ok (T.fact 97 rfl)
theorem Txt.me_Match_still_open (T : Txt P w K mg base) : Meth K (He.ga K "Match") "still_open" (He.ma K (He.ga K "Match") "still_open") := He.meth_ok (T.fact 98 rfl)
theorem Txt.me_Match_turned (T : Txt P w K mg base) : Meth K (He.ga K "Match") "turned" (He.ma K (He.ga K "Match") "turned") := He.meth_ok (T.fact 99 rfl)
theorem Txt.na_Match_legs (T : Txt P w K mg base) : NoAttr K (He.ga K "Match") "legs" := He.noat_ok (T.fact 100 rfl)
theorem Txt.na_Match_win (T : Txt P w K mg base) : NoAttr K (He.ga K "Match") "win" := He.noat_ok (T.fact 101 rfl)
theorem Txt.na_Match_draw (T : Txt P w K mg base) : NoAttr K (He.ga K "Match") "draw" := He.noat_ok (T.fact 102 rfl)
theorem Txt.na_Match_scores (T : Txt P w K mg base) : NoAttr K (He.ga K "Match") "_scores" := He.noat_ok (T.fact 103 rfl)
theorem Txt.na_Match_games (T : Txt P w K mg base) : NoAttr K (He.ga K "Match") "_games" := He.noat_ok (T.fact 104 rfl)
theorem Txt.tups (T : Txt P w K mg base) : He.tupB K "TURNED_MARKS" [.int 0, .int 2, .int 1, .int 4, .int 3, .int 5] = true ∧ He.tupB K "ENDED_OUTCOMES" [.non, .non, .non, .int 1, .int 2, .int 0] = true := by
  have h := T.more
  unfold ex at h
  simp only [Bool.and_eq_true] at h
  exact h
theorem Txt.t_TURNED_MARKS (T : Txt P w K mg base) : ∃ a vs, mg "TURNED_MARKS" = some (.ref a) ∧ (∀ H, SqT K H a vs) ∧ ∀ H, Seen K H [Dt.int 0, Dt.int 2, Dt.int 1, Dt.int 4, Dt.int 3, Dt.int 5] vs := ⟨_, _, T.g_TURNED_MARKS, fun H => He.tupB_ok (T.tups.1) H, fun H => (.cons (by unfold Sees; rfl) (.cons (by unfold Sees; rfl) (.cons (by unfold Sees; rfl) (.cons (by unfold Sees; rfl) (.cons (by unfold Sees; rfl) (.cons (by unfold Sees; rfl) (.nil)))))))⟩
theorem Txt.t_ENDED_OUTCOMES (T : Txt P w K mg base) : ∃ a vs, mg "ENDED_OUTCOMES" = some (.ref a) ∧ (∀ H, SqT K H a vs) ∧ ∀ H, Seen K H [Dt.non, Dt.non, Dt.non, Dt.int 1, Dt.int 2, Dt.int 0] vs := ⟨_, _, T.g_ENDED_OUTCOMES, fun H => He.tupB_ok (T.tups.2) H, fun H => (.cons (by unfold Sees; rfl) (.cons (by unfold Sees; rfl) (.cons (by unfold Sees; rfl) (.cons (by unfold Sees; rfl) (.cons (by unfold Sees; rfl) (.cons (by unfold Sees; rfl) (.nil)))))))⟩
theorem Txt.d_checked_amount (T : Txt P w K mg base) : ∃ fd, FunD K "checked_amount" "checked_amount" (defArgs s_checked_amount) (defBody s_checked_amount) (defScope s_checked_amount) [] [] (He.fAd K ("checked_amount", none)) fd := T.says.def_ 0 rfl
theorem Txt.d_other_side (T : Txt P w K mg base) : ∃ fd, FunD K "other_side" "other_side" (defArgs s_other_side) (defBody s_other_side) (defScope s_other_side) [] [] (He.fAd K ("other_side", none)) fd := T.says.def_ 1 rfl
theorem Txt.d_lesser (T : Txt P w K mg base) : ∃ fd, FunD K "lesser" "lesser" (defArgs s_lesser) (defBody s_lesser) (defScope s_lesser) [] [] (He.fAd K ("lesser", none)) fd := T.says.def_ 2 rfl
theorem Txt.d_suffices (T : Txt P w K mg base) : ∃ fd, FunD K "suffices" "suffices" (defArgs s_suffices) (defBody s_suffices) (defScope s_suffices) [] [] (He.fAd K ("suffices", none)) fd := T.says.def_ 3 rfl
theorem Txt.d_is_word (T : Txt P w K mg base) : ∃ fd, FunD K "is_word" "is_word" (defArgs s_is_word) (defBody s_is_word) (defScope s_is_word) [] [] (He.fAd K ("is_word", none)) fd := T.says.def_ 4 rfl
theorem Txt.d_moves_fit (T : Txt P w K mg base) : ∃ fd, FunD K "moves_fit" "moves_fit" (defArgs s_moves_fit) (defBody s_moves_fit) (defScope s_moves_fit) [] [] (He.fAd K ("moves_fit", none)) fd := T.says.def_ 5 rfl
theorem Txt.d_position_fits (T : Txt P w K mg base) : ∃ fd, FunD K "position_fits" "position_fits" (defArgs s_position_fits) (defBody s_position_fits) (defScope s_position_fits) [] [] (He.fAd K ("position_fits", none)) fd := T.says.def_ 6 rfl
theorem Txt.d_guards (T : Txt P w K mg base) : ∃ fd, FunD K "guards" "guards" (defArgs s_guards) (defBody s_guards) (defScope s_guards) [] [] (He.fAd K ("guards", none)) fd := T.says.def_ 7 rfl
theorem Txt.d_Game_init (T : Txt P w K mg base) : ∃ fd, FunD K "__init__" "Game.__init__" (defArgs s_Game_init) (defBody s_Game_init) (defScope s_Game_init) [V.ref (He.dflAt ("Game", some "__init__") 0 K)] [] (He.fAd K ("Game", some "__init__")) fd := T.says.def_ 8 rfl
theorem Txt.d_Game_checked (T : Txt P w K mg base) : ∃ fd, FunD K "checked" "Game.checked" (defArgs s_Game_checked) (defBody s_Game_checked) (defScope s_Game_checked) [] [] (He.fAd K ("Game", some "checked")) fd := T.says.def_ 9 rfl
theorem Txt.d_Game_mover (T : Txt P w K mg base) : ∃ fd, FunD K "mover" "Game.mover" (defArgs s_Game_mover) (defBody s_Game_mover) (defScope s_Game_mover) [] [] (He.fAd K ("Game", some "mover")) fd := T.says.def_ 10 rfl
theorem Txt.d_Game_is_safe (T : Txt P w K mg base) : ∃ fd, FunD K "is_safe" "Game.is_safe" (defArgs s_Game_is_safe) (defBody s_Game_is_safe) (defScope s_Game_is_safe) [] [] (He.fAd K ("Game", some "is_safe")) fd := T.says.def_ 11 rfl
theorem Txt.d_Game_turned (T : Txt P w K mg base) : ∃ fd, FunD K "turned" "Game.turned" (defArgs s_Game_turned) (defBody s_Game_turned) (defScope s_Game_turned) [] [] (He.fAd K ("Game", some "turned")) fd := T.says.def_ 12 rfl
theorem Txt.d_Game_eq (T : Txt P w K mg base) : ∃ fd, FunD K "__eq__" "Game.__eq__" (defArgs s_Game_eq) (defBody s_Game_eq) (defScope s_Game_eq) [] [] (He.fAd K ("Game", some "__eq__")) fd := T.says.def_ 13 rfl
theorem Txt.d_ended_outcome (T : Txt P w K mg base) : ∃ fd, FunD K "ended_outcome" "ended_outcome" (defArgs s_ended_outcome) (defBody s_ended_outcome) (defScope s_ended_outcome) [] [] (He.fAd K ("ended_outcome", none)) fd := T.says.def_ 14 rfl
theorem Txt.d_check_total (T : Txt P w K mg base) : ∃ fd, FunD K "check_total" "check_total" (defArgs s_check_total) (defBody s_check_total) (defScope s_check_total) [] [] (He.fAd K ("check_total", none)) fd := T.says.def_ 15 rfl
theorem Txt.d_least_for_one (T : Txt P w K mg base) : ∃ fd, FunD K "least_for_one" "least_for_one" (defArgs s_least_for_one) (defBody s_least_for_one) (defScope s_least_for_one) [] [] (He.fAd K ("least_for_one", none)) fd := T.says.def_ 16 rfl
theorem Txt.d_least_for_all (T : Txt P w K mg base) : ∃ fd, FunD K "least_for_all" "least_for_all" (defArgs s_least_for_all) (defBody s_least_for_all) (defScope s_least_for_all) [] [] (He.fAd K ("least_for_all", none)) fd := T.says.def_ 17 rfl
theorem Txt.d_renewed (T : Txt P w K mg base) : ∃ fd, FunD K "renewed" "renewed" (defArgs s_renewed) (defBody s_renewed) (defScope s_renewed) [] [] (He.fAd K ("renewed", none)) fd := T.says.def_ 18 rfl
theorem Txt.d_hourglass_least (T : Txt P w K mg base) : ∃ fd, FunD K "hourglass_least" "hourglass_least" (defArgs s_hourglass_least) (defBody s_hourglass_least) (defScope s_hourglass_least) [] [] (He.fAd K ("hourglass_least", none)) fd := T.says.def_ 19 rfl
theorem Txt.d_hourglass_outcome (T : Txt P w K mg base) : ∃ fd, FunD K "hourglass_outcome" "hourglass_outcome" (defArgs s_hourglass_outcome) (defBody s_hourglass_outcome) (defScope s_hourglass_outcome) [] [] (He.fAd K ("hourglass_outcome", none)) fd := T.says.def_ 20 rfl
theorem Txt.d_scores_below (T : Txt P w K mg base) : ∃ fd, FunD K "scores_below" "scores_below" (defArgs s_scores_below) (defBody s_scores_below) (defScope s_scores_below) [] [] (He.fAd K ("scores_below", none)) fd := T.says.def_ 21 rfl
theorem Txt.d_checked_score (T : Txt P w K mg base) : ∃ fd, FunD K "checked_score" "checked_score" (defArgs s_checked_score) (defBody s_checked_score) (defScope s_checked_score) [] [] (He.fAd K ("checked_score", none)) fd := T.says.def_ 22 rfl
theorem Txt.d_points_by_flag (T : Txt P w K mg base) : ∃ fd, FunD K "points_by_flag" "points_by_flag" (defArgs s_points_by_flag) (defBody s_points_by_flag) (defScope s_points_by_flag) [] [] (He.fAd K ("points_by_flag", none)) fd := T.says.def_ 23 rfl
theorem Txt.d_leg_position (T : Txt P w K mg base) : ∃ fd, FunD K "leg_position" "leg_position" (defArgs s_leg_position) (defBody s_leg_position) (defScope s_leg_position) [] [] (He.fAd K ("leg_position", none)) fd := T.says.def_ 24 rfl
theorem Txt.d_leg_game (T : Txt P w K mg base) : ∃ fd, FunD K "leg_game" "leg_game" (defArgs s_leg_game) (defBody s_leg_game) (defScope s_leg_game) [] [] (He.fAd K ("leg_game", none)) fd := T.says.def_ 25 rfl
theorem Txt.d_match_slots (T : Txt P w K mg base) : ∃ fd, FunD K "match_slots" "match_slots" (defArgs s_match_slots) (defBody s_match_slots) (defScope s_match_slots) [] [] (He.fAd K ("match_slots", none)) fd := T.says.def_ 26 rfl
theorem Txt.d_match_size (T : Txt P w K mg base) : ∃ fd, FunD K "match_size" "match_size" (defArgs s_match_size) (defBody s_match_size) (defScope s_match_size) [] [] (He.fAd K ("match_size", none)) fd := T.says.def_ 27 rfl
theorem Txt.d_match_position (T : Txt P w K mg base) : ∃ fd, FunD K "match_position" "match_position" (defArgs s_match_position) (defBody s_match_position) (defScope s_match_position) [] [] (He.fAd K ("match_position", none)) fd := T.says.def_ 28 rfl
theorem Txt.d_position_after (T : Txt P w K mg base) : ∃ fd, FunD K "position_after" "position_after" (defArgs s_position_after) (defBody s_position_after) (defScope s_position_after) [] [] (He.fAd K ("position_after", none)) fd := T.says.def_ 29 rfl
theorem Txt.d_check_unadded (T : Txt P w K mg base) : ∃ fd, FunD K "check_unadded" "check_unadded" (defArgs s_check_unadded) (defBody s_check_unadded) (defScope s_check_unadded) [] [] (He.fAd K ("check_unadded", none)) fd := T.says.def_ 30 rfl
theorem Txt.d_match_moves (T : Txt P w K mg base) : ∃ fd, FunD K "match_moves" "match_moves" (defArgs s_match_moves) (defBody s_match_moves) (defScope s_match_moves) [] [] (He.fAd K ("match_moves", none)) fd := T.says.def_ 31 rfl
theorem Txt.d_match_game (T : Txt P w K mg base) : ∃ fd, FunD K "match_game" "match_game" (defArgs s_match_game) (defBody s_match_game) (defScope s_match_game) [] [] (He.fAd K ("match_game", none)) fd := T.says.def_ 32 rfl
theorem Txt.d_leg_fits (T : Txt P w K mg base) : ∃ fd, FunD K "leg_fits" "leg_fits" (defArgs s_leg_fits) (defBody s_leg_fits) (defScope s_leg_fits) [] [] (He.fAd K ("leg_fits", none)) fd := T.says.def_ 33 rfl
theorem Txt.d_turned_leg (T : Txt P w K mg base) : ∃ fd, FunD K "turned_leg" "turned_leg" (defArgs s_turned_leg) (defBody s_turned_leg) (defScope s_turned_leg) [] [] (He.fAd K ("turned_leg", none)) fd := T.says.def_ 34 rfl
theorem Txt.d_score_rows (T : Txt P w K mg base) : ∃ fd, FunD K "score_rows" "score_rows" (defArgs s_score_rows) (defBody s_score_rows) (defScope s_score_rows) [] [] (He.fAd K ("score_rows", none)) fd := T.says.def_ 35 rfl
theorem Txt.d_Match_init (T : Txt P w K mg base) : ∃ fd, FunD K "__init__" "Match.__init__" (defArgs s_Match_init) (defBody s_Match_init) (defScope s_Match_init) [V.int 2, V.int 1] [] (He.fAd K ("Match", some "__init__")) fd := T.says.def_ 36 rfl
theorem Txt.d_Match_checked_leg (T : Txt P w K mg base) : ∃ fd, FunD K "checked_leg" "Match.checked_leg" (defArgs s_Match_checked_leg) (defBody s_Match_checked_leg) (defScope s_Match_checked_leg) [] [] (He.fAd K ("Match", some "checked_leg")) fd := T.says.def_ 37 rfl
theorem Txt.d_Match_game_of (T : Txt P w K mg base) : ∃ fd, FunD K "game_of" "Match.game_of" (defArgs s_Match_game_of) (defBody s_Match_game_of) (defScope s_Match_game_of) [] [] (He.fAd K ("Match", some "game_of")) fd := T.says.def_ 38 rfl
theorem Txt.d_Match_begins (T : Txt P w K mg base) : ∃ fd, FunD K "begins" "Match.begins" (defArgs s_Match_begins) (defBody s_Match_begins) (defScope s_Match_begins) [] [] (He.fAd K ("Match", some "begins")) fd := T.says.def_ 39 rfl
theorem Txt.d_Match_added_after (T : Txt P w K mg base) : ∃ fd, FunD K "added_after" "Match.added_after" (defArgs s_Match_added_after) (defBody s_Match_added_after) (defScope s_Match_added_after) [] [] (He.fAd K ("Match", some "added_after")) fd := T.says.def_ 40 rfl
theorem Txt.d_Match_points_for (T : Txt P w K mg base) : ∃ fd, FunD K "points_for" "Match.points_for" (defArgs s_Match_points_for) (defBody s_Match_points_for) (defScope s_Match_points_for) [] [] (He.fAd K ("Match", some "points_for")) fd := T.says.def_ 41 rfl
theorem Txt.d_Match_scores (T : Txt P w K mg base) : ∃ fd, FunD K "scores" "Match.scores" (defArgs s_Match_scores) (defBody s_Match_scores) (defScope s_Match_scores) [] [] (He.fAd K ("Match", some "scores")) fd := T.says.def_ 42 rfl
theorem Txt.d_Match_still_open (T : Txt P w K mg base) : ∃ fd, FunD K "still_open" "Match.still_open" (defArgs s_Match_still_open) (defBody s_Match_still_open) (defScope s_Match_still_open) [] [] (He.fAd K ("Match", some "still_open")) fd := T.says.def_ 43 rfl
theorem Txt.d_Match_turned (T : Txt P w K mg base) : ∃ fd, FunD K "turned" "Match.turned" (defArgs s_Match_turned) (defBody s_Match_turned) (defScope s_Match_turned) [] [] (He.fAd K ("Match", some "turned")) fd := T.says.def_ 44 rfl
theorem Txt.d_Match_iter (T : Txt P w K mg base) : ∃ fd, FunD K "__iter__" "Match.__iter__" (defArgs s_Match_iter) (defBody s_Match_iter) (defScope s_Match_iter) [] [] (He.fAd K ("Match", some "__iter__")) fd := T.says.def_ 45 rfl
theorem Txt.d_Match_eq (T : Txt P w K mg base) : ∃ fd, FunD K "__eq__" "Match.__eq__" (defArgs s_Match_eq) (defBody s_Match_eq) (defScope s_Match_eq) [] [] (He.fAd K ("Match", some "__eq__")) fd := T.says.def_ 46 rfl
theorem Txt.d_L_cell (T : Txt P w K mg base) : ∃ fd, FunD K "_law_cell" "_law_cell" (defArgs s_L_cell) (defBody s_L_cell) (defScope s_L_cell) [] [] (He.fAd K ("_law_cell", none)) fd := T.says.def_ 47 rfl
theorem Txt.d_L_numbers (T : Txt P w K mg base) : ∃ fd, FunD K "_law_numbers" "_law_numbers" (defArgs s_L_numbers) (defBody s_L_numbers) (defScope s_L_numbers) [] [] (He.fAd K ("_law_numbers", none)) fd := T.says.def_ 48 rfl
theorem Txt.d_L_is (T : Txt P w K mg base) : ∃ fd, FunD K "_law_is" "_law_is" (defArgs s_L_is) (defBody s_L_is) (defScope s_L_is) [] [] (He.fAd K ("_law_is", none)) fd := T.says.def_ 49 rfl
theorem Txt.d_L_made (T : Txt P w K mg base) : ∃ fd, FunD K "_law_made" "_law_made" (defArgs s_L_made) (defBody s_L_made) (defScope s_L_made) [] [] (He.fAd K ("_law_made", none)) fd := T.says.def_ 50 rfl
theorem Txt.d_L_turned (T : Txt P w K mg base) : ∃ fd, FunD K "_law_turned" "_law_turned" (defArgs s_L_turned) (defBody s_L_turned) (defScope s_L_turned) [] [] (He.fAd K ("_law_turned", none)) fd := T.says.def_ 51 rfl
theorem Txt.d_L_ladder (T : Txt P w K mg base) : ∃ fd, FunD K "_law_ladder" "_law_ladder" (defArgs s_L_ladder) (defBody s_L_ladder) (defScope s_L_ladder) [] [] (He.fAd K ("_law_ladder", none)) fd := T.says.def_ 52 rfl
theorem Txt.d_L_worth (T : Txt P w K mg base) : ∃ fd, FunD K "_law_worth" "_law_worth" (defArgs s_L_worth) (defBody s_L_worth) (defScope s_L_worth) [] [] (He.fAd K ("_law_worth", none)) fd := T.says.def_ 53 rfl
theorem Txt.d_L_scores (T : Txt P w K mg base) : ∃ fd, FunD K "_law_scores" "_law_scores" (defArgs s_L_scores) (defBody s_L_scores) (defScope s_L_scores) [] [] (He.fAd K ("_law_scores", none)) fd := T.says.def_ 54 rfl
theorem Txt.d_L_seen (T : Txt P w K mg base) : ∃ fd, FunD K "_law_seen" "_law_seen" (defArgs s_L_seen) (defBody s_L_seen) (defScope s_L_seen) [] [] (He.fAd K ("_law_seen", none)) fd := T.says.def_ 55 rfl
theorem Txt.d_L_flag (T : Txt P w K mg base) : ∃ fd, FunD K "_law_flag" "_law_flag" (defArgs s_L_flag) (defBody s_L_flag) (defScope s_L_flag) [] [] (He.fAd K ("_law_flag", none)) fd := T.says.def_ 56 rfl
theorem Txt.d_L_contest (T : Txt P w K mg base) : ∃ fd, FunD K "_law_contest" "_law_contest" (defArgs s_L_contest) (defBody s_L_contest) (defScope s_L_contest) [] [] (He.fAd K ("_law_contest", none)) fd := T.says.def_ 57 rfl
theorem Txt.d_L_match (T : Txt P w K mg base) : ∃ fd, FunD K "_law_match" "_law_match" (defArgs s_L_match) (defBody s_L_match) (defScope s_L_match) [] [] (He.fAd K ("_law_match", none)) fd := T.says.def_ 58 rfl
theorem Txt.d_L_next (T : Txt P w K mg base) : ∃ fd, FunD K "_law_next" "_law_next" (defArgs s_L_next) (defBody s_L_next) (defScope s_L_next) [] [] (He.fAd K ("_law_next", none)) fd := T.says.def_ 59 rfl
theorem Txt.d_L_wins (T : Txt P w K mg base) : ∃ fd, FunD K "_law_wins" "_law_wins" (defArgs s_L_wins) (defBody s_L_wins) (defScope s_L_wins) [] [] (He.fAd K ("_law_wins", none)) fd := T.says.def_ 60 rfl
theorem Txt.d_L_search (T : Txt P w K mg base) : ∃ fd, FunD K "_law_search" "_law_search" (defArgs s_L_search) (defBody s_L_search) (defScope s_L_search) [] [] (He.fAd K ("_law_search", none)) fd := T.says.def_ 61 rfl
theorem Txt.d_L_asked (T : Txt P w K mg base) : ∃ fd, FunD K "_law_asked" "_law_asked" (defArgs s_L_asked) (defBody s_L_asked) (defScope s_L_asked) [] [] (He.fAd K ("_law_asked", none)) fd := T.says.def_ 62 rfl
theorem Txt.d_law (T : Txt P w K mg base) : ∃ fd, FunD K "law" "law" (defArgs s_law) (defBody s_law) (defScope s_law) [] [] (He.fAd K ("law", none)) fd := T.says.def_ 63 rfl
end
abbrev n_checked_amount : List Str := ["amount"]
theorem sc_checked_amount : FnScope n_checked_amount ["amount"] (defScope s_checked_amount) := ⟨rfl, rfl, rfl, by decide +kernel, rfl, by decide +kernel, by decide +kernel⟩
abbrev b_checked_amount : List Bool := [true]
theorem vi_checked_amount : n_checked_amount.map (visB (defScope s_checked_amount)) = b_checked_amount := by decide +kernel
theorem st_checked_amount : n_checked_amount.map (stB true (defScope s_checked_amount)) = b_checked_amount := by decide +kernel
abbrev n_other_side : List Str := ["side"]
theorem sc_other_side : FnScope n_other_side ["side"] (defScope s_other_side) := ⟨rfl, rfl, rfl, by decide +kernel, rfl, by decide +kernel, by decide +kernel⟩
abbrev b_other_side : List Bool := [true]
theorem vi_other_side : n_other_side.map (visB (defScope s_other_side)) = b_other_side := by decide +kernel
theorem st_other_side : n_other_side.map (stB true (defScope s_other_side)) = b_other_side := by decide +kernel
abbrev n_lesser : List Str := ["x", "y"]
theorem sc_lesser : FnScope n_lesser ["x", "y"] (defScope s_lesser) := ⟨rfl, rfl, rfl, by decide +kernel, rfl, by decide +kernel, by decide +kernel⟩
abbrev b_lesser : List Bool := [true, true]
theorem vi_lesser : n_lesser.map (visB (defScope s_lesser)) = b_lesser := by decide +kernel
theorem st_lesser : n_lesser.map (stB true (defScope s_lesser)) = b_lesser := by decide +kernel
abbrev n_suffices : List Str := ["amount", "least"]
theorem sc_suffices : FnScope n_suffices ["amount", "least"] (defScope s_suffices) := ⟨rfl, rfl, rfl, by decide +kernel, rfl, by decide +kernel, by decide +kernel⟩
abbrev b_suffices : List Bool := [true, true]
theorem vi_suffices : n_suffices.map (visB (defScope s_suffices)) = b_suffices := by decide +kernel
theorem st_suffices : n_suffices.map (stB true (defScope s_suffices)) = b_suffices := by decide +kernel
abbrev n_is_word : List Str := ["word", "sign"]
theorem sc_is_word : FnScope n_is_word ["word"] (defScope s_is_word) := ⟨rfl, rfl, rfl, by decide +kernel, rfl, by decide +kernel, by decide +kernel⟩
abbrev b_is_word : List Bool := [true, true]
theorem vi_is_word : n_is_word.map (visB (defScope s_is_word)) = b_is_word := by decide +kernel
theorem st_is_word : n_is_word.map (stB true (defScope s_is_word)) = b_is_word := by decide +kernel
abbrev n_moves_fit : List Str := ["moves", "size", "seen", "word", "target", "need", "drop"]
theorem sc_moves_fit : FnScope n_moves_fit ["moves", "size"] (defScope s_moves_fit) := ⟨rfl, rfl, rfl, by decide +kernel, rfl, by decide +kernel, by decide +kernel⟩
abbrev b_moves_fit : List Bool := [true, true, true, true, true, true, true]
theorem vi_moves_fit : n_moves_fit.map (visB (defScope s_moves_fit)) = b_moves_fit := by decide +kernel
theorem st_moves_fit : n_moves_fit.map (stB true (defScope s_moves_fit)) = b_moves_fit := by decide +kernel
abbrev n_position_fits : List Str := ["mark", "moves", "size", "guarded"]
theorem sc_position_fits : FnScope n_position_fits ["mark", "moves", "size", "guarded"] (defScope s_position_fits) := ⟨rfl, rfl, rfl, by decide +kernel, rfl, by decide +kernel, by decide +kernel⟩
abbrev b_position_fits : List Bool := [true, true, true, true]
theorem vi_position_fits : n_position_fits.map (visB (defScope s_position_fits)) = b_position_fits := by decide +kernel
theorem st_position_fits : n_position_fits.map (stB true (defScope s_position_fits)) = b_position_fits := by decide +kernel
abbrev n_guards : List Str := ["safe", "size", "found", "last", "position"]
theorem sc_guards : FnScope n_guards ["safe", "size"] (defScope s_guards) := ⟨rfl, rfl, rfl, by decide +kernel, rfl, by decide +kernel, by decide +kernel⟩
abbrev b_guards : List Bool := [true, true, true, true, true]
theorem vi_guards : n_guards.map (visB (defScope s_guards)) = b_guards := by decide +kernel
theorem st_guards : n_guards.map (stB true (defScope s_guards)) = b_guards := by decide +kernel
abbrev n_Game_init : List Str := ["self", "marks", "moves", "safe", "size", "guarded", "position", "row", "move"]
theorem sc_Game_init : FnScope n_Game_init ["self", "marks", "moves", "safe"] (defScope s_Game_init) := ⟨rfl, rfl, rfl, by decide +kernel, rfl, by decide +kernel, by decide +kernel⟩
abbrev b_Game_init : List Bool := [true, true, true, true, true, true, true, false, false]
theorem vi_Game_init : n_Game_init.map (visB (defScope s_Game_init)) = b_Game_init := by decide +kernel
theorem st_Game_init : n_Game_init.map (stB true (defScope s_Game_init)) = b_Game_init := by decide +kernel
abbrev n_Game_checked : List Str := ["self", "position"]
theorem sc_Game_checked : FnScope n_Game_checked ["self", "position"] (defScope s_Game_checked) := ⟨rfl, rfl, rfl, by decide +kernel, rfl, by decide +kernel, by decide +kernel⟩
abbrev b_Game_checked : List Bool := [true, true]
theorem vi_Game_checked : n_Game_checked.map (visB (defScope s_Game_checked)) = b_Game_checked := by decide +kernel
theorem st_Game_checked : n_Game_checked.map (stB true (defScope s_Game_checked)) = b_Game_checked := by decide +kernel
abbrev n_Game_mover : List Str := ["self", "position", "mark"]
theorem sc_Game_mover : FnScope n_Game_mover ["self", "position"] (defScope s_Game_mover) := ⟨rfl, rfl, rfl, by decide +kernel, rfl, by decide +kernel, by decide +kernel⟩
abbrev b_Game_mover : List Bool := [true, true, true]
theorem vi_Game_mover : n_Game_mover.map (visB (defScope s_Game_mover)) = b_Game_mover := by decide +kernel
theorem st_Game_mover : n_Game_mover.map (stB true (defScope s_Game_mover)) = b_Game_mover := by decide +kernel
abbrev n_Game_is_safe : List Str := ["self", "position"]
theorem sc_Game_is_safe : FnScope n_Game_is_safe ["self", "position"] (defScope s_Game_is_safe) := ⟨rfl, rfl, rfl, by decide +kernel, rfl, by decide +kernel, by decide +kernel⟩
abbrev b_Game_is_safe : List Bool := [true, true]
theorem vi_Game_is_safe : n_Game_is_safe.map (visB (defScope s_Game_is_safe)) = b_Game_is_safe := by decide +kernel
theorem st_Game_is_safe : n_Game_is_safe.map (stB true (defScope s_Game_is_safe)) = b_Game_is_safe := by decide +kernel
abbrev n_Game_turned : List Str := ["self", "mark"]
theorem sc_Game_turned : FnScope n_Game_turned ["self"] (defScope s_Game_turned) := ⟨rfl, rfl, rfl, by decide +kernel, rfl, by decide +kernel, by decide +kernel⟩
abbrev b_Game_turned : List Bool := [true, false]
theorem vi_Game_turned : n_Game_turned.map (visB (defScope s_Game_turned)) = b_Game_turned := by decide +kernel
theorem st_Game_turned : n_Game_turned.map (stB true (defScope s_Game_turned)) = b_Game_turned := by decide +kernel
abbrev n_Game_eq : List Str := ["self", "other"]
theorem sc_Game_eq : FnScope n_Game_eq ["self", "other"] (defScope s_Game_eq) := ⟨rfl, rfl, rfl, by decide +kernel, rfl, by decide +kernel, by decide +kernel⟩
abbrev b_Game_eq : List Bool := [true, true]
theorem vi_Game_eq : n_Game_eq.map (visB (defScope s_Game_eq)) = b_Game_eq := by decide +kernel
theorem st_Game_eq : n_Game_eq.map (stB true (defScope s_Game_eq)) = b_Game_eq := by decide +kernel
abbrev n_ended_outcome : List Str := ["game", "position"]
theorem sc_ended_outcome : FnScope n_ended_outcome ["game", "position"] (defScope s_ended_outcome) := ⟨rfl, rfl, rfl, by decide +kernel, rfl, by decide +kernel, by decide +kernel⟩
abbrev b_ended_outcome : List Bool := [true, true]
theorem vi_ended_outcome : n_ended_outcome.map (visB (defScope s_ended_outcome)) = b_ended_outcome := by decide +kernel
theorem st_ended_outcome : n_ended_outcome.map (stB true (defScope s_ended_outcome)) = b_ended_outcome := by decide +kernel
abbrev n_check_total : List Str := ["game", "total"]
theorem sc_check_total : FnScope n_check_total ["game", "total"] (defScope s_check_total) := ⟨rfl, rfl, rfl, by decide +kernel, rfl, by decide +kernel, by decide +kernel⟩
abbrev b_check_total : List Bool := [true, true]
theorem vi_check_total : n_check_total.map (visB (defScope s_check_total)) = b_check_total := by decide +kernel
theorem st_check_total : n_check_total.map (stB true (defScope s_check_total)) = b_check_total := by decide +kernel
abbrev n_least_for_one : List Str := ["moves", "found", "least", "_", "target", "need", "drop"]
theorem sc_least_for_one : FnScope n_least_for_one ["moves", "found"] (defScope s_least_for_one) := ⟨rfl, rfl, rfl, by decide +kernel, rfl, by decide +kernel, by decide +kernel⟩
abbrev b_least_for_one : List Bool := [true, true, true, true, true, true, true]
theorem vi_least_for_one : n_least_for_one.map (visB (defScope s_least_for_one)) = b_least_for_one := by decide +kernel
theorem st_least_for_one : n_least_for_one.map (stB true (defScope s_least_for_one)) = b_least_for_one := by decide +kernel
abbrev n_least_for_all : List Str := ["moves", "found", "total", "least", "_", "target", "need", "drop", "enough"]
theorem sc_least_for_all : FnScope n_least_for_all ["moves", "found", "total"] (defScope s_least_for_all) := ⟨rfl, rfl, rfl, by decide +kernel, rfl, by decide +kernel, by decide +kernel⟩
abbrev b_least_for_all : List Bool := [true, true, true, true, true, true, true, true, true]
theorem vi_least_for_all : n_least_for_all.map (visB (defScope s_least_for_all)) = b_least_for_all := by decide +kernel
theorem st_least_for_all : n_least_for_all.map (stB true (defScope s_least_for_all)) = b_least_for_all := by decide +kernel
abbrev n_renewed : List Str := ["game", "side", "total", "position", "found", "moves", "least"]
theorem sc_renewed : FnScope n_renewed ["game", "side", "total", "position", "found"] (defScope s_renewed) := ⟨rfl, rfl, rfl, by decide +kernel, rfl, by decide +kernel, by decide +kernel⟩
abbrev b_renewed : List Bool := [true, true, true, true, true, true, true]
theorem vi_renewed : n_renewed.map (visB (defScope s_renewed)) = b_renewed := by decide +kernel
theorem st_renewed : n_renewed.map (stB true (defScope s_renewed)) = b_renewed := by decide +kernel
abbrev n_hourglass_least : List Str := ["game", "side", "total", "found", "sources", "waiting", "position", "move", "least"]
theorem sc_hourglass_least : FnScope n_hourglass_least ["game", "side", "total"] (defScope s_hourglass_least) := ⟨rfl, rfl, rfl, by decide +kernel, rfl, by decide +kernel, by decide +kernel⟩
abbrev b_hourglass_least : List Bool := [true, true, true, true, true, true, true, true, true]
theorem vi_hourglass_least : n_hourglass_least.map (visB (defScope s_hourglass_least)) = b_hourglass_least := by decide +kernel
theorem st_hourglass_least : n_hourglass_least.map (stB true (defScope s_hourglass_least)) = b_hourglass_least := by decide +kernel
abbrev n_hourglass_outcome : List Str := ["game", "position", "first", "second", "side", "own"]
theorem sc_hourglass_outcome : FnScope n_hourglass_outcome ["game", "position", "first", "second"] (defScope s_hourglass_outcome) := ⟨rfl, rfl, rfl, by decide +kernel, rfl, by decide +kernel, by decide +kernel⟩
abbrev b_hourglass_outcome : List Bool := [true, true, true, true, true, true]
theorem vi_hourglass_outcome : n_hourglass_outcome.map (visB (defScope s_hourglass_outcome)) = b_hourglass_outcome := by decide +kernel
theorem st_hourglass_outcome : n_hourglass_outcome.map (stB true (defScope s_hourglass_outcome)) = b_hourglass_outcome := by decide +kernel
abbrev n_scores_below : List Str := ["contest", "leg", "target", "points"]
theorem sc_scores_below : FnScope n_scores_below ["contest", "leg", "target"] (defScope s_scores_below) := ⟨rfl, rfl, rfl, by decide +kernel, rfl, by decide +kernel, by decide +kernel⟩
abbrev b_scores_below : List Bool := [true, true, true, false]
theorem vi_scores_below : n_scores_below.map (visB (defScope s_scores_below)) = b_scores_below := by decide +kernel
theorem st_scores_below : n_scores_below.map (stB true (defScope s_scores_below)) = b_scores_below := by decide +kernel
abbrev n_checked_score : List Str := ["contest", "leg", "points", "target"]
theorem sc_checked_score : FnScope n_checked_score ["contest", "leg", "points", "target"] (defScope s_checked_score) := ⟨rfl, rfl, rfl, by decide +kernel, rfl, by decide +kernel, by decide +kernel⟩
abbrev b_checked_score : List Bool := [true, true, true, true]
theorem vi_checked_score : n_checked_score.map (visB (defScope s_checked_score)) = b_checked_score := by decide +kernel
theorem st_checked_score : n_checked_score.map (stB true (defScope s_checked_score)) = b_checked_score := by decide +kernel
abbrev n_points_by_flag : List Str := ["contest", "leg", "points", "guarded", "gained"]
theorem sc_points_by_flag : FnScope n_points_by_flag ["contest", "leg", "points", "guarded"] (defScope s_points_by_flag) := ⟨rfl, rfl, rfl, by decide +kernel, rfl, by decide +kernel, by decide +kernel⟩
abbrev b_points_by_flag : List Bool := [true, true, true, true, true]
theorem vi_points_by_flag : n_points_by_flag.map (visB (defScope s_points_by_flag)) = b_points_by_flag := by decide +kernel
theorem st_points_by_flag : n_points_by_flag.map (stB true (defScope s_points_by_flag)) = b_points_by_flag := by decide +kernel
abbrev n_leg_position : List Str := ["contest", "side", "target", "leg", "points", "position", "game", "mark", "mover", "guarded"]
theorem sc_leg_position : FnScope n_leg_position ["contest", "side", "target", "leg", "points", "position"] (defScope s_leg_position) := ⟨rfl, rfl, rfl, by decide +kernel, rfl, by decide +kernel, by decide +kernel⟩
abbrev b_leg_position : List Bool := [true, true, true, true, true, true, true, true, true, true]
theorem vi_leg_position : n_leg_position.map (visB (defScope s_leg_position)) = b_leg_position := by decide +kernel
theorem st_leg_position : n_leg_position.map (stB true (defScope s_leg_position)) = b_leg_position := by decide +kernel
abbrev n_leg_game : List Str := ["contest", "side", "target", "leg", "points", "marks", "moves", "safe", "position", "mark", "row", "guarded"]
theorem sc_leg_game : FnScope n_leg_game ["contest", "side", "target", "leg", "points"] (defScope s_leg_game) := ⟨rfl, rfl, rfl, by decide +kernel, rfl, by decide +kernel, by decide +kernel⟩
abbrev b_leg_game : List Bool := [true, true, true, true, true, true, true, true, true, true, true, true]
theorem vi_leg_game : n_leg_game.map (visB (defScope s_leg_game)) = b_leg_game := by decide +kernel
theorem st_leg_game : n_leg_game.map (stB true (defScope s_leg_game)) = b_leg_game := by decide +kernel
abbrev n_match_slots : List Str := ["contest", "target", "found", "size", "leg", "points"]
theorem sc_match_slots : FnScope n_match_slots ["contest", "target"] (defScope s_match_slots) := ⟨rfl, rfl, rfl, by decide +kernel, rfl, by decide +kernel, by decide +kernel⟩
abbrev b_match_slots : List Bool := [true, true, true, true, true, true]
theorem vi_match_slots : n_match_slots.map (visB (defScope s_match_slots)) = b_match_slots := by decide +kernel
theorem st_match_slots : n_match_slots.map (stB true (defScope s_match_slots)) = b_match_slots := by decide +kernel
abbrev n_match_size : List Str := ["contest", "target"]
theorem sc_match_size : FnScope n_match_size ["contest", "target"] (defScope s_match_size) := ⟨rfl, rfl, rfl, by decide +kernel, rfl, by decide +kernel, by decide +kernel⟩
abbrev b_match_size : List Bool := [true, true]
theorem vi_match_size : n_match_size.map (visB (defScope s_match_size)) = b_match_size := by decide +kernel
theorem st_match_size : n_match_size.map (stB true (defScope s_match_size)) = b_match_size := by decide +kernel
abbrev n_match_position : List Str := ["contest", "target", "leg", "points", "position", "number", "score", "offset"]
theorem sc_match_position : FnScope n_match_position ["contest", "target", "leg", "points", "position"] (defScope s_match_position) := ⟨rfl, rfl, rfl, by decide +kernel, rfl, by decide +kernel, by decide +kernel⟩
abbrev b_match_position : List Bool := [true, true, true, true, true, true, true, true]
theorem vi_match_position : n_match_position.map (visB (defScope s_match_position)) = b_match_position := by decide +kernel
theorem st_match_position : n_match_position.map (stB true (defScope s_match_position)) = b_match_position := by decide +kernel
abbrev n_position_after : List Str := ["contest", "side", "target", "leg", "points", "outcome", "after"]
theorem sc_position_after : FnScope n_position_after ["contest", "side", "target", "leg", "points", "outcome"] (defScope s_position_after) := ⟨rfl, rfl, rfl, by decide +kernel, rfl, by decide +kernel, by decide +kernel⟩
abbrev b_position_after : List Bool := [true, true, true, true, true, true, true]
theorem vi_position_after : n_position_after.map (visB (defScope s_position_after)) = b_position_after := by decide +kernel
theorem st_position_after : n_position_after.map (stB true (defScope s_position_after)) = b_position_after := by decide +kernel
abbrev n_check_unadded : List Str := ["contest", "leg"]
theorem sc_check_unadded : FnScope n_check_unadded ["contest"] (defScope s_check_unadded) := ⟨rfl, rfl, rfl, by decide +kernel, rfl, by decide +kernel, by decide +kernel⟩
abbrev b_check_unadded : List Bool := [true, true]
theorem vi_check_unadded : n_check_unadded.map (visB (defScope s_check_unadded)) = b_check_unadded := by decide +kernel
theorem st_check_unadded : n_check_unadded.map (stB true (defScope s_check_unadded)) = b_check_unadded := by decide +kernel
abbrev n_match_moves : List Str := ["contest", "side", "target", "slot", "part", "leg", "points", "offset", "leads", "marks", "moves", "position", "outcome", "row", "word", "goal", "need", "drop"]
theorem sc_match_moves : FnScope n_match_moves ["contest", "side", "target", "slot", "part"] (defScope s_match_moves) := ⟨rfl, rfl, rfl, by decide +kernel, rfl, by decide +kernel, by decide +kernel⟩
abbrev b_match_moves : List Bool := [true, true, true, true, true, true, true, true, true, true, true, true, true, true, false, false, false, false]
theorem vi_match_moves : n_match_moves.map (visB (defScope s_match_moves)) = b_match_moves := by decide +kernel
theorem st_match_moves : n_match_moves.map (stB true (defScope s_match_moves)) = b_match_moves := by decide +kernel
abbrev n_match_game : List Str := ["contest", "side", "target", "marks", "moves", "safe", "slot", "part", "found", "position"]
theorem sc_match_game : FnScope n_match_game ["contest", "side", "target"] (defScope s_match_game) := ⟨rfl, rfl, rfl, by decide +kernel, rfl, by decide +kernel, by decide +kernel⟩
abbrev b_match_game : List Bool := [true, true, true, true, true, true, true, true, true, false]
theorem vi_match_game : n_match_game.map (visB (defScope s_match_game)) = b_match_game := by decide +kernel
theorem st_match_game : n_match_game.map (stB true (defScope s_match_game)) = b_match_game := by decide +kernel
abbrev n_leg_fits : List Str := ["leg", "game", "position", "white", "first_added", "second_added", "ticks"]
theorem sc_leg_fits : FnScope n_leg_fits ["leg"] (defScope s_leg_fits) := ⟨rfl, rfl, rfl, by decide +kernel, rfl, by decide +kernel, by decide +kernel⟩
abbrev b_leg_fits : List Bool := [true, true, true, true, true, true, true]
theorem vi_leg_fits : n_leg_fits.map (visB (defScope s_leg_fits)) = b_leg_fits := by decide +kernel
theorem st_leg_fits : n_leg_fits.map (stB true (defScope s_leg_fits)) = b_leg_fits := by decide +kernel
abbrev n_turned_leg : List Str := ["leg", "game", "position", "white", "first_added", "second_added"]
theorem sc_turned_leg : FnScope n_turned_leg ["leg"] (defScope s_turned_leg) := ⟨rfl, rfl, rfl, by decide +kernel, rfl, by decide +kernel, by decide +kernel⟩
abbrev b_turned_leg : List Bool := [true, true, true, true, true, true]
theorem vi_turned_leg : n_turned_leg.map (visB (defScope s_turned_leg)) = b_turned_leg := by decide +kernel
theorem st_turned_leg : n_turned_leg.map (stB true (defScope s_turned_leg)) = b_turned_leg := by decide +kernel
abbrev n_score_rows : List Str := ["count", "win", "draw", "totals", "rows", "_", "total", "more"]
theorem sc_score_rows : FnScope n_score_rows ["count", "win", "draw"] (defScope s_score_rows) := ⟨rfl, rfl, rfl, by decide +kernel, rfl, by decide +kernel, by decide +kernel⟩
abbrev b_score_rows : List Bool := [true, true, true, true, true, true, false, false]
theorem vi_score_rows : n_score_rows.map (visB (defScope s_score_rows)) = b_score_rows := by decide +kernel
theorem st_score_rows : n_score_rows.map (stB true (defScope s_score_rows)) = b_score_rows := by decide +kernel
abbrev n_Match_init : List Str := ["self", "legs", "win", "draw", "number", "leg"]
theorem sc_Match_init : FnScope n_Match_init ["self", "legs", "win", "draw"] (defScope s_Match_init) := ⟨rfl, rfl, rfl, by decide +kernel, rfl, by decide +kernel, by decide +kernel⟩
abbrev b_Match_init : List Bool := [true, true, true, true, true, false]
theorem vi_Match_init : n_Match_init.map (visB (defScope s_Match_init)) = b_Match_init := by decide +kernel
theorem st_Match_init : n_Match_init.map (stB true (defScope s_Match_init)) = b_Match_init := by decide +kernel
abbrev n_Match_checked_leg : List Str := ["self", "leg"]
theorem sc_Match_checked_leg : FnScope n_Match_checked_leg ["self", "leg"] (defScope s_Match_checked_leg) := ⟨rfl, rfl, rfl, by decide +kernel, rfl, by decide +kernel, by decide +kernel⟩
abbrev b_Match_checked_leg : List Bool := [true, true]
theorem vi_Match_checked_leg : n_Match_checked_leg.map (visB (defScope s_Match_checked_leg)) = b_Match_checked_leg := by decide +kernel
theorem st_Match_checked_leg : n_Match_checked_leg.map (stB true (defScope s_Match_checked_leg)) = b_Match_checked_leg := by decide +kernel
abbrev n_Match_game_of : List Str := ["self", "leg"]
theorem sc_Match_game_of : FnScope n_Match_game_of ["self", "leg"] (defScope s_Match_game_of) := ⟨rfl, rfl, rfl, by decide +kernel, rfl, by decide +kernel, by decide +kernel⟩
abbrev b_Match_game_of : List Bool := [true, true]
theorem vi_Match_game_of : n_Match_game_of.map (visB (defScope s_Match_game_of)) = b_Match_game_of := by decide +kernel
theorem st_Match_game_of : n_Match_game_of.map (stB true (defScope s_Match_game_of)) = b_Match_game_of := by decide +kernel
abbrev n_Match_begins : List Str := ["self", "leg"]
theorem sc_Match_begins : FnScope n_Match_begins ["self", "leg"] (defScope s_Match_begins) := ⟨rfl, rfl, rfl, by decide +kernel, rfl, by decide +kernel, by decide +kernel⟩
abbrev b_Match_begins : List Bool := [true, true]
theorem vi_Match_begins : n_Match_begins.map (visB (defScope s_Match_begins)) = b_Match_begins := by decide +kernel
theorem st_Match_begins : n_Match_begins.map (stB true (defScope s_Match_begins)) = b_Match_begins := by decide +kernel
abbrev n_Match_added_after : List Str := ["self", "leg"]
theorem sc_Match_added_after : FnScope n_Match_added_after ["self", "leg"] (defScope s_Match_added_after) := ⟨rfl, rfl, rfl, by decide +kernel, rfl, by decide +kernel, by decide +kernel⟩
abbrev b_Match_added_after : List Bool := [true, true]
theorem vi_Match_added_after : n_Match_added_after.map (visB (defScope s_Match_added_after)) = b_Match_added_after := by decide +kernel
theorem st_Match_added_after : n_Match_added_after.map (stB true (defScope s_Match_added_after)) = b_Match_added_after := by decide +kernel
abbrev n_Match_points_for : List Str := ["self", "side", "outcome", "other"]
theorem sc_Match_points_for : FnScope n_Match_points_for ["self", "side", "outcome"] (defScope s_Match_points_for) := ⟨rfl, rfl, rfl, by decide +kernel, rfl, by decide +kernel, by decide +kernel⟩
abbrev b_Match_points_for : List Bool := [true, true, true, true]
theorem vi_Match_points_for : n_Match_points_for.map (visB (defScope s_Match_points_for)) = b_Match_points_for := by decide +kernel
theorem st_Match_points_for : n_Match_points_for.map (stB true (defScope s_Match_points_for)) = b_Match_points_for := by decide +kernel
abbrev n_Match_scores : List Str := ["self", "leg"]
theorem sc_Match_scores : FnScope n_Match_scores ["self", "leg"] (defScope s_Match_scores) := ⟨rfl, rfl, rfl, by decide +kernel, rfl, by decide +kernel, by decide +kernel⟩
abbrev b_Match_scores : List Bool := [true, true]
theorem vi_Match_scores : n_Match_scores.map (visB (defScope s_Match_scores)) = b_Match_scores := by decide +kernel
theorem st_Match_scores : n_Match_scores.map (stB true (defScope s_Match_scores)) = b_Match_scores := by decide +kernel
abbrev n_Match_still_open : List Str := ["self", "leg"]
theorem sc_Match_still_open : FnScope n_Match_still_open ["self", "leg"] (defScope s_Match_still_open) := ⟨rfl, rfl, rfl, by decide +kernel, rfl, by decide +kernel, by decide +kernel⟩
abbrev b_Match_still_open : List Bool := [true, true]
theorem vi_Match_still_open : n_Match_still_open.map (visB (defScope s_Match_still_open)) = b_Match_still_open := by decide +kernel
theorem st_Match_still_open : n_Match_still_open.map (stB true (defScope s_Match_still_open)) = b_Match_still_open := by decide +kernel
abbrev n_Match_turned : List Str := ["self", "leg"]
theorem sc_Match_turned : FnScope n_Match_turned ["self"] (defScope s_Match_turned) := ⟨rfl, rfl, rfl, by decide +kernel, rfl, by decide +kernel, by decide +kernel⟩
abbrev b_Match_turned : List Bool := [true, false]
theorem vi_Match_turned : n_Match_turned.map (visB (defScope s_Match_turned)) = b_Match_turned := by decide +kernel
theorem st_Match_turned : n_Match_turned.map (stB true (defScope s_Match_turned)) = b_Match_turned := by decide +kernel
abbrev n_Match_iter : List Str := ["self"]
theorem sc_Match_iter : FnScope n_Match_iter ["self"] (defScope s_Match_iter) := ⟨rfl, rfl, rfl, by decide +kernel, rfl, by decide +kernel, by decide +kernel⟩
abbrev b_Match_iter : List Bool := [true]
theorem vi_Match_iter : n_Match_iter.map (visB (defScope s_Match_iter)) = b_Match_iter := by decide +kernel
theorem st_Match_iter : n_Match_iter.map (stB true (defScope s_Match_iter)) = b_Match_iter := by decide +kernel
abbrev n_Match_eq : List Str := ["self", "other"]
theorem sc_Match_eq : FnScope n_Match_eq ["self", "other"] (defScope s_Match_eq) := ⟨rfl, rfl, rfl, by decide +kernel, rfl, by decide +kernel, by decide +kernel⟩
abbrev b_Match_eq : List Bool := [true, true]
theorem vi_Match_eq : n_Match_eq.map (visB (defScope s_Match_eq)) = b_Match_eq := by decide +kernel
theorem st_Match_eq : n_Match_eq.map (stB true (defScope s_Match_eq)) = b_Match_eq := by decide +kernel
abbrev n_L_cell : List Str := ["script", "k"]
theorem sc_L_cell : FnScope n_L_cell ["script", "k"] (defScope s_L_cell) := ⟨rfl, rfl, rfl, by decide +kernel, rfl, by decide +kernel, by decide +kernel⟩
abbrev b_L_cell : List Bool := [true, true]
theorem vi_L_cell : n_L_cell.map (visB (defScope s_L_cell)) = b_L_cell := by decide +kernel
theorem st_L_cell : n_L_cell.map (stB true (defScope s_L_cell)) = b_L_cell := by decide +kernel
abbrev n_L_numbers : List Str := ["cell", "salt", "count", "many", "numbers", "rest", "great", "k", "mixed"]
theorem sc_L_numbers : FnScope n_L_numbers ["cell", "salt", "count", "many"] (defScope s_L_numbers) := ⟨rfl, rfl, rfl, by decide +kernel, rfl, by decide +kernel, by decide +kernel⟩
abbrev b_L_numbers : List Bool := [true, true, true, true, true, true, true, true, true]
theorem vi_L_numbers : n_L_numbers.map (visB (defScope s_L_numbers)) = b_L_numbers := by decide +kernel
theorem st_L_numbers : n_L_numbers.map (stB true (defScope s_L_numbers)) = b_L_numbers := by decide +kernel
abbrev n_L_is : List Str := ["actual", "expected"]
theorem sc_L_is : FnScope n_L_is ["actual", "expected"] (defScope s_L_is) := ⟨rfl, rfl, rfl, by decide +kernel, rfl, by decide +kernel, by decide +kernel⟩
abbrev b_L_is : List Bool := [true, true]
theorem vi_L_is : n_L_is.map (visB (defScope s_L_is)) = b_L_is := by decide +kernel
theorem st_L_is : n_L_is.map (stB true (defScope s_L_is)) = b_L_is := by decide +kernel
abbrev n_L_made : List Str := ["built", "row"]
theorem sc_L_made : FnScope n_L_made ["built"] (defScope s_L_made) := ⟨rfl, rfl, rfl, by decide +kernel, rfl, by decide +kernel, by decide +kernel⟩
abbrev b_L_made : List Bool := [true, false]
theorem vi_L_made : n_L_made.map (visB (defScope s_L_made)) = b_L_made := by decide +kernel
theorem st_L_made : n_L_made.map (stB true (defScope s_L_made)) = b_L_made := by decide +kernel
abbrev n_L_turned : List Str := ["built", "mark"]
theorem sc_L_turned : FnScope n_L_turned ["built"] (defScope s_L_turned) := ⟨rfl, rfl, rfl, by decide +kernel, rfl, by decide +kernel, by decide +kernel⟩
abbrev b_L_turned : List Bool := [true, false]
theorem vi_L_turned : n_L_turned.map (visB (defScope s_L_turned)) = b_L_turned := by decide +kernel
theorem st_L_turned : n_L_turned.map (stB true (defScope s_L_turned)) = b_L_turned := by decide +kernel
abbrev n_L_ladder : List Str := ["cell", "salt", "size", "limit", "parts", "marks", "moves", "safe", "position", "p", "mark", "row", "k", "need", "lost"]
theorem sc_L_ladder : FnScope n_L_ladder ["cell", "salt", "size", "limit"] (defScope s_L_ladder) := ⟨rfl, rfl, rfl, by decide +kernel, rfl, by decide +kernel, by decide +kernel⟩
abbrev b_L_ladder : List Bool := [true, true, true, true, true, true, true, true, true, true, true, true, true, true, true]
theorem vi_L_ladder : n_L_ladder.map (visB (defScope s_L_ladder)) = b_L_ladder := by decide +kernel
theorem st_L_ladder : n_L_ladder.map (stB true (defScope s_L_ladder)) = b_L_ladder := by decide +kernel
abbrev n_L_worth : List Str := ["contest", "side", "outcome"]
theorem sc_L_worth : FnScope n_L_worth ["contest", "side", "outcome"] (defScope s_L_worth) := ⟨rfl, rfl, rfl, by decide +kernel, rfl, by decide +kernel, by decide +kernel⟩
abbrev b_L_worth : List Bool := [true, true, true]
theorem vi_L_worth : n_L_worth.map (visB (defScope s_L_worth)) = b_L_worth := by decide +kernel
theorem st_L_worth : n_L_worth.map (stB true (defScope s_L_worth)) = b_L_worth := by decide +kernel
abbrev n_L_scores : List Str := ["contest", "leg", "found", "k", "score"]
theorem sc_L_scores : FnScope n_L_scores ["contest", "leg"] (defScope s_L_scores) := ⟨rfl, rfl, rfl, by decide +kernel, rfl, by decide +kernel, by decide +kernel⟩
abbrev b_L_scores : List Bool := [true, true, true, true, false]
theorem vi_L_scores : n_L_scores.map (visB (defScope s_L_scores)) = b_L_scores := by decide +kernel
theorem st_L_scores : n_L_scores.map (stB true (defScope s_L_scores)) = b_L_scores := by decide +kernel
abbrev n_L_seen : List Str := ["leg"]
theorem sc_L_seen : FnScope n_L_seen ["leg"] (defScope s_L_seen) := ⟨rfl, rfl, rfl, by decide +kernel, rfl, by decide +kernel, by decide +kernel⟩
abbrev b_L_seen : List Bool := [true]
theorem vi_L_seen : n_L_seen.map (visB (defScope s_L_seen)) = b_L_seen := by decide +kernel
theorem st_L_seen : n_L_seen.map (stB true (defScope s_L_seen)) = b_L_seen := by decide +kernel
abbrev n_L_flag : List Str := ["contest", "built", "side", "target", "leg", "score", "position", "mover", "drawn", "later"]
theorem sc_L_flag : FnScope n_L_flag ["contest", "built", "side", "target", "leg", "score", "position"] (defScope s_L_flag) := ⟨rfl, rfl, rfl, by decide +kernel, rfl, by decide +kernel, by decide +kernel⟩
abbrev b_L_flag : List Bool := [true, true, true, true, true, true, true, true, true, true]
theorem vi_L_flag : n_L_flag.map (visB (defScope s_L_flag)) = b_L_flag := by decide +kernel
theorem st_L_flag : n_L_flag.map (stB true (defScope s_L_flag)) = b_L_flag := by decide +kernel
abbrev n_L_contest : List Str := ["script", "first", "n", "many", "size", "limit", "legs", "k", "p", "built", "added", "begins", "win", "draw"]
theorem sc_L_contest : FnScope n_L_contest ["script", "first", "n", "many", "size", "limit"] (defScope s_L_contest) := ⟨rfl, rfl, rfl, by decide +kernel, rfl, by decide +kernel, by decide +kernel⟩
abbrev b_L_contest : List Bool := [true, true, true, true, true, true, true, true, true, true, true, true, true, true]
theorem vi_L_contest : n_L_contest.map (visB (defScope s_L_contest)) = b_L_contest := by decide +kernel
theorem st_L_contest : n_L_contest.map (stB true (defScope s_L_contest)) = b_L_contest := by decide +kernel
abbrev n_L_match : List Str := ["contest", "legs", "built", "begins", "white", "added"]
theorem sc_L_match : FnScope n_L_match ["contest"] (defScope s_L_match) := ⟨rfl, rfl, rfl, by decide +kernel, rfl, by decide +kernel, by decide +kernel⟩
abbrev b_L_match : List Bool := [true, true, true, true, true, true]
theorem vi_L_match : n_L_match.map (visB (defScope s_L_match)) = b_L_match := by decide +kernel
theorem st_L_match : n_L_match.map (stB true (defScope s_L_match)) = b_L_match := by decide +kernel
abbrev n_L_next : List Str := ["contest", "side", "target", "told", "leg", "score", "outcome", "own", "after"]
theorem sc_L_next : FnScope n_L_next ["contest", "side", "target", "told", "leg", "score", "outcome", "own"] (defScope s_L_next) := ⟨rfl, rfl, rfl, by decide +kernel, rfl, by decide +kernel, by decide +kernel⟩
abbrev b_L_next : List Bool := [true, true, true, true, true, true, true, true, true]
theorem vi_L_next : n_L_next.map (visB (defScope s_L_next)) = b_L_next := by decide +kernel
theorem st_L_next : n_L_next.map (stB true (defScope s_L_next)) = b_L_next := by decide +kernel
abbrev n_L_wins : List Str := ["contest", "built", "side", "target", "told", "leg", "score", "total", "rows", "position", "own", "mark", "flag", "word", "goal", "need", "lost"]
theorem sc_L_wins : FnScope n_L_wins ["contest", "built", "side", "target", "told", "leg", "score", "total", "rows", "position", "own"] (defScope s_L_wins) := ⟨rfl, rfl, rfl, by decide +kernel, rfl, by decide +kernel, by decide +kernel⟩
abbrev b_L_wins : List Bool := [true, true, true, true, true, true, true, true, true, true, true, true, true, true, true, true, true]
theorem vi_L_wins : n_L_wins.map (visB (defScope s_L_wins)) = b_L_wins := by decide +kernel
theorem st_L_wins : n_L_wins.map (stB true (defScope s_L_wins)) = b_L_wins := by decide +kernel
abbrev n_L_search : List Str := ["contest", "side", "target", "total", "told", "many", "back", "leg", "built", "size", "score", "rows", "k", "at", "own", "position"]
theorem sc_L_search : FnScope n_L_search ["contest", "side", "target", "total"] (defScope s_L_search) := ⟨rfl, rfl, rfl, by decide +kernel, rfl, by decide +kernel, by decide +kernel⟩
abbrev b_L_search : List Bool := [true, true, true, true, true, true, true, true, true, true, true, true, true, true, true, false]
theorem vi_L_search : n_L_search.map (visB (defScope s_L_search)) = b_L_search := by decide +kernel
theorem st_L_search : n_L_search.map (stB true (defScope s_L_search)) = b_L_search := by decide +kernel
abbrev n_L_asked : List Str := ["contest", "made", "game", "side", "target", "total", "told", "due", "leg", "score", "position", "row", "enough", "least", "at", "own"]
theorem sc_L_asked : FnScope n_L_asked ["contest", "made", "game", "side", "target", "total"] (defScope s_L_asked) := ⟨rfl, rfl, rfl, by decide +kernel, rfl, by decide +kernel, by decide +kernel⟩
abbrev b_L_asked : List Bool := [true, true, true, true, true, true, true, true, true, true, true, true, true, true, true, false]
theorem vi_L_asked : n_L_asked.map (visB (defScope s_L_asked)) = b_L_asked := by decide +kernel
theorem st_L_asked : n_L_asked.map (stB true (defScope s_L_asked)) = b_L_asked := by decide +kernel
abbrev n_law : List Str := ["script", "n", "many", "size", "contest", "target", "made", "side", "game", "total", "rows", "start", "own", "pair", "told", "leg"]
theorem sc_law : FnScope n_law ["script"] (defScope s_law) := ⟨rfl, rfl, rfl, by decide +kernel, rfl, by decide +kernel, by decide +kernel⟩
abbrev b_law : List Bool := [true, true, true, true, true, true, true, true, true, true, true, true, true, true, true, false]
theorem vi_law : n_law.map (visB (defScope s_law)) = b_law := by decide +kernel
theorem st_law : n_law.map (stB true (defScope s_law)) = b_law := by decide +kernel
end K70

set_option maxHeartbeats 4000000
namespace K70
open PySem PySem.Spec PyProof.Rows L2 DL
local macro_rules | `(tactic| walk_at "mul") => `(tactic| first | exact .inl (by decide) | exact .inr (by decide) | exact .inl (by omega) | exact .inr (by omega))
local macro_rules | `(tactic| walk_at "pos") => `(tactic| first | assumption | decide | omega)
local macro_rules | `(tactic| walk_at "div") => `(tactic| first | exact ⟨by decide, by decide⟩ | exact ⟨by omega, by omega⟩)
local macro_rules | `(tactic| walk_at "pow") => `(tactic| exact ⟨by decide, by decide, by decide⟩)
local macro_rules | `(tactic| walk_at "side") => `(tactic| first | assumption | rfl | omega | decide)
local macro_rules | `(tactic| walk_at "lk") => `(tactic| first | exact .lst .l | exact .tup | exact .l)
local macro_rules | `(tactic| walk_at "it") => `(tactic| first | exact .lst | exact .tup)
local macro_rules | `(tactic| walk_at "len") => `(tactic| first | exact .lst .l | exact .tup | exact .scr)
local macro_rules | `(tactic| walk_at "ix") => `(tactic| first | exact .lst .l rfl | exact .tup rfl | exact .lst .l (by assumption) | exact .tup (by assumption) | exact .scr (by assumption))
local macro_rules | `(tactic| walk_at "dk") => `(tactic| exact .inl rfl)

section
variable {P : Program} {w : World} {K : PySem.W.Frag} {mg : Str → Option Value} {base : Heap}
/-! ### amounts -/
def R_checked_amount (ds : List Dt) (d : Dt) : Prop := ∃ a : Int, ds = [.int a] ∧ d = .int a ∧ 0 ≤ a ∧ a ≤ 10 ^ 30
theorem D_checked_amount (T : Txt P w K mg base) : Def P w K mg base "checked_amount" ["amount"] 1 (spD K R_checked_amount) := by
  obtain ⟨fd, F⟩ := T.d_checked_amount
  refine ⟨_, fd, T.g_checked_amount, F.kp, F.bindsN fun _ _ _ _ _ _ us hl => match us, hl with | [_], _ => rfl, fn_D F sc_checked_amount vi_checked_amount st_checked_amount (fun ds d h => ?_) (fun X hX C hr ds d h => ?_)⟩
  · obtain ⟨a, rfl, rfl, h0, h1⟩ := h; rfl
  obtain ⟨rfl, rfl, rfl, rfl, rfl⟩ := hX
  obtain ⟨a, rfl, rfl, h0, h1⟩ := h
  refine jb_cons (js_if (k := false) (JT.is (jt_w (jw_or (jt_cmp (jp_var C 0 rfl rfl rfl) jp_int jo_lt) (fun hk2 => (jw_or1 (jt_cmp (jp_var C 0 rfl rfl rfl) (jp_gint C T.k_MOST rfl) jo_gt))))) (by simp; omega)) (fun h => nomatch h) (fun _ => jb_nil ?_))
  exact jb_cons (js_ret (jp_var C 0 rfl rfl rfl) rfl)
def R_other_side (ds : List Dt) (d : Dt) : Prop := ∃ a : Int, ds = [.int a] ∧ d = .int (3 - a) ∧ (a = 1 ∨ a = 2)
theorem D_other_side (T : Txt P w K mg base) : Def P w K mg base "other_side" ["side"] 1 (spD K R_other_side) := by
  obtain ⟨fd, F⟩ := T.d_other_side
  refine ⟨_, fd, T.g_other_side, F.kp, F.bindsN fun _ _ _ _ _ _ us hl => match us, hl with | [_], _ => rfl, fn_D F sc_other_side vi_other_side st_other_side (fun ds d h => ?_) (fun X hX C hr ds d h => ?_)⟩
  · obtain ⟨a, rfl, rfl, h0⟩ := h; rfl
  obtain ⟨rfl, rfl, rfl, rfl, rfl⟩ := hX
  obtain ⟨a, rfl, rfl, h0⟩ := h
  refine jb_cons (js_if (k := false) (JT.is (jt_w (jw_and (jt_cmp (jp_var C 0 rfl rfl rfl) jp_int jo_neI) (fun hk2 => (jw_and1 (jt_cmp (jp_var C 0 rfl rfl rfl) jp_int jo_neI))))) (by simp; omega)) (fun h => nomatch h) (fun _ => jb_nil ?_))
  exact jb_cons (js_ret (jp_op jp_int (jp_var C 0 rfl rfl rfl) jo_sub) rfl)
/-- the lesser value -/
def lesserO : Option Int → Option Int → Option Int
  | none, y => y
  | some x, none => some x
  | some x, some y => if x ≤ y then some x else some y
def R_lesser (ds : List Dt) (d : Dt) : Prop := ∃ x y : Option Int, ds = [oi x, oi y] ∧ d = oi (lesserO x y)
theorem D_lesser (T : Txt P w K mg base) : Def P w K mg base "lesser" ["x", "y"] 1 (spD K R_lesser) := by
  obtain ⟨fd, F⟩ := T.d_lesser
  refine ⟨_, fd, T.g_lesser, F.kp, F.bindsN fun _ _ _ _ _ _ us hl => match us, hl with | [_, _], _ => rfl, fn_D F sc_lesser vi_lesser st_lesser (fun ds d h => ?_) (fun X hX C hr ds d h => ?_)⟩
  · obtain ⟨x, y, rfl, rfl⟩ := h; rfl
  obtain ⟨rfl, rfl, rfl, rfl, rfl⟩ := hX
  obtain ⟨x, y, rfl, rfl⟩ := h
  refine jb_cons (js_if (jt_cmp (jp_var C 0 rfl rfl rfl) jp_non jo_is) (fun h1 => ?_) (fun h1 => ?_))
  · exact jb_cons (js_ret (jp_var C 1 rfl rfl rfl) (by cases x with | none => rfl | some x => cases h1))
  · cases x with
    | none => cases h1
    | some x =>
      cases y with
      | none =>
        refine jb_nil (jb_cons (js_if (k := true) (jt_w (jw_or (k := true) (m := true) (jt_cmp (jp_var C 1 rfl rfl rfl) jp_non jo_is) (fun h => nomatch h))) (fun h2 => ?_) (fun h2 => nomatch h2)))
        exact jb_cons (js_ret (jp_var C 0 rfl rfl rfl) rfl)
      | some y =>
        refine jb_nil (jb_cons (js_if (k := decide (x ≤ y)) (JT.is (jt_w (jw_or (jt_cmp (jp_var C 1 rfl rfl rfl) jp_non jo_is) (fun hk2 => (jw_or1 (jt_cmp (jp_var C 0 rfl rfl rfl) (jp_var C 1 rfl rfl rfl) jo_le))))) rfl) (fun h2 => ?_) (fun h2 => ?_)))
        · have h2 := of_decide_eq_true h2
          exact jb_cons (js_ret (jp_var C 0 rfl rfl rfl) (by show _ = oi (if x ≤ y then _ else _); rw [if_pos h2]))
        · have h2 := of_decide_eq_false h2
          exact jb_nil (jb_cons (js_ret (jp_var C 1 rfl rfl rfl) (by show _ = oi (if x ≤ y then _ else _); rw [if_neg h2])))
def suffO (a : Int) : Option Int → Bool
  | none => false
  | some l => decide (l ≤ a)
def R_suffices (ds : List Dt) (d : Dt) : Prop := ∃ (a : Int) (l : Option Int), ds = [.int a, oi l] ∧ d = .bl (suffO a l)
theorem D_suffices (T : Txt P w K mg base) : Def P w K mg base "suffices" ["amount", "least"] 1 (spD K R_suffices) := by
  obtain ⟨fd, F⟩ := T.d_suffices
  refine ⟨_, fd, T.g_suffices, F.kp, F.bindsN fun _ _ _ _ _ _ us hl => match us, hl with | [_, _], _ => rfl, fn_D F sc_suffices vi_suffices st_suffices (fun ds d h => ?_) (fun X hX C hr ds d h => ?_)⟩
  · obtain ⟨a, l, rfl, rfl⟩ := h; rfl
  obtain ⟨rfl, rfl, rfl, rfl, rfl⟩ := hX
  obtain ⟨a, l, rfl, rfl⟩ := h
  cases l with
  | none => exact jb_cons (js_ret (d := .bl false) (jp_and (k := false) (m := true) (jp_cmp (jp_var C 1 rfl rfl rfl) jp_non jo_isnot) (fun h => nomatch h)) rfl)
  | some l => exact jb_cons (js_ret (jp_and (jp_cmp (jp_var C 1 rfl rfl rfl) jp_non jo_isnot) (fun hk2 => (jp_one (jp_cmp (jp_var C 0 rfl rfl rfl) (jp_var C 1 rfl rfl rfl) jo_ge)))) rfl)

/-! ### games -/
def signOk (c : Nat) : Bool := decide (c ∈ (Str.ofString "abcdefghijklmnopqrstuvwxyz0123456789").cps.toList)
def wordOk (x : Str) : Prop := 1 ≤ x.length ∧ x.length ≤ 8 ∧ ∀ c ∈ x.cps.toList, signOk c = true
def R_is_word (ds : List Dt) (d : Dt) : Prop := ∃ x : Str, ds = [.str x] ∧ d = .bl true ∧ wordOk x
theorem D_is_word (T : Txt P w K mg base) : Def P w K mg base "is_word" ["word"] 1 (spD K R_is_word) := by
  obtain ⟨fd, F⟩ := T.d_is_word
  refine ⟨_, fd, T.g_is_word, F.kp, F.bindsN fun _ _ _ _ _ _ us hl => match us, hl with | [_], _ => rfl, fn_D F sc_is_word vi_is_word st_is_word (fun ds d h => ?_) (fun X hX C hr ds d h => ?_)⟩
  · obtain ⟨x, rfl, rfl, hw⟩ := h; rfl
  obtain ⟨rfl, rfl, rfl, rfl, rfl⟩ := hX
  obtain ⟨x, rfl, rfl, hw⟩ := h
  obtain ⟨h1, h2, h3⟩ := hw
  refine jb_cons (js_if (k := false) (JT.is (jt_w (jw_or (jt_cmp (jp_lenX C T.f_len (jp_var C 0 rfl rfl rfl) (.str (by omega))) jp_int jo_lt) (fun hk2 => (jw_or1 (jt_cmp (jp_lenX C T.f_len (jp_var C 0 rfl rfl rfl) (.str (by omega))) jp_int jo_gt))))) (by simp; omega)) (fun h => nomatch h) (fun _ => jb_nil ?_))
  refine jb_cons (js_forM C x.cps.toList (fun c => Dt.str ⟨#[c]⟩) (ws := [1]) (ji_str (jp_var C 0 rfl rfl rfl)) (fun _ δ os => ∃ v, δ = [some (.str x), v] ∧ os = []) ⟨_, rfl, rfl⟩ ?_ ?_)
  · rintro pre c post δ' os' e ⟨v, rfl, rfl⟩
    refine ⟨_, (jg_name C 1), ?_⟩
    refine jb_cons (js_if (k := false) (JT.is (jt_cmp (jp_var C 1 rfl rfl rfl) (jp_gstr C T.k_WORD_SIGNS rfl) (jo_notInS)) ?_) (fun h => nomatch h) (fun _ => jb_nil (jb_nil ⟨_, rfl, rfl⟩)))
    have := h3 c (by rw [e]; simp)
    unfold signOk at this
    rw [this]; rfl
  · rintro δ' os' ⟨v, rfl, rfl⟩
    exact jb_cons (js_ret jp_bl rfl)

/-! ### moves, rows, games as data -/
abbrev Mv := Str × Int × Int × Int
def mvD (m : Mv) : Dt := .tup [.str m.1, .int m.2.1, .int m.2.2.1, .int m.2.2.2]
def mvOk (n : Int) (m : Mv) : Prop := wordOk m.1 ∧ 0 ≤ m.2.1 ∧ m.2.1 < n ∧ 0 ≤ m.2.2.2 ∧ m.2.2.2 ≤ m.2.2.1 ∧ m.2.2.1 ≤ 9
def rowOk (n : Int) (r : List Mv) : Prop := 1 ≤ r.length ∧ r.length ≤ 16 ∧ (∀ m ∈ r, mvOk n m) ∧ (r.map (·.1)).Nodup
theorem inD_str (x : Str) (l : List Str) : inD (.str x) (l.map Dt.str) = decide (x ∈ l) := by
  unfold inD
  show inV (.str x) ((l.map Dt.str).map toV) = _
  unfold inV
  rw [List.map_map]
  induction l with
  | nil => rfl
  | cons y l ih =>
    rw [List.map_cons, List.any_cons, ih]
    show ((y == x) || _) = _
    by_cases h : y = x
    · subst h; simp
    · have h2 : ¬ x = y := fun e => h e.symm
      simp [h, h2]
theorem flat_strs (l : List Str) : (l.map Dt.str).all flatD = true := by
  rw [List.all_eq_true]
  intro x hx
  obtain ⟨y, _, rfl⟩ := List.mem_map.mp hx
  rfl
/-- a row, as a list or as a tuple -/
abbrev rowIs (d : Dt) (r : List Mv) : Prop := SeqIs d (r.map mvD)
theorem rowIs.ln' {d : Dt} {r : List Mv} {os : Os} (h : rowIs d r) : Lnd os d (r.length : Int) := (SeqIs.ln h).is (by rw [List.length_map])
def R_moves_fit (ds : List Dt) (d : Dt) : Prop := ∃ (dr : Dt) (r : List Mv) (n : Int), ds = [dr, .int n] ∧ d = .bl true ∧ rowIs dr r ∧ rowOk n r
theorem D_moves_fit (T : Txt P w K mg base) : Def P w K mg base "moves_fit" ["moves", "size"] 2 (spD K R_moves_fit) := by
  obtain ⟨fd, F⟩ := T.d_moves_fit
  refine ⟨_, fd, T.g_moves_fit, F.kp, F.bindsN fun _ _ _ _ _ _ us hl => match us, hl with | [_, _], _ => rfl, fn_D F sc_moves_fit vi_moves_fit st_moves_fit (fun ds d h => ?_) (fun X hX C hr ds d h => ?_)⟩
  · obtain ⟨dr, r, n, rfl, rfl, hr0, h1, h2, h3, h4⟩ := h; rfl
  obtain ⟨rfl, rfl, rfl, rfl, rfl⟩ := hX
  obtain ⟨dr, r, n, rfl, rfl, hr0, h1, h2, h3, h4⟩ := h
  refine jb_cons (js_if (k := false) (JT.is (jt_w (jw_or (jt_cmp (jp_lenX C T.f_len (jp_var C 0 rfl rfl rfl) ((rowIs.ln' hr0))) jp_int jo_lt) (fun hk2 => (jw_or1 (jt_cmp (jp_lenX C T.f_len (jp_var C 0 rfl rfl rfl) ((rowIs.ln' hr0))) (jp_gint C T.k_MOST_MOVES rfl) jo_gt))))) (by simp; omega)) (fun h => nomatch h) (fun _ => jb_nil ?_))
  refine jb_cons (js_own C 2 (jn_lst ja_nil) fun p hp => ?_)
  refine jb_cons (js_forM C r mvD (ws := [3, 4, 5, 6]) (ji_X (jp_var C 0 rfl rfl rfl) ((SeqIs.it hr0))) (fun pre δ os => ∃ a b c e, δ = [some dr, some (.int n), some (.at p), a, b, c, e] ∧ os = [(p, .lst ((pre.map (·.1)).map Dt.str))]) ⟨_, _, _, _, rfl, rfl⟩ ?_ ?_)
  · rintro pre m post δ' os' e ⟨_, _, _, _, rfl, rfl⟩
    obtain ⟨hw, g1, g2, g3, g4, g5⟩ := h3 m (by rw [e]; simp)
    refine ⟨_, (jg_tup C (jgs_cons (jg_name C 3) (jgs_cons (jg_name C 4) (jgs_cons (jg_name C 5) (jgs_cons (jg_name C 6) jgs_nil))))), ?_⟩
    have hn : m.1 ∉ pre.map (·.1) := by
      rw [e, List.map_append, List.map_cons, List.nodup_append] at h4
      intro hm
      exact h4.2.2 _ hm _ List.mem_cons_self rfl
    refine jb_cons (js_if (k := false) (JT.is (jt_w (jw_or (jt_not (jt_val (jp_call C (D_is_word T) (hr.mono (by decide)) (ja_cons (jp_var C 3 rfl rfl rfl) ja_nil) (⟨m.1, rfl, rfl, hw⟩) rfl))) (fun hk2 => (jw_or1 (jt_cmp (jp_var C 3 rfl rfl rfl) (jp_var C 2 rfl rfl rfl) (jo_in rfl (flat_strs (pre.map (·.1))) (.o (List.mem_singleton.mpr rfl)))))))) ?_) (fun h => nomatch h) (fun _ => jb_nil ?_))
    · rw [inD_str]; simpa using hn
    refine jb_cons (js_if (k := false) (JT.is (jt_w (jw_or (jt_cmp (jp_var C 4 rfl rfl rfl) jp_int jo_lt) (fun hk2 => (jw_or1 (jt_cmp (jp_var C 4 rfl rfl rfl) (jp_var C 1 rfl rfl rfl) jo_ge))))) (by simp; omega)) (fun h => nomatch h) (fun _ => jb_nil ?_))
    refine jb_cons (js_if (k := false) (JT.is (jt_w (jw_or (jt_cmp (jp_var C 6 rfl rfl rfl) jp_int jo_lt) (fun hk3 => (jw_or (jt_cmp (jp_var C 5 rfl rfl rfl) (jp_var C 6 rfl rfl rfl) jo_lt) (fun hk2 => (jw_or1 (jt_cmp (jp_var C 5 rfl rfl rfl) (jp_gint C T.k_MOST_NEED rfl) jo_gt))))))) (by simp; omega)) (fun h => nomatch h) (fun _ => jb_nil ?_))
    refine jb_cons (js_append (jp_var C 2 rfl rfl rfl) (List.mem_singleton.mpr rfl) (jp_var C 3 rfl rfl rfl) ?_ (jb_nil ?_))
    · rw [e] at h2; simp at h2 ⊢; omega
    · refine ⟨_, _, _, _, rfl, ?_⟩
      simp
  · rintro δ' os' ⟨_, _, _, _, rfl, rfl⟩
    exact jb_cons (js_ret jp_bl rfl)
/-- the rules for a position -/
def posOk (n : Int) (mark : Int) (r : List Mv) (g : Bool) : Prop := ((mark = 1 ∨ mark = 2) ∧ rowOk n r) ∨ ((mark = 3 ∨ mark = 4 ∨ mark = 5) ∧ r = [] ∧ g = false)
def R_position_fits (ds : List Dt) (d : Dt) : Prop := ∃ (mark : Int) (dr : Dt) (r : List Mv) (n : Int) (g : Bool), ds = [.int mark, dr, .int n, .bl g] ∧ d = .bl true ∧ rowIs dr r ∧ posOk n mark r g
theorem D_position_fits (T : Txt P w K mg base) : Def P w K mg base "position_fits" ["mark", "moves", "size", "guarded"] 3 (spD K R_position_fits) := by
  obtain ⟨fd, F⟩ := T.d_position_fits
  refine ⟨_, fd, T.g_position_fits, F.kp, F.bindsN fun _ _ _ _ _ _ us hl => match us, hl with | [_, _, _, _], _ => rfl, fn_D F sc_position_fits vi_position_fits st_position_fits (fun ds d h => ?_) (fun X hX C hr ds d h => ?_)⟩
  · obtain ⟨mark, dr, r, n, g, rfl, rfl, hr0, h1⟩ := h; rfl
  obtain ⟨rfl, rfl, rfl, rfl, rfl⟩ := hX
  obtain ⟨mark, dr, r, n, g, rfl, rfl, hr0, h1⟩ := h
  rcases h1 with ⟨hm, h1⟩ | ⟨hm, h1, h2⟩
  · refine jb_cons (js_if (k := true) (JT.is (jt_w (jw_or (jt_cmp (jp_var C 0 rfl rfl rfl) (jp_gint C T.k_FIRST rfl) jo_eqI) (fun hk2 => (jw_or1 (jt_cmp (jp_var C 0 rfl rfl rfl) (jp_gint C T.k_SECOND rfl) jo_eqI))))) (by simp; omega)) (fun _ => ?_) (fun h => nomatch h))
    exact jb_cons (js_ret (jp_call C (D_moves_fit T) (hr.mono (by decide)) (ja_cons (jp_var C 1 rfl rfl rfl) (ja_cons (jp_var C 2 rfl rfl rfl) ja_nil)) (⟨dr, r, n, rfl, rfl, hr0, h1⟩) rfl) rfl)
  · refine jb_cons (js_if (k := false) (JT.is (jt_w (jw_or (jt_cmp (jp_var C 0 rfl rfl rfl) (jp_gint C T.k_FIRST rfl) jo_eqI) (fun hk2 => (jw_or1 (jt_cmp (jp_var C 0 rfl rfl rfl) (jp_gint C T.k_SECOND rfl) jo_eqI))))) (by simp; omega)) (fun h => nomatch h) (fun _ => jb_nil ?_))
    refine jb_cons (js_if (k := false) (JT.is (jt_w (jw_and (jt_cmp (jp_var C 0 rfl rfl rfl) (jp_gint C T.k_WON rfl) jo_neI) (fun hk3 => (jw_and (jt_cmp (jp_var C 0 rfl rfl rfl) (jp_gint C T.k_LOST rfl) jo_neI) (fun hk2 => (jw_and1 (jt_cmp (jp_var C 0 rfl rfl rfl) (jp_gint C T.k_DRAWN rfl) jo_neI))))))) (by simp; omega)) (fun h => nomatch h) (fun _ => jb_nil ?_))
    subst h1 h2
    exact jb_cons (js_ret (jp_and (jp_cmp (jp_lenX C T.f_len (jp_var C 1 rfl rfl rfl) ((rowIs.ln' hr0))) jp_int jo_eqI) (fun hk2 => (jp_one (jp_not (jp_var C 3 rfl rfl rfl))))) rfl)
end
end K70

set_option maxHeartbeats 4000000
namespace K70
open PySem PySem.Spec PyProof.Rows L2 DL
local macro_rules | `(tactic| walk_at "mul") => `(tactic| first | exact .inl (by decide) | exact .inr (by decide) | exact .inl (by omega) | exact .inr (by omega))
local macro_rules | `(tactic| walk_at "pos") => `(tactic| first | assumption | decide | omega)
local macro_rules | `(tactic| walk_at "div") => `(tactic| first | exact ⟨by decide, by decide⟩ | exact ⟨by omega, by omega⟩)
local macro_rules | `(tactic| walk_at "pow") => `(tactic| exact ⟨by decide, by decide, by decide⟩)
local macro_rules | `(tactic| walk_at "side") => `(tactic| first | assumption | rfl | omega | decide)
local macro_rules | `(tactic| walk_at "lk") => `(tactic| first | exact .lst .l | exact .tup | exact .l)
local macro_rules | `(tactic| walk_at "it") => `(tactic| first | exact .lst | exact .tup)
local macro_rules | `(tactic| walk_at "len") => `(tactic| first | exact .lst .l | exact .tup | exact .scr)
local macro_rules | `(tactic| walk_at "ix") => `(tactic| first | exact .lst .l rfl | exact .tup rfl | exact .lst .l (by assumption) | exact .tup (by assumption) | exact .scr (by assumption))
local macro_rules | `(tactic| walk_at "dk") => `(tactic| exact .inl rfl)

/-! ### which positions are safe -/
def guardOf (safe : List Int) (n : Nat) : List Bool := (List.range n).map fun (i : Nat) => decide ((i : Int) ∈ safe)
def Asc (safe : List Int) (n : Nat) : Prop := safe.Pairwise (· < ·) ∧ ∀ p ∈ safe, 0 ≤ p ∧ p < (n : Int)
def lastOf (l : List Int) : Int := l.getLast?.getD (-1)
theorem lastOf_snoc (l : List Int) (t : Int) : lastOf (l ++ [t]) = t := by simp [lastOf]
theorem Asc.last {pre post : List Int} {t : Int} {n : Nat} (h : Asc (pre ++ t :: post) n) : lastOf pre < t := by
  obtain ⟨h1, h2⟩ := h
  unfold lastOf
  cases e : pre.getLast? with
  | none => have := (h2 t (by simp)).1; simp; omega
  | some x =>
    have hx : x ∈ pre := List.mem_of_getLast? e
    exact (List.pairwise_append.mp h1).2.2 x hx t List.mem_cons_self
theorem guardOf_nil (n : Nat) : (guardOf [] n).map Dt.bl = List.replicate n (.bl false) := by
  unfold guardOf
  rw [List.map_map]
  apply List.ext_getElem
  · simp
  · intro i h1 h2; simp
theorem guardOf_snoc (pre : List Int) (t : Int) (n : Nat) (h0 : 0 ≤ t) : ((guardOf pre n).map Dt.bl).set t.toNat (.bl true) = (guardOf (pre ++ [t]) n).map Dt.bl := by
  unfold guardOf
  rw [List.map_map, List.map_map]
  apply List.ext_getElem
  · simp
  · intro i h1 h2
    rw [List.getElem_set]
    simp only [List.getElem_map, List.getElem_range, Function.comp]
    by_cases e : t.toNat = i
    · rw [if_pos e]
      have : (i : Int) = t := by omega
      simp [this]
    · rw [if_neg e]
      have : ¬ (i : Int) = t := by omega
      simp [this]
theorem guardOf_len (l : List Int) (n : Nat) : (guardOf l n).length = n := by simp [guardOf]
theorem guardOf_at {l : List Int} {n : Nat} {i : Int} (h0 : 0 ≤ i) (h : i < n) : atI ((guardOf l n).map Dt.bl) i = some (.bl (decide (i ∈ l))) := by
  refine at_map h0 ?_
  unfold guardOf
  rw [List.getElem?_map, List.getElem?_range (by omega)]
  simp only [Option.map_some]
  rw [show ((i.toNat : Nat) : Int) = i from by omega]
/-! ### a game -/
structure Gm where
  marks : List Int
  moves : List (List Mv)
  safe : List Int
def Gm.size (g : Gm) : Nat := g.marks.length
def rowT (r : List Mv) : Dt := .tup (r.map mvD)
def gmF (g : Gm) : List (Str × Dt) := [("size", .int g.size), ("marks", .tup (g.marks.map .int)), ("moves", .tup (g.moves.map rowT)), ("safe", .tup (g.safe.map .int)), ("_guarded", .tup ((guardOf g.safe g.size).map .bl))]
structure GmOk (g : Gm) : Prop where
  pos : 1 ≤ g.size
  top : g.size ≤ 1000
  len : g.moves.length = g.size
  asc : Asc g.safe g.size
  rows : ∀ (i : Nat) m r, g.marks[i]? = some m → g.moves[i]? = some r → posOk g.size m r (decide ((i : Int) ∈ g.safe))
section
variable {P : Program} {w : World} {K : PySem.W.Frag} {mg : Str → Option Value} {base : Heap}
abbrev GC (K : PySem.W.Frag) : Addr := He.ga K "Game"
def gmD (K : PySem.W.Frag) (g : Gm) : Dt := .ins (GC K) (gmF g)
def R_guards (ds : List Dt) (d : Dt) : Prop := ∃ (dr : Dt) (safe : List Int) (n : Nat), ds = [dr, .int n] ∧ d = .tup ((guardOf safe n).map .bl) ∧ SeqIs dr (safe.map .int) ∧ Asc safe n ∧ n ≤ 1000
theorem D_guards (T : Txt P w K mg base) : Def P w K mg base "guards" ["safe", "size"] 1 (spD K R_guards) := by
  obtain ⟨fd, F⟩ := T.d_guards
  refine ⟨_, fd, T.g_guards, F.kp, F.bindsN fun _ _ _ _ _ _ us hl => match us, hl with | [_, _], _ => rfl, fn_D F sc_guards vi_guards st_guards (fun ds d h => ?_) (fun X hX C hr ds d h => ?_)⟩
  · obtain ⟨dr, safe, n, rfl, rfl, hs, ha, hn⟩ := h; rfl
  obtain ⟨rfl, rfl, rfl, rfl, rfl⟩ := hX
  obtain ⟨dr, safe, n, rfl, rfl, hs, ha, hn⟩ := h
  refine jb_cons (js_own C 2 (jn_op (jp_new (jn_lst (ja_cons jp_bl ja_nil))) (jp_var C 1 rfl rfl rfl) (jo_rep .l (by omega) (by omega))) fun p hp => ?_)
  refine jb_cons (js_set C 3 (jp_neg jp_int) ?_)
  refine jb_cons (js_forM C safe Dt.int (ws := [4]) (ji_X (jp_var C 0 rfl rfl rfl) (hs.it)) (fun pre δ os => ∃ v, δ = [some dr, some (.int n), some (.at p), some (.int (lastOf pre)), v] ∧ os = [(p, .lst ((guardOf pre n).map .bl))]) ⟨_, rfl, by rw [guardOf_nil]; rfl⟩ ?_ ?_)
  · rintro pre t post δ' os' e ⟨_, rfl, rfl⟩
    have hl := Asc.last (e ▸ ha)
    obtain ⟨h0, h1⟩ := ha.2 t (by rw [e]; simp)
    refine ⟨_, (jg_name C 4), ?_⟩
    refine jb_cons (js_if (k := false) (JT.is (jt_w (jw_or (jt_cmp (jp_var C 4 rfl rfl rfl) (jp_var C 3 rfl rfl rfl) jo_le) (fun hk2 => (jw_or1 (jt_cmp (jp_var C 4 rfl rfl rfl) (jp_var C 1 rfl rfl rfl) jo_ge))))) (by simp; omega)) (fun h => nomatch h) (fun _ => jb_nil ?_))
    refine jb_cons (js_setI jp_bl (jp_var C 2 rfl rfl rfl) (jp_var C 4 rfl rfl rfl) List.mem_cons_self h0 (by rw [List.length_map, guardOf_len]; exact h1) ?_)
    refine jb_cons (js_set C 3 (jp_var C 4 rfl rfl rfl) (jb_nil ⟨some (.int t), ?_, ?_⟩))
    · rw [lastOf_snoc]; rfl
    · rw [guardOf_snoc _ _ _ h0]
  · rintro δ' os' ⟨_, rfl, rfl⟩
    exact jb_cons (js_ret (jp_tupleX C T.f_tuple (jp_var C 2 rfl rfl rfl) (.lst (.o List.mem_cons_self))) rfl)
theorem gm_puts (a b c d e : Dt) : putD "_guarded" e (putD "safe" d (putD "moves" c (putD "marks" b (putD "size" a [])))) = ([("size", a), ("marks", b), ("moves", c), ("safe", d), ("_guarded", e)] : List (Str × Dt)) := by
  have h1 : ¬ ("size" : Str) = "marks" := by decide +kernel
  have h2 : ¬ ("size" : Str) = "moves" := by decide +kernel
  have h3 : ¬ ("size" : Str) = "safe" := by decide +kernel
  have h4 : ¬ ("size" : Str) = "_guarded" := by decide +kernel
  have h5 : ¬ ("marks" : Str) = "moves" := by decide +kernel
  have h6 : ¬ ("marks" : Str) = "safe" := by decide +kernel
  have h7 : ¬ ("marks" : Str) = "_guarded" := by decide +kernel
  have h8 : ¬ ("moves" : Str) = "safe" := by decide +kernel
  have h9 : ¬ ("moves" : Str) = "_guarded" := by decide +kernel
  have h10 : ¬ ("safe" : Str) = "_guarded" := by decide +kernel
  simp only [putD, h1, h2, h3, h4, h5, h6, h7, h8, h9, h10, if_false]
/-- Game(marks, moves, safe): rs: each row as it comes, with its moves -/
def R_Game_init (ds : List Dt) (fs : List (Str × Dt)) : Prop := ∃ (dm dv ds' : Dt) (rs : List (Dt × List Mv)) (g : Gm), ds = [dm, dv, ds'] ∧ fs = gmF g ∧ SeqIs dm (g.marks.map .int) ∧ SeqIs dv (rs.map (·.1)) ∧ (∀ q ∈ rs, rowIs q.1 q.2) ∧ g.moves = rs.map (·.2) ∧ SeqIs ds' (g.safe.map .int) ∧ GmOk g

theorem D_Game_init (T : Txt P w K mg base) : DefI P w K mg base (GC K) "Game" ["self", "marks", "moves", "safe"] 4 (spI K (GC K) R_Game_init) := by
  obtain ⟨fd, F⟩ := T.d_Game_init
  have hb : Binds K fd ["self", "marks", "moves", "safe"] [] := by
    obtain ⟨ds, hv, hb⟩ := F.binds1 (ps := ["self", "marks", "moves", "safe"]) 4 1 (by simp) rfl (fun T kV doc pm an cdv ct us its h1 h2 => match us, h1, its, h2 with | [_, _, _, _], _, [_], _ => ⟨_, rfl, rfl⟩)
    cases hv
    exact hb
  refine ⟨_, fd, T.g_Game, T.mk_Game, hb, fn_I F sc_Game_init vi_Game_init st_Game_init (fun ds fs h => ?_) (fun X hX C hr ds fs h p dx => ?_)⟩
  · obtain ⟨dm, dv, ds', rs, g, rfl, rfl, _⟩ := h; rfl
  obtain ⟨rfl, rfl, rfl, rfl, rfl⟩ := hX
  obtain ⟨dm, dv, ds', rs, g, rfl, rfl, hm, hv, hrs, hmv, hs, ok⟩ := h
  have hsz := ok.pos
  have hsz2 := ok.top
  have hlen : rs.length = g.size := by rw [← ok.len, hmv, List.length_map]
  refine jb_cons (js_set C 4 (jp_lenX C T.f_len (jp_var C 1 rfl rfl rfl) (hm.ln.is (m := (g.size : Int)) (by rw [List.length_map]; rfl))) ?_)
  refine jb_cons (js_if (k := false) (JT.is (jt_w (jw_or (jt_cmp (jp_var C 4 rfl rfl rfl) jp_int jo_lt) (fun hk3 => (jw_or (jt_cmp (jp_var C 4 rfl rfl rfl) (jp_gint C T.k_MOST_POSITIONS rfl) jo_gt) (fun hk2 => (jw_or1 (jt_cmp (jp_lenX C T.f_len (jp_var C 2 rfl rfl rfl) (hv.ln.is (m := (g.size : Int)) (by rw [List.length_map, hlen]))) (jp_var C 4 rfl rfl rfl) jo_neI))))))) (by simp; omega)) (fun h => nomatch h) (fun _ => jb_nil ?_))
  refine jb_cons (js_set C 5 (jp_call C (D_guards T) (hr.mono (by decide)) (ja_cons (jp_var C 3 rfl rfl rfl) (ja_cons (jp_var C 4 rfl rfl rfl) ja_nil)) (⟨ds', g.safe, g.size, rfl, rfl, hs, ok.asc, ok.top⟩) rfl) ?_)
  refine jb_cons (js_forR C (g.size : Int) (ws := [6]) (ji_rangeN C T.f_range (jp_var C 4 rfl rfl rfl) (by omega) (by omega)) (fun i δ os => ∃ v, δ = [some (.at p), some dm, some dv, some ds', some (.int g.size), some (.tup ((guardOf g.safe g.size).map .bl)), v, none, none] ∧ os = [(p, .ins (GC X.K) dx [])]) ⟨_, rfl, rfl⟩ ?_ ?_)
  · rintro i δ' os' hi ⟨_, rfl, rfl⟩
    have him : i < g.marks.length := hi
    have hir : i < rs.length := by rw [hlen]; exact hi
    refine ⟨_, (jg_name C 6), ?_⟩
    have hm1 : g.marks[i]? = some g.marks[i] := List.getElem?_eq_getElem him
    have hr1 : rs[i]? = some rs[i] := List.getElem?_eq_getElem hir
    refine jb_cons (js_if (k := false) (JT.is (jt_not (jt_val (jp_call C (D_position_fits T) (hr.mono (by decide)) (ja_cons (jp_ix (jp_var C 1 rfl rfl rfl) (jp_var C 6 rfl rfl rfl) (hm.ix (at_mapN hm1))) (ja_cons (jp_ix (jp_var C 2 rfl rfl rfl) (jp_var C 6 rfl rfl rfl) (hv.ix (at_mapN hr1))) (ja_cons (jp_var C 4 rfl rfl rfl) (ja_cons (jp_ix (jp_var C 5 rfl rfl rfl) (jp_var C 6 rfl rfl rfl) (.tup (guardOf_at (by omega) (by omega)))) ja_nil)))) (⟨_, _, rs[i].2, _, _, rfl, rfl, hrs _ (List.getElem_mem _), ok.rows i _ _ hm1 (by rw [hmv, List.getElem?_map, hr1]; rfl)⟩) rfl))) rfl) (fun h => nomatch h) (fun _ => jb_nil (jb_nil ⟨_, rfl, rfl⟩)))
  · rintro δ' os' ⟨_, rfl, rfl⟩
    refine jb_cons (js_fld (jp_var C 4 rfl rfl rfl) (jp_var C 0 rfl rfl rfl) List.mem_cons_self T.cl_Game T.na_Game_size (by simp) ?_)
    refine jb_cons (js_fld (jp_tupleX C T.f_tuple (jp_var C 1 rfl rfl rfl) (hm.sq)) (jp_var C 0 rfl rfl rfl) List.mem_cons_self T.cl_Game T.na_Game_marks (Nat.lt_of_le_of_lt (putD_le (Nat.le_refl _)) (by decide)) ?_)
    refine jb_cons (js_fld (d := .tup (g.moves.map rowT)) (JP.is (jp_tupleX C T.f_tuple (jp_new (jn_lc C (rs) ((·.1)) (fun _ => true) (fun q => rowT q.2) [("row", 7)] (ji_X (jp_var C 2 rfl rfl rfl) (hv.it)) (?_) (by omega) rfl rfl (by decide +kernel) rfl)) (.lst .l)) (by rw [outs_all, hmv, List.map_map]; rfl)) (jp_var C 0 rfl rfl rfl) List.mem_cons_self T.cl_Game T.na_Game_moves ?_ ?_)
    · rintro q hq
      refine ⟨_, fun X' hB C => ⟨(jg_name C 7), jfs_nil, fun _ => ?_⟩⟩
      have T := hB.tx (M := Txt) T
      refine JP.is (jp_tupleX C T.f_tuple (jp_new (jn_lc C (q.2) (mvD) (fun _ => true) (mvD) [("move", 8)] (ji_X (jp_var C 7 rfl rfl rfl) ((hrs q hq).it)) (?_) (?_) rfl rfl (by decide +kernel) rfl)) (.lst .l)) (by rw [outs_all]; rfl)
      · rintro m hm'
        refine ⟨_, fun X' hB C => ⟨(jg_name C 8), jfs_nil, fun _ => ?_⟩⟩
        have T := hB.tx (M := Txt) T
        exact (jp_tupleX C T.f_tuple (jp_var C 8 rfl rfl rfl) (.tup))
      · obtain ⟨i, hi, e⟩ := List.mem_iff_getElem.mp hq
        have him : i < g.marks.length := by show i < g.size; omega
        have := ok.rows i _ q.2 (List.getElem?_eq_getElem him) (by rw [hmv, List.getElem?_map, List.getElem?_eq_getElem hi, e]; rfl)
        rcases this with ⟨_, _, h, _⟩ | ⟨_, h, _⟩
        · omega
        · rw [h]; decide
    · exact Nat.lt_of_le_of_lt (putD_le (putD_le (Nat.le_refl _))) (by decide)
    refine jb_cons (js_fld (jp_tupleX C T.f_tuple (jp_var C 3 rfl rfl rfl) (hs.sq)) (jp_var C 0 rfl rfl rfl) List.mem_cons_self T.cl_Game T.na_Game_safe (Nat.lt_of_le_of_lt (putD_le (putD_le (putD_le (Nat.le_refl _)))) (by decide)) ?_)
    refine jb_cons (js_fld (jp_var C 5 rfl rfl rfl) (jp_var C 0 rfl rfl rfl) List.mem_cons_self T.cl_Game T.na_Game_guarded (Nat.lt_of_le_of_lt (putD_le (putD_le (putD_le (putD_le (Nat.le_refl _))))) (by decide)) (jb_nil ?_))
    rw [gm_puts]
    exact List.mem_cons_self
end
end K70

set_option maxHeartbeats 4000000
namespace K70
open PySem PySem.Spec PyProof.Rows L2 DL
local macro_rules | `(tactic| walk_at "mul") => `(tactic| first | exact .inl (by decide) | exact .inr (by decide) | exact .inl (by omega) | exact .inr (by omega))
local macro_rules | `(tactic| walk_at "pos") => `(tactic| first | assumption | decide | omega)
local macro_rules | `(tactic| walk_at "div") => `(tactic| first | exact ⟨by decide, by decide⟩ | exact ⟨by omega, by omega⟩)
local macro_rules | `(tactic| walk_at "pow") => `(tactic| exact ⟨by decide, by decide, by decide⟩)
local macro_rules | `(tactic| walk_at "side") => `(tactic| first | assumption | rfl | omega | decide)
local macro_rules | `(tactic| walk_at "lk") => `(tactic| first | exact .lst .l | exact .tup | exact .l)
local macro_rules | `(tactic| walk_at "it") => `(tactic| first | exact .lst | exact .tup)
local macro_rules | `(tactic| walk_at "len") => `(tactic| first | exact .lst .l | exact .tup | exact .scr)
local macro_rules | `(tactic| walk_at "ix") => `(tactic| first | exact .lst .l rfl | exact .tup rfl | exact .lst .l (by assumption) | exact .tup (by assumption) | exact .scr (by assumption))
local macro_rules | `(tactic| walk_at "dk") => `(tactic| exact .inl rfl)

def Gm.mark (g : Gm) (p : Int) : Int := g.marks.getD p.toNat 0
def Gm.row (g : Gm) (p : Int) : List Mv := g.moves.getD p.toNat []
def Gm.mover (g : Gm) (p : Int) : Int := if g.mark p = 1 ∨ g.mark p = 2 then g.mark p else 0
def endOut (m : Int) : Option Int := if m = 3 then some 1 else if m = 4 then some 2 else if m = 5 then some 0 else none
def turnM (m : Int) : Int := if m = 1 then 2 else if m = 2 then 1 else if m = 3 then 4 else if m = 4 then 3 else m
def turnG (g : Gm) : Gm := ⟨g.marks.map turnM, g.moves, g.safe⟩
theorem getD_at {α : Type} {l : List α} {p : Int} {d : α} (h : p.toNat < l.length) : l[p.toNat]? = some (l.getD p.toNat d) := by
  rw [List.getD_eq_getElem?_getD, List.getElem?_eq_getElem h]; rfl
section
variable {g : Gm} {p : Int}
theorem GmOk.mark_at (h0 : 0 ≤ p) (h1 : p < g.size) : g.marks[p.toNat]? = some (g.mark p) := getD_at (by show p.toNat < g.size; omega)
theorem GmOk.row_at (ok : GmOk g) (h0 : 0 ≤ p) (h1 : p < g.size) : g.moves[p.toNat]? = some (g.row p) := getD_at (by rw [ok.len]; omega)
theorem GmOk.pos_at (ok : GmOk g) (h0 : 0 ≤ p) (h1 : p < g.size) : posOk g.size (g.mark p) (g.row p) (decide (p ∈ g.safe)) := by
  have := ok.rows p.toNat _ _ (GmOk.mark_at h0 h1) (ok.row_at h0 h1)
  rw [show ((p.toNat : Nat) : Int) = p from by omega] at this
  exact this
theorem GmOk.mark_in (ok : GmOk g) (h0 : 0 ≤ p) (h1 : p < g.size) : 1 ≤ g.mark p ∧ g.mark p ≤ 5 := by
  rcases ok.pos_at h0 h1 with ⟨h, _⟩ | ⟨h, _⟩ <;> omega
theorem GmOk.mv (ok : GmOk g) (h0 : 0 ≤ p) (h1 : p < g.size) : ∀ m ∈ g.row p, mvOk g.size m := by
  rcases ok.pos_at h0 h1 with ⟨_, _, _, h, _⟩ | ⟨_, h, _⟩
  · exact h
  · rw [h]; intro m hm; cases hm
theorem GmOk.rlen (ok : GmOk g) (h0 : 0 ≤ p) (h1 : p < g.size) : (g.row p).length ≤ 16 := by
  rcases ok.pos_at h0 h1 with ⟨_, _, h, _, _⟩ | ⟨_, h, _⟩
  · exact h
  · rw [h]; decide
theorem turnM_in {m : Int} (h : 1 ≤ m ∧ m ≤ 5) : atI ([.int 0, .int 2, .int 1, .int 4, .int 3, .int 5] : List Dt) m = some (.int (turnM m)) := by
  have : m = 1 ∨ m = 2 ∨ m = 3 ∨ m = 4 ∨ m = 5 := by omega
  rcases this with rfl | rfl | rfl | rfl | rfl <;> rfl
theorem turnG_ok (ok : GmOk g) : GmOk (turnG g) := by
  have hs : (turnG g).size = g.size := by show (g.marks.map turnM).length = _; rw [List.length_map]; rfl
  refine ⟨by rw [hs]; exact ok.pos, by rw [hs]; exact ok.top, by rw [hs]; exact ok.len, by rw [hs]; exact ok.asc, fun i m r hm hr => ?_⟩
  rw [hs]
  have hm : (g.marks.map turnM)[i]? = some m := hm
  rw [List.getElem?_map] at hm
  obtain ⟨m0, e1, rfl⟩ := Option.map_eq_some_iff.mp hm
  rcases ok.rows i m0 r e1 hr with ⟨h, h2⟩ | ⟨h, h2⟩
  · refine .inl ⟨?_, h2⟩
    rcases h with rfl | rfl <;> decide
  · refine .inr ⟨?_, h2⟩
    rcases h with rfl | rfl | rfl <;> decide
end
section
variable {P : Program} {w : World} {K : PySem.W.Frag} {mg : Str → Option Value} {base : Heap}
def R_checked (K : PySem.W.Frag) (ds : List Dt) (d : Dt) : Prop := ∃ (g : Gm) (p : Int), ds = [gmD K g, .int p] ∧ d = .int p ∧ 0 ≤ p ∧ p < g.size
theorem D_Game_checked (T : Txt P w K mg base) : DefM P w K mg base (He.ga K "Game") "checked" ["self", "position"] 1 (spD K (R_checked K)) := by
  obtain ⟨fd, F⟩ := T.d_Game_checked
  refine ⟨_, fd, T.me_Game_checked, F.bindsN fun _ _ _ _ _ _ us hl => match us, hl with | [_, _], _ => rfl, fn_D F sc_Game_checked vi_Game_checked st_Game_checked (fun ds d h => ?_) (fun X hX C hr ds d h => ?_)⟩
  · obtain ⟨g, p, rfl, rfl, h0, h1⟩ := h; rfl
  obtain ⟨rfl, rfl, rfl, rfl, rfl⟩ := hX
  obtain ⟨g, p, rfl, rfl, h0, h1⟩ := h
  refine jb_cons (js_if (k := false) (JT.is (jt_w (jw_or (jt_cmp (jp_var C 1 rfl rfl rfl) jp_int jo_lt) (fun hk2 => (jw_or1 (jt_cmp (jp_var C 1 rfl rfl rfl) (jp_fld (jp_var C 0 rfl rfl rfl) T.cl_Game T.na_Game_size rfl) jo_ge))))) (by simp; omega)) (fun h => nomatch h) (fun _ => jb_nil ?_))
  exact jb_cons (js_ret (jp_var C 1 rfl rfl rfl) rfl)
def R_mover (K : PySem.W.Frag) (ds : List Dt) (d : Dt) : Prop := ∃ (g : Gm) (p : Int), ds = [gmD K g, .int p] ∧ d = .int (g.mover p) ∧ 0 ≤ p ∧ p < g.size
theorem D_Game_mover (T : Txt P w K mg base) : DefM P w K mg base (He.ga K "Game") "mover" ["self", "position"] 2 (spD K (R_mover K)) := by
  obtain ⟨fd, F⟩ := T.d_Game_mover
  refine ⟨_, fd, T.me_Game_mover, F.bindsN fun _ _ _ _ _ _ us hl => match us, hl with | [_, _], _ => rfl, fn_D F sc_Game_mover vi_Game_mover st_Game_mover (fun ds d h => ?_) (fun X hX C hr ds d h => ?_)⟩
  · obtain ⟨g, p, rfl, rfl, h0, h1⟩ := h; rfl
  obtain ⟨rfl, rfl, rfl, rfl, rfl⟩ := hX
  obtain ⟨g, p, rfl, rfl, h0, h1⟩ := h
  refine jb_cons (js_set C 2 (jp_ix (jp_fld (jp_var C 0 rfl rfl rfl) T.cl_Game T.na_Game_marks rfl) (jp_meth T.cl_Game (D_Game_checked T) (hr.mono (by decide)) (jp_var C 0 rfl rfl rfl) rfl (ja_cons (jp_var C 1 rfl rfl rfl) ja_nil) (⟨g, p, rfl, rfl, h0, h1⟩)) (.tup (at_map h0 (GmOk.mark_at h0 h1)))) ?_)
  refine jb_cons (js_if (k := decide (g.mark p = 1 ∨ g.mark p = 2)) (JT.is (jt_w (jw_or (jt_cmp (jp_var C 2 rfl rfl rfl) (jp_gint C T.k_FIRST rfl) jo_eqI) (fun hk2 => (jw_or1 (jt_cmp (jp_var C 2 rfl rfl rfl) (jp_gint C T.k_SECOND rfl) jo_eqI))))) (by simp)) (fun h => ?_) (fun h => jb_nil ?_))
  · exact jb_cons (js_ret (jp_var C 2 rfl rfl rfl) (by unfold Gm.mover; rw [if_pos (of_decide_eq_true h)]))
  · exact jb_cons (js_ret jp_int (by unfold Gm.mover; rw [if_neg (of_decide_eq_false h)]))
def R_is_safe (K : PySem.W.Frag) (ds : List Dt) (d : Dt) : Prop := ∃ (g : Gm) (p : Int), ds = [gmD K g, .int p] ∧ d = .bl (decide (p ∈ g.safe)) ∧ 0 ≤ p ∧ p < g.size
theorem D_Game_is_safe (T : Txt P w K mg base) : DefM P w K mg base (He.ga K "Game") "is_safe" ["self", "position"] 2 (spD K (R_is_safe K)) := by
  obtain ⟨fd, F⟩ := T.d_Game_is_safe
  refine ⟨_, fd, T.me_Game_is_safe, F.bindsN fun _ _ _ _ _ _ us hl => match us, hl with | [_, _], _ => rfl, fn_D F sc_Game_is_safe vi_Game_is_safe st_Game_is_safe (fun ds d h => ?_) (fun X hX C hr ds d h => ?_)⟩
  · obtain ⟨g, p, rfl, rfl, h0, h1⟩ := h; rfl
  obtain ⟨rfl, rfl, rfl, rfl, rfl⟩ := hX
  obtain ⟨g, p, rfl, rfl, h0, h1⟩ := h
  exact jb_cons (js_ret (jp_ix (jp_fld (jp_var C 0 rfl rfl rfl) T.cl_Game T.na_Game_guarded rfl) (jp_meth T.cl_Game (D_Game_checked T) (hr.mono (by decide)) (jp_var C 0 rfl rfl rfl) rfl (ja_cons (jp_var C 1 rfl rfl rfl) ja_nil) (⟨g, p, rfl, rfl, h0, h1⟩)) (.tup (guardOf_at h0 h1))) rfl)
def R_gturned (K : PySem.W.Frag) (ds : List Dt) (d : Dt) : Prop := ∃ (g : Gm), ds = [gmD K g] ∧ d = gmD K (turnG g) ∧ GmOk g
theorem D_Game_turned (T : Txt P w K mg base) : DefM P w K mg base (He.ga K "Game") "turned" ["self"] 6 (spD K (R_gturned K)) := by
  obtain ⟨fd, F⟩ := T.d_Game_turned
  refine ⟨_, fd, T.me_Game_turned, F.bindsN fun _ _ _ _ _ _ us hl => match us, hl with | [_], _ => rfl, fn_D F sc_Game_turned vi_Game_turned st_Game_turned (fun ds d h => ?_) (fun X hX C hr ds d h => ?_)⟩
  · obtain ⟨g, rfl, rfl, ok⟩ := h; rfl
  obtain ⟨rfl, rfl, rfl, rfl, rfl⟩ := hX
  obtain ⟨g, rfl, rfl, ok⟩ := h
  have hd : ∀ m ∈ g.moves, True := fun _ _ => trivial
  refine jb_cons (js_ret (jp_make C (D_Game_init T) (hr.mono (by decide)) (ja_cons (jp_new (jn_lc C (g.marks) (Dt.int) (fun _ => true) (fun m => .int (turnM m)) [("mark", 1)] (ji_X (jp_fld (jp_var C 0 rfl rfl rfl) T.cl_Game T.na_Game_marks rfl) (.tup)) (?_) (?_) rfl rfl (by decide +kernel) rfl)) (ja_cons (jp_fld (jp_var C 0 rfl rfl rfl) T.cl_Game T.na_Game_moves rfl) (ja_cons (jp_fld (jp_var C 0 rfl rfl rfl) T.cl_Game T.na_Game_safe rfl) ja_nil))) (⟨_, _, _, g.moves.map fun r => (rowT r, r), turnG g, rfl, rfl, .inr ?_, .inl ?_, ?_, ?_, .inl rfl, turnG_ok ok⟩) rfl) rfl)
  · intro m hm
    refine ⟨_, fun X' hB C => ⟨(jg_name C 1), jfs_nil, fun _ => ?_⟩⟩
    have T := hB.tx (M := Txt) T
    obtain ⟨i, hi, e⟩ := List.mem_iff_getElem.mp hm
    have hmk : 1 ≤ m ∧ m ≤ 5 := by
      have h1 := ok.mark_in (p := (i : Int)) (by omega) (by show (i : Int) < (g.marks.length : Int); omega)
      have h2 : g.mark (i : Int) = m := by
        show g.marks.getD ((i : Int)).toNat 0 = m
        rw [List.getD_eq_getElem?_getD, Int.toNat_natCast, List.getElem?_eq_getElem hi, e]; rfl
      rw [h2] at h1; exact h1
    exact (jp_ix (jp_gtup C T.t_TURNED_MARKS rfl) (jp_var C 1 rfl rfl rfl) (.tup (turnM_in hmk)))
  · have := ok.top
    show g.marks.length < 100000
    have : g.marks.length ≤ 1000 := this
    omega
  · rw [outs_all]
    show _ = Dt.lst ((g.marks.map turnM).map Dt.int)
    rw [List.map_map]; rfl
  · rw [List.map_map]; rfl
  · intro q hq
    obtain ⟨r, _, rfl⟩ := List.mem_map.mp hq
    exact .inl rfl
  · rw [List.map_map]
    show g.moves = g.moves.map _
    exact (List.map_id' _).symm
def R_ended_outcome (K : PySem.W.Frag) (ds : List Dt) (d : Dt) : Prop := ∃ (g : Gm) (p : Int), ds = [gmD K g, .int p] ∧ d = oi (endOut (g.mark p)) ∧ 0 ≤ p ∧ p < g.size ∧ GmOk g
theorem endOut_in {m : Int} (h : 1 ≤ m ∧ m ≤ 5) : atI ([.non, .non, .non, .int 1, .int 2, .int 0] : List Dt) m = some (oi (endOut m)) := by
  have : m = 1 ∨ m = 2 ∨ m = 3 ∨ m = 4 ∨ m = 5 := by omega
  rcases this with rfl | rfl | rfl | rfl | rfl <;> rfl
theorem D_ended_outcome (T : Txt P w K mg base) : Def P w K mg base "ended_outcome" ["game", "position"] 2 (spD K (R_ended_outcome K)) := by
  obtain ⟨fd, F⟩ := T.d_ended_outcome
  refine ⟨_, fd, T.g_ended_outcome, F.kp, F.bindsN fun _ _ _ _ _ _ us hl => match us, hl with | [_, _], _ => rfl, fn_D F sc_ended_outcome vi_ended_outcome st_ended_outcome (fun ds d h => ?_) (fun X hX C hr ds d h => ?_)⟩
  · obtain ⟨g, p, rfl, rfl, h0, h1, ok⟩ := h; rfl
  obtain ⟨rfl, rfl, rfl, rfl, rfl⟩ := hX
  obtain ⟨g, p, rfl, rfl, h0, h1, ok⟩ := h
  exact jb_cons (js_ret (jp_ix (jp_gtup C T.t_ENDED_OUTCOMES rfl) (jp_ix (jp_fld (jp_var C 0 rfl rfl rfl) T.cl_Game T.na_Game_marks rfl) (jp_meth T.cl_Game (D_Game_checked T) (hr.mono (by decide)) (jp_var C 0 rfl rfl rfl) rfl (ja_cons (jp_var C 1 rfl rfl rfl) ja_nil) (⟨g, p, rfl, rfl, h0, h1⟩)) (.tup (at_map h0 (GmOk.mark_at h0 h1)))) (.tup (endOut_in (ok.mark_in h0 h1)))) rfl)
end
end K70

set_option maxHeartbeats 4000000
namespace K70
open PySem PySem.Spec PyProof.Rows L2 DL
local macro_rules | `(tactic| walk_at "mul") => `(tactic| first | exact .inl (by decide) | exact .inr (by decide) | exact .inl (by omega) | exact .inr (by omega))
local macro_rules | `(tactic| walk_at "pos") => `(tactic| first | assumption | decide | omega)
local macro_rules | `(tactic| walk_at "div") => `(tactic| first | exact ⟨by decide, by decide⟩ | exact ⟨by omega, by omega⟩)
local macro_rules | `(tactic| walk_at "pow") => `(tactic| exact ⟨by decide, by decide, by decide⟩)
local macro_rules | `(tactic| walk_at "side") => `(tactic| first | assumption | rfl | omega | decide)
local macro_rules | `(tactic| walk_at "lk") => `(tactic| first | exact .lst .l | exact .tup | exact .l)
local macro_rules | `(tactic| walk_at "it") => `(tactic| first | exact .lst | exact .tup)
local macro_rules | `(tactic| walk_at "len") => `(tactic| first | exact .lst .l | exact .tup | exact .scr)
local macro_rules | `(tactic| walk_at "ix") => `(tactic| first | exact .lst .l rfl | exact .tup rfl | exact .lst .l (by assumption) | exact .tup (by assumption) | exact .scr (by assumption))
local macro_rules | `(tactic| walk_at "dk") => `(tactic| exact .inl rfl)

/-! ### least own time: one step of the search -/
def fAt (found : List (Option Int)) (t : Int) : Option Int := found.getD t.toNat none
def mx (i j : Int) : Int := if j > i then j else i
def mn (i j : Int) : Int := if j < i then j else i
def oneStep (f : Int → Option Int) (acc : Option Int) (m : Mv) : Option Int := match f m.2.1 with
  | none => acc
  | some v => lesserO acc (some (mx m.2.2.1 (m.2.2.2 + v)))
def allStep (f : Int → Option Int) (total : Int) (acc : Int) (m : Mv) : Int := mx acc (match f m.2.1 with
  | none => total - m.2.2.1 + 1
  | some v => mn (total - m.2.2.1 + 1) (v - m.2.2.2))
def renewO (g : Gm) (side total p : Int) (f : Int → Option Int) : Option Int :=
  let l := if g.mover p = side then (g.row p).foldl (oneStep f) none else if p ∈ g.safe then none else some ((g.row p).foldl (allStep f total) 0)
  if suffO total l = true then l else none
def startO (g : Gm) (side p : Int) : Option Int := if endOut (g.mark p) = some side then some 0 else none
structure IsFix (g : Gm) (side total : Int) (found : List (Option Int)) : Prop where
  len : found.length = g.size
  at_ : ∀ p : Int, 0 ≤ p → p < g.size → fAt found p = if 0 < g.mover p then renewO g side total p (fAt found) else startO g side p
def Acy (g : Gm) : Prop := ∀ p : Int, 0 ≤ p → p < g.size → ∀ m ∈ g.row p, p < m.2.1
theorem foldl_same {α β : Type} {F F' : β → α → β} : ∀ {l : List α} {b : β}, (∀ m ∈ l, ∀ b, F b m = F' b m) → l.foldl F b = l.foldl F' b
  | [], _, _ => rfl
  | m :: l, b, h => by
    rw [List.foldl_cons, List.foldl_cons, h m List.mem_cons_self, foldl_same fun m hm => h m (List.mem_cons_of_mem _ hm)]
theorem renewO_same {g : Gm} {side total p : Int} {f f' : Int → Option Int} (h : ∀ m ∈ g.row p, f m.2.1 = f' m.2.1) : renewO g side total p f = renewO g side total p f' := by
  unfold renewO
  rw [foldl_same (F := oneStep f) (F' := oneStep f') (fun m hm b => by unfold oneStep; rw [h m hm]), foldl_same (F := allStep f total) (F' := allStep f' total) (fun m hm b => by unfold allStep; rw [h m hm])]
theorem IsFix.uniq {g : Gm} {side total : Int} {f f' : List (Option Int)} (ok : GmOk g) (ac : Acy g) (h : IsFix g side total f) (h' : IsFix g side total f') : f = f' := by
  have key : ∀ (k : Nat) (p : Int), 0 ≤ p → p < g.size → (g.size : Int) - p ≤ k → fAt f p = fAt f' p := by
    intro k
    induction k with
    | zero => intro p h0 h1 h2; omega
    | succ k ih =>
      intro p h0 h1 h2
      rw [h.at_ p h0 h1, h'.at_ p h0 h1]
      split
      · refine renewO_same fun m hm => ?_
        have := ac p h0 h1 m hm
        have hm := ok.mv h0 h1 m hm
        exact ih _ hm.2.1 hm.2.2.1 (by omega)
      · rfl
  apply List.ext_getElem
  · rw [h.len, h'.len]
  · intro i h1 h2
    have := key g.size (i : Int) (by omega) (by have := h.len; omega) (by omega)
    unfold fAt at this
    rw [Int.toNat_natCast, List.getD_eq_getElem?_getD, List.getD_eq_getElem?_getD, List.getElem?_eq_getElem h1, List.getElem?_eq_getElem h2] at this
    exact this
theorem fAt_at {found : List (Option Int)} {t : Int} (h0 : 0 ≤ t) (h1 : t < found.length) : atI (found.map oi) t = some (oi (fAt found t)) := at_map h0 (getD_at (by omega))
theorem fAt_set {found : List (Option Int)} {p t : Int} {v : Option Int} (h0 : 0 ≤ p) (h1 : 0 ≤ t) (hl : p < found.length) : fAt (found.set p.toNat v) t = if t = p then v else fAt found t := by
  unfold fAt
  rw [List.getD_eq_getElem?_getD, List.getD_eq_getElem?_getD, List.getElem?_set]
  by_cases e : t = p
  · subst e; rw [if_pos rfl, if_pos (by omega), if_pos rfl]; rfl
  · rw [if_neg (by omega), if_neg e]
section
variable {P : Program} {w : World} {K : PySem.W.Frag} {mg : Str → Option Value} {base : Heap}
def R_check_total (K : PySem.W.Frag) (ds : List Dt) (d : Dt) : Prop := ∃ (g : Gm) (t : Int), ds = [gmD K g, .int t] ∧ d = .non ∧ (g.size : Int) * (t + 1) ≤ 20000 ∧ g.size ≤ 1000 ∧ 0 ≤ t ∧ t ≤ 1000
theorem D_check_total (T : Txt P w K mg base) : Def P w K mg base "check_total" ["game", "total"] 1 (spD K (R_check_total K)) := by
  obtain ⟨fd, F⟩ := T.d_check_total
  refine ⟨_, fd, T.g_check_total, F.kp, F.bindsN fun _ _ _ _ _ _ us hl => match us, hl with | [_, _], _ => rfl, fn_D F sc_check_total vi_check_total st_check_total (fun ds d h => ?_) (fun X hX C hr ds d h => ?_)⟩
  · obtain ⟨g, t, rfl, rfl, h0, h1, h2, h3⟩ := h; rfl
  obtain ⟨rfl, rfl, rfl, rfl, rfl⟩ := hX
  obtain ⟨g, t, rfl, rfl, h0, h1, h2, h3⟩ := h
  exact jb_cons (js_if (k := false) (JT.is (jt_cmp (jp_op (jp_fld (jp_var C 0 rfl rfl rfl) T.cl_Game T.na_Game_size rfl) (jp_op (jp_var C 1 rfl rfl rfl) jp_int jo_add) (jo_mul (.inl (by omega)))) (jp_gint C T.k_MOST_STANDINGS rfl) jo_gt) (by simp; omega)) (fun h => nomatch h) (fun _ => jb_nil (jb_nil rfl)))
def R_least_for_one (ds : List Dt) (d : Dt) : Prop := ∃ (r : List Mv) (found : List (Option Int)), ds = [rowT r, .lst (found.map oi)] ∧ d = oi (r.foldl (oneStep (fAt found)) none) ∧ ∀ m ∈ r, 0 ≤ m.2.1 ∧ m.2.1 < found.length
theorem D_least_for_one (T : Txt P w K mg base) : Def P w K mg base "least_for_one" ["moves", "found"] 2 (spD K R_least_for_one) := by
  obtain ⟨fd, F⟩ := T.d_least_for_one
  refine ⟨_, fd, T.g_least_for_one, F.kp, F.bindsN fun _ _ _ _ _ _ us hl => match us, hl with | [_, _], _ => rfl, fn_D F sc_least_for_one vi_least_for_one st_least_for_one (fun ds d h => ?_) (fun X hX C hr ds d h => ?_)⟩
  · obtain ⟨r, found, rfl, rfl, hr1⟩ := h; rfl
  obtain ⟨rfl, rfl, rfl, rfl, rfl⟩ := hX
  obtain ⟨r, found, rfl, rfl, hr1⟩ := h
  refine jb_cons (js_set C 2 jp_non ?_)
  refine jb_cons (js_forM C r mvD (ws := [3, 4, 5, 6]) (ji_X (jp_var C 0 rfl rfl rfl) (by walk_at "it")) (fun pre δ os => ∃ a b c e, δ = [some (rowT r), some (.lst (found.map oi)), some (oi (pre.foldl (oneStep (fAt found)) none)), a, b, c, e] ∧ os = []) ⟨_, _, _, _, rfl, rfl⟩ ?_ ?_)
  · rintro pre m post δ' os' e ⟨_, _, _, _, rfl, rfl⟩
    obtain ⟨h0, h1⟩ := hr1 m (by rw [e]; simp)
    have hat := fAt_at h0 h1
    refine ⟨_, (jg_tup C (jgs_cons (jg_name C 3) (jgs_cons (jg_name C 4) (jgs_cons (jg_name C 5) (jgs_cons (jg_name C 6) jgs_nil))))), ?_⟩
    rw [List.foldl_append]
    generalize pre.foldl (oneStep (fAt found)) none = acc
    have hst : [m].foldl (oneStep (fAt found)) acc = oneStep (fAt found) acc m := rfl
    rw [hst]
    unfold oneStep
    cases hv : fAt found m.2.1 with
    | none =>
      rw [hv] at hat
      exact jb_cons (js_if (k := false) (JT.is (jt_cmp (jp_ix (jp_var C 1 rfl rfl rfl) (jp_var C 4 rfl rfl rfl) (.lst .l hat)) jp_non jo_isnot) rfl) (fun h => nomatch h) (fun _ => jb_nil (jb_nil ⟨_, _, _, _, rfl, rfl⟩)))
    | some v =>
      rw [hv] at hat
      exact jb_cons (js_if (k := true) (JT.is (jt_cmp (jp_ix (jp_var C 1 rfl rfl rfl) (jp_var C 4 rfl rfl rfl) (.lst .l hat)) jp_non jo_isnot) rfl) (fun _ => jb_cons (js_set C 2 (jp_call C (D_lesser T) (hr.mono (by decide)) (ja_cons (jp_var C 2 rfl rfl rfl) (ja_cons (jp_max2 C T.f_max (jp_var C 5 rfl rfl rfl) (jp_op (jp_var C 6 rfl rfl rfl) (jp_ix (jp_var C 1 rfl rfl rfl) (jp_var C 4 rfl rfl rfl) (.lst .l hat)) jo_add)) ja_nil)) (⟨acc, some (mx m.2.2.1 (m.2.2.2 + v)), rfl, rfl⟩) rfl) (jb_nil (jb_nil ⟨_, _, _, _, rfl, rfl⟩)))) (fun h => nomatch h))
  · rintro δ' os' ⟨_, _, _, _, rfl, rfl⟩
    exact jb_cons (js_ret (jp_var C 2 rfl rfl rfl) rfl)
def R_least_for_all (ds : List Dt) (d : Dt) : Prop := ∃ (r : List Mv) (found : List (Option Int)) (total : Int), ds = [rowT r, .lst (found.map oi), .int total] ∧ d = .int (r.foldl (allStep (fAt found) total) 0) ∧ ∀ m ∈ r, 0 ≤ m.2.1 ∧ m.2.1 < found.length
theorem D_least_for_all (T : Txt P w K mg base) : Def P w K mg base "least_for_all" ["moves", "found", "total"] 1 (spD K R_least_for_all) := by
  obtain ⟨fd, F⟩ := T.d_least_for_all
  refine ⟨_, fd, T.g_least_for_all, F.kp, F.bindsN fun _ _ _ _ _ _ us hl => match us, hl with | [_, _, _], _ => rfl, fn_D F sc_least_for_all vi_least_for_all st_least_for_all (fun ds d h => ?_) (fun X hX C hr ds d h => ?_)⟩
  · obtain ⟨r, found, total, rfl, rfl, hr1⟩ := h; rfl
  obtain ⟨rfl, rfl, rfl, rfl, rfl⟩ := hX
  obtain ⟨r, found, total, rfl, rfl, hr1⟩ := h
  refine jb_cons (js_set C 3 jp_int ?_)
  refine jb_cons (js_forM C r mvD (ws := [4, 5, 6, 7]) (ji_X (jp_var C 0 rfl rfl rfl) (by walk_at "it")) (fun pre δ os => ∃ a b c e f, δ = [some (rowT r), some (.lst (found.map oi)), some (.int total), some (.int (pre.foldl (allStep (fAt found) total) 0)), a, b, c, e, f] ∧ os = []) ⟨_, _, _, _, _, rfl, rfl⟩ ?_ ?_)
  · rintro pre m post δ' os' e ⟨_, _, _, _, _, rfl, rfl⟩
    obtain ⟨h0, h1⟩ := hr1 m (by rw [e]; simp)
    have hat := fAt_at h0 h1
    refine ⟨_, (jg_tup C (jgs_cons (jg_name C 4) (jgs_cons (jg_name C 5) (jgs_cons (jg_name C 6) (jgs_cons (jg_name C 7) jgs_nil))))), ?_⟩
    rw [List.foldl_append]
    generalize pre.foldl (allStep (fAt found) total) 0 = acc
    have hst : [m].foldl (allStep (fAt found) total) acc = allStep (fAt found) total acc m := rfl
    rw [hst]
    unfold allStep
    refine jb_cons (js_set C 8 (jp_op (jp_op (jp_var C 2 rfl rfl rfl) (jp_var C 6 rfl rfl rfl) jo_sub) jp_int jo_add) ?_)
    cases hv : fAt found m.2.1 with
    | none =>
      rw [hv] at hat
      exact jb_cons (js_if (k := false) (JT.is (jt_cmp (jp_ix (jp_var C 1 rfl rfl rfl) (jp_var C 5 rfl rfl rfl) (.lst .l hat)) jp_non jo_isnot) rfl) (fun h => nomatch h) (fun _ => jb_nil (jb_cons (js_set C 3 (jp_max2 C T.f_max (jp_var C 3 rfl rfl rfl) (jp_var C 8 rfl rfl rfl)) (jb_nil ⟨_, _, _, _, _, rfl, rfl⟩)))))
    | some v =>
      rw [hv] at hat
      exact jb_cons (js_if (k := true) (JT.is (jt_cmp (jp_ix (jp_var C 1 rfl rfl rfl) (jp_var C 5 rfl rfl rfl) (.lst .l hat)) jp_non jo_isnot) rfl) (fun _ => jb_cons (js_set C 8 (jp_min2 C T.f_min (jp_var C 8 rfl rfl rfl) (jp_op (jp_ix (jp_var C 1 rfl rfl rfl) (jp_var C 5 rfl rfl rfl) (.lst .l hat)) (jp_var C 7 rfl rfl rfl) jo_sub)) (jb_nil (jb_cons (js_set C 3 (jp_max2 C T.f_max (jp_var C 3 rfl rfl rfl) (jp_var C 8 rfl rfl rfl)) (jb_nil ⟨_, _, _, _, _, rfl, rfl⟩)))))) (fun h => nomatch h))
  · rintro δ' os' ⟨_, _, _, _, _, rfl, rfl⟩
    exact jb_cons (js_ret (jp_var C 3 rfl rfl rfl) rfl)
def R_renewed (K : PySem.W.Frag) (ds : List Dt) (d : Dt) : Prop := ∃ (g : Gm) (side total p : Int) (found : List (Option Int)), ds = [gmD K g, .int side, .int total, .int p, .lst (found.map oi)] ∧ d = oi (renewO g side total p (fAt found)) ∧ GmOk g ∧ 0 ≤ p ∧ p < g.size ∧ found.length = g.size
theorem D_renewed (T : Txt P w K mg base) : Def P w K mg base "renewed" ["game", "side", "total", "position", "found"] 3 (spD K (R_renewed K)) := by
  obtain ⟨fd, F⟩ := T.d_renewed
  refine ⟨_, fd, T.g_renewed, F.kp, F.bindsN fun _ _ _ _ _ _ us hl => match us, hl with | [_, _, _, _, _], _ => rfl, fn_D F sc_renewed vi_renewed st_renewed (fun ds d h => ?_) (fun X hX C hr ds d h => ?_)⟩
  · obtain ⟨g, side, total, p, found, rfl, rfl, ok, h0, h1, hl⟩ := h; rfl
  obtain ⟨rfl, rfl, rfl, rfl, rfl⟩ := hX
  obtain ⟨g, side, total, p, found, rfl, rfl, ok, h0, h1, hl⟩ := h
  have hmv : ∀ m ∈ g.row p, 0 ≤ m.2.1 ∧ m.2.1 < found.length := fun m hm => ⟨(ok.mv h0 h1 m hm).2.1, by rw [hl]; exact (ok.mv h0 h1 m hm).2.2.1⟩
  refine jb_cons (js_set C 5 (jp_ix (jp_fld (jp_var C 0 rfl rfl rfl) T.cl_Game T.na_Game_moves rfl) (jp_var C 3 rfl rfl rfl) (.tup (at_map h0 (ok.row_at h0 h1)))) ?_)
  unfold renewO
  refine jb_mid (fun δ' os' => δ' = [some (gmD X.K g), some (.int side), some (.int total), some (.int p), some (.lst (found.map oi)), some (rowT (g.row p)), some (oi (if g.mover p = side then (g.row p).foldl (oneStep (fAt found)) none else if p ∈ g.safe then none else some ((g.row p).foldl (allStep (fAt found) total) 0)))] ∧ os' = []) ?_ ?_
  · refine js_if (jt_cmp (jp_meth T.cl_Game (D_Game_mover T) (hr.mono (by decide)) (jp_var C 0 rfl rfl rfl) rfl (ja_cons (jp_var C 3 rfl rfl rfl) ja_nil) (⟨g, p, rfl, rfl, h0, h1⟩)) (jp_var C 1 rfl rfl rfl) jo_eqI) (fun h => ?_) (fun h => ?_)
    · rw [if_pos (of_decide_eq_true h)]
      exact jb_cons (js_set C 6 (jp_call C (D_least_for_one T) (hr.mono (by decide)) (ja_cons (jp_var C 5 rfl rfl rfl) (ja_cons (jp_var C 4 rfl rfl rfl) ja_nil)) (⟨_, _, rfl, rfl, hmv⟩) rfl) (jb_nil ⟨rfl, rfl⟩))
    · rw [if_neg (of_decide_eq_false h)]
      refine jb_cons (js_if (jt_val (jp_meth T.cl_Game (D_Game_is_safe T) (hr.mono (by decide)) (jp_var C 0 rfl rfl rfl) rfl (ja_cons (jp_var C 3 rfl rfl rfl) ja_nil) (⟨g, p, rfl, rfl, h0, h1⟩))) (fun h2 => ?_) (fun h2 => ?_))
      · rw [if_pos (of_decide_eq_true h2)]
        exact jb_cons (js_set C 6 jp_non (jb_nil (jb_nil ⟨rfl, rfl⟩)))
      · rw [if_neg (of_decide_eq_false h2)]
        exact jb_cons (js_set C 6 (jp_call C (D_least_for_all T) (hr.mono (by decide)) (ja_cons (jp_var C 5 rfl rfl rfl) (ja_cons (jp_var C 4 rfl rfl rfl) (ja_cons (jp_var C 2 rfl rfl rfl) ja_nil))) (⟨_, _, _, rfl, rfl, hmv⟩) rfl) (jb_nil (jb_nil ⟨rfl, rfl⟩)))
  · rintro δ' os' ⟨rfl, rfl⟩
    generalize (if g.mover p = side then (g.row p).foldl (oneStep (fAt found)) none else if p ∈ g.safe then none else some ((g.row p).foldl (allStep (fAt found) total) 0)) = L
    refine jb_cons (js_if (k := suffO total L) (jt_val (jp_call C (D_suffices T) (hr.mono (by decide)) (ja_cons (jp_var C 2 rfl rfl rfl) (ja_cons (jp_var C 6 rfl rfl rfl) ja_nil)) (⟨total, L, rfl, rfl⟩) rfl)) (fun h => ?_) (fun h => jb_nil ?_))
    · exact jb_cons (js_ret (jp_var C 6 rfl rfl rfl) (by show _ = oi (if suffO total L = true then L else none); rw [if_pos h]))
    · exact jb_cons (js_ret jp_non (by show _ = oi (if suffO total L = true then L else none); rw [if_neg (by rw [h]; exact Bool.false_ne_true)]; rfl))
end
end K70

set_option maxHeartbeats 4000000
namespace DL
open PySem PySem.Spec PyProof.Rows L2
theorem zipO_skip : ∀ {ps : List Addr} {yss : List (List Dt)} {p : Addr} {o : Ob} {os : Os}, p ∉ ps → putO p o (zipO ps yss ++ os) = zipO ps yss ++ putO p o os
  | [], _, _, _, _, _ => rfl
  | _ :: _, [], _, _, _, _ => rfl
  | q :: ps, ys :: yss, p, o, os, h => by
    rw [zipO_cons, List.cons_append, putO_tl (fun e => h (by rw [e]; exact List.mem_cons_self)), zipO_skip (fun z => h (List.mem_cons_of_mem _ z))]; rfl
end DL
namespace K70
open PySem PySem.Spec PyProof.Rows L2 DL
local macro_rules | `(tactic| walk_at "mul") => `(tactic| first | exact .inl (by decide) | exact .inr (by decide) | exact .inl (by omega) | exact .inr (by omega))
local macro_rules | `(tactic| walk_at "pos") => `(tactic| first | assumption | decide | omega)
local macro_rules | `(tactic| walk_at "div") => `(tactic| first | exact ⟨by decide, by decide⟩ | exact ⟨by omega, by omega⟩)
local macro_rules | `(tactic| walk_at "pow") => `(tactic| exact ⟨by decide, by decide, by decide⟩)
local macro_rules | `(tactic| walk_at "side") => `(tactic| first | assumption | rfl | omega | decide)
local macro_rules | `(tactic| walk_at "lk") => `(tactic| first | exact .lst .l | exact .tup | exact .l)
local macro_rules | `(tactic| walk_at "it") => `(tactic| first | exact .lst | exact .tup)
local macro_rules | `(tactic| walk_at "len") => `(tactic| first | exact .lst .l | exact .tup | exact .scr)
local macro_rules | `(tactic| walk_at "ix") => `(tactic| first | exact .lst .l rfl | exact .tup rfl | exact .lst .l (by assumption) | exact .tup (by assumption) | exact .scr (by assumption))
local macro_rules | `(tactic| walk_at "dk") => `(tactic| exact .inl rfl)

/-! ### the search by a waiting list -/
structure SrcI (g : Gm) (i : Nat) (pre : List Mv) (yss : List (List Int)) : Prop where
  len : yss.length = g.size
  mem : ∀ (q : Nat) (ys : List Int) (x : Int), yss[q]? = some ys → (x ∈ ys ↔ (0 ≤ x ∧ x < i ∧ ∃ m ∈ g.row x, m.2.1 = q) ∨ (x = i ∧ ∃ m ∈ pre, m.2.1 = q))
  few : ∀ (q : Nat) (ys : List Int), yss[q]? = some ys → ys.length ≤ 3 * i + pre.length
theorem SrcI.zero (g : Gm) : SrcI g 0 [] ((List.range g.size).map fun _ => []) := by
  have hy : ∀ (q : Nat) (ys : List Int), ((List.range g.size).map fun _ => ([] : List Int))[q]? = some ys → ys = [] := fun q ys h => by
    rw [List.getElem?_map] at h
    obtain ⟨_, _, e⟩ := Option.map_eq_some_iff.mp h
    exact e.symm
  refine ⟨by simp, fun q ys x h => ?_, fun q ys h => by rw [hy q ys h]; simp⟩
  rw [hy q ys h]
  constructor
  · intro z; cases z
  · rintro (⟨h1, h2, _⟩ | ⟨_, m, hm, _⟩)
    · omega
    · cases hm
theorem SrcI.step {g : Gm} {i : Nat} {pre : List Mv} {yss : List (List Int)} {m : Mv} {ys : List Int} (h : SrcI g i pre yss) (h0 : 0 ≤ m.2.1) (he : yss[m.2.1.toNat]? = some ys) : SrcI g i (pre ++ [m]) (yss.set m.2.1.toNat (ys ++ [(i : Int)])) := by
  refine ⟨by rw [List.length_set]; exact h.len, fun q zs x hq => ?_, fun q zs hq => ?_⟩
  · rw [List.getElem?_set] at hq
    by_cases e : m.2.1.toNat = q
    · rw [if_pos e] at hq
      split at hq
      · cases hq
        have : m.2.1 = (q : Int) := by omega
        have hm := h.mem m.2.1.toNat ys x he
        rw [List.mem_append, hm, List.mem_singleton]
        constructor
        · rintro ((⟨a, b, c⟩ | ⟨a, n, hn, c⟩) | rfl)
          · exact .inl ⟨a, b, by rw [← e]; exact c⟩
          · exact .inr ⟨a, n, List.mem_append_left _ hn, by rw [← e]; exact c⟩
          · exact .inr ⟨rfl, m, by simp, this⟩
        · rintro (⟨a, b, c⟩ | ⟨a, n, hn, c⟩)
          · exact .inl (.inl ⟨a, b, by rw [e]; exact c⟩)
          · exact .inr a
      · cases hq
    · rw [if_neg e] at hq
      rw [h.mem q zs x hq]
      constructor
      · rintro (z | ⟨a, n, hn, c⟩)
        · exact .inl z
        · exact .inr ⟨a, n, List.mem_append_left _ hn, c⟩
      · rintro (z | ⟨a, n, hn, c⟩)
        · exact .inl z
        · rcases List.mem_append.mp hn with hn | hn
          · exact .inr ⟨a, n, hn, c⟩
          · rw [List.mem_singleton.mp hn] at c; exact absurd (by rw [c]; rfl) e
  · rw [List.getElem?_set] at hq
    rw [List.length_append]
    split at hq
    · split at hq
      · cases hq
        have := h.few _ _ he
        simp; omega
      · cases hq
    · have := h.few _ _ hq
      omega
theorem SrcI.next {g : Gm} {i : Nat} {yss : List (List Int)} (h : SrcI g i (g.row i) yss) (h3 : (g.row i).length ≤ 3) : SrcI g (i + 1) [] yss := by
  refine ⟨h.len, fun q ys x hq => ?_, fun q ys hq => ?_⟩
  · rw [h.mem q ys x hq]
    constructor
    · rintro (⟨a, b, c⟩ | ⟨a, n, hn, c⟩)
      · exact .inl ⟨a, by omega, c⟩
      · subst a; exact .inl ⟨by omega, by omega, n, hn, c⟩
    · rintro (⟨a, b, c⟩ | ⟨_, n, hn, _⟩)
      · by_cases e : x = i
        · subst e; exact .inr ⟨rfl, c⟩
        · exact .inl ⟨a, by omega, c⟩
      · cases hn
  · have := h.few q ys hq
    simp; omega
structure WInv (g : Gm) (side total : Int) (found : List (Option Int)) (ws : List Int) : Prop where
  len : found.length = g.size
  ended : ∀ p : Int, 0 ≤ p → p < g.size → ¬ 0 < g.mover p → fAt found p = startO g side p
  done : ∀ p : Int, 0 ≤ p → p < g.size → 0 < g.mover p → p ∉ ws → fAt found p = renewO g side total p (fAt found)
  inr : ∀ x ∈ ws, 0 ≤ x ∧ x < g.size ∧ 0 < g.mover x
  height : ∀ (i : Nat) (x : Int), ws[i]? = some x → (i : Int) + 300 * x < 100 + 300 * g.size
theorem WInv.fin {g : Gm} {side total : Int} {found : List (Option Int)} (h : WInv g side total found []) : IsFix g side total found := by
  refine ⟨h.len, fun p h0 h1 => ?_⟩
  split
  · rename_i hm; exact h.done p h0 h1 hm (by simp)
  · rename_i hm; exact h.ended p h0 h1 hm
theorem WInv.pop {g : Gm} {side total : Int} {found : List (Option Int)} {ws : List Int} {x : Int} (h : WInv g side total found (ws ++ [x])) (e : renewO g side total x (fAt found) = fAt found x) : WInv g side total found ws := by
  refine ⟨h.len, h.ended, fun p h0 h1 h2 h3 => ?_, fun y hy => h.inr y (List.mem_append_left _ hy), fun i y hi => h.height i y ?_⟩
  · by_cases e2 : p = x
    · subst e2; exact e.symm
    · exact h.done p h0 h1 h2 (by simp [h3, e2])
  · rw [List.getElem?_append_left (List.getElem?_eq_some_iff.mp hi).1]; exact hi
theorem WInv.push {g : Gm} {side total : Int} {found : List (Option Int)} {ws : List Int} {x : Int} {yss : List (List Int)} {ys : List Int} (ok : GmOk g) (ac : Acy g) (sz : g.size ≤ 100) (h : WInv g side total found (ws ++ [x])) (s : SrcI g g.size [] yss) (hy : yss[x.toNat]? = some ys) :
    WInv g side total (found.set x.toNat (renewO g side total x (fAt found))) (ws ++ ys) := by
  obtain ⟨x0, x1, xm⟩ := h.inr x (by simp)
  have hxl : x < found.length := by rw [h.len]; exact x1
  have hsrc : ∀ y, y ∈ ys ↔ (0 ≤ y ∧ y < g.size ∧ ∃ m ∈ g.row y, m.2.1 = x) := fun y => by
    rw [s.mem x.toNat ys y hy, show ((x.toNat : Nat) : Int) = x from by omega]
    simp
  have hlt : ∀ y ∈ ys, y < x := fun y hys => by
    obtain ⟨a, b, m, hm, e⟩ := (hsrc y).mp hys
    have := ac y a b m hm
    omega
  have hnew : ∀ t : Int, 0 ≤ t → fAt (found.set x.toNat (renewO g side total x (fAt found))) t = if t = x then renewO g side total x (fAt found) else fAt found t := fun t h0 => fAt_set x0 h0 hxl
  have hmv : ∀ p : Int, 0 ≤ p → p < g.size → (∀ m ∈ g.row p, m.2.1 ≠ x) → renewO g side total p (fAt (found.set x.toNat (renewO g side total x (fAt found)))) = renewO g side total p (fAt found) := fun p h0 h1 hne =>
    renewO_same fun m hm => by rw [hnew _ (ok.mv h0 h1 m hm).2.1, if_neg (hne m hm)]
  refine ⟨by rw [List.length_set]; exact h.len, fun p h0 h1 h2 => ?_, fun p h0 h1 h2 h3 => ?_, fun y hy' => ?_, fun i y hi => ?_⟩
  · rw [hnew p h0, if_neg (fun e => h2 (by rw [e]; exact xm))]
    exact h.ended p h0 h1 h2
  · rw [List.mem_append] at h3
    by_cases e : p = x
    · subst e
      rw [hnew p h0, if_pos rfl, hmv p h0 h1 fun m hm => by have := ac p h0 h1 m hm; omega]
    · rw [hnew p h0, if_neg e, hmv p h0 h1 fun m hm e2 => h3 (.inr ((hsrc p).mpr ⟨h0, h1, m, hm, e2⟩))]
      exact h.done p h0 h1 h2 (by rw [List.mem_append]; rintro (z | z); exact h3 (.inl z); exact e (List.mem_singleton.mp z))
  · rcases List.mem_append.mp hy' with z | z
    · exact h.inr y (List.mem_append_left _ z)
    · obtain ⟨a, b, m, hm, e⟩ := (hsrc y).mp z
      refine ⟨a, b, ?_⟩
      rcases ok.pos_at a b with ⟨k, _⟩ | ⟨_, k, _⟩
      · unfold Gm.mover; rw [if_pos k]; omega
      · rw [k] at hm; cases hm
  · by_cases hl : i < ws.length
    · rw [List.getElem?_append_left hl] at hi
      exact h.height i y (by rw [List.getElem?_append_left hl]; exact hi)
    · have hl : ws.length ≤ i := by omega
      rw [List.getElem?_append_right hl] at hi
      have h1 := h.height ws.length x (by simp)
      have h2 := hlt y (List.mem_of_getElem? hi)
      have h3 := s.few _ _ hy
      have h4 := (List.getElem?_eq_some_iff.mp hi).1
      simp at h3
      omega
theorem WInv.room {g : Gm} {side total : Int} {found : List (Option Int)} {ws : List Int} (sz : g.size ≤ 100) (h : WInv g side total found ws) : ws.length ≤ 30100 := by
  cases e : ws.getLast? with
  | none => rw [List.getLast?_eq_none_iff.mp e]; simp
  | some x =>
    obtain ⟨us, rfl⟩ := List.getLast?_eq_some_iff.mp e
    have h1 := h.height us.length x (by simp)
    obtain ⟨h2, _⟩ := h.inr x (by simp)
    simp
    omega
def Wm (ws : List Int) : Nat := (ws.map fun x => 302 ^ (x.toNat + 1)).sum
theorem Wm_app (a b : List Int) : Wm (a ++ b) = Wm a + Wm b := by unfold Wm; rw [List.map_append, List.sum_append]
theorem Wm_pop (ws : List Int) (x : Int) : Wm ws < Wm (ws ++ [x]) := by
  rw [Wm_app]
  have : 0 < Wm [x] := by show 0 < 302 ^ (x.toNat + 1) + 0; exact Nat.add_pos_left (Nat.pow_pos (by decide)) _
  omega
theorem Wm_push {ws ys : List Int} {x : Int} (h : ∀ y ∈ ys, 0 ≤ y ∧ y < x) (hl : ys.length ≤ 300) : Wm (ws ++ ys) < Wm (ws ++ [x]) := by
  rw [Wm_app, Wm_app]
  have h1 : ∀ zs : List Int, (∀ y ∈ zs, 0 ≤ y ∧ y < x) → Wm zs ≤ zs.length * 302 ^ x.toNat := by
    intro zs
    induction zs with
    | nil => intro _; exact Nat.zero_le _
    | cons y zs ih =>
      intro h
      have a := ih fun z hz => h z (List.mem_cons_of_mem _ hz)
      have b := h y List.mem_cons_self
      have c : 302 ^ (y.toNat + 1) ≤ 302 ^ x.toNat := Nat.pow_le_pow_right (by decide) (by omega)
      show 302 ^ (y.toNat + 1) + Wm zs ≤ _
      rw [List.length_cons, Nat.add_mul]
      omega
  have h2 := h1 ys h
  have h3 : ys.length * 302 ^ x.toNat ≤ 300 * 302 ^ x.toNat := Nat.mul_le_mul_right _ hl
  have h4 : Wm [x] = 302 ^ x.toNat * 302 := by show 302 ^ (x.toNat + 1) + 0 = _; rw [Nat.pow_succ]; rfl
  have h5 : 0 < 302 ^ x.toNat := Nat.pow_pos (by decide)
  omega
def found0 (g : Gm) (side : Int) : List (Option Int) := (List.range g.size).map fun (k : Nat) => startO g side k
theorem fAt_found0 {g : Gm} {side p : Int} (h0 : 0 ≤ p) (h1 : p < g.size) : fAt (found0 g side) p = startO g side p := by
  unfold fAt found0
  rw [List.getD_eq_getElem?_getD, List.getElem?_map, List.getElem?_range (by omega)]
  show startO g side ((p.toNat : Nat) : Int) = _
  rw [show ((p.toNat : Nat) : Int) = p from by omega]
structure WaitI (g : Gm) (i : Nat) (ws : List Int) : Prop where
  mem : ∀ x, x ∈ ws ↔ (0 ≤ x ∧ x < i ∧ 0 < g.mover x)
  few : ws.length ≤ i
theorem WaitI.init {g : Gm} {side total : Int} {ws : List Int} (sz : g.size ≤ 100) (h : WaitI g g.size ws) : WInv g side total (found0 g side) ws := by
  refine ⟨by simp [found0], fun p h0 h1 _ => fAt_found0 h0 h1, fun p h0 h1 h2 h3 => absurd ((h.mem p).mpr ⟨h0, h1, h2⟩) h3, fun x hx => (h.mem x).mp hx, fun i x hi => ?_⟩
  have h1 := (h.mem x).mp (List.mem_of_getElem? hi)
  have h2 := (List.getElem?_eq_some_iff.mp hi).1
  have h3 := h.few
  omega
section
variable {P : Program} {w : World} {K : PySem.W.Frag} {mg : Str → Option Value} {base : Heap}
/-- what a game must be that the search may take on -/
structure Hg (g : Gm) : Prop where
  ok : GmOk g
  ac : Acy g
  sz : g.size ≤ 100
  few : ∀ p : Int, 0 ≤ p → p < g.size → (g.row p).length ≤ 3
def R_hourglass_least (K : PySem.W.Frag) (ds : List Dt) (d : Dt) : Prop := ∃ (g : Gm) (side total : Int) (found : List (Option Int)), ds = [gmD K g, .int side, .int total] ∧ d = .lst (found.map oi) ∧ Hg g ∧ (side = 1 ∨ side = 2) ∧ 0 ≤ total ∧ total ≤ 100 ∧ IsFix g side total found
theorem D_hourglass_least (T : Txt P w K mg base) : Def P w K mg base "hourglass_least" ["game", "side", "total"] 4 (spD K (R_hourglass_least K)) := by
  obtain ⟨fd, F⟩ := T.d_hourglass_least
  refine ⟨_, fd, T.g_hourglass_least, F.kp, F.bindsN fun _ _ _ _ _ _ us hl => match us, hl with | [_, _, _], _ => rfl, fn_D F sc_hourglass_least vi_hourglass_least st_hourglass_least (fun ds d h => ?_) (fun X hX C hr ds d h => ?_)⟩
  · obtain ⟨g, side, total, fx, rfl, rfl, hg, hs, t0, t1, hfx⟩ := h; rfl
  obtain ⟨rfl, rfl, rfl, rfl, rfl⟩ := hX
  obtain ⟨g, side, total, fx, rfl, rfl, hg, hs, t0, t1, hfx⟩ := h
  obtain ⟨ok, ac, sz, few⟩ := hg
  have hsz1 := ok.pos
  have htot : (g.size : Int) * (total + 1) ≤ 20000 := by
    have a : (g.size : Int) * (total + 1) ≤ 100 * (total + 1) := Int.mul_le_mul_of_nonneg_right (by omega) (by omega)
    omega
  refine jb_cons (js_drop (jp_call C (D_other_side T) (hr.mono (by decide)) (ja_cons (jp_var C 1 rfl rfl rfl) ja_nil) (⟨side, rfl, rfl, hs⟩) rfl) ?_)
  refine jb_cons (js_drop (jp_call C (D_checked_amount T) (hr.mono (by decide)) (ja_cons (jp_var C 2 rfl rfl rfl) ja_nil) (⟨total, rfl, rfl, t0, by omega⟩) rfl) ?_)
  refine jb_cons (js_drop (jp_call C (D_check_total T) (hr.mono (by decide)) (ja_cons (jp_var C 0 rfl rfl rfl) (ja_cons (jp_var C 2 rfl rfl rfl) ja_nil)) (⟨g, total, rfl, rfl, htot, ok.top, t0, by omega⟩) rfl) ?_)
  refine jb_cons (js_lcO C 3 (List.range g.size) (fun (k : Nat) => Dt.int (k : Int)) (fun _ => true) (fun (k : Nat) => oi (startO g side k)) [("position", 6)] (ji_rangeN C T.f_range (jp_fld (jp_var C 0 rfl rfl rfl) T.cl_Game T.na_Game_size rfl) (by show (g.size : Int) ≤ 100000; omega) (by show 0 ≤ (g.size : Int); omega)) (?_) (by simp; omega) rfl rfl (by decide +kernel) rfl rfl rfl rfl rfl (fun pF hF => ?_))
  · intro k hk
    have hk := List.mem_range.mp hk
    refine ⟨_, fun X' hB C => ⟨(jg_name C 6), jfs_nil, fun _ => ?_⟩⟩
    have T := hB.tx (M := Txt) T
    have hr := hB.rm hr
    exact jp_if (jt_cmp (jp_call C (D_ended_outcome T) (hr.mono (by decide)) (ja_cons (jp_var C 0 rfl rfl rfl) (ja_cons (jp_var C 6 rfl rfl rfl) ja_nil)) (⟨g, (k : Int), by rw [hB.K], rfl, by omega, by omega, ok⟩) rfl) (jp_var C 1 rfl rfl rfl) (jo_eqO)) (fun h => JP.is jp_int (by unfold startO; rw [if_pos (of_decide_eq_true h)]; rfl)) (fun h => JP.is jp_non (by unfold startO; rw [if_neg (of_decide_eq_false h)]; rfl))
  have hf0 : outs (List.range g.size) (fun _ => true) (fun (k : Nat) => oi (startO g side k)) = (found0 g side).map oi := by rw [outs_all]; unfold found0; rw [List.map_map]; rfl
  rw [hf0]
  refine jb_cons (js_lcN C 4 (List.range g.size) (fun (k : Nat) => Dt.int (k : Int))  (fun _ => []) [("position", 6)] (ji_rangeN C T.f_range (jp_fld (jp_var C 0 rfl rfl rfl) T.cl_Game T.na_Game_size rfl) (by show (g.size : Int) ≤ 100000; omega) (by show 0 ≤ (g.size : Int); omega)) (?_) (by simp; omega) rfl rfl (by decide +kernel) rfl rfl rfl rfl rfl (fun pS ps hps nd hFS => ?_))
  · intro k hk
    exact ⟨_, fun X' hB C => ⟨(jg_name C 6), (jn_lst ja_nil)⟩⟩
  rw [List.length_range] at hps
  refine jb_cons (js_own C 5 (jn_lst ja_nil) fun pW hW => ?_)
  have nW : ∀ q, q ∈ pS :: ps ∨ q = pF → q ≠ pW := fun q hq => by
    rcases hq with hq | rfl
    · rcases List.mem_cons.mp hq with rfl | hq
      · exact hW _ List.mem_cons_self
      · rw [← zipO_keys (ps := ps) (yss := (List.range g.size).map fun _ => []) (by rw [hps]; simp)] at hq
        obtain ⟨u, hu, rfl⟩ := List.mem_map.mp hq
        exact hW u (List.mem_cons_of_mem _ (List.mem_append_left _ hu))
    · exact hW _ (List.mem_cons_of_mem _ (List.mem_append_right _ List.mem_cons_self))
  have nS := (List.nodup_cons.mp nd).1
  have ndp := (List.nodup_cons.mp nd).2
  have hz0 : zipO ps ((List.range g.size).map fun _ => []) = zipO ps (((List.range g.size).map fun _ => ([] : List Int)).map fun ys => ys.map Dt.int) := by rw [List.map_map]; rfl
  rw [hz0]
  let OS : List (List Int) → List Int → List (Option Int) → Os := fun yss ws found => (pW, .lst (ws.map .int)) :: (pS, .lst (ps.map .at)) :: (zipO ps (yss.map fun ys => ys.map Dt.int) ++ [(pF, .lst (found.map oi))])
  have mW : ∀ {yss ws found}, (pW, Ob.lst (ws.map .int)) ∈ OS yss ws found := fun {_ _ _} => List.mem_cons_self
  have mS : ∀ {yss ws found}, (pS, Ob.lst (ps.map .at)) ∈ OS yss ws found := fun {_ _ _} => List.mem_cons_of_mem _ List.mem_cons_self
  have mF : ∀ {yss ws found}, (pF, Ob.lst (found.map oi)) ∈ OS yss ws found := fun {_ _ _} => List.mem_cons_of_mem _ (List.mem_cons_of_mem _ (List.mem_append_right _ List.mem_cons_self))
  have mY : ∀ {yss : List (List Int)} {ws : List Int} {found : List (Option Int)} {j : Nat} {q : PySem.Addr} {ys : List Int}, ps[j]? = some q → yss[j]? = some ys → (q, Ob.lst (ys.map .int)) ∈ OS yss ws found := fun {_ _ _ _ _ _} h1 h2 =>
    List.mem_cons_of_mem _ (List.mem_cons_of_mem _ (List.mem_append_left _ (zipO_mem h1 (by rw [List.getElem?_map, h2]; rfl))))
  refine jb_cons (js_forR C (g.size : Int) (ws := [6]) (ji_rangeN C T.f_range (jp_fld (jp_var C 0 rfl rfl rfl) T.cl_Game T.na_Game_size rfl) (by show (g.size : Int) ≤ 100000; omega) (by show 0 ≤ (g.size : Int); omega)) (fun i δ os => ∃ v6 v7 yss ws, δ = [some (gmD X.K g), some (.int side), some (.int total), some (.at pF), some (.at pS), some (.at pW), v6, v7, none] ∧ os = OS yss ws (found0 g side) ∧ SrcI g i [] yss ∧ WaitI g i ws) ⟨_, _, _, [], rfl, rfl, SrcI.zero g, ⟨fun x => ⟨fun z => (nomatch z), fun z => by omega⟩, Nat.le_refl _⟩⟩ ?_ ?_)
  · rintro i δ' os' hi ⟨v6, v7, yss, ws, rfl, rfl, hS, hWt⟩
    have hi : i < g.size := hi
    refine ⟨_, (jg_name C 6), ?_⟩
    have hrow := ok.row_at (p := (i : Int)) (by omega) (by omega)
    refine jb_mid (fun δ os => ∃ v7 yss, δ = [some (gmD X.K g), some (.int side), some (.int total), some (.at pF), some (.at pS), some (.at pW), some (.int i), v7, none] ∧ os = OS yss ws (found0 g side) ∧ SrcI g i (g.row i) yss) ?_ ?_
    · refine js_forM C (g.row i) mvD (ws := [7]) (ji_X (jp_ix (jp_fld (jp_var C 0 rfl rfl rfl) T.cl_Game T.na_Game_moves rfl) (jp_var C 6 rfl rfl rfl) (.tup (at_map (by omega) hrow))) (.tup)) (fun pre δ os => ∃ v7 yss, δ = [some (gmD X.K g), some (.int side), some (.int total), some (.at pF), some (.at pS), some (.at pW), some (.int i), v7, none] ∧ os = OS yss ws (found0 g side) ∧ SrcI g i pre yss) ⟨v7, yss, rfl, rfl, hS⟩ ?_ ?_
      · rintro pre m post δ' os' e ⟨v7, yss, rfl, rfl, hS⟩
        have hm := ok.mv (p := (i : Int)) (by omega) (by omega) m (by rw [e]; simp)
        obtain ⟨_, m0, m1, _⟩ := hm
        have hpl : m.2.1.toNat < ps.length := by omega
        have hyl : m.2.1.toNat < yss.length := by rw [hS.len]; omega
        have hp1 : ps[m.2.1.toNat]? = some ps[m.2.1.toNat] := List.getElem?_eq_getElem hpl
        have hy1 : yss[m.2.1.toNat]? = some yss[m.2.1.toNat] := List.getElem?_eq_getElem hyl
        have hfew := hS.few _ _ hy1
        have hrl := few (i : Int) (by omega) (by omega)
        have hpre : pre.length ≤ 3 := by rw [e] at hrl; simp at hrl; omega
        have hpm := List.getElem_mem hpl
        refine ⟨_, (jg_name C 7), ?_⟩
        refine jb_cons (js_append (os' := OS (yss.set m.2.1.toNat (yss[m.2.1.toNat] ++ [(i : Int)])) ws (found0 g side)) (jp_ix (jp_var C 4 rfl rfl rfl) (jp_ix (jp_var C 7 rfl rfl rfl) jp_int (.tup rfl)) (.lst (.o mS) (at_map m0 hp1))) (mY hp1 hy1) (jp_var C 6 rfl rfl rfl) (by rw [List.length_map]; omega) (jb_nil ⟨_, _, rfl, rfl, hS.step m0 hy1⟩) (he := ?_))
        show putO _ _ ((pW, _) :: (pS, _) :: (zipO ps _ ++ _)) = _
        rw [putO_tl (nW _ (.inl (List.mem_cons_of_mem _ hpm))).symm, putO_tl (fun z => nS (by rw [z]; exact hpm)), zipO_put ndp (by rw [List.length_map, hS.len, hps]) hp1]
        show _ = (pW, _) :: (pS, _) :: (zipO ps _ ++ _)
        rw [List.map_set, List.map_append]; rfl
      · rintro δ' os' ⟨v7, yss, rfl, rfl, hS⟩
        exact ⟨v7, yss, rfl, rfl, hS⟩
    · rintro δ' os' ⟨v7, yss, rfl, rfl, hS⟩
      have hS' := hS.next (few (i : Int) (by omega) (by omega))
      refine jb_cons (js_if (jt_cmp (jp_meth T.cl_Game (D_Game_mover T) (hr.mono (by decide)) (jp_var C 0 rfl rfl rfl) rfl (ja_cons (jp_var C 6 rfl rfl rfl) ja_nil) (⟨g, (i : Int), rfl, rfl, by omega, by omega⟩)) jp_int jo_gt) (fun h => ?_) (fun h => jb_nil (jb_nil ?_)))
      · refine jb_cons (js_append (os' := OS yss (ws ++ [(i : Int)]) (found0 g side)) (jp_var C 5 rfl rfl rfl) mW (jp_var C 6 rfl rfl rfl) (by rw [List.length_map]; have := hWt.few; omega) (jb_nil (jb_nil ⟨_, _, _, _, rfl, rfl, hS', ⟨fun x => ?_, ?_⟩⟩)) (he := ?_))
        · have h := of_decide_eq_true h
          rw [List.mem_append, hWt.mem x, List.mem_singleton]
          constructor
          · rintro (⟨a, b, c⟩ | rfl)
            · exact ⟨a, by omega, c⟩
            · exact ⟨by omega, by omega, h⟩
          · rintro ⟨a, b, c⟩
            by_cases e : x = i
            · exact .inr e
            · exact .inl ⟨a, by omega, c⟩
        · have := hWt.few; simp; omega
        · show putO pW _ ((pW, _) :: _) = (pW, _) :: _
          rw [putO_hd, List.map_append]; rfl
      · have h := of_decide_eq_false h
        refine ⟨_, _, _, _, rfl, rfl, hS', ⟨fun x => ?_, by have := hWt.few; omega⟩⟩
        rw [hWt.mem x]
        constructor
        · rintro ⟨a, b, c⟩; exact ⟨a, by omega, c⟩
        · rintro ⟨a, b, c⟩
          have : x ≠ i := fun e => h (e ▸ c)
          exact ⟨a, by omega, c⟩
  rintro δ' os' ⟨v6, v7, yss, ws, rfl, rfl, hS, hWt⟩
  have hS : SrcI g g.size [] yss := hS
  have hWt : WaitI g g.size ws := hWt
  refine jb_mid (fun δ os => ∃ v6 v7 v8, δ = [some (gmD X.K g), some (.int side), some (.int total), some (.at pF), some (.at pS), some (.at pW), v6, v7, v8] ∧ os = OS yss [] fx) (js_while C (fun m δ os => ∃ v6 v7 v8 found ws, m = Wm ws ∧ δ = [some (gmD X.K g), some (.int side), some (.int total), some (.at pF), some (.at pS), some (.at pW), v6, v7, v8] ∧ os = OS yss ws found ∧ WInv g side total found ws) (Wm ws) ⟨v6, v7, none, found0 g side, ws, rfl, rfl, rfl, hWt.init sz⟩ ?_) ?_
  · rintro m δ' os' ⟨v6, v7, v8, found, ws, rfl, rfl, rfl, hI⟩
    refine ⟨_, jt_truth (jp_var C 5 rfl rfl rfl) (.o mW), fun hk => ?_, fun hk => ?_⟩
    · cases eL : ws.getLast? with
      | none => rw [List.getLast?_eq_none_iff.mp eL] at hk; cases hk
      | some x =>
        obtain ⟨us, rfl⟩ := List.getLast?_eq_some_iff.mp eL
        obtain ⟨x0, x1, xm⟩ := hI.inr x (by simp)
        have hroom := hI.room sz
        have hxn : ((x.toNat : Nat) : Int) = x := Int.toNat_of_nonneg x0
        have hxl : x < found.length := by rw [hI.len]; exact x1
        have hfx := fAt_at x0 hxl
        refine jb_cons (js_pop (d := .int x) (xs := us.map .int) (os' := OS yss us found) C 6 (jp_var C 5 rfl rfl rfl) (by have := @mW yss (us ++ [x]) found; rw [List.map_append] at this; exact this) ?_ (he := by show putO pW _ ((pW, _) :: _) = (pW, _) :: _; rw [putO_hd]))
        refine jb_cons (js_set C 8 (jp_callO C (D_renewed T) (hr.mono (by decide)) (ja_cons (jp_var C 0 rfl rfl rfl) (ja_cons (jp_var C 1 rfl rfl rfl) (ja_cons (jp_var C 2 rfl rfl rfl) (ja_cons (jp_var C 6 rfl rfl rfl) (ja_cons (jp_var C 3 rfl rfl rfl) ja_nil))))) (.cons (.same _) (.cons (.same _) (.cons (.same _) (.cons (.same _) (.cons (.lst mF (DeepL.same _)) .nil))))) (⟨g, side, total, x, found, rfl, rfl, ok, x0, x1, hI.len⟩) (scD_oi _) rfl) ?_)
        refine jb_cons (js_if (jt_cmp (jp_var C 8 rfl rfl rfl) (jp_ix (jp_var C 3 rfl rfl rfl) (jp_var C 6 rfl rfl rfl) (.lst (.o mF) hfx)) (jo_neO)) (fun h => ?_) (fun h => jb_nil (jb_nil ?_)))
        · have hpl : x.toNat < ps.length := by omega
          have hyl : x.toNat < yss.length := by rw [hS.len]; omega
          have hp1 : ps[x.toNat]? = some ps[x.toNat] := List.getElem?_eq_getElem hpl
          have hy1 : yss[x.toNat]? = some yss[x.toNat] := List.getElem?_eq_getElem hyl
          have hfew := hS.few _ _ hy1
          refine jb_cons (js_setI (os' := OS yss us (found.set x.toNat (renewO g side total x (fAt found)))) (jp_var C 8 rfl rfl rfl) (jp_var C 3 rfl rfl rfl) (jp_var C 6 rfl rfl rfl) mF x0 (by rw [List.length_map]; exact hxl) ?_ (he := ?_))
          · refine jb_cons (js_extend (os' := OS yss (us ++ yss[x.toNat]) (found.set x.toNat (renewO g side total x (fAt found)))) (jp_var C 5 rfl rfl rfl) mW (jp_ix (jp_var C 4 rfl rfl rfl) (jp_var C 6 rfl rfl rfl) (.lst (.o mS) (at_map x0 hp1))) (.o (mY hp1 hy1)) ?_ (jb_nil (jb_nil ?_)) (he := ?_))
            · rw [List.length_map, List.length_map]
              simp at hroom hfew
              omega
            · refine ⟨Wm (us ++ yss[x.toNat]), Wm_push (fun y hy => ?_) ?_, _, _, _, _, _, rfl, rfl, rfl, hI.push ok ac sz hS hy1⟩
              · have := (hS.mem _ _ y hy1).mp hy
                rw [hxn] at this
                rcases this with ⟨a, b, m, hm, e⟩ | ⟨_, m, hm, _⟩
                · exact ⟨a, by rw [← e]; exact ac y a b m hm⟩
                · cases hm
              · simp at hfew; omega
            · show putO pW _ ((pW, _) :: _) = (pW, _) :: _
              rw [putO_hd, List.map_append]
          · show putO pF _ ((pW, _) :: (pS, _) :: (zipO ps _ ++ [(pF, _)])) = (pW, _) :: (pS, _) :: (zipO ps _ ++ [(pF, _)])
            rw [putO_tl (nW _ (.inr rfl)).symm, putO_tl (fun z => hFS _ List.mem_cons_self (by rw [z]; exact List.mem_cons_self)), zipO_skip (fun z => hFS _ List.mem_cons_self (List.mem_cons_of_mem _ z)), putO_hd, List.map_set]
        · refine ⟨Wm us, Wm_pop us x, _, _, _, found, us, rfl, rfl, rfl, hI.pop ?_⟩
          simpa using h
    · have : ws = [] := by
        cases ws with
        | nil => rfl
        | cons a b => cases hk
      subst this
      exact ⟨_, _, _, rfl, by rw [IsFix.uniq ok ac hI.fin hfx]⟩
  · rintro δ' os' ⟨v6, v7, v8, rfl, rfl⟩
    exact jb_cons (js_retO (jp_var C 3 rfl rfl rfl) mF rfl)
end
end K70

set_option maxHeartbeats 4000000
namespace K70
open PySem PySem.Spec PyProof.Rows L2 DL
local macro_rules | `(tactic| walk_at "mul") => `(tactic| first | exact .inl (by decide) | exact .inr (by decide) | exact .inl (by omega) | exact .inr (by omega))
local macro_rules | `(tactic| walk_at "pos") => `(tactic| first | assumption | decide | omega)
local macro_rules | `(tactic| walk_at "div") => `(tactic| first | exact ⟨by decide, by decide⟩ | exact ⟨by omega, by omega⟩)
local macro_rules | `(tactic| walk_at "pow") => `(tactic| exact ⟨by decide, by decide, by decide⟩)
local macro_rules | `(tactic| walk_at "side") => `(tactic| first | assumption | rfl | omega | decide)
local macro_rules | `(tactic| walk_at "lk") => `(tactic| first | exact .lst .l | exact .tup | exact .l)
local macro_rules | `(tactic| walk_at "it") => `(tactic| first | exact .lst | exact .tup)
local macro_rules | `(tactic| walk_at "len") => `(tactic| first | exact .lst .l | exact .tup | exact .scr)
local macro_rules | `(tactic| walk_at "ix") => `(tactic| first | exact .lst .l rfl | exact .tup rfl | exact .lst .l (by assumption) | exact .tup (by assumption) | exact .scr (by assumption))
local macro_rules | `(tactic| walk_at "dk") => `(tactic| exact .inl rfl)

section
variable {P : Program} {w : World} {K : PySem.W.Frag} {mg : Str → Option Value} {base : Heap}
def outOf (f1 f2 : List (Option Int)) (p a b : Int) : Int := if suffO a (fAt f1 p) = true then 1 else if suffO b (fAt f2 p) = true then 2 else 0
def R_hourglass_outcome (K : PySem.W.Frag) (ds : List Dt) (d : Dt) : Prop := ∃ (g : Gm) (p a b : Int) (f1 f2 : List (Option Int)), ds = [gmD K g, .int p, .int a, .int b] ∧ d = .int (outOf f1 f2 p a b) ∧ Hg g ∧ 0 ≤ p ∧ p < g.size ∧ 0 ≤ a ∧ 0 ≤ b ∧ a + b ≤ 100 ∧ IsFix g 1 (a + b) f1 ∧ IsFix g 2 (a + b) f2
theorem D_hourglass_outcome (T : Txt P w K mg base) : Def P w K mg base "hourglass_outcome" ["game", "position", "first", "second"] 5 (spD K (R_hourglass_outcome K)) := by
  obtain ⟨fd, F⟩ := T.d_hourglass_outcome
  refine ⟨_, fd, T.g_hourglass_outcome, F.kp, F.bindsN fun _ _ _ _ _ _ us hl => match us, hl with | [_, _, _, _], _ => rfl, fn_D F sc_hourglass_outcome vi_hourglass_outcome st_hourglass_outcome (fun ds d h => ?_) (fun X hX C hr ds d h => ?_)⟩
  · obtain ⟨g, p, a, b, f1, f2, rfl, rfl, hg, h0, h1, a0, b0, hab, x1, x2⟩ := h; rfl
  obtain ⟨rfl, rfl, rfl, rfl, rfl⟩ := hX
  obtain ⟨g, p, a, b, f1, f2, rfl, rfl, hg, h0, h1, a0, b0, hab, x1, x2⟩ := h
  have htot : (g.size : Int) * (a + b + 1) ≤ 20000 := by
    have z : (g.size : Int) * (a + b + 1) ≤ 100 * (a + b + 1) := Int.mul_le_mul_of_nonneg_right (by have := hg.sz; omega) (by omega)
    omega
  refine jb_cons (js_drop (jp_meth T.cl_Game (D_Game_checked T) (hr.mono (by decide)) (jp_var C 0 rfl rfl rfl) rfl (ja_cons (jp_var C 1 rfl rfl rfl) ja_nil) (⟨g, p, rfl, rfl, h0, h1⟩)) ?_)
  refine jb_cons (js_drop (jp_call C (D_checked_amount T) (hr.mono (by decide)) (ja_cons (jp_var C 2 rfl rfl rfl) ja_nil) (⟨a, rfl, rfl, a0, by omega⟩) rfl) ?_)
  refine jb_cons (js_drop (jp_call C (D_checked_amount T) (hr.mono (by decide)) (ja_cons (jp_var C 3 rfl rfl rfl) ja_nil) (⟨b, rfl, rfl, b0, by omega⟩) rfl) ?_)
  refine jb_cons (js_drop (jp_call C (D_check_total T) (hr.mono (by decide)) (ja_cons (jp_var C 0 rfl rfl rfl) (ja_cons (jp_op (jp_var C 2 rfl rfl rfl) (jp_var C 3 rfl rfl rfl) jo_add) ja_nil)) (⟨g, a + b, rfl, rfl, htot, hg.ok.top, by omega, by omega⟩) rfl) ?_)
  have e1 : fAt f1 p = fAt f1 p := rfl
  refine jb_cons (js_forM C [((1 : Int), a, f1), (2, b, f2)] (fun q => Dt.tup [.int q.1, .int q.2.1]) (ws := [4, 5]) (ji_X (jp_tup (ja_cons (jp_tup (ja_cons jp_int (ja_cons (jp_var C 2 rfl rfl rfl) ja_nil))) (ja_cons (jp_tup (ja_cons jp_int (ja_cons (jp_var C 3 rfl rfl rfl) ja_nil))) ja_nil))) (.tup))
    (fun pre δ os => ∃ v4 v5, δ = [some (gmD X.K g), some (.int p), some (.int a), some (.int b), v4, v5] ∧ os = [] ∧ ∀ q ∈ pre, suffO q.2.1 (fAt q.2.2 p) = false) ⟨_, _, rfl, rfl, fun _ z => nomatch z⟩ ?_ ?_)
  · rintro pre t post δ' os' e ⟨v4, v5, rfl, rfl, hpre⟩
    have ht : t = (1, a, f1) ∨ (t = (2, b, f2) ∧ suffO a (fAt f1 p) = false) := by
      rcases pre with _ | ⟨x, _ | ⟨y, zs⟩⟩
      · simp at e; exact .inl e.1.symm
      · simp at e
        exact .inr ⟨e.2.1.symm, by have := hpre x (by simp); rw [← e.1] at this; exact this⟩
      · simp at e
    have hfix : ∃ found, found = t.2.2 ∧ IsFix g t.1 (a + b) found ∧ (t.1 = 1 ∨ t.1 = 2) := by
      rcases ht with rfl | ⟨rfl, _⟩
      · exact ⟨_, rfl, x1, .inl rfl⟩
      · exact ⟨_, rfl, x2, .inr rfl⟩
    obtain ⟨found, rfl, hfx, hside⟩ := hfix
    refine ⟨_, (jg_tup C (jgs_cons (jg_name C 4) (jgs_cons (jg_name C 5) jgs_nil))), ?_⟩
    refine jb_cons (js_if (k := suffO t.2.1 (fAt t.2.2 p)) (jt_val (jp_call C (D_suffices T) (hr.mono (by decide)) (ja_cons (jp_var C 5 rfl rfl rfl) (ja_cons (jp_ix (jp_call C (D_hourglass_least T) (hr.mono (by decide)) (ja_cons (jp_var C 0 rfl rfl rfl) (ja_cons (jp_var C 4 rfl rfl rfl) (ja_cons (jp_op (jp_var C 2 rfl rfl rfl) (jp_var C 3 rfl rfl rfl) jo_add) ja_nil))) (⟨g, t.1, a + b, t.2.2, rfl, rfl, hg, hside, by omega, by omega, hfx⟩) rfl) (jp_var C 1 rfl rfl rfl) (.lst .l (fAt_at h0 (by rw [hfx.len]; exact h1)))) ja_nil)) (⟨_, _, rfl, rfl⟩) rfl)) (fun h => ?_) (fun h => jb_nil (jb_nil ⟨_, _, rfl, rfl, fun q hq => ?_⟩)))
    · refine jb_cons (js_ret (jp_var C 4 rfl rfl rfl) ?_)
      rcases ht with rfl | ⟨rfl, hn⟩
      · show _ = Dt.int (outOf _ _ _ _ _); unfold outOf; rw [if_pos h]
      · show _ = Dt.int (outOf _ _ _ _ _); unfold outOf; rw [if_neg (by rw [hn]; exact Bool.false_ne_true), if_pos h]
    · rcases List.mem_append.mp hq with hq | hq
      · exact hpre q hq
      · rw [List.mem_singleton.mp hq]; exact h
  · rintro δ' os' ⟨v4, v5, rfl, rfl, hpre⟩
    have n1 := hpre (1, a, f1) (by simp)
    have n2 := hpre (2, b, f2) (by simp)
    refine jb_cons (js_ret jp_int ?_)
    show _ = Dt.int (outOf _ _ _ _ _)
    unfold outOf
    rw [if_neg (by rw [show suffO a (fAt f1 p) = false from n1]; exact Bool.false_ne_true), if_neg (by rw [show suffO b (fAt f2 p) = false from n2]; exact Bool.false_ne_true)]
end
end K70

set_option maxHeartbeats 4000000
namespace K70
open PySem PySem.Spec PyProof.Rows L2 DL
local macro_rules | `(tactic| walk_at "mul") => `(tactic| first | exact .inl (by decide) | exact .inr (by decide) | exact .inl (by omega) | exact .inr (by omega))
local macro_rules | `(tactic| walk_at "pos") => `(tactic| first | assumption | decide | omega)
local macro_rules | `(tactic| walk_at "div") => `(tactic| first | exact ⟨by decide, by decide⟩ | exact ⟨by omega, by omega⟩)
local macro_rules | `(tactic| walk_at "pow") => `(tactic| exact ⟨by decide, by decide, by decide⟩)
local macro_rules | `(tactic| walk_at "side") => `(tactic| first | assumption | rfl | omega | decide)
local macro_rules | `(tactic| walk_at "lk") => `(tactic| first | exact .lst .l | exact .tup | exact .l)
local macro_rules | `(tactic| walk_at "it") => `(tactic| first | exact .lst | exact .tup)
local macro_rules | `(tactic| walk_at "len") => `(tactic| first | exact .lst .l | exact .tup | exact .scr)
local macro_rules | `(tactic| walk_at "ix") => `(tactic| first | exact .lst .l rfl | exact .tup rfl | exact .lst .l (by assumption) | exact .tup (by assumption) | exact .scr (by assumption))
local macro_rules | `(tactic| walk_at "dk") => `(tactic| exact .inl rfl)

/-! ### a match as data -/
structure Lg where
  g : Gm
  at_ : Int
  white : Int
def Lg.seen (l : Lg) : Gm := if l.white = 1 then l.g else turnG l.g
structure Ct where
  legs : List Lg
  win : Int
  draw : Int
def Ct.n (c : Ct) : Nat := c.legs.length
def noLg : Lg := ⟨⟨[], [], []⟩, 0, 1⟩
def Ct.lg (c : Ct) (k : Int) : Lg := c.legs.getD k.toNat noLg
def Ct.game (c : Ct) (k : Int) : Gm := (c.lg k).seen
/-- the scores that may stand after k legs -/
def maxI (l : List Int) : Int := l.foldl mx 0
def upTo (m : Int) : List Int := (List.range (m + 1).toNat).map fun (k : Nat) => (k : Int)
def uniq (l : List Int) : List Int := (upTo (maxI l)).filter fun x => decide (x ∈ l)
def scNext (win draw : Int) (l : List Int) : List Int := l ++ l.map (· + win) ++ l.map (· + draw)
def scL (win draw : Int) : Nat → List Int
  | 0 => [0]
  | k + 1 => uniq (scNext win draw (scL win draw k))
def Ct.sc (c : Ct) (k : Int) : List Int := scL c.win c.draw k.toNat
def Ct.below (c : Ct) (k target : Int) : List Int := (c.sc k).filter fun s => decide (s < target)
structure LgOk (l : Lg) : Prop where
  hg : Hg l.g
  at0 : 0 ≤ l.at_
  at1 : l.at_ < l.g.size
  wh : l.white = 1 ∨ l.white = 2
structure CtOk (c : Ct) : Prop where
  n1 : 1 ≤ c.n
  n3 : c.n ≤ 3
  legs : ∀ l ∈ c.legs, LgOk l
  sz : ∀ l ∈ c.legs, l.g.size + c.n ≤ 6
  win0 : 1 ≤ c.win
  win1 : c.win ≤ 9
  draw0 : 0 ≤ c.draw
  draw1 : c.draw ≤ c.win
theorem turnG_size (g : Gm) : (turnG g).size = g.size := by show (g.marks.map turnM).length = _; rw [List.length_map]; rfl
theorem turnG_row (g : Gm) (p : Int) : (turnG g).row p = g.row p := rfl
theorem turnG_hg {g : Gm} (h : Hg g) : Hg (turnG g) := ⟨turnG_ok h.ok, by unfold Acy; rw [turnG_size]; exact h.ac, by rw [turnG_size]; exact h.sz, by rw [turnG_size]; exact h.few⟩
theorem Lg.seen_size (l : Lg) : l.seen.size = l.g.size := by
  unfold Lg.seen
  split
  · rfl
  · exact turnG_size _
theorem LgOk.seen {l : Lg} (h : LgOk l) : Hg l.seen := by
  unfold Lg.seen
  split
  · exact h.hg
  · exact turnG_hg h.hg
section
variable {c : Ct} {k : Int}
theorem CtOk.lg_at (h0 : 0 ≤ k) (h1 : k < c.n) : c.legs[k.toNat]? = some (c.lg k) := getD_at (by show k.toNat < c.n; omega)
theorem CtOk.lg_mem (h0 : 0 ≤ k) (h1 : k < c.n) : c.lg k ∈ c.legs := List.mem_of_getElem? (CtOk.lg_at h0 h1)
theorem CtOk.lgOk (ok : CtOk c) (h0 : 0 ≤ k) (h1 : k < c.n) : LgOk (c.lg k) := ok.legs _ (CtOk.lg_mem h0 h1)
theorem CtOk.hg (ok : CtOk c) (h0 : 0 ≤ k) (h1 : k < c.n) : Hg (c.game k) := (ok.lgOk h0 h1).seen
theorem CtOk.gsz (ok : CtOk c) (h0 : 0 ≤ k) (h1 : k < c.n) : (c.game k).size + c.n ≤ 6 := by
  unfold Ct.game
  rw [Lg.seen_size]
  exact ok.sz _ (CtOk.lg_mem h0 h1)
end
section
variable {P : Program} {w : World} {K : PySem.W.Frag} {mg : Str → Option Value} {base : Heap}
abbrev MC (K : PySem.W.Frag) : Addr := He.ga K "Match"
def lgD (K : PySem.W.Frag) (l : Lg) : Dt := .tup [gmD K l.g, .int l.at_, .int l.white, .int 0, .int 0]
def scD' (c : Ct) (i : Nat) : Dt := .tup ((scL c.win c.draw i).map .int)
def ctF (K : PySem.W.Frag) (c : Ct) : List (Str × Dt) := [("legs", .tup (c.legs.map (lgD K))), ("win", .int c.win), ("draw", .int c.draw), ("_scores", .tup ((List.range (c.n + 1)).map (scD' c))), ("_games", .tup (c.legs.map fun l => gmD K l.seen))]
def ctD (K : PySem.W.Frag) (c : Ct) : Dt := .ins (MC K) (ctF K c)
theorem len_legs (c : Ct) {os : Os} : Lnd os (.tup (c.legs.map (lgD K))) (c.n : Int) := Lnd.is .tup (by rw [List.length_map]; rfl)
def R_checked_leg (K : PySem.W.Frag) (ds : List Dt) (d : Dt) : Prop := ∃ (c : Ct) (k : Int), ds = [ctD K c, .int k] ∧ d = .int k ∧ 0 ≤ k ∧ k < c.n
theorem D_Match_checked_leg (T : Txt P w K mg base) : DefM P w K mg base (He.ga K "Match") "checked_leg" ["self", "leg"] 1 (spD K (R_checked_leg K)) := by
  obtain ⟨fd, F⟩ := T.d_Match_checked_leg
  refine ⟨_, fd, T.me_Match_checked_leg, F.bindsN fun _ _ _ _ _ _ us hl => match us, hl with | [_, _], _ => rfl, fn_D F sc_Match_checked_leg vi_Match_checked_leg st_Match_checked_leg (fun ds d h => ?_) (fun X hX C hr ds d h => ?_)⟩
  · obtain ⟨c, k, rfl, rfl, h0, h1⟩ := h; rfl
  obtain ⟨rfl, rfl, rfl, rfl, rfl⟩ := hX
  obtain ⟨c, k, rfl, rfl, h0, h1⟩ := h
  refine jb_cons (js_if (k := false) (JT.is (jt_w (jw_or (jt_cmp (jp_var C 1 rfl rfl rfl) jp_int jo_lt) (fun hk2 => (jw_or1 (jt_cmp (jp_var C 1 rfl rfl rfl) (jp_lenX C T.f_len (jp_fld (jp_var C 0 rfl rfl rfl) T.cl_Match T.na_Match_legs rfl) (len_legs c)) jo_ge))))) (by simp; omega)) (fun h => nomatch h) (fun _ => jb_nil ?_))
  exact jb_cons (js_ret (jp_var C 1 rfl rfl rfl) rfl)
def R_game_of (K : PySem.W.Frag) (ds : List Dt) (d : Dt) : Prop := ∃ (c : Ct) (k : Int), ds = [ctD K c, .int k] ∧ d = gmD K (c.game k) ∧ 0 ≤ k ∧ k < c.n
theorem D_Match_game_of (T : Txt P w K mg base) : DefM P w K mg base (He.ga K "Match") "game_of" ["self", "leg"] 2 (spD K (R_game_of K)) := by
  obtain ⟨fd, F⟩ := T.d_Match_game_of
  refine ⟨_, fd, T.me_Match_game_of, F.bindsN fun _ _ _ _ _ _ us hl => match us, hl with | [_, _], _ => rfl, fn_D F sc_Match_game_of vi_Match_game_of st_Match_game_of (fun ds d h => ?_) (fun X hX C hr ds d h => ?_)⟩
  · obtain ⟨c, k, rfl, rfl, h0, h1⟩ := h; rfl
  obtain ⟨rfl, rfl, rfl, rfl, rfl⟩ := hX
  obtain ⟨c, k, rfl, rfl, h0, h1⟩ := h
  exact jb_cons (js_ret (jp_ix (jp_fld (jp_var C 0 rfl rfl rfl) T.cl_Match T.na_Match_games rfl) (jp_meth T.cl_Match (D_Match_checked_leg T) (hr.mono (by decide)) (jp_var C 0 rfl rfl rfl) rfl (ja_cons (jp_var C 1 rfl rfl rfl) ja_nil) (⟨c, k, rfl, rfl, h0, h1⟩)) (.tup (at_map h0 (CtOk.lg_at h0 h1)))) rfl)
def R_begins (K : PySem.W.Frag) (ds : List Dt) (d : Dt) : Prop := ∃ (c : Ct) (k : Int), ds = [ctD K c, .int k] ∧ d = .int (c.lg k).at_ ∧ 0 ≤ k ∧ k < c.n
theorem D_Match_begins (T : Txt P w K mg base) : DefM P w K mg base (He.ga K "Match") "begins" ["self", "leg"] 2 (spD K (R_begins K)) := by
  obtain ⟨fd, F⟩ := T.d_Match_begins
  refine ⟨_, fd, T.me_Match_begins, F.bindsN fun _ _ _ _ _ _ us hl => match us, hl with | [_, _], _ => rfl, fn_D F sc_Match_begins vi_Match_begins st_Match_begins (fun ds d h => ?_) (fun X hX C hr ds d h => ?_)⟩
  · obtain ⟨c, k, rfl, rfl, h0, h1⟩ := h; rfl
  obtain ⟨rfl, rfl, rfl, rfl, rfl⟩ := hX
  obtain ⟨c, k, rfl, rfl, h0, h1⟩ := h
  exact jb_cons (js_ret (jp_ix (jp_ix (jp_fld (jp_var C 0 rfl rfl rfl) T.cl_Match T.na_Match_legs rfl) (jp_meth T.cl_Match (D_Match_checked_leg T) (hr.mono (by decide)) (jp_var C 0 rfl rfl rfl) rfl (ja_cons (jp_var C 1 rfl rfl rfl) ja_nil) (⟨c, k, rfl, rfl, h0, h1⟩)) (.tup (at_map h0 (CtOk.lg_at h0 h1)))) jp_int (.tup rfl)) rfl)
def R_added_after (K : PySem.W.Frag) (ds : List Dt) (d : Dt) : Prop := ∃ (c : Ct) (k : Int), ds = [ctD K c, .int k] ∧ d = .tup [.int 0, .int 0] ∧ 0 ≤ k ∧ k < c.n
theorem D_Match_added_after (T : Txt P w K mg base) : DefM P w K mg base (He.ga K "Match") "added_after" ["self", "leg"] 2 (spD K (R_added_after K)) := by
  obtain ⟨fd, F⟩ := T.d_Match_added_after
  refine ⟨_, fd, T.me_Match_added_after, F.bindsN fun _ _ _ _ _ _ us hl => match us, hl with | [_, _], _ => rfl, fn_D F sc_Match_added_after vi_Match_added_after st_Match_added_after (fun ds d h => ?_) (fun X hX C hr ds d h => ?_)⟩
  · obtain ⟨c, k, rfl, rfl, h0, h1⟩ := h; rfl
  obtain ⟨rfl, rfl, rfl, rfl, rfl⟩ := hX
  obtain ⟨c, k, rfl, rfl, h0, h1⟩ := h
  refine jb_cons (js_if (jt_cmp (jp_meth T.cl_Match (D_Match_checked_leg T) (hr.mono (by decide)) (jp_var C 0 rfl rfl rfl) rfl (ja_cons (jp_var C 1 rfl rfl rfl) ja_nil) (⟨c, k, rfl, rfl, h0, h1⟩)) (jp_op (jp_lenX C T.f_len (jp_fld (jp_var C 0 rfl rfl rfl) T.cl_Match T.na_Match_legs rfl) (len_legs c)) jp_int jo_sub) jo_eqI) (fun h => ?_) (fun h => jb_nil ?_))
  · exact jb_cons (js_ret (jp_tup (ja_cons jp_int (ja_cons jp_int ja_nil))) rfl)
  · exact jb_cons (js_ret (jp_sliceT (jp_ix (jp_fld (jp_var C 0 rfl rfl rfl) T.cl_Match T.na_Match_legs rfl) (jp_var C 1 rfl rfl rfl) (.tup (at_map h0 (CtOk.lg_at h0 h1)))) (jpo_some jp_int) jpo_none (by show ¬(HT.sIx 5 0 (some 3) = 0 ∧ HT.sIx 5 5 none = 5); decide)) rfl)
def worthM (c : Ct) (side outcome : Int) : Int := if outcome = side then c.win else if outcome = 3 - side then 0 else c.draw
def R_points_for (K : PySem.W.Frag) (ds : List Dt) (d : Dt) : Prop := ∃ (c : Ct) (side o : Int), ds = [ctD K c, .int side, .int o] ∧ d = .int (worthM c side o) ∧ (side = 1 ∨ side = 2)
theorem D_Match_points_for (T : Txt P w K mg base) : DefM P w K mg base (He.ga K "Match") "points_for" ["self", "side", "outcome"] 2 (spD K (R_points_for K)) := by
  obtain ⟨fd, F⟩ := T.d_Match_points_for
  refine ⟨_, fd, T.me_Match_points_for, F.bindsN fun _ _ _ _ _ _ us hl => match us, hl with | [_, _, _], _ => rfl, fn_D F sc_Match_points_for vi_Match_points_for st_Match_points_for (fun ds d h => ?_) (fun X hX C hr ds d h => ?_)⟩
  · obtain ⟨c, side, o, rfl, rfl, hs⟩ := h; rfl
  obtain ⟨rfl, rfl, rfl, rfl, rfl⟩ := hX
  obtain ⟨c, side, o, rfl, rfl, hs⟩ := h
  refine jb_cons (js_set C 3 (jp_call C (D_other_side T) (hr.mono (by decide)) (ja_cons (jp_var C 1 rfl rfl rfl) ja_nil) (⟨side, rfl, rfl, hs⟩) rfl) ?_)
  unfold worthM
  refine jb_cons (js_if (jt_cmp (jp_var C 2 rfl rfl rfl) (jp_var C 1 rfl rfl rfl) jo_eqI) (fun h => ?_) (fun h => jb_nil ?_))
  · rw [if_pos (of_decide_eq_true h)]
    exact jb_cons (js_ret (jp_fld (jp_var C 0 rfl rfl rfl) T.cl_Match T.na_Match_win rfl) rfl)
  · rw [if_neg (of_decide_eq_false h)]
    refine jb_cons (js_if (jt_cmp (jp_var C 2 rfl rfl rfl) (jp_var C 3 rfl rfl rfl) jo_eqI) (fun h => ?_) (fun h => jb_nil ?_))
    · rw [if_pos (of_decide_eq_true h)]
      exact jb_cons (js_ret jp_int rfl)
    · rw [if_neg (of_decide_eq_false h)]
      exact jb_cons (js_ret (jp_fld (jp_var C 0 rfl rfl rfl) T.cl_Match T.na_Match_draw rfl) rfl)
def R_scores (K : PySem.W.Frag) (ds : List Dt) (d : Dt) : Prop := ∃ (c : Ct) (k : Int), ds = [ctD K c, .int k] ∧ d = .lst ((c.sc k).map .int) ∧ 0 ≤ k ∧ k ≤ c.n
theorem D_Match_scores (T : Txt P w K mg base) : DefM P w K mg base (He.ga K "Match") "scores" ["self", "leg"] 2 (spD K (R_scores K)) := by
  obtain ⟨fd, F⟩ := T.d_Match_scores
  refine ⟨_, fd, T.me_Match_scores, F.bindsN fun _ _ _ _ _ _ us hl => match us, hl with | [_, _], _ => rfl, fn_D F sc_Match_scores vi_Match_scores st_Match_scores (fun ds d h => ?_) (fun X hX C hr ds d h => ?_)⟩
  · obtain ⟨c, k, rfl, rfl, h0, h1⟩ := h; rfl
  obtain ⟨rfl, rfl, rfl, rfl, rfl⟩ := hX
  obtain ⟨c, k, rfl, rfl, h0, h1⟩ := h
  have hk : ((List.range (c.n + 1)).map (scD' c))[k.toNat]? = some (scD' c k.toNat) := by
    rw [List.getElem?_map, List.getElem?_range (by omega)]; rfl
  refine jb_mid (fun δ os => δ = [some (ctD X.K c), some (.int k)] ∧ os = []) ?_ ?_
  · refine js_if (jt_cmp (jp_var C 1 rfl rfl rfl) (jp_lenX C T.f_len (jp_fld (jp_var C 0 rfl rfl rfl) T.cl_Match T.na_Match_legs rfl) (len_legs c)) jo_neI) (fun h => ?_) (fun h => jb_nil ⟨rfl, rfl⟩)
    have h : k ≠ c.n := by simpa using h
    exact jb_cons (js_drop (jp_meth T.cl_Match (D_Match_checked_leg T) (hr.mono (by decide)) (jp_var C 0 rfl rfl rfl) rfl (ja_cons (jp_var C 1 rfl rfl rfl) ja_nil) (⟨c, k, rfl, rfl, h0, by omega⟩)) (jb_nil ⟨rfl, rfl⟩))
  · rintro δ' os' ⟨rfl, rfl⟩
    have hat : atI ((List.range (c.n + 1)).map (scD' c)) k = some (.tup ((c.sc k).map .int)) := by
      have e := at_mapN (f := fun d : Dt => d) hk
      rw [List.map_id', show ((k.toNat : Nat) : Int) = k from by omega] at e
      exact e
    exact jb_cons (js_ret (jp_new (jn_listX C T.f_list (jp_ix (jp_fld (jp_var C 0 rfl rfl rfl) T.cl_Match T.na_Match_scores rfl) (jp_var C 1 rfl rfl rfl) (.tup hat)) (.tup))) rfl)
def R_still_open (K : PySem.W.Frag) (ds : List Dt) (d : Dt) : Prop := ∃ (c : Ct) (k : Int), ds = [ctD K c, .int k] ∧ d = .int (c.win * (c.n - 1 - k)) ∧ 0 ≤ k ∧ k < c.n ∧ CtOk c
theorem D_Match_still_open (T : Txt P w K mg base) : DefM P w K mg base (He.ga K "Match") "still_open" ["self", "leg"] 2 (spD K (R_still_open K)) := by
  obtain ⟨fd, F⟩ := T.d_Match_still_open
  refine ⟨_, fd, T.me_Match_still_open, F.bindsN fun _ _ _ _ _ _ us hl => match us, hl with | [_, _], _ => rfl, fn_D F sc_Match_still_open vi_Match_still_open st_Match_still_open (fun ds d h => ?_) (fun X hX C hr ds d h => ?_)⟩
  · obtain ⟨c, k, rfl, rfl, h0, h1, ok⟩ := h; rfl
  obtain ⟨rfl, rfl, rfl, rfl, rfl⟩ := hX
  obtain ⟨c, k, rfl, rfl, h0, h1, ok⟩ := h
  have := ok.win0
  have := ok.win1
  exact jb_cons (js_ret (jp_op (jp_fld (jp_var C 0 rfl rfl rfl) T.cl_Match T.na_Match_win rfl) (jp_op (jp_op (jp_lenX C T.f_len (jp_fld (jp_var C 0 rfl rfl rfl) T.cl_Match T.na_Match_legs rfl) (len_legs c)) jp_int jo_sub) (jp_meth T.cl_Match (D_Match_checked_leg T) (hr.mono (by decide)) (jp_var C 0 rfl rfl rfl) rfl (ja_cons (jp_var C 1 rfl rfl rfl) ja_nil) (⟨c, k, rfl, rfl, h0, h1⟩)) jo_sub) (jo_mul (.inl (by omega)))) rfl)
end
end K70

set_option maxHeartbeats 4000000
namespace K70
open PySem PySem.Spec PyProof.Rows L2 DL
local macro_rules | `(tactic| walk_at "mul") => `(tactic| first | exact .inl (by decide) | exact .inr (by decide) | exact .inl (by omega) | exact .inr (by omega))
local macro_rules | `(tactic| walk_at "pos") => `(tactic| first | assumption | decide | omega)
local macro_rules | `(tactic| walk_at "div") => `(tactic| first | exact ⟨by decide, by decide⟩ | exact ⟨by omega, by omega⟩)
local macro_rules | `(tactic| walk_at "pow") => `(tactic| exact ⟨by decide, by decide, by decide⟩)
local macro_rules | `(tactic| walk_at "side") => `(tactic| first | assumption | rfl | omega | decide)
local macro_rules | `(tactic| walk_at "lk") => `(tactic| first | exact .lst .l | exact .tup | exact .l)
local macro_rules | `(tactic| walk_at "it") => `(tactic| first | exact .lst | exact .tup)
local macro_rules | `(tactic| walk_at "len") => `(tactic| first | exact .lst .l | exact .tup | exact .scr)
local macro_rules | `(tactic| walk_at "ix") => `(tactic| first | exact .lst .l rfl | exact .tup rfl | exact .lst .l (by assumption) | exact .tup (by assumption) | exact .scr (by assumption))
local macro_rules | `(tactic| walk_at "dk") => `(tactic| exact .inl rfl)

/-! ### scores -/
theorem mx_le {a b B : Int} (h1 : a ≤ B) (h2 : b ≤ B) : mx a b ≤ B := by unfold mx; split <;> assumption
theorem mx_l (a b : Int) : a ≤ mx a b := by unfold mx; split <;> omega
theorem mx_r (a b : Int) : b ≤ mx a b := by unfold mx; split <;> omega
theorem foldmx_le {B : Int} : ∀ {l : List Int} {a : Int}, a ≤ B → (∀ x ∈ l, x ≤ B) → l.foldl mx a ≤ B
  | [], _, h, _ => h
  | x :: l, a, h, k => by rw [List.foldl_cons]; exact foldmx_le (l := l) (mx_le h (k x List.mem_cons_self)) fun y hy => k y (List.mem_cons_of_mem _ hy)
theorem foldmx_ge : ∀ {l : List Int} {a : Int}, a ≤ l.foldl mx a ∧ ∀ x ∈ l, x ≤ l.foldl mx a
  | [], a => ⟨Int.le_refl _, fun _ h => nomatch h⟩
  | x :: l, a => by
    obtain ⟨h1, h2⟩ := foldmx_ge (l := l) (a := mx a x)
    refine ⟨Int.le_trans (mx_l a x) h1, fun y hy => ?_⟩
    rcases List.mem_cons.mp hy with rfl | hy
    · exact Int.le_trans (mx_r a y) h1
    · exact h2 y hy
theorem foldmx_mem : ∀ {l : List Int} {a : Int}, l.foldl mx a = a ∨ l.foldl mx a ∈ l
  | [], _ => .inl rfl
  | x :: l, a => by
    rcases foldmx_mem (l := l) (a := mx a x) with h | h
    · rw [List.foldl_cons, h]
      unfold mx
      split
      · exact .inr List.mem_cons_self
      · exact .inl rfl
    · exact .inr (List.mem_cons_of_mem _ h)
theorem mem_upTo {m x : Int} : x ∈ upTo m ↔ 0 ≤ x ∧ x ≤ m := by
  unfold upTo
  rw [List.mem_map]
  constructor
  · rintro ⟨k, hk, rfl⟩
    have := List.mem_range.mp hk
    omega
  · rintro ⟨h0, h1⟩
    exact ⟨x.toNat, List.mem_range.mpr (by omega), by omega⟩
theorem upTo_asc (m : Int) : (upTo m).Pairwise (· < ·) := by
  unfold upTo
  rw [List.pairwise_map]
  exact List.pairwise_lt_range.imp fun h => by omega
theorem mem_uniq {l : List Int} (h : ∀ x ∈ l, 0 ≤ x) {x : Int} : x ∈ uniq l ↔ x ∈ l := by
  unfold uniq
  rw [List.mem_filter, mem_upTo]
  constructor
  · rintro ⟨_, h⟩; exact of_decide_eq_true h
  · intro hx; exact ⟨⟨h x hx, foldmx_ge.2 x hx⟩, decide_eq_true hx⟩
theorem uniq_asc (l : List Int) : (uniq l).Pairwise (· < ·) := (upTo_asc _).sublist List.filter_sublist
/-- two rising lists of the same numbers are one -/
theorem asc_one : ∀ {a b : List Int}, a.Pairwise (· < ·) → b.Pairwise (· < ·) → (∀ x, x ∈ a ↔ x ∈ b) → a = b
  | [], [], _, _, _ => rfl
  | [], y :: b, _, _, h => nomatch (h y).mpr List.mem_cons_self
  | x :: a, [], _, _, h => nomatch (h x).mp List.mem_cons_self
  | x :: a, y :: b, ha, hb, h => by
    rw [List.pairwise_cons] at ha hb
    have e : x = y := by
      rcases List.mem_cons.mp ((h x).mp List.mem_cons_self) with e | e
      · exact e
      · rcases List.mem_cons.mp ((h y).mpr List.mem_cons_self) with e2 | e2
        · exact e2.symm
        · have := ha.1 y e2; have := hb.1 x e; omega
    subst e
    rw [asc_one ha.2 hb.2 fun z => ⟨fun hz => ?_, fun hz => ?_⟩]
    · rcases List.mem_cons.mp ((h z).mp (List.mem_cons_of_mem _ hz)) with e | e
      · have := ha.1 z hz; omega
      · exact e
    · rcases List.mem_cons.mp ((h z).mpr (List.mem_cons_of_mem _ hz)) with e | e
      · have := hb.1 z hz; omega
      · exact e
theorem mem_next {win draw x : Int} {l : List Int} : x ∈ scNext win draw l ↔ x ∈ l ∨ (∃ y ∈ l, y + win = x) ∨ ∃ y ∈ l, y + draw = x := by
  unfold scNext
  rw [List.mem_append, List.mem_append, List.mem_map, List.mem_map, or_assoc]
theorem scL_bd {win draw : Int} (w1 : 1 ≤ win) (w9 : win ≤ 9) (d0 : 0 ≤ draw) (d1 : draw ≤ win) : ∀ (k : Nat), ∀ x ∈ scL win draw k, 0 ≤ x ∧ x ≤ 9 * (k : Int)
  | 0, x, h => by rw [List.mem_singleton.mp h]; omega
  | k + 1, x, h => by
    have ih := scL_bd w1 w9 d0 d1 k
    have hn : ∀ y ∈ scNext win draw (scL win draw k), 0 ≤ y ∧ y ≤ 9 * (k : Int) + 9 := fun y hy => by
      rcases mem_next.mp hy with z | ⟨u, z, e⟩ | ⟨u, z, e⟩ <;> (have := ih _ z; omega)
    have h := hn x ((mem_uniq fun y hy => (hn y hy).1).mp h)
    omega
theorem scNext_pos {win draw : Int} (w1 : 1 ≤ win) (w9 : win ≤ 9) (d0 : 0 ≤ draw) (d1 : draw ≤ win) (k : Nat) : ∀ x ∈ scNext win draw (scL win draw k), 0 ≤ x ∧ x ≤ 9 * (k : Int) + 9 := fun y hy => by
  have ih := scL_bd w1 w9 d0 d1 k
  rcases mem_next.mp hy with z | ⟨u, z, e⟩ | ⟨u, z, e⟩ <;> (have := ih _ z; omega)
theorem scL_asc {win draw : Int} : ∀ (k : Nat), (scL win draw k).Pairwise (· < ·)
  | 0 => List.pairwise_singleton _ _
  | k + 1 => uniq_asc _
theorem mem_scL {win draw : Int} (w1 : 1 ≤ win) (w9 : win ≤ 9) (d0 : 0 ≤ draw) (d1 : draw ≤ win) (k : Nat) (x : Int) : x ∈ scL win draw (k + 1) ↔ x ∈ scL win draw k ∨ (∃ y ∈ scL win draw k, y + win = x) ∨ ∃ y ∈ scL win draw k, y + draw = x := by
  show x ∈ uniq _ ↔ _
  rw [mem_uniq fun y hy => (scNext_pos w1 w9 d0 d1 k y hy).1, mem_next]
/-- as many numbers as there is room for -/
theorem asc_len : ∀ {l : List Int} {lo hi : Int}, l.Pairwise (· < ·) → (∀ x ∈ l, lo ≤ x ∧ x ≤ hi) → (l.length : Int) ≤ max 0 (hi + 1 - lo)
  | [], _, _, _, _ => by simp; omega
  | x :: l, lo, hi, h, k => by
    rw [List.pairwise_cons] at h
    have ih := asc_len (lo := x + 1) (hi := hi) h.2 fun y hy => ⟨by have := h.1 y hy; omega, (k y (List.mem_cons_of_mem _ hy)).2⟩
    have := k x List.mem_cons_self
    rw [List.length_cons]
    omega
theorem scL_len {win draw : Int} (w1 : 1 ≤ win) (w9 : win ≤ 9) (d0 : 0 ≤ draw) (d1 : draw ≤ win) (k : Nat) : (scL win draw k).length ≤ 9 * k + 1 := by
  have := asc_len (scL_asc (win := win) (draw := draw) k) (scL_bd w1 w9 d0 d1 k)
  omega
section
variable {c : Ct} {k : Int}
theorem CtOk.sc_len (ok : CtOk c) (h1 : k ≤ 3) : (c.sc k).length ≤ 28 := by
  have := scL_len ok.win0 ok.win1 ok.draw0 ok.draw1 k.toNat
  show (scL c.win c.draw k.toNat).length ≤ 28
  omega
theorem CtOk.sc_bd (ok : CtOk c) (h0 : 0 ≤ k) {x : Int} (h : x ∈ c.sc k) : 0 ≤ x ∧ x ≤ 9 * k := by
  have := scL_bd ok.win0 ok.win1 ok.draw0 ok.draw1 k.toNat x h
  omega
theorem mem_below {target x : Int} : x ∈ c.below k target ↔ x ∈ c.sc k ∧ x < target := by
  unfold Ct.below
  rw [List.mem_filter, decide_eq_true_iff]
theorem worthM_in (ok : CtOk c) (side o : Int) : worthM c side o = 0 ∨ worthM c side o = c.win ∨ worthM c side o = c.draw := by
  unfold worthM
  split
  · exact .inr (.inl rfl)
  · split
    · exact .inl rfl
    · exact .inr (.inr rfl)
theorem CtOk.after (ok : CtOk c) (h0 : 0 ≤ k) {x side o : Int} (h : x ∈ c.sc k) : x + worthM c side o ∈ c.sc (k + 1) := by
  have e : (k + 1).toNat = k.toNat + 1 := by omega
  show _ ∈ scL c.win c.draw (k + 1).toNat
  rw [e, mem_scL ok.win0 ok.win1 ok.draw0 ok.draw1]
  rcases worthM_in ok side o with z | z | z
  · exact .inl (by rw [z, Int.add_zero]; exact h)
  · exact .inr (.inl ⟨x, h, by rw [z]⟩)
  · exact .inr (.inr ⟨x, h, by rw [z]⟩)
end
theorem inD_int (x : Int) (l : List Int) : inD (.int x) (l.map Dt.int) = decide (x ∈ l) := by
  unfold inD
  show inV (.int x) ((l.map Dt.int).map toV) = _
  unfold inV
  rw [List.map_map]
  induction l with
  | nil => rfl
  | cons y l ih =>
    rw [List.map_cons, List.any_cons, ih]
    show ((y == x) || _) = _
    by_cases h : y = x
    · subst h; simp
    · have h2 : ¬ x = y := fun e => h e.symm
      simp [h, h2]
theorem flat_ints (l : List Int) : (l.map Dt.int).all flatD = true := by
  rw [List.all_eq_true]
  intro x hx
  obtain ⟨y, _, rfl⟩ := List.mem_map.mp hx
  rfl
/-! ### one leg as a game -/
def byFlag (c : Ct) (k pts : Int) (gd : Bool) : Int := pts + (if gd = true then c.draw else c.win) + c.win * (c.n - 1 - k)
def legPos (c : Ct) (side target k pts p : Int) : Int × List Mv × Bool :=
  if (c.game k).mover p = side ∧ p ∈ (c.game k).safe ∧ target ≤ pts + c.draw then (2 + side, [], false)
  else if (c.game k).mover p = 3 - side ∧ byFlag c k pts (decide (p ∈ (c.game k).safe)) < target then ((c.game k).mark p, (c.game k).row p, true)
  else ((c.game k).mark p, (c.game k).row p, false)
def nats (n : Nat) : List Int := (List.range n).map fun (i : Nat) => (i : Int)
def legGm (c : Ct) (side target k pts : Int) : Gm := ⟨(nats (c.game k).size).map fun p => (legPos c side target k pts p).1, (nats (c.game k).size).map fun p => (legPos c side target k pts p).2.1, (nats (c.game k).size).filter fun p => (legPos c side target k pts p).2.2⟩
theorem nats_len (n : Nat) : (nats n).length = n := by simp [nats]
theorem mem_nats {n : Nat} {x : Int} : x ∈ nats n ↔ 0 ≤ x ∧ x < n := by
  unfold nats
  rw [List.mem_map]
  constructor
  · rintro ⟨k, hk, rfl⟩
    have := List.mem_range.mp hk
    omega
  · rintro ⟨h0, h1⟩
    exact ⟨x.toNat, List.mem_range.mpr (by omega), by omega⟩
theorem nats_asc (n : Nat) : (nats n).Pairwise (· < ·) := by
  unfold nats
  rw [List.pairwise_map]
  exact List.pairwise_lt_range.imp fun h => by omega
theorem nats_at {n i : Nat} (h : i < n) : (nats n)[i]? = some (i : Int) := by
  unfold nats
  rw [List.getElem?_map, List.getElem?_range h]; rfl
theorem nats_snoc (n : Nat) : nats (n + 1) = nats n ++ [(n : Int)] := by
  unfold nats
  rw [List.range_succ, List.map_append]; rfl
theorem legGm_size (c : Ct) (side target k pts : Int) : (legGm c side target k pts).size = (c.game k).size := by
  show ((nats (c.game k).size).map _).length = _
  rw [List.length_map, nats_len]
theorem legPos_ok {c : Ct} {side target k pts p : Int} (hs : side = 1 ∨ side = 2) (hg : Hg (c.game k)) (h0 : 0 ≤ p) (h1 : p < (c.game k).size) : posOk (c.game k).size (legPos c side target k pts p).1 (legPos c side target k pts p).2.1 (legPos c side target k pts p).2.2 := by
  have h := hg.ok.pos_at h0 h1
  unfold legPos
  split
  · refine .inr ⟨?_, rfl, rfl⟩
    rcases hs with rfl | rfl
    · exact .inl rfl
    · exact .inr (.inl rfl)
  · split
    · rename_i hm
      rcases h with ⟨a, b⟩ | ⟨a, _, _⟩
      · exact .inl ⟨a, b⟩
      · have : (c.game k).mover p = 0 := by unfold Gm.mover; rw [if_neg (by omega)]
        omega
    · rcases h with ⟨a, b⟩ | ⟨a, b, _⟩
      · exact .inl ⟨a, b⟩
      · exact .inr ⟨a, b, rfl⟩
theorem legGm_ok {c : Ct} {side target k pts : Int} (hs : side = 1 ∨ side = 2) (hg : Hg (c.game k)) : GmOk (legGm c side target k pts) := by
  refine ⟨by rw [legGm_size]; exact hg.ok.pos, by rw [legGm_size]; exact hg.ok.top, by rw [legGm_size]; show ((nats _).map _).length = _; rw [List.length_map, nats_len], ⟨(nats_asc _).sublist List.filter_sublist, fun p hp => ?_⟩, fun i m r hm hr => ?_⟩
  · rw [legGm_size]
    exact mem_nats.mp (List.mem_filter.mp hp).1
  · have hi : i < (c.game k).size := by rw [← legGm_size c side target k pts]; exact (List.getElem?_eq_some_iff.mp hm).1
    have e1 : (legGm c side target k pts).marks[i]? = some (legPos c side target k pts i).1 := by
      show ((nats _).map _)[i]? = _
      rw [List.getElem?_map, nats_at hi]; rfl
    have e2 : (legGm c side target k pts).moves[i]? = some (legPos c side target k pts i).2.1 := by
      show ((nats _).map _)[i]? = _
      rw [List.getElem?_map, nats_at hi]; rfl
    rw [e1] at hm; rw [e2] at hr
    cases hm; cases hr
    have e3 : decide ((i : Int) ∈ (legGm c side target k pts).safe) = (legPos c side target k pts i).2.2 := by
      have : ((i : Int) ∈ (legGm c side target k pts).safe) ↔ (legPos c side target k pts i).2.2 = true := by
        show ((i : Int) ∈ (nats _).filter _) ↔ _
        rw [List.mem_filter]
        exact ⟨fun z => z.2, fun z => ⟨mem_nats.mpr (by omega), z⟩⟩
      cases hb : (legPos c side target k pts i).2.2 with
      | true => exact decide_eq_true (this.mpr hb)
      | false => exact decide_eq_false fun z => by have := this.mp z; rw [hb] at this; cases this
    rw [e3, legGm_size]
    exact legPos_ok hs hg (by omega) (by omega)
section
variable {P : Program} {w : World} {K : PySem.W.Frag} {mg : Str → Option Value} {base : Heap}
def R_scores_below (K : PySem.W.Frag) (ds : List Dt) (d : Dt) : Prop := ∃ (c : Ct) (k t : Int), ds = [ctD K c, .int k, .int t] ∧ d = .lst ((c.below k t).map .int) ∧ 0 ≤ k ∧ k ≤ c.n ∧ CtOk c
theorem D_scores_below (T : Txt P w K mg base) : Def P w K mg base "scores_below" ["contest", "leg", "target"] 3 (spD K (R_scores_below K)) := by
  obtain ⟨fd, F⟩ := T.d_scores_below
  refine ⟨_, fd, T.g_scores_below, F.kp, F.bindsN fun _ _ _ _ _ _ us hl => match us, hl with | [_, _, _], _ => rfl, fn_D F sc_scores_below vi_scores_below st_scores_below (fun ds d h => ?_) (fun X hX C hr ds d h => ?_)⟩
  · obtain ⟨c, k, t, rfl, rfl, h0, h1, ok⟩ := h; rfl
  obtain ⟨rfl, rfl, rfl, rfl, rfl⟩ := hX
  obtain ⟨c, k, t, rfl, rfl, h0, h1, ok⟩ := h
  refine jb_cons (js_ret (jp_new (jn_lc C (c.sc k) (Dt.int) (fun s => decide (s < t)) (Dt.int) [("points", 3)] (ji_X (jp_meth T.cl_Match (D_Match_scores T) (hr.mono (by decide)) (jp_var C 0 rfl rfl rfl) rfl (ja_cons (jp_var C 1 rfl rfl rfl) ja_nil) (⟨c, k, rfl, rfl, h0, h1⟩)) (.lst)) (?_) (by have := ok.sc_len (k := k) (by have := ok.n3; omega); omega) rfl rfl (by decide +kernel) rfl)) rfl)
  intro s hs
  refine ⟨_, fun X' hB C => ⟨(jg_name C 3), jfs_one (jt_cmp (jp_var C 3 rfl rfl rfl) (jp_var C 2 rfl rfl rfl) jo_lt), fun _ => ?_⟩⟩
  exact (jp_var C 3 rfl rfl rfl)
def R_checked_score (K : PySem.W.Frag) (ds : List Dt) (d : Dt) : Prop := ∃ (c : Ct) (k s t : Int), ds = [ctD K c, .int k, .int s, .int t] ∧ d = .int s ∧ 0 ≤ k ∧ k < c.n ∧ CtOk c ∧ s ∈ c.below k t
theorem D_checked_score (T : Txt P w K mg base) : Def P w K mg base "checked_score" ["contest", "leg", "points", "target"] 4 (spD K (R_checked_score K)) := by
  obtain ⟨fd, F⟩ := T.d_checked_score
  refine ⟨_, fd, T.g_checked_score, F.kp, F.bindsN fun _ _ _ _ _ _ us hl => match us, hl with | [_, _, _, _], _ => rfl, fn_D F sc_checked_score vi_checked_score st_checked_score (fun ds d h => ?_) (fun X hX C hr ds d h => ?_)⟩
  · obtain ⟨c, k, s, t, rfl, rfl, h0, h1, ok, hs⟩ := h; rfl
  obtain ⟨rfl, rfl, rfl, rfl, rfl⟩ := hX
  obtain ⟨c, k, s, t, rfl, rfl, h0, h1, ok, hs⟩ := h
  refine jb_cons (js_drop (jp_meth T.cl_Match (D_Match_checked_leg T) (hr.mono (by decide)) (jp_var C 0 rfl rfl rfl) rfl (ja_cons (jp_var C 1 rfl rfl rfl) ja_nil) (⟨c, k, rfl, rfl, h0, h1⟩)) ?_)
  refine jb_cons (js_if (k := false) (JT.is (jt_cmp (jp_var C 2 rfl rfl rfl) (jp_call C (D_scores_below T) (hr.mono (by decide)) (ja_cons (jp_var C 0 rfl rfl rfl) (ja_cons (jp_var C 1 rfl rfl rfl) (ja_cons (jp_var C 3 rfl rfl rfl) ja_nil))) (⟨c, k, t, rfl, rfl, h0, by omega, ok⟩) rfl) (jo_notIn rfl (flat_ints _) .l)) (by rw [inD_int, decide_eq_true hs]; rfl)) (fun h => nomatch h) (fun _ => jb_nil ?_))
  exact jb_cons (js_ret (jp_var C 2 rfl rfl rfl) rfl)
def R_points_by_flag (K : PySem.W.Frag) (ds : List Dt) (d : Dt) : Prop := ∃ (c : Ct) (k s : Int) (gd : Bool), ds = [ctD K c, .int k, .int s, .bl gd] ∧ d = .int (byFlag c k s gd) ∧ 0 ≤ k ∧ k < c.n ∧ CtOk c
theorem D_points_by_flag (T : Txt P w K mg base) : Def P w K mg base "points_by_flag" ["contest", "leg", "points", "guarded"] 3 (spD K (R_points_by_flag K)) := by
  obtain ⟨fd, F⟩ := T.d_points_by_flag
  refine ⟨_, fd, T.g_points_by_flag, F.kp, F.bindsN fun _ _ _ _ _ _ us hl => match us, hl with | [_, _, _, _], _ => rfl, fn_D F sc_points_by_flag vi_points_by_flag st_points_by_flag (fun ds d h => ?_) (fun X hX C hr ds d h => ?_)⟩
  · obtain ⟨c, k, s, gd, rfl, rfl, h0, h1, ok⟩ := h; rfl
  obtain ⟨rfl, rfl, rfl, rfl, rfl⟩ := hX
  obtain ⟨c, k, s, gd, rfl, rfl, h0, h1, ok⟩ := h
  refine jb_cons (js_set C 4 (d := .int (if gd = true then c.draw else c.win)) (jp_if (jt_val (jp_var C 3 rfl rfl rfl)) (fun h => JP.is (jp_fld (jp_var C 0 rfl rfl rfl) T.cl_Match T.na_Match_draw rfl) (by rw [if_pos h])) (fun h => JP.is (jp_fld (jp_var C 0 rfl rfl rfl) T.cl_Match T.na_Match_win rfl) (by rw [if_neg (by rw [h]; exact Bool.false_ne_true)]))) ?_)
  exact jb_cons (js_ret (jp_op (jp_op (jp_var C 2 rfl rfl rfl) (jp_var C 4 rfl rfl rfl) jo_add) (jp_meth T.cl_Match (D_Match_still_open T) (hr.mono (by decide)) (jp_var C 0 rfl rfl rfl) rfl (ja_cons (jp_var C 1 rfl rfl rfl) ja_nil) (⟨c, k, rfl, rfl, h0, h1, ok⟩)) jo_add) rfl)
def posD (q : Int × List Mv × Bool) : Dt := .tup [.int q.1, rowT q.2.1, .bl q.2.2]
def R_leg_position (K : PySem.W.Frag) (ds : List Dt) (d : Dt) : Prop := ∃ (c : Ct) (side t k s p : Int), ds = [ctD K c, .int side, .int t, .int k, .int s, .int p] ∧ d = posD (legPos c side t k s p) ∧ 0 ≤ k ∧ k < c.n ∧ CtOk c ∧ 0 ≤ p ∧ p < (c.game k).size ∧ (side = 1 ∨ side = 2)
theorem D_leg_position (T : Txt P w K mg base) : Def P w K mg base "leg_position" ["contest", "side", "target", "leg", "points", "position"] 4 (spD K (R_leg_position K)) := by
  obtain ⟨fd, F⟩ := T.d_leg_position
  refine ⟨_, fd, T.g_leg_position, F.kp, F.bindsN fun _ _ _ _ _ _ us hl => match us, hl with | [_, _, _, _, _, _], _ => rfl, fn_D F sc_leg_position vi_leg_position st_leg_position (fun ds d h => ?_) (fun X hX C hr ds d h => ?_)⟩
  · obtain ⟨c, side, t, k, s, p, rfl, rfl, h0, h1, ok, p0, p1, hs⟩ := h; rfl
  obtain ⟨rfl, rfl, rfl, rfl, rfl⟩ := hX
  obtain ⟨c, side, t, k, s, p, rfl, rfl, h0, h1, ok, p0, p1, hs⟩ := h
  have hg := ok.hg h0 h1
  refine jb_cons (js_set C 6 (jp_meth T.cl_Match (D_Match_game_of T) (hr.mono (by decide)) (jp_var C 0 rfl rfl rfl) rfl (ja_cons (jp_var C 3 rfl rfl rfl) ja_nil) (⟨c, k, rfl, rfl, h0, h1⟩)) ?_)
  refine jb_cons (js_set C 7 (jp_ix (jp_fld (jp_var C 6 rfl rfl rfl) T.cl_Game T.na_Game_marks rfl) (jp_var C 5 rfl rfl rfl) (.tup (at_map p0 (GmOk.mark_at p0 p1)))) ?_)
  refine jb_cons (js_set C 8 (jp_meth T.cl_Game (D_Game_mover T) (hr.mono (by decide)) (jp_var C 6 rfl rfl rfl) rfl (ja_cons (jp_var C 5 rfl rfl rfl) ja_nil) (⟨c.game k, p, rfl, rfl, p0, p1⟩)) ?_)
  refine jb_cons (js_set C 9 (jp_meth T.cl_Game (D_Game_is_safe T) (hr.mono (by decide)) (jp_var C 6 rfl rfl rfl) rfl (ja_cons (jp_var C 5 rfl rfl rfl) ja_nil) (⟨c.game k, p, rfl, rfl, p0, p1⟩)) ?_)
  unfold legPos
  refine jb_cons (js_if (k := decide ((c.game k).mover p = side ∧ p ∈ (c.game k).safe ∧ t ≤ s + c.draw)) (JT.is (jt_w (jw_and (jt_cmp (jp_var C 8 rfl rfl rfl) (jp_var C 1 rfl rfl rfl) jo_eqI) (fun hk3 => (jw_and (jt_val (jp_var C 9 rfl rfl rfl)) (fun hk2 => (jw_and1 (jt_cmp (jp_op (jp_var C 4 rfl rfl rfl) (jp_fld (jp_var C 0 rfl rfl rfl) T.cl_Match T.na_Match_draw rfl) jo_add) (jp_var C 2 rfl rfl rfl) jo_ge))))))) (by simp [Bool.and_assoc])) (fun h => ?_) (fun h => jb_nil ?_))
  · rw [if_pos (of_decide_eq_true h)]
    exact jb_cons (js_ret (jp_tup (ja_cons (jp_op jp_int (jp_var C 1 rfl rfl rfl) jo_add) (ja_cons (jp_tup ja_nil) (ja_cons jp_bl ja_nil)))) rfl)
  · rw [if_neg (of_decide_eq_false h)]
    refine jb_cons (js_if (k := decide ((c.game k).mover p = 3 - side ∧ byFlag c k s (decide (p ∈ (c.game k).safe)) < t)) (JT.is (jt_w (jw_and (jt_cmp (jp_var C 8 rfl rfl rfl) (jp_op jp_int (jp_var C 1 rfl rfl rfl) jo_sub) jo_eqI) (fun hk2 => (jw_and1 (jt_cmp (jp_call C (D_points_by_flag T) (hr.mono (by decide)) (ja_cons (jp_var C 0 rfl rfl rfl) (ja_cons (jp_var C 3 rfl rfl rfl) (ja_cons (jp_var C 4 rfl rfl rfl) (ja_cons (jp_var C 9 rfl rfl rfl) ja_nil)))) (⟨c, k, s, _, rfl, rfl, h0, h1, ok⟩) rfl) (jp_var C 2 rfl rfl rfl) jo_lt))))) (by simp)) (fun h => ?_) (fun h => jb_nil ?_))
    · rw [if_pos (of_decide_eq_true h)]
      exact jb_cons (js_ret (jp_tup (ja_cons (jp_var C 7 rfl rfl rfl) (ja_cons (jp_ix (jp_fld (jp_var C 6 rfl rfl rfl) T.cl_Game T.na_Game_moves rfl) (jp_var C 5 rfl rfl rfl) (.tup (at_map p0 (hg.ok.row_at p0 p1)))) (ja_cons jp_bl ja_nil)))) rfl)
    · rw [if_neg (of_decide_eq_false h)]
      exact jb_cons (js_ret (jp_tup (ja_cons (jp_var C 7 rfl rfl rfl) (ja_cons (jp_ix (jp_fld (jp_var C 6 rfl rfl rfl) T.cl_Game T.na_Game_moves rfl) (jp_var C 5 rfl rfl rfl) (.tup (at_map p0 (hg.ok.row_at p0 p1)))) (ja_cons jp_bl ja_nil)))) rfl)
end
end K70

set_option maxHeartbeats 4000000
namespace K70
open PySem PySem.Spec PyProof.Rows L2 DL
local macro_rules | `(tactic| walk_at "mul") => `(tactic| first | exact .inl (by decide) | exact .inr (by decide) | exact .inl (by omega) | exact .inr (by omega))
local macro_rules | `(tactic| walk_at "pos") => `(tactic| first | assumption | decide | omega)
local macro_rules | `(tactic| walk_at "div") => `(tactic| first | exact ⟨by decide, by decide⟩ | exact ⟨by omega, by omega⟩)
local macro_rules | `(tactic| walk_at "pow") => `(tactic| exact ⟨by decide, by decide, by decide⟩)
local macro_rules | `(tactic| walk_at "side") => `(tactic| first | assumption | rfl | omega | decide)
local macro_rules | `(tactic| walk_at "lk") => `(tactic| first | exact .lst .l | exact .tup | exact .l)
local macro_rules | `(tactic| walk_at "it") => `(tactic| first | exact .lst | exact .tup)
local macro_rules | `(tactic| walk_at "len") => `(tactic| first | exact .lst .l | exact .tup | exact .scr)
local macro_rules | `(tactic| walk_at "ix") => `(tactic| first | exact .lst .l rfl | exact .tup rfl | exact .lst .l (by assumption) | exact .tup (by assumption) | exact .scr (by assumption))
local macro_rules | `(tactic| walk_at "dk") => `(tactic| exact .inl rfl)

/-! ### where each leg's positions lie in the whole match -/
abbrev Slot := Int × Int × Int
def slotD (s : Slot) : Dt := .tup [.int s.1, .int s.2.1, .int s.2.2]
def slotStep (c : Ct) (k : Int) (acc : List Slot × Int) (s : Int) : List Slot × Int := (acc.1 ++ [(k, s, acc.2)], acc.2 + (c.game k).size)
def slotLeg (c : Ct) (t : Int) (acc : List Slot × Int) (i : Nat) : List Slot × Int := (c.below i t).foldl (slotStep c i) acc
def slotsTo (c : Ct) (t : Int) (i : Nat) : List Slot × Int := (List.range i).foldl (slotLeg c t) ([], 0)
def slots (c : Ct) (t : Int) : List Slot × Int := slotsTo c t c.n
theorem slotsTo_succ (c : Ct) (t : Int) (i : Nat) : slotsTo c t (i + 1) = (c.below i t).foldl (slotStep c i) (slotsTo c t i) := by
  unfold slotsTo
  rw [List.range_succ, List.foldl_append]; rfl
theorem foldStep_len (c : Ct) (k : Int) : ∀ (l : List Int) (acc : List Slot × Int), (l.foldl (slotStep c k) acc).1.length = acc.1.length + l.length
  | [], acc => by simp
  | s :: l, acc => by
    rw [List.foldl_cons, foldStep_len c k l]
    simp [slotStep]; omega
theorem foldStep_keys (c : Ct) (k : Int) : ∀ (l : List Int) (acc : List Slot × Int), (l.foldl (slotStep c k) acc).1.map (fun s => (s.1, s.2.1)) = acc.1.map (fun s => (s.1, s.2.1)) ++ l.map fun s => (k, s)
  | [], acc => by simp
  | s :: l, acc => by
    rw [List.foldl_cons, foldStep_keys c k l]
    simp [slotStep]
theorem slotsTo_keys (c : Ct) (t : Int) : ∀ i : Nat, (slotsTo c t i).1.map (fun s => (s.1, s.2.1)) = (List.range i).flatMap fun (j : Nat) => (c.below j t).map fun s => ((j : Int), s)
  | 0 => rfl
  | i + 1 => by
    rw [slotsTo_succ, foldStep_keys, slotsTo_keys c t i, List.range_succ, List.flatMap_append]
    simp
theorem below_len {c : Ct} (ok : CtOk c) {k t : Int} (h : k ≤ 3) : (c.below k t).length ≤ 28 := Nat.le_trans (List.length_filter_le _ _) (ok.sc_len h)
theorem slotsTo_len {c : Ct} (ok : CtOk c) (t : Int) : ∀ i : Nat, i ≤ 3 → (slotsTo c t i).1.length ≤ 28 * i
  | 0, _ => Nat.le_refl _
  | i + 1, h => by
    rw [slotsTo_succ, foldStep_len]
    have := slotsTo_len ok t i (by omega)
    have := below_len ok (k := (i : Int)) (t := t) (by omega)
    omega
def isAt (k s : Int) (x : Slot) : Bool := decide (x.1 = k) && decide (x.2.1 = s)
def slotOf (c : Ct) (t k s : Int) : Option Slot := (slots c t).1.find? (isAt k s)
def offOf (c : Ct) (t k s : Int) : Int := ((slotOf c t k s).map fun x => x.2.2).getD 0
theorem slotOf_some {c : Ct} {t k s : Int} (h0 : 0 ≤ k) (h1 : k < c.n) (hs : s ∈ c.below k t) : ∃ x, slotOf c t k s = some x ∧ x.1 = k ∧ x.2.1 = s ∧ x ∈ (slots c t).1 ∧ offOf c t k s = x.2.2 := by
  have hm : (k, s) ∈ (slots c t).1.map (fun s => (s.1, s.2.1)) := by
    unfold slots
    rw [slotsTo_keys, List.mem_flatMap]
    refine ⟨k.toNat, List.mem_range.mpr (by omega), ?_⟩
    rw [show ((k.toNat : Nat) : Int) = k from by omega]
    exact List.mem_map.mpr ⟨s, hs, rfl⟩
  obtain ⟨x, hx, e⟩ := List.mem_map.mp hm
  have hp : isAt k s x = true := by
    unfold isAt
    rw [show x.1 = k from congrArg Prod.fst e, show x.2.1 = s from congrArg Prod.snd e]
    simp
  cases hf : slotOf c t k s with
  | none => exact absurd hp (List.find?_eq_none.mp hf x hx)
  | some y =>
    have hy := List.find?_some hf
    unfold isAt at hy
    rw [Bool.and_eq_true, decide_eq_true_iff, decide_eq_true_iff] at hy
    exact ⟨y, rfl, hy.1, hy.2, List.mem_of_find?_eq_some hf, by unfold offOf; rw [hf]; rfl⟩
/-- where a position leads that has ended so -/
def leadOf (c : Ct) (side t k s o : Int) : Int :=
  if t ≤ s + worthM c side o then (slots c t).2 else if k = c.n - 1 then (slots c t).2 + 1 else offOf c t (k + 1) (s + worthM c side o) + (c.lg (k + 1)).at_
section
variable {P : Program} {w : World} {K : PySem.W.Frag} {mg : Str → Option Value} {base : Heap}
theorem dl1 {p : PySem.Addr} {xs : List Dt} : Deep [(p, Ob.lst xs)] (.at p) (.lst xs) := .lst List.mem_cons_self (DeepL.same _)
def R_leg_game (K : PySem.W.Frag) (ds : List Dt) (d : Dt) : Prop := ∃ (c : Ct) (side t k s : Int), ds = [ctD K c, .int side, .int t, .int k, .int s] ∧ d = gmD K (legGm c side t k s) ∧ 0 ≤ k ∧ k < c.n ∧ CtOk c ∧ (side = 1 ∨ side = 2) ∧ 0 ≤ t ∧ t ≤ 1000 ∧ s ∈ c.below k t
theorem D_leg_game (T : Txt P w K mg base) : Def P w K mg base "leg_game" ["contest", "side", "target", "leg", "points"] 6 (spD K (R_leg_game K)) := by
  obtain ⟨fd, F⟩ := T.d_leg_game
  refine ⟨_, fd, T.g_leg_game, F.kp, F.bindsN fun _ _ _ _ _ _ us hl => match us, hl with | [_, _, _, _, _], _ => rfl, fn_D F sc_leg_game vi_leg_game st_leg_game (fun ds d h => ?_) (fun X hX C hr ds d h => ?_)⟩
  · obtain ⟨c, side, t, k, s, rfl, rfl, h0, h1, ok, hs, t0, t1, hb⟩ := h; rfl
  obtain ⟨rfl, rfl, rfl, rfl, rfl⟩ := hX
  obtain ⟨c, side, t, k, s, rfl, rfl, h0, h1, ok, hs, t0, t1, hb⟩ := h
  have hg := ok.hg h0 h1
  have hsz := hg.sz
  refine jb_cons (js_drop (jp_call C (D_other_side T) (hr.mono (by decide)) (ja_cons (jp_var C 1 rfl rfl rfl) ja_nil) (⟨side, rfl, rfl, hs⟩) rfl) ?_)
  refine jb_cons (js_drop (jp_call C (D_checked_amount T) (hr.mono (by decide)) (ja_cons (jp_var C 2 rfl rfl rfl) ja_nil) (⟨t, rfl, rfl, t0, by omega⟩) rfl) ?_)
  refine jb_cons (js_drop (jp_call C (D_checked_score T) (hr.mono (by decide)) (ja_cons (jp_var C 0 rfl rfl rfl) (ja_cons (jp_var C 3 rfl rfl rfl) (ja_cons (jp_var C 4 rfl rfl rfl) (ja_cons (jp_var C 2 rfl rfl rfl) ja_nil)))) (⟨c, k, s, t, rfl, rfl, h0, h1, ok, hb⟩) rfl) ?_)
  refine jb_cons (js_own C 5 (jn_lst ja_nil) fun pm _ => ?_)
  refine jb_cons (js_own C 6 (jn_lst ja_nil) fun pv hv => ?_)
  refine jb_cons (js_own C 7 (jn_lst ja_nil) fun pf hf => ?_)
  have n1 : pm ≠ pv := hv _ List.mem_cons_self
  have n2 : pv ≠ pf := hf _ List.mem_cons_self
  have n3 : pm ≠ pf := hf _ (List.mem_cons_of_mem _ List.mem_cons_self)
  let L := fun p : Int => legPos c side t k s p
  let OS : Nat → Os := fun i => [(pf, .lst (((nats i).filter fun p => (L p).2.2).map .int)), (pv, .lst (((nats i).map fun p => (L p).2.1).map rowT)), (pm, .lst (((nats i).map fun p => (L p).1).map .int))]
  refine jb_cons (js_forR C ((c.game k).size : Int) (ws := [8]) (ji_rangeN C T.f_range (jp_fld (jp_meth T.cl_Match (D_Match_game_of T) (hr.mono (by decide)) (jp_var C 0 rfl rfl rfl) rfl (ja_cons (jp_var C 3 rfl rfl rfl) ja_nil) (⟨c, k, rfl, rfl, h0, h1⟩)) T.cl_Game T.na_Game_size rfl) (by show ((c.game k).size : Int) ≤ 100000; omega) (by show 0 ≤ ((c.game k).size : Int); omega)) (fun i δ os => ∃ v8 v9 v10 v11, δ = [some (ctD X.K c), some (.int side), some (.int t), some (.int k), some (.int s), some (.at pm), some (.at pv), some (.at pf), v8, v9, v10, v11] ∧ os = OS i) ⟨_, _, _, _, rfl, rfl⟩ ?_ ?_)
  · rintro i δ' os' hi ⟨_, _, _, _, rfl, rfl⟩
    have hi : i < (c.game k).size := hi
    refine ⟨_, (jg_name C 8), ?_⟩
    refine jb_cons (js_asg (ws := [9, 10, 11]) (jp_call C (D_leg_position T) (hr.mono (by decide)) (ja_cons (jp_var C 0 rfl rfl rfl) (ja_cons (jp_var C 1 rfl rfl rfl) (ja_cons (jp_var C 2 rfl rfl rfl) (ja_cons (jp_var C 3 rfl rfl rfl) (ja_cons (jp_var C 4 rfl rfl rfl) (ja_cons (jp_var C 8 rfl rfl rfl) ja_nil)))))) (⟨c, side, t, k, s, (i : Int), rfl, rfl, h0, h1, ok, by omega, by omega, hs⟩) rfl) (jg_tup C (jgs_cons (jg_name C 9) (jgs_cons (jg_name C 10) (jgs_cons (jg_name C 11) jgs_nil)))) ?_)
    refine jb_cons (js_append (jp_var C 5 rfl rfl rfl) (List.mem_cons_of_mem _ (List.mem_cons_of_mem _ List.mem_cons_self)) (jp_var C 9 rfl rfl rfl) (by rw [List.length_map, List.length_map, nats_len]; omega) ?_ (he := putO_3 n3.symm n1.symm))
    refine jb_cons (js_append (jp_var C 6 rfl rfl rfl) (List.mem_cons_of_mem _ List.mem_cons_self) (jp_var C 10 rfl rfl rfl) (by rw [List.length_map, List.length_map, nats_len]; omega) ?_ (he := putO_2 n2.symm))
    have e1 : ((nats i).map fun p => (L p).1).map Dt.int ++ [Dt.int (L i).1] = ((nats (i + 1)).map fun p => (L p).1).map Dt.int := by rw [nats_snoc, List.map_append, List.map_append]; rfl
    have e2 : ((nats i).map fun p => (L p).2.1).map rowT ++ [rowT (L i).2.1] = ((nats (i + 1)).map fun p => (L p).2.1).map rowT := by rw [nats_snoc, List.map_append, List.map_append]; rfl
    rw [e1, e2]
    refine jb_cons (js_if (k := (L i).2.2) (jt_val (jp_var C 11 rfl rfl rfl)) (fun h => ?_) (fun h => jb_nil (jb_nil ⟨_, _, _, _, rfl, ?_⟩)))
    · refine jb_cons (js_append (jp_var C 7 rfl rfl rfl) List.mem_cons_self (jp_var C 8 rfl rfl rfl) (by rw [List.length_map]; have := List.length_filter_le (fun p => (L p).2.2) (nats i); rw [nats_len] at this; omega) (jb_nil (jb_nil ⟨_, _, _, _, rfl, ?_⟩)))
      show _ = OS (i + 1)
      show _ = [(pf, Ob.lst (((nats (i + 1)).filter fun p => (L p).2.2).map .int)), _, _]
      have e3 : ((nats i).filter fun p => (L p).2.2).map Dt.int ++ [Dt.int (i : Int)] = ((nats (i + 1)).filter fun p => (L p).2.2).map Dt.int := by rw [nats_snoc, List.filter_append, List.map_append, List.filter_cons, if_pos h]; rfl
      rw [e3]
    · show _ = [(pf, Ob.lst (((nats (i + 1)).filter fun p => (L p).2.2).map .int)), _, _]
      have e3 : ((nats i).filter fun p => (L p).2.2).map Dt.int = ((nats (i + 1)).filter fun p => (L p).2.2).map Dt.int := by rw [nats_snoc, List.filter_append, List.map_append, List.filter_cons, if_neg (by rw [h]; exact Bool.false_ne_true)]; simp
      rw [e3]
  · rintro δ' os' ⟨_, _, _, _, rfl, rfl⟩
    refine jb_give 7 rfl dl1 (List.Perm.refl _) ?_
    refine jb_give 6 rfl dl1 (List.Perm.refl _) ?_
    refine jb_give 5 rfl dl1 (List.Perm.refl _) ?_
    refine jb_cons (js_ret (jp_make C (D_Game_init T) (hr.mono (by decide)) (ja_cons (jp_var C 5 rfl rfl rfl) (ja_cons (jp_var C 6 rfl rfl rfl) (ja_cons (jp_var C 7 rfl rfl rfl) ja_nil))) (⟨_, _, _, ((nats (c.game k).size).map fun p => (L p).2.1).map fun r => (rowT r, r), legGm c side t k s, rfl, rfl, .inr rfl, .inr ?_, ?_, ?_, .inr rfl, legGm_ok hs hg⟩) rfl) rfl)
    · rw [List.map_map, List.map_map, List.map_map]; rfl
    · intro q hq
      obtain ⟨r, _, rfl⟩ := List.mem_map.mp hq
      exact .inl rfl
    · rw [List.map_map]
      show (nats _).map _ = _
      exact (List.map_id' _).symm
def R_match_slots (K : PySem.W.Frag) (ds : List Dt) (d : Dt) : Prop := ∃ (c : Ct) (t : Int), ds = [ctD K c, .int t] ∧ d = .tup [.lst ((slots c t).1.map slotD), .int (slots c t).2] ∧ CtOk c
theorem D_match_slots (T : Txt P w K mg base) : Def P w K mg base "match_slots" ["contest", "target"] 4 (spD K (R_match_slots K)) := by
  obtain ⟨fd, F⟩ := T.d_match_slots
  refine ⟨_, fd, T.g_match_slots, F.kp, F.bindsN fun _ _ _ _ _ _ us hl => match us, hl with | [_, _], _ => rfl, fn_D F sc_match_slots vi_match_slots st_match_slots (fun ds d h => ?_) (fun X hX C hr ds d h => ?_)⟩
  · obtain ⟨c, t, rfl, rfl, ok⟩ := h; rfl
  obtain ⟨rfl, rfl, rfl, rfl, rfl⟩ := hX
  obtain ⟨c, t, rfl, rfl, ok⟩ := h
  have n3 := ok.n3
  refine jb_cons (js_own C 2 (jn_lst ja_nil) fun p _ => ?_)
  refine jb_cons (js_set C 3 jp_int ?_)
  refine jb_cons (js_forR C (c.n : Int) (ws := [4]) (ji_rangeN C T.f_range (jp_lenX C T.f_len (jp_fld (jp_var C 0 rfl rfl rfl) T.cl_Match T.na_Match_legs rfl) (len_legs c)) (by omega) (by omega)) (fun i δ os => ∃ v4 v5, δ = [some (ctD X.K c), some (.int t), some (.at p), some (.int (slotsTo c t i).2), v4, v5] ∧ os = [(p, .lst ((slotsTo c t i).1.map slotD))]) ⟨_, _, rfl, rfl⟩ ?_ ?_)
  · rintro i δ' os' hi ⟨_, _, rfl, rfl⟩
    have hi : i < c.n := hi
    refine ⟨_, (jg_name C 4), ?_⟩
    refine jb_cons (js_forM C (c.below i t) Dt.int (ws := [5]) (ji_X (jp_call C (D_scores_below T) (hr.mono (by decide)) (ja_cons (jp_var C 0 rfl rfl rfl) (ja_cons (jp_var C 4 rfl rfl rfl) (ja_cons (jp_var C 1 rfl rfl rfl) ja_nil))) (⟨c, (i : Int), t, rfl, rfl, by omega, by omega, ok⟩) rfl) (.lst)) (fun pre δ os => ∃ v5, δ = [some (ctD X.K c), some (.int t), some (.at p), some (.int (pre.foldl (slotStep c i) (slotsTo c t i)).2), some (.int i), v5] ∧ os = [(p, .lst ((pre.foldl (slotStep c i) (slotsTo c t i)).1.map slotD))]) ⟨_, rfl, rfl⟩ ?_ ?_)
    · rintro pre s post δ' os' e ⟨_, rfl, rfl⟩
      have hl := below_len ok (k := (i : Int)) (t := t) (by omega)
      have hl2 := slotsTo_len ok t i (by omega)
      have hl3 := foldStep_len c i pre (slotsTo c t i)
      rw [e] at hl
      simp at hl
      refine ⟨_, (jg_name C 5), ?_⟩
      refine jb_cons (js_append (jp_var C 2 rfl rfl rfl) List.mem_cons_self (jp_tup (ja_cons (jp_var C 4 rfl rfl rfl) (ja_cons (jp_var C 5 rfl rfl rfl) (ja_cons (jp_var C 3 rfl rfl rfl) ja_nil)))) (by rw [List.length_map, hl3]; omega) ?_)
      refine jb_cons (js_aug C 3 rfl (jp_fld (jp_meth T.cl_Match (D_Match_game_of T) (hr.mono (by decide)) (jp_var C 0 rfl rfl rfl) rfl (ja_cons (jp_var C 4 rfl rfl rfl) ja_nil) (⟨c, (i : Int), rfl, rfl, by omega, by omega⟩)) T.cl_Game T.na_Game_size rfl) (jb_nil ⟨some (.int s), ?_, ?_⟩))
      · rw [List.foldl_append]; rfl
      · rw [List.foldl_append]
        show _ = [(p, Ob.lst ((_ ++ [_]).map slotD))]
        rw [List.map_append]; rfl
    · rintro δ' os' ⟨_, rfl, rfl⟩
      rw [← slotsTo_succ]
      exact jb_nil ⟨_, _, rfl, rfl⟩
  · rintro δ' os' ⟨_, _, rfl, rfl⟩
    refine jb_give 2 rfl dl1 (List.Perm.refl _) ?_
    exact jb_cons (js_ret (jp_tup (ja_cons (jp_var C 2 rfl rfl rfl) (ja_cons (jp_var C 3 rfl rfl rfl) ja_nil))) rfl)
def R_match_size (K : PySem.W.Frag) (ds : List Dt) (d : Dt) : Prop := ∃ (c : Ct) (t : Int), ds = [ctD K c, .int t] ∧ d = .int ((slots c t).2 + 2) ∧ CtOk c ∧ 0 ≤ t ∧ t ≤ 1000
theorem D_match_size (T : Txt P w K mg base) : Def P w K mg base "match_size" ["contest", "target"] 5 (spD K (R_match_size K)) := by
  obtain ⟨fd, F⟩ := T.d_match_size
  refine ⟨_, fd, T.g_match_size, F.kp, F.bindsN fun _ _ _ _ _ _ us hl => match us, hl with | [_, _], _ => rfl, fn_D F sc_match_size vi_match_size st_match_size (fun ds d h => ?_) (fun X hX C hr ds d h => ?_)⟩
  · obtain ⟨c, t, rfl, rfl, ok, t0, t1⟩ := h; rfl
  obtain ⟨rfl, rfl, rfl, rfl, rfl⟩ := hX
  obtain ⟨c, t, rfl, rfl, ok, t0, t1⟩ := h
  refine jb_cons (js_drop (jp_call C (D_checked_amount T) (hr.mono (by decide)) (ja_cons (jp_var C 1 rfl rfl rfl) ja_nil) (⟨t, rfl, rfl, t0, by omega⟩) rfl) ?_)
  exact jb_cons (js_ret (jp_op (jp_ix (jp_call C (D_match_slots T) (hr.mono (by decide)) (ja_cons (jp_var C 0 rfl rfl rfl) (ja_cons (jp_var C 1 rfl rfl rfl) ja_nil)) (⟨c, t, rfl, rfl, ok⟩) rfl) jp_int (.tup rfl)) jp_int jo_add) rfl)
def R_match_position (K : PySem.W.Frag) (ds : List Dt) (d : Dt) : Prop := ∃ (c : Ct) (t k s p : Int), ds = [ctD K c, .int t, .int k, .int s, .int p] ∧ d = .int (offOf c t k s + p) ∧ CtOk c ∧ 0 ≤ t ∧ t ≤ 1000 ∧ 0 ≤ k ∧ k < c.n ∧ s ∈ c.below k t ∧ 0 ≤ p ∧ p < (c.game k).size
theorem D_match_position (T : Txt P w K mg base) : Def P w K mg base "match_position" ["contest", "target", "leg", "points", "position"] 5 (spD K (R_match_position K)) := by
  obtain ⟨fd, F⟩ := T.d_match_position
  refine ⟨_, fd, T.g_match_position, F.kp, F.bindsN fun _ _ _ _ _ _ us hl => match us, hl with | [_, _, _, _, _], _ => rfl, fn_D F sc_match_position vi_match_position st_match_position (fun ds d h => ?_) (fun X hX C hr ds d h => ?_)⟩
  · obtain ⟨c, t, k, s, p, rfl, rfl, ok, t0, t1, h0, h1, hb, p0, p1⟩ := h; rfl
  obtain ⟨rfl, rfl, rfl, rfl, rfl⟩ := hX
  obtain ⟨c, t, k, s, p, rfl, rfl, ok, t0, t1, h0, h1, hb, p0, p1⟩ := h
  obtain ⟨x, hx, hx1, hx2, hx3, hx4⟩ := slotOf_some h0 h1 hb
  refine jb_cons (js_drop (jp_call C (D_checked_amount T) (hr.mono (by decide)) (ja_cons (jp_var C 1 rfl rfl rfl) ja_nil) (⟨t, rfl, rfl, t0, by omega⟩) rfl) ?_)
  refine jb_cons (js_drop (jp_call C (D_checked_score T) (hr.mono (by decide)) (ja_cons (jp_var C 0 rfl rfl rfl) (ja_cons (jp_var C 2 rfl rfl rfl) (ja_cons (jp_var C 3 rfl rfl rfl) (ja_cons (jp_var C 1 rfl rfl rfl) ja_nil)))) (⟨c, k, s, t, rfl, rfl, h0, h1, ok, hb⟩) rfl) ?_)
  refine jb_cons (js_drop (jp_meth T.cl_Game (D_Game_checked T) (hr.mono (by decide)) (jp_meth T.cl_Match (D_Match_game_of T) (hr.mono (by decide)) (jp_var C 0 rfl rfl rfl) rfl (ja_cons (jp_var C 2 rfl rfl rfl) ja_nil) (⟨c, k, rfl, rfl, h0, h1⟩)) rfl (ja_cons (jp_var C 4 rfl rfl rfl) ja_nil) (⟨c.game k, p, rfl, rfl, p0, p1⟩)) ?_)
  refine jb_cons (js_forM C (slots c t).1 slotD (ws := [5, 6, 7]) (ji_X (jp_ix (jp_call C (D_match_slots T) (hr.mono (by decide)) (ja_cons (jp_var C 0 rfl rfl rfl) (ja_cons (jp_var C 1 rfl rfl rfl) ja_nil)) (⟨c, t, rfl, rfl, ok⟩) rfl) jp_int (.tup rfl)) (.lst)) (fun pre δ os => ∃ v5 v6 v7, δ = [some (ctD X.K c), some (.int t), some (.int k), some (.int s), some (.int p), v5, v6, v7] ∧ os = [] ∧ pre.find? (isAt k s) = none) ⟨_, _, _, rfl, rfl, rfl⟩ ?_ ?_)
  · rintro pre y post δ' os' e ⟨_, _, _, rfl, rfl, hn⟩
    refine ⟨_, (jg_tup C (jgs_cons (jg_name C 5) (jgs_cons (jg_name C 6) (jgs_cons (jg_name C 7) jgs_nil)))), ?_⟩
    refine jb_cons (js_if (k := isAt k s y) (jt_w (jw_and (jt_cmp (jp_var C 5 rfl rfl rfl) (jp_var C 2 rfl rfl rfl) jo_eqI) (fun hk2 => (jw_and1 (jt_cmp (jp_var C 6 rfl rfl rfl) (jp_var C 3 rfl rfl rfl) jo_eqI))))) (fun h => ?_) (fun h => jb_nil (jb_nil ⟨_, _, _, rfl, rfl, ?_⟩)))
    · have : slotOf c t k s = some y := by
        unfold slotOf
        rw [e, List.find?_append, hn, List.find?_cons_of_pos h]; rfl
      rw [hx] at this
      cases this
      exact jb_cons (js_ret (jp_op (jp_var C 7 rfl rfl rfl) (jp_var C 4 rfl rfl rfl) jo_add) (by rw [hx4]))
    · rw [List.find?_append, hn, List.find?_cons_of_neg (by rw [h]; exact Bool.false_ne_true)]; rfl
  · rintro δ' os' ⟨_, _, _, rfl, rfl, hn⟩
    have : slotOf c t k s = none := hn
    rw [hx] at this
    cases this
def R_position_after (K : PySem.W.Frag) (ds : List Dt) (d : Dt) : Prop := ∃ (c : Ct) (side t k s o : Int), ds = [ctD K c, .int side, .int t, .int k, .int s, .int o] ∧ d = .int (leadOf c side t k s o) ∧ CtOk c ∧ (side = 1 ∨ side = 2) ∧ 0 ≤ t ∧ t ≤ 1000 ∧ 0 ≤ k ∧ k < c.n ∧ s ∈ c.below k t
theorem D_position_after (T : Txt P w K mg base) : Def P w K mg base "position_after" ["contest", "side", "target", "leg", "points", "outcome"] 6 (spD K (R_position_after K)) := by
  obtain ⟨fd, F⟩ := T.d_position_after
  refine ⟨_, fd, T.g_position_after, F.kp, F.bindsN fun _ _ _ _ _ _ us hl => match us, hl with | [_, _, _, _, _, _], _ => rfl, fn_D F sc_position_after vi_position_after st_position_after (fun ds d h => ?_) (fun X hX C hr ds d h => ?_)⟩
  · obtain ⟨c, side, t, k, s, o, rfl, rfl, ok, hs, t0, t1, h0, h1, hb⟩ := h; rfl
  obtain ⟨rfl, rfl, rfl, rfl, rfl⟩ := hX
  obtain ⟨c, side, t, k, s, o, rfl, rfl, ok, hs, t0, t1, h0, h1, hb⟩ := h
  refine jb_cons (js_set C 6 (jp_op (jp_var C 4 rfl rfl rfl) (jp_meth T.cl_Match (D_Match_points_for T) (hr.mono (by decide)) (jp_var C 0 rfl rfl rfl) rfl (ja_cons (jp_var C 1 rfl rfl rfl) (ja_cons (jp_var C 5 rfl rfl rfl) ja_nil)) (⟨c, side, o, rfl, rfl, hs⟩)) jo_add) ?_)
  unfold leadOf
  refine jb_cons (js_if (jt_cmp (jp_var C 6 rfl rfl rfl) (jp_var C 2 rfl rfl rfl) jo_ge) (fun h => ?_) (fun h => jb_nil ?_))
  · rw [if_pos (of_decide_eq_true h)]
    exact jb_cons (js_ret (jp_op (jp_call C (D_match_size T) (hr.mono (by decide)) (ja_cons (jp_var C 0 rfl rfl rfl) (ja_cons (jp_var C 2 rfl rfl rfl) ja_nil)) (⟨c, t, rfl, rfl, ok, t0, t1⟩) rfl) jp_int jo_sub) (by show Dt.int ((slots c t).2 + 2 - 2) = Dt.int _; rw [Int.add_sub_cancel]))
  · have h := of_decide_eq_false h
    rw [if_neg h]
    refine jb_cons (js_if (jt_cmp (jp_var C 3 rfl rfl rfl) (jp_op (jp_lenX C T.f_len (jp_fld (jp_var C 0 rfl rfl rfl) T.cl_Match T.na_Match_legs rfl) (len_legs c)) jp_int jo_sub) jo_eqI) (fun h2 => ?_) (fun h2 => jb_nil ?_))
    · rw [if_pos (of_decide_eq_true h2)]
      exact jb_cons (js_ret (jp_op (jp_call C (D_match_size T) (hr.mono (by decide)) (ja_cons (jp_var C 0 rfl rfl rfl) (ja_cons (jp_var C 2 rfl rfl rfl) ja_nil)) (⟨c, t, rfl, rfl, ok, t0, t1⟩) rfl) jp_int jo_sub) (by show Dt.int ((slots c t).2 + 2 - 1) = Dt.int ((slots c t).2 + 1); rw [show (slots c t).2 + 2 - 1 = (slots c t).2 + 1 from by omega]))
    · have h2 := of_decide_eq_false h2
      rw [if_neg h2]
      have hb2 : s + worthM c side o ∈ c.below (k + 1) t := mem_below.mpr ⟨ok.after h0 (mem_below.mp hb).1, by omega⟩
      have lo := ok.lgOk (k := k + 1) (by omega) (by omega)
      exact jb_cons (js_ret (jp_call C (D_match_position T) (hr.mono (by decide)) (ja_cons (jp_var C 0 rfl rfl rfl) (ja_cons (jp_var C 2 rfl rfl rfl) (ja_cons (jp_op (jp_var C 3 rfl rfl rfl) jp_int jo_add) (ja_cons (jp_var C 6 rfl rfl rfl) (ja_cons (jp_meth T.cl_Match (D_Match_begins T) (hr.mono (by decide)) (jp_var C 0 rfl rfl rfl) rfl (ja_cons (jp_op (jp_var C 3 rfl rfl rfl) jp_int jo_add) ja_nil) (⟨c, k + 1, rfl, rfl, by omega, by omega⟩)) ja_nil))))) (⟨c, t, k + 1, _, _, rfl, rfl, ok, t0, t1, by omega, by omega, hb2, lo.at0, by unfold Ct.game; rw [Lg.seen_size]; exact lo.at1⟩) rfl) rfl)
def R_check_unadded (K : PySem.W.Frag) (ds : List Dt) (d : Dt) : Prop := ∃ (c : Ct), ds = [ctD K c] ∧ d = .non ∧ CtOk c
theorem D_check_unadded (T : Txt P w K mg base) : Def P w K mg base "check_unadded" ["contest"] 3 (spD K (R_check_unadded K)) := by
  obtain ⟨fd, F⟩ := T.d_check_unadded
  refine ⟨_, fd, T.g_check_unadded, F.kp, F.bindsN fun _ _ _ _ _ _ us hl => match us, hl with | [_], _ => rfl, fn_D F sc_check_unadded vi_check_unadded st_check_unadded (fun ds d h => ?_) (fun X hX C hr ds d h => ?_)⟩
  · obtain ⟨c, rfl, rfl, ok⟩ := h; rfl
  obtain ⟨rfl, rfl, rfl, rfl, rfl⟩ := hX
  obtain ⟨c, rfl, rfl, ok⟩ := h
  have n3 := ok.n3
  refine jb_cons (js_forR C (c.n : Int) (ws := [1]) (ji_rangeN C T.f_range (jp_lenX C T.f_len (jp_fld (jp_var C 0 rfl rfl rfl) T.cl_Match T.na_Match_legs rfl) (len_legs c)) (by omega) (by omega)) (fun i δ os => ∃ v1, δ = [some (ctD X.K c), v1] ∧ os = []) ⟨_, rfl, rfl⟩ ?_ ?_)
  · rintro i δ' os' hi ⟨_, rfl, rfl⟩
    have hi : i < c.n := hi
    refine ⟨_, (jg_name C 1), ?_⟩
    exact jb_cons (js_if (k := false) (jt_cmp (jp_meth T.cl_Match (D_Match_added_after T) (hr.mono (by decide)) (jp_var C 0 rfl rfl rfl) rfl (ja_cons (jp_var C 1 rfl rfl rfl) ja_nil) (⟨c, (i : Int), rfl, rfl, by omega, by omega⟩)) (jp_tup (ja_cons jp_int (ja_cons jp_int ja_nil))) (jo_neT (L2.Room.units hr))) (fun h => nomatch h) (fun _ => jb_nil (jb_nil ⟨_, rfl, rfl⟩)))
  · rintro δ' os' ⟨_, rfl, rfl⟩
    exact jb_nil rfl
end
end K70

set_option maxHeartbeats 4000000
namespace K70
open PySem PySem.Spec PyProof.Rows L2 DL
local macro_rules | `(tactic| walk_at "mul") => `(tactic| first | exact .inl (by decide) | exact .inr (by decide) | exact .inl (by omega) | exact .inr (by omega))
local macro_rules | `(tactic| walk_at "pos") => `(tactic| first | assumption | decide | omega)
local macro_rules | `(tactic| walk_at "div") => `(tactic| first | exact ⟨by decide, by decide⟩ | exact ⟨by omega, by omega⟩)
local macro_rules | `(tactic| walk_at "pow") => `(tactic| exact ⟨by decide, by decide, by decide⟩)
local macro_rules | `(tactic| walk_at "side") => `(tactic| first | assumption | rfl | omega | decide)
local macro_rules | `(tactic| walk_at "lk") => `(tactic| first | exact .lst .l | exact .tup | exact .l)
local macro_rules | `(tactic| walk_at "it") => `(tactic| first | exact .lst | exact .tup)
local macro_rules | `(tactic| walk_at "len") => `(tactic| first | exact .lst .l | exact .tup | exact .scr)
local macro_rules | `(tactic| walk_at "ix") => `(tactic| first | exact .lst .l rfl | exact .tup rfl | exact .lst .l (by assumption) | exact .tup (by assumption) | exact .scr (by assumption))
local macro_rules | `(tactic| walk_at "dk") => `(tactic| exact .inl rfl)

/-! ### the whole match as one game -/
def mvPos (c : Ct) (side t k s off p : Int) : Int × List Mv := match endOut ((c.game k).mark p) with
  | some o => (side, [("on", leadOf c side t k s o, 0, 0)])
  | none => ((legGm c side t k s).mark p, ((legGm c side t k s).row p).map fun m => (m.1, off + m.2.1, m.2.2.1, m.2.2.2))
def rowL (r : List Mv) : Dt := .lst (r.map mvD)
def slMarks (c : Ct) (side t : Int) (x : Slot) : List Int := (nats (c.game x.1).size).map fun p => (mvPos c side t x.1 x.2.1 x.2.2 p).1
def slMoves (c : Ct) (side t : Int) (x : Slot) : List (List Mv) := (nats (c.game x.1).size).map fun p => (mvPos c side t x.1 x.2.1 x.2.2 p).2
def slSafe (c : Ct) (side t : Int) (x : Slot) : List Int := (legGm c side t x.1 x.2.1).safe.map fun p => x.2.2 + p
def mgG (c : Ct) (side t : Int) : Gm := ⟨(slots c t).1.flatMap (slMarks c side t) ++ [2 + side, 5 - side], (slots c t).1.flatMap (slMoves c side t) ++ [[], []], (slots c t).1.flatMap (slSafe c side t)⟩
theorem flat_len {α β : Type} {f : α → List β} {b : Nat} : ∀ {l : List α}, (∀ x ∈ l, (f x).length ≤ b) → (l.flatMap f).length ≤ l.length * b
  | [], _ => by simp
  | x :: l, h => by
    rw [List.flatMap_cons, List.length_append, List.length_cons, Nat.add_mul]
    have := h x List.mem_cons_self
    have := flat_len (l := l) fun y hy => h y (List.mem_cons_of_mem _ hy)
    omega
theorem foldStep_in {c : Ct} {k : Int} {Pr : Slot → Prop} : ∀ (l : List Int) (acc : List Slot × Int), (∀ x ∈ acc.1, Pr x) → (∀ s ∈ l, ∀ off, Pr (k, s, off)) → ∀ x ∈ (l.foldl (slotStep c k) acc).1, Pr x
  | [], _, h, _ => h
  | s :: l, acc, h, h2 => by
    rw [List.foldl_cons]
    refine foldStep_in l _ (fun x hx => ?_) fun u hu => h2 u (List.mem_cons_of_mem _ hu)
    rcases List.mem_append.mp hx with hx | hx
    · exact h x hx
    · rw [List.mem_singleton.mp hx]; exact h2 s List.mem_cons_self _
theorem slotsTo_in (c : Ct) (t : Int) : ∀ i : Nat, ∀ x ∈ (slotsTo c t i).1, 0 ≤ x.1 ∧ x.1 < i ∧ x.2.1 ∈ c.below x.1 t
  | 0 => fun x hx => nomatch hx
  | i + 1 => by
    rw [slotsTo_succ]
    refine foldStep_in _ _ (fun x hx => ?_) fun s hs off => ⟨by show 0 ≤ (i : Int); omega, by show (i : Int) < _; omega, hs⟩
    have := slotsTo_in c t i x hx
    exact ⟨this.1, by omega, this.2.2⟩
theorem slots_in {c : Ct} {t : Int} {x : Slot} (h : x ∈ (slots c t).1) : 0 ≤ x.1 ∧ x.1 < c.n ∧ x.2.1 ∈ c.below x.1 t := slotsTo_in c t c.n x h
theorem slots_len {c : Ct} (ok : CtOk c) (t : Int) : (slots c t).1.length ≤ 84 := by
  have := slotsTo_len ok t c.n ok.n3
  have := ok.n3
  show (slotsTo c t c.n).1.length ≤ 84
  omega
section
variable {P : Program} {w : World} {K : PySem.W.Frag} {mg : Str → Option Value} {base : Heap}
def R_match_moves (K : PySem.W.Frag) (ds : List Dt) (d : Dt) : Prop := ∃ (c : Ct) (side t : Int) (x : Slot), ds = [ctD K c, .int side, .int t, slotD x, gmD K (legGm c side t x.1 x.2.1)] ∧ d = .tup [.lst ((slMarks c side t x).map .int), .lst ((slMoves c side t x).map rowL)] ∧ CtOk c ∧ (side = 1 ∨ side = 2) ∧ 0 ≤ t ∧ t ≤ 1000 ∧ 0 ≤ x.1 ∧ x.1 < c.n ∧ x.2.1 ∈ c.below x.1 t
theorem D_match_moves (T : Txt P w K mg base) : Def P w K mg base "match_moves" ["contest", "side", "target", "slot", "part"] 7 (spD K (R_match_moves K)) := by
  obtain ⟨fd, F⟩ := T.d_match_moves
  refine ⟨_, fd, T.g_match_moves, F.kp, F.bindsN fun _ _ _ _ _ _ us hl => match us, hl with | [_, _, _, _, _], _ => rfl, fn_D F sc_match_moves vi_match_moves st_match_moves (fun ds d h => ?_) (fun X hX C hr ds d h => ?_)⟩
  · obtain ⟨c, side, t, x, rfl, rfl, ok, hs, t0, t1, h0, h1, hb⟩ := h; rfl
  obtain ⟨rfl, rfl, rfl, rfl, rfl⟩ := hX
  obtain ⟨c, side, t, x, rfl, rfl, ok, hs, t0, t1, h0, h1, hb⟩ := h
  obtain ⟨k, s, off⟩ := x
  have h0 : 0 ≤ k := h0
  have h1 : k < c.n := h1
  have hg : Hg (c.game k) := ok.hg h0 h1
  have hsz : (c.game k).size ≤ 100 := hg.sz
  have lg := legGm_ok (c := c) (target := t) (k := k) (pts := s) hs hg
  have lsz := legGm_size c side t k s
  refine jb_cons (js_asg (ws := [5, 6, 7]) (jp_var C 3 rfl rfl rfl) (jg_tup C (jgs_cons (jg_name C 5) (jgs_cons (jg_name C 6) (jgs_cons (jg_name C 7) jgs_nil)))) ?_)
  refine jb_cons (js_lc C 8 (List.range 3) (fun (o : Nat) => Dt.int (o : Int)) (fun _ => true) (fun (o : Nat) => Dt.int (leadOf c side t k s o)) [("outcome", 12)] (ji_rangeN C T.f_range jp_int (by decide) (by decide)) (?_) (by decide) rfl rfl (by decide +kernel) rfl rfl rfl rfl rfl ?_)
  · intro o ho
    refine ⟨_, fun X' hB C => ⟨(jg_name C 12), jfs_nil, fun _ => ?_⟩⟩
    have T := hB.tx (M := Txt) T
    have hr := hB.rm hr
    exact (jp_call C (D_position_after T) (hr.mono (by decide)) (ja_cons (jp_var C 0 rfl rfl rfl) (ja_cons (jp_var C 1 rfl rfl rfl) (ja_cons (jp_var C 2 rfl rfl rfl) (ja_cons (jp_var C 5 rfl rfl rfl) (ja_cons (jp_var C 6 rfl rfl rfl) (ja_cons (jp_var C 12 rfl rfl rfl) ja_nil)))))) (⟨c, side, t, k, s, (o : Int), by rw [hB.K], rfl, ok, hs, t0, t1, h0, h1, hb⟩) rfl)
  rw [outs_all]
  refine jb_cons (js_own C 9 (jn_lst ja_nil) fun pm _ => ?_)
  refine jb_cons (js_own C 10 (jn_lst ja_nil) fun pv hv => ?_)
  have n1 : pm ≠ pv := hv _ List.mem_cons_self
  let L := fun p : Int => mvPos c side t k s off p
  let OS : Nat → Os := fun i => [(pv, .lst (((nats i).map fun p => (L p).2).map rowL)), (pm, .lst (((nats i).map fun p => (L p).1).map .int))]
  refine jb_cons (js_forR C ((legGm c side t k s).size : Int) (ws := [11]) (ji_rangeN C T.f_range (jp_fld (jp_var C 4 rfl rfl rfl) T.cl_Game T.na_Game_size rfl) (by show ((legGm c side t k s).size : Int) ≤ 100000; omega) (by show 0 ≤ ((legGm c side t k s).size : Int); omega)) (fun i δ os => ∃ v11 v12 v13, δ = [some (ctD X.K c), some (.int side), some (.int t), some (slotD (k, s, off)), some (gmD X.K (legGm c side t k s)), some (.int k), some (.int s), some (.int off), some (.lst ((List.range 3).map fun (o : Nat) => Dt.int (leadOf c side t k s o))), some (.at pm), some (.at pv), v11, v12, v13, none, none, none, none] ∧ os = OS i) ⟨_, _, _, rfl, rfl⟩ ?_ ?_)
  · rintro i δ' os' hi ⟨_, _, _, rfl, rfl⟩
    have hi : i < (c.game k).size := lsz ▸ (hi : i < (legGm c side t k s).size)
    have hm := hg.ok.mark_in (p := (i : Int)) (by omega) (by omega)
    have e1 : ((nats i).map fun p => (L p).1).map Dt.int ++ [Dt.int (L i).1] = ((nats (i + 1)).map fun p => (L p).1).map Dt.int := by rw [nats_snoc, List.map_append, List.map_append]; rfl
    have e2 : ((nats i).map fun p => (L p).2).map rowL ++ [rowL (L i).2] = ((nats (i + 1)).map fun p => (L p).2).map rowL := by rw [nats_snoc, List.map_append, List.map_append]; rfl
    refine ⟨_, (jg_name C 11), ?_⟩
    refine jb_cons (js_set C 12 (jp_call C (D_ended_outcome T) (hr.mono (by decide)) (ja_cons (jp_meth T.cl_Match (D_Match_game_of T) (hr.mono (by decide)) (jp_var C 0 rfl rfl rfl) rfl (ja_cons (jp_var C 5 rfl rfl rfl) ja_nil) (⟨c, k, rfl, rfl, h0, h1⟩)) (ja_cons (jp_var C 11 rfl rfl rfl) ja_nil)) (⟨c.game k, (i : Int), rfl, rfl, by omega, by omega, hg.ok⟩) rfl) ?_)
    cases ho : endOut ((c.game k).mark i) with
    | some o =>
      have hL : L i = (side, [((("on" : Str), leadOf c side t k s o, 0, 0) : Mv)]) := by show mvPos c side t k s off i = _; unfold mvPos; rw [ho]
      have hat : atI ((List.range 3).map fun (o : Nat) => Dt.int (leadOf c side t k s o)) o = some (.int (leadOf c side t k s o)) := by
        have : o = 0 ∨ o = 1 ∨ o = 2 := by
          unfold endOut at ho
          split at ho
          · cases ho; exact .inr (.inl rfl)
          · split at ho
            · cases ho; exact .inr (.inr rfl)
            · split at ho
              · cases ho; exact .inl rfl
              · cases ho
        rcases this with rfl | rfl | rfl <;> rfl
      refine jb_cons (js_if (k := true) (jt_cmp (jp_var C 12 rfl rfl rfl) jp_non jo_isnot) (fun _ => ?_) (fun h => nomatch h))
      refine jb_cons (js_append (jp_var C 9 rfl rfl rfl) (List.mem_cons_of_mem _ List.mem_cons_self) (jp_var C 1 rfl rfl rfl) (by rw [List.length_map, List.length_map, nats_len]; omega) ?_ (he := putO_2 n1.symm))
      refine jb_cons (js_append (jp_var C 10 rfl rfl rfl) List.mem_cons_self (jp_new (jn_lst (ja_cons (jp_tup (ja_cons (jp_gstr C T.k_LED_ON rfl) (ja_cons (jp_ix (jp_var C 8 rfl rfl rfl) (jp_var C 12 rfl rfl rfl) (.lst .l hat)) (ja_cons jp_int (ja_cons jp_int ja_nil))))) ja_nil))) (by rw [List.length_map, List.length_map, nats_len]; omega) (jb_nil (jb_nil ⟨_, _, _, rfl, ?_⟩)))
      show _ = [(pv, Ob.lst (((nats (i + 1)).map fun p => (L p).2).map rowL)), (pm, Ob.lst (((nats (i + 1)).map fun p => (L p).1).map .int))]
      rw [← e1, ← e2, hL]; rfl
    | none =>
      have hL : L i = ((legGm c side t k s).mark i, ((legGm c side t k s).row i).map fun m => (m.1, off + m.2.1, m.2.2.1, m.2.2.2)) := by show mvPos c side t k s off i = _; unfold mvPos; rw [ho]
      have hrl := lg.rlen (p := (i : Int)) (by omega) (by rw [lsz]; omega)
      refine jb_cons (js_if (k := false) (jt_cmp (jp_var C 12 rfl rfl rfl) jp_non jo_isnot) (fun h => nomatch h) (fun _ => ?_))
      refine jb_cons (js_set C 13 (jp_ix (jp_fld (jp_var C 4 rfl rfl rfl) T.cl_Game T.na_Game_moves rfl) (jp_var C 11 rfl rfl rfl) (.tup (at_map (by omega) (lg.row_at (by omega) (by rw [lsz]; omega))))) ?_)
      refine jb_cons (js_append (jp_var C 9 rfl rfl rfl) (List.mem_cons_of_mem _ List.mem_cons_self) (jp_ix (jp_fld (jp_var C 4 rfl rfl rfl) T.cl_Game T.na_Game_marks rfl) (jp_var C 11 rfl rfl rfl) (.tup (at_map (by omega) (GmOk.mark_at (by omega) (by rw [lsz]; omega))))) (by rw [List.length_map, List.length_map, nats_len]; omega) ?_ (he := putO_2 n1.symm))
      refine jb_cons (js_append (jp_var C 10 rfl rfl rfl) List.mem_cons_self (jp_new (jn_lc C ((legGm c side t k s).row i) (mvD) (fun _ => true) (fun m => mvD (m.1, off + m.2.1, m.2.2.1, m.2.2.2)) [("word", 14), ("goal", 15), ("need", 16), ("drop", 17)] (ji_X (jp_var C 13 rfl rfl rfl) (.tup)) (?_) (by omega) rfl rfl (by decide +kernel) rfl)) (by rw [List.length_map, List.length_map, nats_len]; omega) (jb_nil (jb_nil ⟨_, _, _, rfl, ?_⟩)))
      · intro m hm
        refine ⟨_, fun X' hB C => ⟨(jg_tup C (jgs_cons (jg_name C 14) (jgs_cons (jg_name C 15) (jgs_cons (jg_name C 16) (jgs_cons (jg_name C 17) jgs_nil))))), jfs_nil, fun _ => ?_⟩⟩
        exact (jp_tup (ja_cons (jp_var C 14 rfl rfl rfl) (ja_cons (jp_op (jp_var C 7 rfl rfl rfl) (jp_var C 15 rfl rfl rfl) jo_add) (ja_cons (jp_var C 16 rfl rfl rfl) (ja_cons (jp_var C 17 rfl rfl rfl) ja_nil)))))
      · show _ = [(pv, Ob.lst (((nats (i + 1)).map fun p => (L p).2).map rowL)), (pm, Ob.lst (((nats (i + 1)).map fun p => (L p).1).map .int))]
        have e4 : rowL (((legGm c side t k s).row i).map fun m => (m.1, off + m.2.1, m.2.2.1, m.2.2.2)) = Dt.lst (((legGm c side t k s).row i).map fun m => mvD (m.1, off + m.2.1, m.2.2.1, m.2.2.2)) := by unfold rowL; rw [List.map_map]; rfl
        rw [← e1, ← e2, hL, outs_all]
        show [(pv, Ob.lst (_ ++ [_])), (pm, _)] = [(pv, Ob.lst (_ ++ [rowL (List.map (fun m : Mv => ((m.1, off + m.2.1, m.2.2.1, m.2.2.2) : Mv)) ((legGm c side t k s).row i))])), (pm, _)]
        rw [e4]
  · rintro δ' os' ⟨_, _, _, rfl, rfl⟩
    refine jb_give 10 rfl dl1 (List.Perm.refl _) ?_
    refine jb_give 9 rfl dl1 (List.Perm.refl _) ?_
    refine jb_cons (js_ret (jp_tup (ja_cons (jp_var C 9 rfl rfl rfl) (ja_cons (jp_var C 10 rfl rfl rfl) ja_nil))) ?_)
    show Dt.tup [.lst ((List.map _ (nats (legGm c side t k s).size)).map .int), .lst ((List.map _ (nats (legGm c side t k s).size)).map rowL)] = _
    rw [lsz]; rfl
theorem rowL_is (r : List Mv) : rowIs (rowL r) r := .inr rfl
def R_match_game (K : PySem.W.Frag) (ds : List Dt) (d : Dt) : Prop := ∃ (c : Ct) (side t : Int), ds = [ctD K c, .int side, .int t] ∧ d = gmD K (mgG c side t) ∧ CtOk c ∧ (side = 1 ∨ side = 2) ∧ 0 ≤ t ∧ t ≤ 1000 ∧ (slots c t).2 ≤ 998 ∧ GmOk (mgG c side t)
theorem D_match_game (T : Txt P w K mg base) : Def P w K mg base "match_game" ["contest", "side", "target"] 8 (spD K (R_match_game K)) := by
  obtain ⟨fd, F⟩ := T.d_match_game
  refine ⟨_, fd, T.g_match_game, F.kp, F.bindsN fun _ _ _ _ _ _ us hl => match us, hl with | [_, _, _], _ => rfl, fn_D F sc_match_game vi_match_game st_match_game (fun ds d h => ?_) (fun X hX C hr ds d h => ?_)⟩
  · obtain ⟨c, side, t, rfl, rfl, ok, hs, t0, t1, hz, okm⟩ := h; rfl
  obtain ⟨rfl, rfl, rfl, rfl, rfl⟩ := hX
  obtain ⟨c, side, t, rfl, rfl, ok, hs, t0, t1, hz, okm⟩ := h
  refine jb_cons (js_drop (jp_call C (D_other_side T) (hr.mono (by decide)) (ja_cons (jp_var C 1 rfl rfl rfl) ja_nil) (⟨side, rfl, rfl, hs⟩) rfl) ?_)
  refine jb_cons (js_if (k := false) (JT.is (jt_cmp (jp_call C (D_match_size T) (hr.mono (by decide)) (ja_cons (jp_var C 0 rfl rfl rfl) (ja_cons (jp_var C 2 rfl rfl rfl) ja_nil)) (⟨c, t, rfl, rfl, ok, t0, t1⟩) rfl) (jp_gint C T.k_MOST_POSITIONS rfl) jo_gt) (by simp; omega)) (fun h => nomatch h) (fun _ => jb_nil ?_))
  refine jb_cons (js_drop (jp_call C (D_check_unadded T) (hr.mono (by decide)) (ja_cons (jp_var C 0 rfl rfl rfl) ja_nil) (⟨c, rfl, rfl, ok⟩) rfl) ?_)
  refine jb_cons (js_own C 3 (jn_lst ja_nil) fun pm _ => ?_)
  refine jb_cons (js_own C 4 (jn_lst ja_nil) fun pv hv => ?_)
  refine jb_cons (js_own C 5 (jn_lst ja_nil) fun pf hf => ?_)
  have n1 : pm ≠ pv := hv _ List.mem_cons_self
  have n2 : pv ≠ pf := hf _ List.mem_cons_self
  have n3 : pm ≠ pf := hf _ (List.mem_cons_of_mem _ List.mem_cons_self)
  have hln := slots_len ok t
  have hsz : ∀ x ∈ (slots c t).1, (c.game x.1).size ≤ 5 := fun x hx => by
    have a := slots_in hx
    have := ok.gsz a.1 a.2.1
    have := ok.n1
    omega
  have b1 : ∀ l : List Slot, (∀ x ∈ l, x ∈ (slots c t).1) → l.length ≤ 84 → (l.flatMap (slMarks c side t)).length ≤ 420 ∧ (l.flatMap (slMoves c side t)).length ≤ 420 ∧ (l.flatMap (slSafe c side t)).length ≤ 420 := fun l hl h84 => by
    have a := flat_len (f := slMarks c side t) (b := 5) (l := l) fun x hx => by unfold slMarks; rw [List.length_map, nats_len]; exact hsz x (hl x hx)
    have b := flat_len (f := slMoves c side t) (b := 5) (l := l) fun x hx => by unfold slMoves; rw [List.length_map, nats_len]; exact hsz x (hl x hx)
    have d := flat_len (f := slSafe c side t) (b := 5) (l := l) fun x hx => by
      unfold slSafe
      rw [List.length_map]
      refine Nat.le_trans (List.length_filter_le _ _) ?_
      rw [nats_len]
      exact hsz x (hl x hx)
    omega
  let OS : List Slot → Os := fun l => [(pf, .lst ((l.flatMap (slSafe c side t)).map .int)), (pv, .lst ((l.flatMap (slMoves c side t)).map rowL)), (pm, .lst ((l.flatMap (slMarks c side t)).map .int))]
  refine jb_cons (js_forM C (slots c t).1 slotD (ws := [6]) (ji_X (jp_ix (jp_call C (D_match_slots T) (hr.mono (by decide)) (ja_cons (jp_var C 0 rfl rfl rfl) (ja_cons (jp_var C 2 rfl rfl rfl) ja_nil)) (⟨c, t, rfl, rfl, ok⟩) rfl) jp_int (.tup rfl)) (.lst)) (fun pre δ os => ∃ v6 v7 v8, δ = [some (ctD X.K c), some (.int side), some (.int t), some (.at pm), some (.at pv), some (.at pf), v6, v7, v8, none] ∧ os = OS pre) ⟨_, _, _, rfl, rfl⟩ ?_ ?_)
  · rintro pre x post δ' os' e ⟨_, _, _, rfl, rfl⟩
    have hx : x ∈ (slots c t).1 := by rw [e]; simp
    obtain ⟨x0, x1, x2⟩ := slots_in hx
    have b2 := b1 (pre ++ [x]) (fun y hy => by rw [e]; rcases List.mem_append.mp hy with z | z <;> simp_all) (by rw [e] at hln; simp at hln ⊢; omega)
    rw [List.flatMap_append, List.flatMap_append, List.flatMap_append, List.flatMap_singleton, List.flatMap_singleton, List.flatMap_singleton, List.length_append, List.length_append, List.length_append] at b2
    obtain ⟨b3, b4, b5⟩ := b2
    have e1 : (pre.flatMap (slMarks c side t)).map Dt.int ++ (slMarks c side t x).map Dt.int = ((pre ++ [x]).flatMap (slMarks c side t)).map Dt.int := by rw [List.flatMap_append, List.flatMap_singleton, List.map_append]
    have e2 : (pre.flatMap (slMoves c side t)).map rowL ++ (slMoves c side t x).map rowL = ((pre ++ [x]).flatMap (slMoves c side t)).map rowL := by rw [List.flatMap_append, List.flatMap_singleton, List.map_append]
    have e3 : (pre.flatMap (slSafe c side t)).map Dt.int ++ (slSafe c side t x).map Dt.int = ((pre ++ [x]).flatMap (slSafe c side t)).map Dt.int := by rw [List.flatMap_append, List.flatMap_singleton, List.map_append]
    refine ⟨_, (jg_name C 6), ?_⟩
    refine jb_cons (js_set C 7 (jp_call C (D_leg_game T) (hr.mono (by decide)) (ja_cons (jp_var C 0 rfl rfl rfl) (ja_cons (jp_var C 1 rfl rfl rfl) (ja_cons (jp_var C 2 rfl rfl rfl) (ja_cons (jp_ix (jp_var C 6 rfl rfl rfl) jp_int (.tup rfl)) (ja_cons (jp_ix (jp_var C 6 rfl rfl rfl) jp_int (.tup rfl)) ja_nil))))) (⟨c, side, t, x.1, x.2.1, rfl, rfl, x0, x1, ok, hs, t0, t1, x2⟩) rfl) ?_)
    refine jb_cons (js_set C 8 (jp_call C (D_match_moves T) (hr.mono (by decide)) (ja_cons (jp_var C 0 rfl rfl rfl) (ja_cons (jp_var C 1 rfl rfl rfl) (ja_cons (jp_var C 2 rfl rfl rfl) (ja_cons (jp_var C 6 rfl rfl rfl) (ja_cons (jp_var C 7 rfl rfl rfl) ja_nil))))) (⟨c, side, t, x, rfl, rfl, ok, hs, t0, t1, x0, x1, x2⟩) rfl) ?_)
    refine jb_cons (js_augL C 3 rfl (List.mem_cons_of_mem _ (List.mem_cons_of_mem _ List.mem_cons_self)) (jp_ix (jp_var C 8 rfl rfl rfl) jp_int (.tup rfl)) .l (by rw [List.length_map, List.length_map]; omega) ?_ (he := putO_3 n3.symm n1.symm))
    refine jb_cons (js_augL C 4 rfl (List.mem_cons_of_mem _ List.mem_cons_self) (jp_ix (jp_var C 8 rfl rfl rfl) jp_int (.tup rfl)) .l (by rw [List.length_map, List.length_map]; omega) ?_ (he := putO_2 n2.symm))
    refine jb_cons (js_augL C 5 rfl List.mem_cons_self (jp_new (jn_lc C ((legGm c side t x.1 x.2.1).safe) (Dt.int) (fun _ => true) (fun p => Dt.int (x.2.2 + p)) [("position", 9)] (ji_X (jp_fld (jp_var C 7 rfl rfl rfl) T.cl_Game T.na_Game_safe rfl) (.tup)) (?_) (by have : (slSafe c side t x).length = (legGm c side t x.1 x.2.1).safe.length := List.length_map _; omega) rfl rfl (by decide +kernel) rfl)) .l (by rw [outs_all, List.length_map, List.length_map]; have : (slSafe c side t x).length = (legGm c side t x.1 x.2.1).safe.length := List.length_map _; omega) (jb_nil ⟨_, _, _, rfl, ?_⟩))
    · intro p hp
      refine ⟨_, fun X' hB C => ⟨(jg_name C 9), jfs_nil, fun _ => ?_⟩⟩
      exact (jp_op (jp_ix (jp_var C 6 rfl rfl rfl) jp_int (.tup rfl)) (jp_var C 9 rfl rfl rfl) jo_add)
    · show _ = [(pf, Ob.lst (((pre ++ [x]).flatMap (slSafe c side t)).map .int)), (pv, Ob.lst (((pre ++ [x]).flatMap (slMoves c side t)).map rowL)), (pm, Ob.lst (((pre ++ [x]).flatMap (slMarks c side t)).map .int))]
      rw [← e1, ← e2, ← e3, outs_all]
      show _ = [(pf, Ob.lst (_ ++ (List.map _ _).map Dt.int)), _, _]
      rw [List.map_map]; rfl
  · rintro δ' os' ⟨_, _, _, rfl, rfl⟩
    obtain ⟨b3, b4, b5⟩ := b1 (slots c t).1 (fun _ h => h) hln
    refine jb_give 5 rfl dl1 (List.Perm.refl _) ?_
    refine jb_give 4 rfl dl1 (List.Perm.refl _) ?_
    refine jb_give 3 rfl dl1 (List.Perm.refl _) ?_
    refine jb_cons (js_ret (jp_make C (D_Game_init T) (hr.mono (by decide)) (ja_cons (jp_new (jn_op (jp_var C 3 rfl rfl rfl) (jp_new (jn_lst (ja_cons (jp_op jp_int (jp_var C 1 rfl rfl rfl) jo_add) (ja_cons (jp_op jp_int (jp_var C 1 rfl rfl rfl) jo_sub) ja_nil)))) (jo_cat .l .l (by rw [List.length_map]; show _ + 2 ≤ 100000; omega)))) (ja_cons (jp_new (jn_op (jp_var C 4 rfl rfl rfl) (jp_new (jn_lst (ja_cons (jp_new (jn_lst ja_nil)) (ja_cons (jp_new (jn_lst ja_nil)) ja_nil)))) (jo_cat .l .l (by rw [List.length_map]; show _ + 2 ≤ 100000; omega)))) (ja_cons (jp_var C 5 rfl rfl rfl) ja_nil))) (⟨_, _, _, (mgG c side t).moves.map fun r => (rowL r, r), mgG c side t, rfl, rfl, .inr ?_, .inr ?_, ?_, ?_, .inr rfl, okm⟩) rfl) rfl)
    · show _ = Dt.lst (List.map Dt.int (_ ++ _))
      rw [List.map_append]; rfl
    · rw [List.map_map]
      show _ = Dt.lst (List.map rowL (_ ++ _))
      rw [List.map_append]; rfl
    · intro q hq
      obtain ⟨r, _, rfl⟩ := List.mem_map.mp hq
      exact rowL_is r
    · rw [List.map_map]
      exact (List.map_id' _).symm
end
end K70

set_option maxHeartbeats 4000000
namespace DL
open PySem PySem.Spec PyProof.Rows L2 Evl
section
variable {X : Cx} {δ : Sl} {os : Os} {e : Expr} {d : Dt} {pos : Pos}
/-- a field of an instance of one's own -/
theorem jp_fldO {Cl dx p : PySem.Addr} {fs : List (PySem.Str × Dt)} {f : PySem.Str} (h : JP X e δ os (.at p)) (hm : (p, Ob.ins Cl dx fs) ∈ os) (hc : Cls X.K Cl) (hn : NoAttr X.K Cl f) (hf : fs.lookup f = some d) (hb : attributeBase e f X.env (eval e X.env) = eval e X.env := by rfl) : JP X (.Attribute e f pos) δ os d := fun G H σ O E Q q =>
  wE_of (pe_fld pe_w hb) (h G H σ O E _ fun v G' H' g s => by
    have s : v = .ref p := s
    subst s
    obtain ⟨gp, ho, k1, vs, rfl, k3⟩ := (O.grow g).own _ hm
    obtain ⟨u, k4, k5⟩ := k3.get hf
    exact ⟨p, Cl, dx, vs, u, rfl, k1, hc, hn, k4, q u G' H' g k5⟩)
end
end DL
namespace K70
open PySem PySem.Spec PyProof.Rows L2 DL
local macro_rules | `(tactic| walk_at "mul") => `(tactic| first | exact .inl (by decide) | exact .inr (by decide) | exact .inl (by omega) | exact .inr (by omega))
local macro_rules | `(tactic| walk_at "pos") => `(tactic| first | assumption | decide | omega)
local macro_rules | `(tactic| walk_at "div") => `(tactic| first | exact ⟨by decide, by decide⟩ | exact ⟨by omega, by omega⟩)
local macro_rules | `(tactic| walk_at "pow") => `(tactic| exact ⟨by decide, by decide, by decide⟩)
local macro_rules | `(tactic| walk_at "side") => `(tactic| first | assumption | rfl | omega | decide)
local macro_rules | `(tactic| walk_at "lk") => `(tactic| first | exact .lst .l | exact .tup | exact .l)
local macro_rules | `(tactic| walk_at "it") => `(tactic| first | exact .lst | exact .tup)
local macro_rules | `(tactic| walk_at "len") => `(tactic| first | exact .lst .l | exact .tup | exact .scr)
local macro_rules | `(tactic| walk_at "ix") => `(tactic| first | exact .lst .l rfl | exact .tup rfl | exact .lst .l (by assumption) | exact .tup (by assumption) | exact .scr (by assumption))
local macro_rules | `(tactic| walk_at "dk") => `(tactic| exact .inl rfl)

section
variable {P : Program} {w : World} {K : PySem.W.Frag} {mg : Str → Option Value} {base : Heap}
def R_leg_fits (K : PySem.W.Frag) (ds : List Dt) (d : Dt) : Prop := ∃ (l : Lg), ds = [lgD K l] ∧ d = .bl true ∧ LgOk l
theorem D_leg_fits (T : Txt P w K mg base) : Def P w K mg base "leg_fits" ["leg"] 1 (spD K (R_leg_fits K)) := by
  obtain ⟨fd, F⟩ := T.d_leg_fits
  refine ⟨_, fd, T.g_leg_fits, F.kp, F.bindsN fun _ _ _ _ _ _ us hl => match us, hl with | [_], _ => rfl, fn_D F sc_leg_fits vi_leg_fits st_leg_fits (fun ds d h => ?_) (fun X hX C hr ds d h => ?_)⟩
  · obtain ⟨l, rfl, rfl, ok⟩ := h; rfl
  obtain ⟨rfl, rfl, rfl, rfl, rfl⟩ := hX
  obtain ⟨l, rfl, rfl, ok⟩ := h
  have a0 := ok.at0
  have a1 := ok.at1
  refine jb_cons (js_asg (ws := [1, 2, 3, 4, 5]) (jp_var C 0 rfl rfl rfl) (jg_tup C (jgs_cons (jg_name C 1) (jgs_cons (jg_name C 2) (jgs_cons (jg_name C 3) (jgs_cons (jg_name C 4) (jgs_cons (jg_name C 5) jgs_nil)))))) ?_)
  refine jb_cons (js_if (k := false) (JT.is (jt_w (jw_or (jt_cmp (jp_var C 2 rfl rfl rfl) jp_int jo_lt) (fun hk3 => (jw_or (jt_cmp (jp_var C 2 rfl rfl rfl) (jp_fld (jp_var C 1 rfl rfl rfl) T.cl_Game T.na_Game_size rfl) jo_ge) (fun hk2 => (jw_or1 (jt_w (jw_and (jt_cmp (jp_var C 3 rfl rfl rfl) jp_int jo_neI) (fun hk2 => (jw_and1 (jt_cmp (jp_var C 3 rfl rfl rfl) jp_int jo_neI))))))))))) ?_) (fun h => nomatch h) (fun _ => jb_nil ?_))
  · have : (!decide (l.white = 1) && !decide (l.white = 2)) = false := by rcases ok.wh with h | h <;> simp [h]
    simp only [Bool.or_eq_false_iff, decide_eq_false_iff_not]
    exact ⟨by omega, by omega, this⟩
  refine jb_cons (js_forM C [(0 : Int), 0] Dt.int (ws := [6]) (ji_X (jp_tup (ja_cons (jp_var C 4 rfl rfl rfl) (ja_cons (jp_var C 5 rfl rfl rfl) ja_nil))) (.tup)) (fun pre δ os => ∃ v6, δ = [some (lgD X.K l), some (gmD X.K l.g), some (.int l.at_), some (.int l.white), some (.int 0), some (.int 0), v6] ∧ os = []) ⟨_, rfl, rfl⟩ ?_ ?_)
  · rintro pre t post δ' os' e ⟨_, rfl, rfl⟩
    have ht : t = 0 := by
      have : t ∈ [(0 : Int), 0] := by rw [e]; simp
      simpa using this
    subst ht
    refine ⟨_, (jg_name C 6), ?_⟩
    exact jb_cons (js_if (k := false) (JT.is (jt_w (jw_or (jt_cmp (jp_var C 6 rfl rfl rfl) jp_int jo_lt) (fun hk2 => (jw_or1 (jt_cmp (jp_var C 6 rfl rfl rfl) (jp_gint C T.k_MOST_ADDED rfl) jo_gt))))) rfl) (fun h => nomatch h) (fun _ => jb_nil (jb_nil ⟨_, rfl, rfl⟩)))
  · rintro δ' os' ⟨_, rfl, rfl⟩
    exact jb_cons (js_ret jp_bl rfl)
def R_score_rows (ds : List Dt) (d : Dt) : Prop := ∃ (c : Ct), ds = [.int c.n, .int c.win, .int c.draw] ∧ d = .tup ((List.range (c.n + 1)).map (scD' c)) ∧ CtOk c
theorem D_score_rows (T : Txt P w K mg base) : Def P w K mg base "score_rows" ["count", "win", "draw"] 1 (spD K R_score_rows) := by
  obtain ⟨fd, F⟩ := T.d_score_rows
  refine ⟨_, fd, T.g_score_rows, F.kp, F.bindsN fun _ _ _ _ _ _ us hl => match us, hl with | [_, _, _], _ => rfl, fn_D F sc_score_rows vi_score_rows st_score_rows (fun ds d h => ?_) (fun X hX C hr ds d h => ?_)⟩
  · obtain ⟨c, rfl, rfl, ok⟩ := h; rfl
  obtain ⟨rfl, rfl, rfl, rfl, rfl⟩ := hX
  obtain ⟨c, rfl, rfl, ok⟩ := h
  have n3 := ok.n3
  refine jb_cons (js_set C 3 (jp_new (jn_lst (ja_cons jp_int ja_nil))) ?_)
  refine jb_cons (js_own C 4 (jn_lst (ja_cons (jp_tup (ja_cons jp_int ja_nil)) ja_nil)) fun p _ => ?_)
  refine jb_cons (js_forR C (c.n : Int) (ws := [5]) (ji_rangeN C T.f_range (jp_var C 0 rfl rfl rfl) (by omega) (by omega)) (fun i δ os => ∃ v5, δ = [some (.int c.n), some (.int c.win), some (.int c.draw), some (.lst ((scL c.win c.draw i).map .int)), some (.at p), v5, none, none] ∧ os = [(p, .lst ((List.range (i + 1)).map (scD' c)))]) ⟨_, rfl, rfl⟩ ?_ ?_)
  · rintro i δ' os' hi ⟨_, rfl, rfl⟩
    have hi : i < c.n := hi
    have hl := scL_len ok.win0 ok.win1 ok.draw0 ok.draw1 i
    refine ⟨_, (jg_name C 5), ?_⟩
    refine jb_cons (js_set C 3 (jp_new (jn_sortedSC C (scL c.win c.draw i) Dt.int [0, c.draw, c.win] Dt.int (fun t u => t + u) [("total", 6), ("more", 7)] [7] T.f_sorted (ns := scL c.win c.draw (i + 1)) (ji_X (jp_var C 3 rfl rfl rfl) (.lst)) ?_ (by show _ * 3 < 64; omega) (scL_asc _) ?_ (by decide) rfl rfl (by decide +kernel) rfl rfl)) ?_)
    · intro t ht
      refine ⟨_, fun u => _, fun X' hB C => ⟨(jg_name C 6), (ji_X (jp_tup (ja_cons jp_int (ja_cons (jp_var C 2 rfl rfl rfl) (ja_cons (jp_var C 1 rfl rfl rfl) ja_nil)))) (.tup)), fun u hu => ⟨(jg_name C 7), (jp_op (jp_var C 6 rfl rfl rfl) (jp_var C 7 rfl rfl rfl) jo_add)⟩⟩⟩
    · intro k
      rw [mem_scL ok.win0 ok.win1 ok.draw0 ok.draw1]
      constructor
      · rintro (h | ⟨y, h, e⟩ | ⟨y, h, e⟩)
        · exact ⟨k, h, 0, by simp, by simp⟩
        · exact ⟨y, h, c.win, by simp, e⟩
        · exact ⟨y, h, c.draw, by simp, e⟩
      · rintro ⟨y, h, u, hu, e⟩
        simp at hu
        rcases hu with rfl | rfl | rfl
        · exact .inl (by rw [← e, Int.add_zero]; exact h)
        · exact .inr (.inr ⟨y, h, e⟩)
        · exact .inr (.inl ⟨y, h, e⟩)
    refine jb_cons (js_append (jp_var C 4 rfl rfl rfl) List.mem_cons_self (jp_tupleX C T.f_tuple (jp_var C 3 rfl rfl rfl) (.lst .l)) (by simp; omega) (jb_nil ⟨_, rfl, ?_⟩))
    rw [List.range_succ (n := i + 1), List.map_append]; rfl
  · rintro δ' os' ⟨_, rfl, rfl⟩
    exact jb_cons (js_ret (jp_tupleX C T.f_tuple (jp_var C 4 rfl rfl rfl) (.lst (.o List.mem_cons_self))) rfl)
theorem ct_puts (a b c d e : Dt) : putD "_games" e (putD "_scores" d (putD "draw" c (putD "win" b (putD "legs" a [])))) = ([("legs", a), ("win", b), ("draw", c), ("_scores", d), ("_games", e)] : List (Str × Dt)) := by
  have h1 : ¬ ("legs" : Str) = "win" := by decide +kernel
  have h2 : ¬ ("legs" : Str) = "draw" := by decide +kernel
  have h3 : ¬ ("legs" : Str) = "_scores" := by decide +kernel
  have h4 : ¬ ("legs" : Str) = "_games" := by decide +kernel
  have h5 : ¬ ("win" : Str) = "draw" := by decide +kernel
  have h6 : ¬ ("win" : Str) = "_scores" := by decide +kernel
  have h7 : ¬ ("win" : Str) = "_games" := by decide +kernel
  have h8 : ¬ ("draw" : Str) = "_scores" := by decide +kernel
  have h9 : ¬ ("draw" : Str) = "_games" := by decide +kernel
  have h10 : ¬ ("_scores" : Str) = "_games" := by decide +kernel
  simp only [putD, h1, h2, h3, h4, h5, h6, h7, h8, h9, h10, if_false]
theorem ct_legs (a b c d : Dt) : (putD "_scores" d (putD "draw" c (putD "win" b (putD "legs" a [])))).lookup ("legs" : Str) = some a := by
  have h1 : ¬ ("legs" : Str) = "win" := by decide +kernel
  have h2 : ¬ ("legs" : Str) = "draw" := by decide +kernel
  have h3 : ¬ ("legs" : Str) = "_scores" := by decide +kernel
  simp only [putD, h1, h2, h3, if_false]
  rfl
/-- Match(legs, win, draw) -/
def R_Match_init (K : PySem.W.Frag) (ds : List Dt) (fs : List (Str × Dt)) : Prop := ∃ (c : Ct), ds = [.lst (c.legs.map (lgD K)), .int c.win, .int c.draw] ∧ fs = ctF K c ∧ CtOk c

theorem D_Match_init (T : Txt P w K mg base) : DefI P w K mg base (MC K) "Match" ["self", "legs", "win", "draw"] 7 (spI K (MC K) (R_Match_init K)) := by
  obtain ⟨fd, F⟩ := T.d_Match_init
  have hb : Binds K fd ["self", "legs", "win", "draw"] [] := by
    obtain ⟨ds, hv, hb⟩ := F.binds1 (ps := ["self", "legs", "win", "draw"]) 4 2 (by simp) rfl (fun T kV doc pm an cdv ct us its h1 h2 => match us, h1, its, h2 with | [_, _, _, _], _, [_, _], _ => ⟨_, rfl, rfl⟩)
    cases hv
    exact hb
  refine ⟨_, fd, T.g_Match, T.mk_Match, hb, fn_I F sc_Match_init vi_Match_init st_Match_init (fun ds fs h => ?_) (fun X hX C hr ds fs h p dx => ?_)⟩
  · obtain ⟨c, rfl, rfl, _⟩ := h; rfl
  obtain ⟨rfl, rfl, rfl, rfl, rfl⟩ := hX
  obtain ⟨c, rfl, rfl, ok⟩ := h
  have n1 := ok.n1
  have n3 := ok.n3
  have w0 := ok.win0
  have w1 := ok.win1
  have d0 := ok.draw0
  have d1 := ok.draw1
  have hln : ∀ {os : Os}, Lnd os (.lst (c.legs.map (lgD X.K))) (c.n : Int) := fun {os} => (Lnd.lst .l).is (by rw [List.length_map]; rfl)
  refine jb_cons (js_if (k := false) (JT.is (jt_w (jw_or (jt_cmp (jp_lenX C T.f_len (jp_var C 1 rfl rfl rfl) (hln)) jp_int jo_lt) (fun hk2 => (jw_or1 (jt_cmp (jp_lenX C T.f_len (jp_var C 1 rfl rfl rfl) (hln)) (jp_gint C T.k_MOST_LEGS rfl) jo_gt))))) (by simp; omega)) (fun h => nomatch h) (fun _ => jb_nil ?_))
  refine jb_cons (js_if (k := false) (JT.is (jt_w (jw_or (jt_cmp (jp_var C 2 rfl rfl rfl) jp_int jo_lt) (fun hk4 => (jw_or (jt_cmp (jp_var C 2 rfl rfl rfl) (jp_gint C T.k_MOST_WIN rfl) jo_gt) (fun hk3 => (jw_or (jt_cmp (jp_var C 3 rfl rfl rfl) jp_int jo_lt) (fun hk2 => (jw_or1 (jt_cmp (jp_var C 3 rfl rfl rfl) (jp_var C 2 rfl rfl rfl) jo_gt))))))))) (by simp; omega)) (fun h => nomatch h) (fun _ => jb_nil ?_))
  refine jb_cons (js_forR C (c.n : Int) (ws := [4]) (ji_rangeN C T.f_range (jp_lenX C T.f_len (jp_var C 1 rfl rfl rfl) (hln)) (by omega) (by omega)) (fun i δ os => ∃ v, δ = [some (.at p), some (.lst (c.legs.map (lgD X.K))), some (.int c.win), some (.int c.draw), v, none] ∧ os = [(p, .ins (MC X.K) dx [])]) ⟨_, rfl, rfl⟩ ?_ ?_)
  · rintro i δ' os' hi ⟨_, rfl, rfl⟩
    have hi : i < c.n := hi
    have hat := CtOk.lg_at (c := c) (k := (i : Int)) (by omega) (by omega)
    refine ⟨_, (jg_name C 4), ?_⟩
    exact jb_cons (js_if (k := false) (JT.is (jt_not (jt_val (jp_call C (D_leg_fits T) (hr.mono (by decide)) (ja_cons (jp_ix (jp_var C 1 rfl rfl rfl) (jp_var C 4 rfl rfl rfl) (.lst .l (at_map (by omega) hat))) ja_nil) (⟨_, rfl, rfl, ok.lgOk (by omega) (by omega)⟩) rfl))) rfl) (fun h => nomatch h) (fun _ => jb_nil (jb_nil ⟨_, rfl, rfl⟩)))
  · rintro δ' os' ⟨_, rfl, rfl⟩
    refine jb_cons (js_fld (d := .tup (c.legs.map (lgD X.K))) (JP.is (jp_tupleX C T.f_tuple (jp_new (jn_lc C (c.legs) (lgD X.K) (fun _ => true) (lgD X.K) [("leg", 5)] (ji_X (jp_var C 1 rfl rfl rfl) (.lst)) (?_) (by show c.n < 100000; omega) rfl rfl (by decide +kernel) rfl)) (.lst .l)) (by rw [outs_all])) (jp_var C 0 rfl rfl rfl) List.mem_cons_self T.cl_Match T.na_Match_legs (by simp) ?_)
    · rintro l hl
      refine ⟨_, fun X' hB C => ⟨(jg_name C 5), jfs_nil, fun _ => ?_⟩⟩
      have T := hB.tx (M := Txt) T
      exact (jp_tupleX C T.f_tuple (jp_var C 5 rfl rfl rfl) (.tup))
    refine jb_cons (js_fld (jp_var C 2 rfl rfl rfl) (jp_var C 0 rfl rfl rfl) List.mem_cons_self T.cl_Match T.na_Match_win (Nat.lt_of_le_of_lt (putD_le (Nat.le_refl _)) (by decide)) ?_)
    refine jb_cons (js_fld (jp_var C 3 rfl rfl rfl) (jp_var C 0 rfl rfl rfl) List.mem_cons_self T.cl_Match T.na_Match_draw (Nat.lt_of_le_of_lt (putD_le (putD_le (Nat.le_refl _))) (by decide)) ?_)
    refine jb_cons (js_fld (jp_call C (D_score_rows T) (hr.mono (by decide)) (ja_cons (jp_lenX C T.f_len (jp_var C 1 rfl rfl rfl) (hln)) (ja_cons (jp_var C 2 rfl rfl rfl) (ja_cons (jp_var C 3 rfl rfl rfl) ja_nil))) (⟨c, rfl, rfl, ok⟩) rfl) (jp_var C 0 rfl rfl rfl) List.mem_cons_self T.cl_Match T.na_Match_scores (Nat.lt_of_le_of_lt (putD_le (putD_le (putD_le (Nat.le_refl _)))) (by decide)) ?_)
    refine jb_cons (js_fld (d := .tup (c.legs.map fun l => gmD X.K l.seen)) (JP.is (jp_tupleX C T.f_tuple (jp_new (jn_lc C c.legs (lgD X.K) (fun _ => true) (fun l => gmD X.K l.seen) [("leg", 5)] (ji_X (jp_fldO (jp_var C 0 rfl rfl rfl) List.mem_cons_self T.cl_Match T.na_Match_legs (ct_legs _ _ _ _)) .tup) ?_ (by show c.n < 100000; omega) rfl rfl (by decide +kernel) rfl)) (.lst .l)) (by rw [outs_all])) (jp_var C 0 rfl rfl rfl) List.mem_cons_self T.cl_Match T.na_Match_games (Nat.lt_of_le_of_lt (putD_le (putD_le (putD_le (putD_le (Nat.le_refl _))))) (by decide)) (jb_nil ?_))
    · rintro l hl
      refine ⟨_, fun X' hB C => ⟨(jg_name C 5), jfs_nil, fun _ => ?_⟩⟩
      have T := hB.tx (M := Txt) T
      have hr := hB.rm hr
      refine jp_if (jt_cmp (jp_ix (jp_var C 5 rfl rfl rfl) jp_int (.tup rfl)) jp_int jo_eqI) (fun h => JP.is (jp_ix (jp_var C 5 rfl rfl rfl) jp_int (.tup rfl)) (by unfold Lg.seen; rw [if_pos (of_decide_eq_true h)])) (fun h => JP.is (jp_meth0 T.cl_Game (D_Game_turned T) (hr.mono (by decide)) (JP.is (jp_ix (jp_var C 5 rfl rfl rfl) jp_int (.tup rfl)) (by rw [← hB.K]; rfl)) rfl ⟨l.g, rfl, rfl, (ok.legs l hl).hg.ok⟩) (by unfold Lg.seen; rw [if_neg (of_decide_eq_false h), hB.K]))
    · rw [ct_puts]
      exact List.mem_cons_self
end
end K70

set_option maxHeartbeats 4000000
namespace DL
open PySem PySem.Spec PyProof.Rows L2
theorem sw_cell {elt : Expr} {gs : List Comprehension} {scope : Scope} {pos py : Pos} {y : PySem.Str} {l : Nat} {env : Env} (hy : env.scope.names.lookup y = some .cell) : swapsWith (.ListComp elt gs scope pos) (some (.Name y py)) l env = pure false := by
  have ky : env.kindOf y = some .cell := hy
  unfold swapsWith
  simp only [ky]
  have : (some NameKind.cell == some NameKind.local) = false := rfl
  simp only [this, Bool.and_false, Bool.false_and]
end DL
namespace K70
open PySem PySem.Spec PyProof.Rows L2 DL
local macro_rules | `(tactic| walk_at "mul") => `(tactic| first | exact .inl (by decide) | exact .inr (by decide) | exact .inl (by omega) | exact .inr (by omega))
local macro_rules | `(tactic| walk_at "pos") => `(tactic| first | assumption | decide | omega)
local macro_rules | `(tactic| walk_at "div") => `(tactic| first | exact ⟨by decide, by decide⟩ | exact ⟨by omega, by omega⟩)
local macro_rules | `(tactic| walk_at "pow") => `(tactic| exact ⟨by decide, by decide, by decide⟩)
local macro_rules | `(tactic| walk_at "side") => `(tactic| first | assumption | rfl | omega | decide)
local macro_rules | `(tactic| walk_at "lk") => `(tactic| first | exact .lst .l | exact .tup | exact .l)
local macro_rules | `(tactic| walk_at "it") => `(tactic| first | exact .lst | exact .tup)
local macro_rules | `(tactic| walk_at "len") => `(tactic| first | exact .lst .l | exact .tup | exact .scr)
local macro_rules | `(tactic| walk_at "ix") => `(tactic| first | exact .lst .l rfl | exact .tup rfl | exact .lst .l (by assumption) | exact .tup (by assumption) | exact .scr (by assumption))
local macro_rules | `(tactic| walk_at "dk") => `(tactic| exact .inl rfl)

/-! ### the law's numbers -/
def cellOf (ns : List Int) (k : Int) : Int := ns.getD k.toNat 0
def absI (i : Int) : Int := if i < 0 then -i else i
def mixed (cell salt : Int) (k : Nat) : Int :=
  let m1 := (absI cell + salt * 7919 + (k : Int) * 104729 + 17) % 2147483647
  let m2 := (m1 * 48271 + 5) % 2147483647
  (m2 * m2 + m2 * 69621 + (k : Int) * 31) % 2147483629
def numStep (cell salt many : Int) (acc : List Int × Int) (k : Nat) : List Int × Int :=
  if decide (10 ^ 18 ≤ absI cell) = true ∧ 0 < acc.2 then (acc.1 ++ [acc.2 % many], acc.2 / many) else (acc.1 ++ [mixed cell salt k / 7 % many], acc.2)
def numsTo (cell salt many : Int) (n : Nat) : List Int × Int := (List.range n).foldl (numStep cell salt many) ([], absI cell)
def numsOf (cell salt many : Int) (n : Nat) : List Int := (numsTo cell salt many n).1
theorem numsTo_succ (cell salt many : Int) (n : Nat) : numsTo cell salt many (n + 1) = numStep cell salt many (numsTo cell salt many n) n := by
  unfold numsTo
  rw [List.range_succ, List.foldl_append]; rfl
theorem numsTo_ok {cell salt many : Int} (hm : 0 < many) : ∀ n : Nat, (numsTo cell salt many n).1.length = n ∧ ∀ x ∈ (numsTo cell salt many n).1, 0 ≤ x ∧ x < many
  | 0 => ⟨rfl, fun _ h => nomatch h⟩
  | n + 1 => by
    obtain ⟨h1, h2⟩ := numsTo_ok (cell := cell) (salt := salt) hm n
    rw [numsTo_succ]
    unfold numStep
    have hb : ∀ y : Int, 0 ≤ y % many ∧ y % many < many := fun y => ⟨Int.emod_nonneg _ (by omega), Int.emod_lt_of_pos _ hm⟩
    split
    · refine ⟨by simp [h1], fun x hx => ?_⟩
      rcases List.mem_append.mp hx with hx | hx
      · exact h2 x hx
      · rw [List.mem_singleton.mp hx]; exact hb _
    · refine ⟨by simp [h1], fun x hx => ?_⟩
      rcases List.mem_append.mp hx with hx | hx
      · exact h2 x hx
      · rw [List.mem_singleton.mp hx]; exact hb _
theorem numsOf_len {cell salt many : Int} (hm : 0 < many) (n : Nat) : (numsOf cell salt many n).length = n := (numsTo_ok hm n).1
theorem numsOf_at {cell salt many : Int} (hm : 0 < many) {n : Nat} {k : Int} (h0 : 0 ≤ k) (h1 : k < n) : ∃ x, atI ((numsOf cell salt many n).map Dt.int) k = some (.int x) ∧ x = (numsOf cell salt many n).getD k.toNat 0 ∧ 0 ≤ x ∧ x < many := by
  have hl := numsOf_len (cell := cell) (salt := salt) hm n
  refine ⟨_, at_getD h0 (by rw [hl]; exact h1), rfl, ?_⟩
  refine (numsTo_ok (cell := cell) (salt := salt) hm n).2 _ ?_
  show (numsOf cell salt many n).getD k.toNat 0 ∈ numsOf cell salt many n
  rw [List.getD_eq_getElem?_getD, List.getElem?_eq_getElem (by omega)]
  exact List.getElem_mem _
section
variable {P : Program} {w : World} {K : PySem.W.Frag} {mg : Str → Option Value} {base : Heap}
def R_L_cell (ds : List Dt) (d : Dt) : Prop := ∃ (ns : List Int) (k : Int), ds = [.scr (ns.map .int), .int k] ∧ d = .int (cellOf ns k) ∧ 0 ≤ k
theorem D_L_cell (T : Txt P w K mg base) : Def P w K mg base "_law_cell" ["script", "k"] 1 (spD K R_L_cell) := by
  obtain ⟨fd, F⟩ := T.d_L_cell
  refine ⟨_, fd, T.g_L_cell, F.kp, F.bindsN fun _ _ _ _ _ _ us hl => match us, hl with | [_, _], _ => rfl, fn_D F sc_L_cell vi_L_cell st_L_cell (fun ds d h => ?_) (fun X hX C hr ds d h => ?_)⟩
  · obtain ⟨ns, k, rfl, rfl, h0⟩ := h; rfl
  obtain ⟨rfl, rfl, rfl, rfl, rfl⟩ := hX
  obtain ⟨ns, k, rfl, rfl, h0⟩ := h
  have hl : ∀ {os : Os}, Lnd os (.scr (ns.map Dt.int)) (ns.length : Int) := fun {os} => Lnd.scr.is (by rw [List.length_map])
  refine jb_cons (js_if (jt_cmp (jp_var C 1 rfl rfl rfl) (jp_lenX C T.f_len (jp_var C 0 rfl rfl rfl) (hl)) jo_lt) (fun h => ?_) (fun h => jb_nil ?_))
  · have h := of_decide_eq_true h
    exact jb_cons (js_ret (jp_ix (jp_var C 0 rfl rfl rfl) (jp_var C 1 rfl rfl rfl) (.scr (at_getD h0 h))) rfl)
  · have h := of_decide_eq_false h
    refine jb_cons (js_ret jp_int ?_)
    show _ = Dt.int (ns.getD k.toNat 0)
    rw [List.getD_eq_getElem?_getD, List.getElem?_eq_none (by omega)]; rfl
def R_L_numbers (ds : List Dt) (d : Dt) : Prop := ∃ (cell salt many : Int) (n : Nat), ds = [.int cell, .int salt, .int n, .int many] ∧ d = .lst ((numsOf cell salt many n).map .int) ∧ n ≤ 1000 ∧ 0 < many ∧ many ≤ 10000 ∧ 0 ≤ salt ∧ salt ≤ 1000
theorem D_L_numbers (T : Txt P w K mg base) : Def P w K mg base "_law_numbers" ["cell", "salt", "count", "many"] 1 (spD K R_L_numbers) := by
  obtain ⟨fd, F⟩ := T.d_L_numbers
  refine ⟨_, fd, T.g_L_numbers, F.kp, F.bindsN fun _ _ _ _ _ _ us hl => match us, hl with | [_, _, _, _], _ => rfl, fn_D F sc_L_numbers vi_L_numbers st_L_numbers (fun ds d h => ?_) (fun X hX C hr ds d h => ?_)⟩
  · obtain ⟨cell, salt, many, n, rfl, rfl, hn, m0, m1, s0, s1⟩ := h; rfl
  obtain ⟨rfl, rfl, rfl, rfl, rfl⟩ := hX
  obtain ⟨cell, salt, many, n, rfl, rfl, hn, m0, m1, s0, s1⟩ := h
  refine jb_cons (js_own C 4 (jn_lst ja_nil) fun p _ => ?_)
  refine jb_cons (js_set C 5 (jp_abs C T.f_abs (jp_var C 0 rfl rfl rfl)) ?_)
  refine jb_cons (js_set C 6 (jp_cmp (jp_var C 5 rfl rfl rfl) (jp_op jp_int jp_int (jo_pow (by walk_at "pow"))) jo_ge) ?_)
  refine jb_cons (js_forR C (n : Int) (ws := [7]) (ji_rangeN C T.f_range (jp_var C 2 rfl rfl rfl) (by omega) (by omega)) (fun i δ os => ∃ v7 v8, δ = [some (.int cell), some (.int salt), some (.int n), some (.int many), some (.at p), some (.int (numsTo cell salt many i).2), some (.bl (decide (10 ^ 18 ≤ absI cell))), v7, v8] ∧ os = [(p, .lst ((numsTo cell salt many i).1.map .int))]) ⟨_, _, rfl, rfl⟩ ?_ ?_)
  · rintro i δ' os' hi ⟨_, _, rfl, rfl⟩
    have hi : i < n := hi
    have hl := (numsTo_ok (cell := cell) (salt := salt) m0 i).1
    rw [numsTo_succ]
    generalize numsTo cell salt many i = acc at hl
    unfold numStep
    refine ⟨_, (jg_name C 7), ?_⟩
    refine jb_cons (js_if (k := decide (decide (10 ^ 18 ≤ absI cell) = true ∧ 0 < acc.2)) (JT.is (jt_w (jw_and (jt_val (jp_var C 6 rfl rfl rfl)) (fun hk2 => (jw_and1 (jt_cmp (jp_var C 5 rfl rfl rfl) jp_int jo_gt))))) (by simp)) (fun h => ?_) (fun h => ?_))
    · rw [if_pos (of_decide_eq_true h)]
      refine jb_cons (js_append (jp_var C 4 rfl rfl rfl) List.mem_cons_self (jp_op (jp_toint C T.f_int (jp_var C 5 rfl rfl rfl)) (jp_var C 3 rfl rfl rfl) (jo_mod (by walk_at "pos"))) (by rw [List.length_map]; omega) ?_)
      refine jb_cons (js_set C 5 (jp_op (jp_var C 5 rfl rfl rfl) (jp_var C 3 rfl rfl rfl) (jo_div (by walk_at "div"))) (jb_nil (jb_nil ⟨_, _, rfl, ?_⟩)))
      rw [List.map_append]; rfl
    · rw [if_neg (of_decide_eq_false h)]
      refine jb_cons (js_set C 8 (jp_op (jp_toint C T.f_int (jp_op (jp_op (jp_op (jp_abs C T.f_abs (jp_var C 0 rfl rfl rfl)) (jp_op (jp_var C 1 rfl rfl rfl) jp_int (jo_mul (by walk_at "mul"))) jo_add) (jp_op (jp_var C 7 rfl rfl rfl) jp_int (jo_mul (by walk_at "mul"))) jo_add) jp_int jo_add)) jp_int (jo_mod (by walk_at "pos"))) ?_)
      refine jb_cons (js_set C 8 (jp_op (jp_toint C T.f_int (jp_op (jp_op (jp_var C 8 rfl rfl rfl) jp_int (jo_mul (by walk_at "mul"))) jp_int jo_add)) jp_int (jo_mod (by walk_at "pos"))) ?_)
      have b : ∀ y : Int, 0 ≤ y % 2147483647 ∧ y % 2147483647 < 2147483647 := fun y => ⟨Int.emod_nonneg _ (by omega), Int.emod_lt_of_pos _ (by omega)⟩
      have b2 := b ((absI cell + salt * 7919 + (i : Int) * 104729 + 17) % 2147483647 * 48271 + 5)
      unfold absI at b2
      refine jb_cons (js_set C 8 (jp_op (jp_toint C T.f_int (jp_op (jp_op (jp_op (jp_var C 8 rfl rfl rfl) (jp_var C 8 rfl rfl rfl) (jo_mul (.inl ⟨by omega, by omega⟩))) (jp_op (jp_var C 8 rfl rfl rfl) jp_int (jo_mul (by walk_at "mul"))) jo_add) (jp_op (jp_var C 7 rfl rfl rfl) jp_int (jo_mul (by walk_at "mul"))) jo_add)) jp_int (jo_mod (by walk_at "pos"))) ?_)
      refine jb_cons (js_append (jp_var C 4 rfl rfl rfl) List.mem_cons_self (jp_op (jp_toint C T.f_int (jp_op (jp_var C 8 rfl rfl rfl) jp_int (jo_div (by walk_at "div")))) (jp_var C 3 rfl rfl rfl) (jo_mod (by walk_at "pos"))) (by rw [List.length_map]; omega) (jb_nil (jb_nil ⟨_, _, rfl, ?_⟩)))
      rw [List.map_append]; rfl
  · rintro δ' os' ⟨_, _, rfl, rfl⟩
    exact jb_cons (js_retO (jp_var C 4 rfl rfl rfl) List.mem_cons_self rfl)
def R_L_is (ds : List Dt) (d : Dt) : Prop := ∃ a e : Option Int, ds = [oi a, oi e] ∧ d = .bl (decide (a = e))
theorem D_L_is (T : Txt P w K mg base) : Def P w K mg base "_law_is" ["actual", "expected"] 1 (spD K R_L_is) := by
  obtain ⟨fd, F⟩ := T.d_L_is
  refine ⟨_, fd, T.g_L_is, F.kp, F.bindsN fun _ _ _ _ _ _ us hl => match us, hl with | [_, _], _ => rfl, fn_D F sc_L_is vi_L_is st_L_is (fun ds d h => ?_) (fun X hX C hr ds d h => ?_)⟩
  · obtain ⟨a, e, rfl, rfl⟩ := h; rfl
  obtain ⟨rfl, rfl, rfl, rfl, rfl⟩ := hX
  obtain ⟨a, e, rfl, rfl⟩ := h
  cases e with
  | none =>
    refine jb_cons (js_if (k := true) (jt_cmp (jp_var C 1 rfl rfl rfl) jp_non jo_is) (fun _ => ?_) (fun h => nomatch h))
    exact jb_cons (js_ret (jp_cmp (jp_var C 0 rfl rfl rfl) jp_non jo_is) (by cases a <;> rfl))
  | some e =>
    refine jb_cons (js_if (k := false) (jt_cmp (jp_var C 1 rfl rfl rfl) jp_non jo_is) (fun h => nomatch h) (fun _ => jb_nil ?_))
    cases a with
    | none => exact jb_cons (js_ret (d := .bl false) (jp_and (k := false) (m := true) (jp_isi (T := "int") C T.f_isinstance (jp_var C 0 rfl rfl rfl) T.f_int (by decide +kernel) rfl) (fun h => nomatch h)) rfl)
    | some a => exact jb_cons (js_ret (jp_and (jp_isi (T := "int") C T.f_isinstance (jp_var C 0 rfl rfl rfl) T.f_int (by decide +kernel) rfl) (fun hk3 => (jp_and (jp_not (jp_isi (T := "bool") C T.f_isinstance (jp_var C 0 rfl rfl rfl) T.f_bool (by decide +kernel) rfl)) (fun hk2 => (jp_one (jp_cmp (jp_var C 0 rfl rfl rfl) (jp_var C 1 rfl rfl rfl) jo_eqI)))))) (congrArg Dt.bl (by show (true && (!false && decide (a = e))) = decide (some a = some e); simp)))
/-! ### games as the law writes them -/
def blD (g : Gm) : Dt := .lst [.lst (g.marks.map .int), .lst (g.moves.map rowL), .lst (g.safe.map .int)]
def R_L_made (K : PySem.W.Frag) (ds : List Dt) (d : Dt) : Prop := ∃ (g : Gm), ds = [blD g] ∧ d = gmD K g ∧ GmOk g
theorem D_L_made (T : Txt P w K mg base) : Def P w K mg base "_law_made" ["built"] 6 (spD K (R_L_made K)) := by
  obtain ⟨fd, F⟩ := T.d_L_made
  refine ⟨_, fd, T.g_L_made, F.kp, F.bindsN fun _ _ _ _ _ _ us hl => match us, hl with | [_], _ => rfl, fn_D F sc_L_made vi_L_made st_L_made (fun ds d h => ?_) (fun X hX C hr ds d h => ?_)⟩
  · obtain ⟨g, rfl, rfl, ok⟩ := h; rfl
  obtain ⟨rfl, rfl, rfl, rfl, rfl⟩ := hX
  obtain ⟨g, rfl, rfl, ok⟩ := h
  have hl : g.moves.length < 100000 := by have := ok.len; have := ok.top; omega
  refine jb_cons (js_ret (jp_make C (D_Game_init T) (hr.mono (by decide)) (ja_cons (jp_new (jn_listX C T.f_list (jp_ix (jp_var C 0 rfl rfl rfl) jp_int (.lst .l rfl)) (.lst .l))) (ja_cons (jp_new (jn_lc C (g.moves) (rowL) (fun _ => true) (rowL) [("row", 1)] (ji_X (jp_ix (jp_var C 0 rfl rfl rfl) jp_int (.lst .l rfl)) (.lst)) (?_) (hl) rfl rfl (by decide +kernel) rfl)) (ja_cons (jp_new (jn_listX C T.f_list (jp_ix (jp_var C 0 rfl rfl rfl) jp_int (.lst .l rfl)) (.lst .l))) ja_nil))) (⟨_, _, _, g.moves.map fun r => (rowL r, r), g, rfl, rfl, .inr rfl, .inr (by rw [outs_all, List.map_map]; rfl), fun q hq => ?_, by rw [List.map_map]; exact (List.map_id' _).symm, .inr rfl, ok⟩) rfl) rfl)
  · intro r hr2
    refine ⟨_, fun X' hB C => ⟨(jg_name C 1), jfs_nil, fun _ => ?_⟩⟩
    have T := hB.tx (M := Txt) T
    exact (jp_new (jn_listX C T.f_list (jp_var C 1 rfl rfl rfl) (.lst .l)))
  · obtain ⟨r, _, rfl⟩ := List.mem_map.mp hq
    exact rowL_is r
def R_L_turned (ds : List Dt) (d : Dt) : Prop := ∃ (g : Gm), ds = [blD g] ∧ d = blD (turnG g) ∧ GmOk g
theorem D_L_turned (T : Txt P w K mg base) : Def P w K mg base "_law_turned" ["built"] 1 (spD K R_L_turned) := by
  obtain ⟨fd, F⟩ := T.d_L_turned
  refine ⟨_, fd, T.g_L_turned, F.kp, F.bindsN fun _ _ _ _ _ _ us hl => match us, hl with | [_], _ => rfl, fn_D F sc_L_turned vi_L_turned st_L_turned (fun ds d h => ?_) (fun X hX C hr ds d h => ?_)⟩
  · obtain ⟨g, rfl, rfl, ok⟩ := h; rfl
  obtain ⟨rfl, rfl, rfl, rfl, rfl⟩ := hX
  obtain ⟨g, rfl, rfl, ok⟩ := h
  have hl : g.marks.length < 100000 := by have : g.marks.length ≤ 1000 := ok.top; omega
  refine jb_cons (js_ret (jp_new (jn_lst (ja_cons (jp_new (jn_lc C (g.marks) (Dt.int) (fun _ => true) (fun m => .int (turnM m)) [("mark", 1)] (ji_X (jp_ix (jp_var C 0 rfl rfl rfl) jp_int (.lst .l rfl)) (.lst)) (?_) (hl) rfl rfl (by decide +kernel) rfl)) (ja_cons (jp_ix (jp_var C 0 rfl rfl rfl) jp_int (.lst .l rfl)) (ja_cons (jp_ix (jp_var C 0 rfl rfl rfl) jp_int (.lst .l rfl)) ja_nil))))) ?_)
  · intro m hm
    refine ⟨_, fun X' hB C => ⟨(jg_name C 1), jfs_nil, fun _ => ?_⟩⟩
    have T := hB.tx (M := Txt) T
    obtain ⟨i, hi, e⟩ := List.mem_iff_getElem.mp hm
    have hmk : 1 ≤ m ∧ m ≤ 5 := by
      have h1 := ok.mark_in (p := (i : Int)) (by omega) (by show (i : Int) < (g.marks.length : Int); omega)
      have h2 : g.mark (i : Int) = m := by
        show g.marks.getD ((i : Int)).toNat 0 = m
        rw [List.getD_eq_getElem?_getD, Int.toNat_natCast, List.getElem?_eq_getElem hi, e]; rfl
      rw [h2] at h1; exact h1
    exact (jp_ix (jp_new (jn_lst (ja_cons jp_int (ja_cons jp_int (ja_cons jp_int (ja_cons jp_int (ja_cons jp_int (ja_cons jp_int ja_nil)))))))) (jp_var C 1 rfl rfl rfl) (.lst .l (turnM_in hmk)))
  · rw [outs_all]
    show Dt.lst [_, _, _] = Dt.lst [.lst ((g.marks.map turnM).map .int), _, _]
    rw [List.map_map]; rfl
def lgL (l : Lg) : Dt := .lst [blD l.g, .int l.at_, .int l.white, .lst [.int 0, .int 0]]
def cnD (c : Ct) : Dt := .lst [.lst (c.legs.map lgL), .int c.win, .int c.draw]
def R_L_seen (ds : List Dt) (d : Dt) : Prop := ∃ (l : Lg), ds = [lgL l] ∧ d = blD l.seen ∧ LgOk l
theorem D_L_seen (T : Txt P w K mg base) : Def P w K mg base "_law_seen" ["leg"] 2 (spD K R_L_seen) := by
  obtain ⟨fd, F⟩ := T.d_L_seen
  refine ⟨_, fd, T.g_L_seen, F.kp, F.bindsN fun _ _ _ _ _ _ us hl => match us, hl with | [_], _ => rfl, fn_D F sc_L_seen vi_L_seen st_L_seen (fun ds d h => ?_) (fun X hX C hr ds d h => ?_)⟩
  · obtain ⟨l, rfl, rfl, ok⟩ := h; rfl
  obtain ⟨rfl, rfl, rfl, rfl, rfl⟩ := hX
  obtain ⟨l, rfl, rfl, ok⟩ := h
  unfold Lg.seen
  refine jb_cons (js_ret (jp_if (jt_cmp (jp_ix (jp_var C 0 rfl rfl rfl) jp_int (.lst .l rfl)) jp_int jo_eqI) (fun h => JP.is (jp_ix (jp_var C 0 rfl rfl rfl) jp_int (.lst .l rfl)) (d' := blD (if l.white = 1 then l.g else turnG l.g)) (by rw [if_pos (of_decide_eq_true h)])) (fun h => JP.is (jp_call C (D_L_turned T) (hr.mono (by decide)) (ja_cons (jp_ix (jp_var C 0 rfl rfl rfl) jp_int (.lst .l rfl)) ja_nil) (⟨l.g, rfl, rfl, ok.hg.ok⟩) rfl) (by rw [if_neg (of_decide_eq_false h)]))) rfl)
def worthL (c : Ct) (side o : Int) : Int := if o = side then c.win else if o = 0 then c.draw else 0
def R_L_worth (ds : List Dt) (d : Dt) : Prop := ∃ (c : Ct) (side o : Int), ds = [cnD c, .int side, .int o] ∧ d = .int (worthL c side o)
theorem D_L_worth (T : Txt P w K mg base) : Def P w K mg base "_law_worth" ["contest", "side", "outcome"] 1 (spD K R_L_worth) := by
  obtain ⟨fd, F⟩ := T.d_L_worth
  refine ⟨_, fd, T.g_L_worth, F.kp, F.bindsN fun _ _ _ _ _ _ us hl => match us, hl with | [_, _, _], _ => rfl, fn_D F sc_L_worth vi_L_worth st_L_worth (fun ds d h => ?_) (fun X hX C hr ds d h => ?_)⟩
  · obtain ⟨c, side, o, rfl, rfl⟩ := h; rfl
  obtain ⟨rfl, rfl, rfl, rfl, rfl⟩ := hX
  obtain ⟨c, side, o, rfl, rfl⟩ := h
  unfold worthL
  refine jb_cons (js_if (jt_cmp (jp_var C 2 rfl rfl rfl) (jp_var C 1 rfl rfl rfl) jo_eqI) (fun h => ?_) (fun h => jb_nil ?_))
  · rw [if_pos (of_decide_eq_true h)]
    exact jb_cons (js_ret (jp_ix (jp_var C 0 rfl rfl rfl) jp_int (.lst .l rfl)) rfl)
  · rw [if_neg (of_decide_eq_false h)]
    exact jb_cons (js_ret (jp_if (jt_cmp (jp_var C 2 rfl rfl rfl) jp_int jo_eqI) (fun h => JP.is (jp_ix (jp_var C 0 rfl rfl rfl) jp_int (.lst .l rfl)) (d' := .int (if o = 0 then c.draw else 0)) (by rw [if_pos (of_decide_eq_true h)])) (fun h => JP.is jp_int (by rw [if_neg (of_decide_eq_false h)]))) rfl)
theorem maxI_mem {l : List Int} (h : l ≠ []) (h0 : ∀ x ∈ l, 0 ≤ x) : maxI l ∈ l := by
  rcases foldmx_mem (l := l) (a := 0) with e | e
  · cases l with
    | nil => exact absurd rfl h
    | cons x l =>
      have a := h0 x List.mem_cons_self
      have b := (foldmx_ge (l := x :: l) (a := 0)).2 x List.mem_cons_self
      unfold maxI
      rw [e] at b ⊢
      have : x = 0 := by omega
      rw [this]; exact List.mem_cons_self
  · exact e
theorem scL_ne {win draw : Int} (w1 : 1 ≤ win) (w9 : win ≤ 9) (d0 : 0 ≤ draw) (d1 : draw ≤ win) : ∀ k : Nat, scL win draw k ≠ []
  | 0 => by simp [scL]
  | k + 1 => by
    obtain ⟨x, hx⟩ := List.exists_mem_of_ne_nil _ (scL_ne w1 w9 d0 d1 k)
    intro e
    have := (mem_scL w1 w9 d0 d1 k x).mpr (.inl hx)
    rw [e] at this
    cases this
theorem scNext_len (win draw : Int) (l : List Int) : (scNext win draw l).length = 3 * l.length := by
  unfold scNext
  simp; omega
def R_L_scores (ds : List Dt) (d : Dt) : Prop := ∃ (c : Ct) (k : Int), ds = [cnD c, .int k] ∧ d = .lst ((c.sc k).map .int) ∧ CtOk c ∧ 0 ≤ k ∧ k ≤ 3
theorem D_L_scores (T : Txt P w K mg base) : Def P w K mg base "_law_scores" ["contest", "leg"] 1 (spD K R_L_scores) := by
  obtain ⟨fd, F⟩ := T.d_L_scores
  refine ⟨_, fd, T.g_L_scores, F.kp, F.bindsN fun _ _ _ _ _ _ us hl => match us, hl with | [_, _], _ => rfl, fn_D F sc_L_scores vi_L_scores st_L_scores (fun ds d h => ?_) (fun X hX C hr ds d h => ?_)⟩
  · obtain ⟨c, k, rfl, rfl, ok, h0, h1⟩ := h; rfl
  obtain ⟨rfl, rfl, rfl, rfl, rfl⟩ := hX
  obtain ⟨c, k, rfl, rfl, ok, h0, h1⟩ := h
  refine jb_cons (js_set C 2 (jp_new (jn_lst (ja_cons jp_int ja_nil))) ?_)
  refine jb_cons (js_forR C k (ws := [3]) (ji_rangeN C T.f_range (jp_var C 1 rfl rfl rfl) (by omega) (h0)) (fun i δ os => ∃ v3, δ = [some (cnD c), some (.int k), some (.lst ((scL c.win c.draw i).map .int)), v3, none] ∧ os = []) ⟨_, rfl, rfl⟩ ?_ ?_)
  · rintro i δ' os' hi ⟨_, rfl, rfl⟩
    have hi3 : i < 3 := by omega
    have hl := scL_len ok.win0 ok.win1 ok.draw0 ok.draw1 i
    have hne := scL_ne ok.win0 ok.win1 ok.draw0 ok.draw1 i
    have hb := scNext_pos ok.win0 ok.win1 ok.draw0 ok.draw1 i
    have hnl := scNext_len c.win c.draw (scL c.win c.draw i)
    have hmx := maxI_mem (l := scNext c.win c.draw (scL c.win c.draw i)) (fun e => hne (by rw [e] at hnl; simp at hnl; exact List.length_eq_zero_iff.mp (by omega))) fun x hx => (hb x hx).1
    have hmb := hb _ hmx
    refine ⟨_, (jg_name C 3), ?_⟩
    refine jb_cons (js_set C 2 (d := .lst ((scNext c.win c.draw (scL c.win c.draw i)).map .int)) (JP.is (jp_new (jn_op (jp_new (jn_op (jp_var C 2 rfl rfl rfl) (jp_new (jn_lc C (scL c.win c.draw i) (Dt.int) (fun _ => true) (fun s => .int (s + c.win)) [("score", 4)] (ji_X (jp_var C 2 rfl rfl rfl) (.lst)) (?_) (by omega) rfl rfl (by decide +kernel) rfl)) (jo_cat .l .l (by rw [outs_all, List.length_map, List.length_map]; omega)))) (jp_new (jn_lc C (scL c.win c.draw i) (Dt.int) (fun _ => true) (fun s => .int (s + c.draw)) [("score", 4)] (ji_X (jp_var C 2 rfl rfl rfl) (.lst)) (?_) (by omega) rfl rfl (by decide +kernel) rfl)) (jo_cat .l .l (by rw [outs_all, outs_all, List.length_append, List.length_map, List.length_map, List.length_map]; omega)))) (by rw [outs_all, outs_all]; unfold scNext; rw [List.map_append, List.map_append, List.map_map, List.map_map]; rfl)) ?_)
    · intro s hs
      refine ⟨_, fun X' hB C => ⟨(jg_name C 4), jfs_nil, fun _ => ?_⟩⟩
      exact (jp_op (jp_var C 4 rfl rfl rfl) (jp_ix (jp_var C 0 rfl rfl rfl) jp_int (.lst .l rfl)) jo_add)
    · intro s hs
      refine ⟨_, fun X' hB C => ⟨(jg_name C 4), jfs_nil, fun _ => ?_⟩⟩
      exact (jp_op (jp_var C 4 rfl rfl rfl) (jp_ix (jp_var C 0 rfl rfl rfl) jp_int (.lst .l rfl)) jo_add)
    refine jb_cons (js_set C 2 (jp_new (jn_lc C (List.range (maxI (scNext c.win c.draw (scL c.win c.draw i)) + 1).toNat) (fun (k : Nat) => Dt.int (k : Int)) (fun (s : Nat) => decide ((s : Int) ∈ scNext c.win c.draw (scL c.win c.draw i))) (fun (k : Nat) => Dt.int (k : Int)) [("score", 4)] (ji_rangeN C T.f_range (jp_op (jp_maxL C T.f_max (jp_var C 2 rfl rfl rfl) .l hmx (foldmx_ge).2) jp_int jo_add) (by omega) (by omega)) ?_ (by rw [List.length_range]; omega) rfl rfl (by decide +kernel) rfl)) (hs := sw_cell (by rw [C.hsc]; rfl)) (jb_nil ⟨some (.int (i : Int)), ?_, rfl⟩))
    · intro s hs
      refine ⟨_, fun X' hB C => ⟨(jg_name C 4), jfs_one (jt_cmp (jp_var C 4 rfl rfl rfl) (jp_var C 2 rfl rfl rfl) (JO.is (jo_in rfl (flat_ints _) .l) (by rw [inD_int]))), fun _ => ?_⟩⟩
      exact (jp_var C 4 rfl rfl rfl)
    · have : outs (List.range (maxI (scNext c.win c.draw (scL c.win c.draw i)) + 1).toNat) (fun (s : Nat) => decide ((s : Int) ∈ scNext c.win c.draw (scL c.win c.draw i))) (fun (k : Nat) => Dt.int (k : Int)) = (scL c.win c.draw (i + 1)).map .int := by
        show _ = (uniq _).map Dt.int
        unfold uniq upTo outs
        rw [List.filter_map, List.map_map]; rfl
      rw [this]; rfl
  · rintro δ' os' ⟨_, rfl, rfl⟩
    exact jb_cons (js_ret (jp_var C 2 rfl rfl rfl) rfl)
def flagOf (c : Ct) (g : Gm) (side t k s p : Int) : Bool := if g.mark p = side then decide (p ∈ g.safe) && decide (t ≤ s + c.draw) else decide (t ≤ byFlag c k s (decide (p ∈ g.safe)))
def R_L_flag (ds : List Dt) (d : Dt) : Prop := ∃ (c : Ct) (g : Gm) (side t k s p : Int), ds = [cnD c, blD g, .int side, .int t, .int k, .int s, .int p] ∧ d = .bl (flagOf c g side t k s p) ∧ CtOk c ∧ 0 ≤ p ∧ p < g.size ∧ 0 ≤ k ∧ k < c.n
theorem D_L_flag (T : Txt P w K mg base) : Def P w K mg base "_law_flag" ["contest", "built", "side", "target", "leg", "score", "position"] 1 (spD K R_L_flag) := by
  obtain ⟨fd, F⟩ := T.d_L_flag
  refine ⟨_, fd, T.g_L_flag, F.kp, F.bindsN fun _ _ _ _ _ _ us hl => match us, hl with | [_, _, _, _, _, _, _], _ => rfl, fn_D F sc_L_flag vi_L_flag st_L_flag (fun ds d h => ?_) (fun X hX C hr ds d h => ?_)⟩
  · obtain ⟨c, g, side, t, k, s, p, rfl, rfl, ok, p0, p1, k0, k1⟩ := h; rfl
  obtain ⟨rfl, rfl, rfl, rfl, rfl⟩ := hX
  obtain ⟨c, g, side, t, k, s, p, rfl, rfl, ok, p0, p1, k0, k1⟩ := h
  have w0 := ok.win0
  have w1 := ok.win1
  have hln : ∀ {os : Os}, Lnd os (.lst (c.legs.map lgL)) (c.n : Int) := fun {os} => (Lnd.lst .l).is (by rw [List.length_map]; rfl)
  refine jb_cons (js_set C 7 (jp_ix (jp_ix (jp_var C 1 rfl rfl rfl) jp_int (.lst .l rfl)) (jp_var C 6 rfl rfl rfl) (.lst .l (at_map p0 (GmOk.mark_at p0 p1)))) ?_)
  refine jb_cons (js_set C 8 (jp_cmp (jp_var C 6 rfl rfl rfl) (jp_ix (jp_var C 1 rfl rfl rfl) jp_int (.lst .l rfl)) (JO.is (jo_in rfl (flat_ints _) .l) (by rw [inD_int]))) ?_)
  unfold flagOf
  refine jb_cons (js_if (jt_cmp (jp_var C 7 rfl rfl rfl) (jp_var C 2 rfl rfl rfl) jo_eqI) (fun h => ?_) (fun h => jb_nil ?_))
  · rw [if_pos (of_decide_eq_true h)]
    exact jb_cons (js_ret (jp_and (jp_var C 8 rfl rfl rfl) (fun hk2 => (jp_one (jp_cmp (jp_op (jp_var C 5 rfl rfl rfl) (jp_ix (jp_var C 0 rfl rfl rfl) jp_int (.lst .l rfl)) jo_add) (jp_var C 3 rfl rfl rfl) jo_ge)))) rfl)
  · rw [if_neg (of_decide_eq_false h)]
    refine jb_cons (js_set C 9 (jp_op (jp_ix (jp_var C 0 rfl rfl rfl) jp_int (.lst .l rfl)) (jp_op (jp_op (jp_lenX C T.f_len (jp_ix (jp_var C 0 rfl rfl rfl) jp_int (.lst .l rfl)) (hln)) jp_int jo_sub) (jp_var C 4 rfl rfl rfl) jo_sub) (jo_mul (.inl (by omega)))) ?_)
    refine jb_cons (js_ret (jp_cmp (jp_op (jp_op (jp_var C 5 rfl rfl rfl) (jp_if (jt_val (jp_var C 8 rfl rfl rfl)) (fun h => JP.is (jp_ix (jp_var C 0 rfl rfl rfl) jp_int (.lst .l rfl)) (d' := .int (if decide (p ∈ g.safe) = true then c.draw else c.win)) (by rw [if_pos h])) (fun h => JP.is (jp_ix (jp_var C 0 rfl rfl rfl) jp_int (.lst .l rfl)) (by rw [if_neg (by rw [h]; exact Bool.false_ne_true)]))) jo_add) (jp_var C 9 rfl rfl rfl) jo_add) (jp_var C 3 rfl rfl rfl) jo_ge) rfl)
end
end K70

set_option maxHeartbeats 4000000
namespace K70
open PySem PySem.Spec PyProof.Rows L2 DL
local macro_rules | `(tactic| walk_at "mul") => `(tactic| first | exact .inl (by decide) | exact .inr (by decide) | exact .inl (by omega) | exact .inr (by omega))
local macro_rules | `(tactic| walk_at "pos") => `(tactic| first | assumption | decide | omega)
local macro_rules | `(tactic| walk_at "div") => `(tactic| first | exact ⟨by decide, by decide⟩ | exact ⟨by omega, by omega⟩)
local macro_rules | `(tactic| walk_at "pow") => `(tactic| exact ⟨by decide, by decide, by decide⟩)
local macro_rules | `(tactic| walk_at "side") => `(tactic| first | assumption | rfl | omega | decide)
local macro_rules | `(tactic| walk_at "lk") => `(tactic| first | exact .lst .l | exact .tup | exact .l)
local macro_rules | `(tactic| walk_at "it") => `(tactic| first | exact .lst | exact .tup)
local macro_rules | `(tactic| walk_at "len") => `(tactic| first | exact .lst .l | exact .tup | exact .scr)
local macro_rules | `(tactic| walk_at "ix") => `(tactic| first | exact .lst .l rfl | exact .tup rfl | exact .lst .l (by assumption) | exact .tup (by assumption) | exact .scr (by assumption))
local macro_rules | `(tactic| walk_at "dk") => `(tactic| exact .inl rfl)

/-! ### the games that the law draws -/
def mk9 (m : Int) : Int := if m < 6 then 1 + m % 2 else m - 3
theorem mk9_at {m : Int} (h0 : 0 ≤ m) (h1 : m < 9) : atI ([.int 1, .int 2, .int 1, .int 2, .int 1, .int 2, .int 3, .int 4, .int 5] : List Dt) m = some (.int (mk9 m)) := by
  have : m = 0 ∨ m = 1 ∨ m = 2 ∨ m = 3 ∨ m = 4 ∨ m = 5 ∨ m = 6 ∨ m = 7 ∨ m = 8 := by omega
  rcases this with rfl | rfl | rfl | rfl | rfl | rfl | rfl | rfl | rfl <;> rfl
theorem mk9_in {m : Int} (h0 : 0 ≤ m) (h1 : m < 9) : 1 ≤ mk9 m ∧ mk9 m ≤ 5 := by unfold mk9; split <;> omega
def wd (k : Int) : Str := if k = 0 then "a" else if k = 1 then "b2" else "c"
theorem wd_at {k : Int} (h0 : 0 ≤ k) (h1 : k < 3) : atI ([.str "a", .str "b2", .str "c"] : List Dt) k = some (.str (wd k)) := by
  have : k = 0 ∨ k = 1 ∨ k = 2 := by omega
  rcases this with rfl | rfl | rfl <;> rfl
theorem wd_ok (k : Int) : wordOk (wd k) := by
  unfold wd
  split
  · exact ⟨by decide +kernel, by decide +kernel, by decide +kernel⟩
  · split
    · exact ⟨by decide +kernel, by decide +kernel, by decide +kernel⟩
    · exact ⟨by decide +kernel, by decide +kernel, by decide +kernel⟩
theorem wd_nd {n : Nat} (h : n ≤ 3) : ((nats n).map wd).Nodup := by
  have : n = 0 ∨ n = 1 ∨ n = 2 ∨ n = 3 := by omega
  rcases this with rfl | rfl | rfl | rfl <;> decide +kernel
def pOf (parts : List Int) (i : Nat) : List Int := (parts.drop (12 * i)).take 12
def pa (parts : List Int) (i : Nat) (j : Int) : Int := (pOf parts i).getD j.toNat 0
def ladMark (parts : List Int) (sz i : Nat) : Int := if i + 1 = sz then 3 + pa parts i 0 % 3 else if i = 0 then 1 + pa parts i 0 % 2 else mk9 (pa parts i 0 % 9)
def ladNeed (parts : List Int) (i : Nat) (k : Int) : Int := pa parts i (2 + 3 * k) % 4
def ladLost (parts : List Int) (i : Nat) (k : Int) : Int := if pa parts i (3 + 3 * k) % 2 = 0 then ladNeed parts i k else pa parts i (3 + 3 * k) / 2 % (ladNeed parts i k + 1)
def ladMv (parts : List Int) (sz i : Nat) (k : Int) : Mv := (wd k, (i : Int) + 1 + pa parts i (4 + 3 * k) % ((sz : Int) - 1 - i), ladNeed parts i k, ladLost parts i k)
def ladCnt (parts : List Int) (i : Nat) : Int := 1 + pa parts i 1 % 3
def ladRow (parts : List Int) (sz i : Nat) : List Mv := if ladMark parts sz i < 3 then (nats (ladCnt parts i).toNat).map (ladMv parts sz i) else []
def ladSafe (parts : List Int) (sz i : Nat) : Bool := decide (ladMark parts sz i < 3) && decide (pa parts i 11 % 3 = 0)
def ladG (parts : List Int) (sz : Nat) : Gm := ⟨(List.range sz).map (ladMark parts sz), (List.range sz).map (ladRow parts sz), (nats sz).filter fun p => ladSafe parts sz p.toNat⟩
section
variable (parts : List Int) (sz i : Nat)
theorem ladG_size : (ladG parts sz).size = sz := by show ((List.range sz).map _).length = sz; rw [List.length_map, List.length_range]
theorem ladCnt_in : 1 ≤ ladCnt parts i ∧ ladCnt parts i ≤ 3 := by unfold ladCnt; omega
theorem ladMark_in : 1 ≤ ladMark parts sz i ∧ ladMark parts sz i ≤ 5 := by
  unfold ladMark
  split
  · omega
  · split
    · omega
    · exact mk9_in (Int.emod_nonneg _ (by decide)) (Int.emod_lt_of_pos _ (by decide))
variable {parts} {sz} {i}
theorem ladMark_lt (h : ladMark parts sz i < 3) : i + 1 ≠ sz := fun e => by
  unfold ladMark at h
  rw [if_pos e] at h
  omega
theorem ladNeed_in (k : Int) : 0 ≤ ladNeed parts i k ∧ ladNeed parts i k ≤ 3 := by unfold ladNeed; omega
theorem ladLost_in (k : Int) : 0 ≤ ladLost parts i k ∧ ladLost parts i k ≤ ladNeed parts i k := by
  have := ladNeed_in (parts := parts) (i := i) k
  unfold ladLost
  split
  · omega
  · have a := Int.emod_nonneg (pa parts i (3 + 3 * k) / 2) (show ladNeed parts i k + 1 ≠ 0 by omega)
    have b := Int.emod_lt_of_pos (pa parts i (3 + 3 * k) / 2) (show 0 < ladNeed parts i k + 1 by omega)
    omega
theorem ladMv_tg (hi : i + 1 < sz) (k : Int) : (i : Int) < (ladMv parts sz i k).2.1 ∧ (ladMv parts sz i k).2.1 < sz := by
  show (i : Int) < (i : Int) + 1 + _ % _ ∧ (i : Int) + 1 + _ % _ < sz
  have a := Int.emod_nonneg (pa parts i (4 + 3 * k)) (show (sz : Int) - 1 - i ≠ 0 by omega)
  have b := Int.emod_lt_of_pos (pa parts i (4 + 3 * k)) (show 0 < (sz : Int) - 1 - i by omega)
  omega
theorem ladRow_len : (ladRow parts sz i).length ≤ 3 := by
  unfold ladRow
  split
  · rw [List.length_map, nats_len]; have := ladCnt_in parts i; omega
  · decide
theorem ladRow_mem {m : Mv} (hi : i < sz) (hm : m ∈ ladRow parts sz i) : (i : Int) < m.2.1 ∧ m.2.1 < sz ∧ mvOk sz m := by
  unfold ladRow at hm
  split at hm
  · rename_i h
    obtain ⟨k, _, rfl⟩ := List.mem_map.mp hm
    have hlt : i + 1 < sz := by have := ladMark_lt h; omega
    have a := ladMv_tg (parts := parts) hlt k
    have b := ladNeed_in (parts := parts) (i := i) k
    have d := ladLost_in (parts := parts) (i := i) k
    exact ⟨a.1, a.2, wd_ok k, by omega, a.2, d.1, d.2, by show ladNeed parts i k ≤ 9; omega⟩
  · cases hm
theorem ladG_mark (hi : i < sz) : (ladG parts sz).marks[i]? = some (ladMark parts sz i) := by
  show ((List.range sz).map _)[i]? = _
  rw [List.getElem?_map, List.getElem?_range hi]; rfl
theorem ladG_moves (hi : i < sz) : (ladG parts sz).moves[i]? = some (ladRow parts sz i) := by
  show ((List.range sz).map _)[i]? = _
  rw [List.getElem?_map, List.getElem?_range hi]; rfl
theorem ladG_row {p : Int} (h0 : 0 ≤ p) (h1 : p < sz) : (ladG parts sz).row p = ladRow parts sz p.toNat := by
  show (ladG parts sz).moves.getD p.toNat [] = _
  rw [List.getD_eq_getElem?_getD, ladG_moves (by omega)]; rfl
theorem ladG_hg (h2 : 2 ≤ sz) (h5 : sz ≤ 5) : Hg (ladG parts sz) := by
  have hs := ladG_size parts sz
  refine ⟨⟨by rw [hs]; omega, by rw [hs]; omega, by rw [hs]; show ((List.range sz).map _).length = sz; rw [List.length_map, List.length_range], ⟨(nats_asc _).sublist List.filter_sublist, fun p hp => ?_⟩, fun i m r hm hr => ?_⟩, fun p h0 h1 m hm => ?_, by rw [hs]; omega, fun p h0 h1 => ?_⟩
  · rw [hs]; exact mem_nats.mp (List.mem_filter.mp hp).1
  · have hi : i < sz := by rw [← hs]; exact (List.getElem?_eq_some_iff.mp hm).1
    rw [ladG_mark hi] at hm
    rw [ladG_moves hi] at hr
    cases hm; cases hr
    rw [hs]
    have hin := ladMark_in parts sz i
    by_cases hk : ladMark parts sz i < 3
    · refine .inl ⟨by omega, ?_, by have := ladRow_len (parts := parts) (sz := sz) (i := i); omega, fun m hm => (ladRow_mem hi hm).2.2, ?_⟩
      · unfold ladRow; rw [if_pos hk, List.length_map, nats_len]; have := ladCnt_in parts i; omega
      · unfold ladRow
        rw [if_pos hk, List.map_map]
        exact wd_nd (by have := ladCnt_in parts i; omega)
    · refine .inr ⟨by omega, by unfold ladRow; rw [if_neg hk], decide_eq_false fun z => ?_⟩
      have z := (List.mem_filter.mp z).2
      rw [Int.toNat_natCast] at z
      unfold ladSafe at z
      rw [decide_eq_false hk] at z
      cases z
  · rw [hs] at h1
    rw [ladG_row h0 h1] at hm
    have := (ladRow_mem (by omega) hm).1
    omega
  · rw [hs] at h1
    rw [ladG_row h0 h1]
    exact ladRow_len
theorem pOf_len (hl : parts.length = 12 * sz) (hi : i < sz) : (pOf parts i).length = 12 := by
  unfold pOf
  rw [List.length_take, List.length_drop]
  omega
theorem pa_at (hl : parts.length = 12 * sz) (hi : i < sz) {j : Int} (h0 : 0 ≤ j) (h1 : j < 12) : atI ((pOf parts i).map Dt.int) j = some (.int (pa parts i j)) := at_getD h0 (by rw [pOf_len hl hi]; exact h1)
theorem pOf_cut (hl : parts.length = 12 * sz) (hi : i < sz) : DL.cutD (parts.map Dt.int) (some (12 * (i : Int))) (some (12 * (i : Int) + 12)) = (pOf parts i).map Dt.int := by
  unfold DL.cutD pOf
  rw [show 12 * (i : Int) + 12 = ((12 * i + 12 : Nat) : Int) by omega, show 12 * (i : Int) = ((12 * i : Nat) : Int) by omega, HT.sIx_nat, HT.sIx_nat, List.length_map, List.map_take, List.map_drop]
  rw [show min (12 * i) parts.length = 12 * i by omega, show min (12 * i + 12) parts.length = 12 * i + 12 by omega]
  congr 1
  omega
end
section
variable {P : Program} {w : World} {K : PySem.W.Frag} {mg : Str → Option Value} {base : Heap}
def R_L_ladder (ds : List Dt) (d : Dt) : Prop := ∃ (cell salt : Int) (sz : Nat), ds = [.int cell, .int salt, .int sz, .int 3] ∧ d = blD (ladG (numsOf cell salt 5040 (12 * sz)) sz) ∧ 2 ≤ sz ∧ sz ≤ 5 ∧ 0 ≤ salt ∧ salt ≤ 1000
theorem D_L_ladder (T : Txt P w K mg base) : Def P w K mg base "_law_ladder" ["cell", "salt", "size", "limit"] 2 (spD K R_L_ladder) := by
  obtain ⟨fd, F⟩ := T.d_L_ladder
  refine ⟨_, fd, T.g_L_ladder, F.kp, F.bindsN fun _ _ _ _ _ _ us hl => match us, hl with | [_, _, _, _], _ => rfl, fn_D F sc_L_ladder vi_L_ladder st_L_ladder (fun ds d h => ?_) (fun X hX C hr ds d h => ?_)⟩
  · obtain ⟨cell, salt, sz, rfl, rfl, z2, z5, s0, s1⟩ := h; rfl
  obtain ⟨rfl, rfl, rfl, rfl, rfl⟩ := hX
  obtain ⟨cell, salt, sz, rfl, rfl, z2, z5, s0, s1⟩ := h
  have hl := numsOf_len (cell := cell) (salt := salt) (many := 5040) (by decide) (12 * sz)
  refine jb_cons (js_set C 4 (d := .lst ((numsOf cell salt 5040 (12 * sz)).map .int)) (jp_call C (D_L_numbers T) (hr.mono (by decide)) (ja_cons (jp_var C 0 rfl rfl rfl) (ja_cons (jp_var C 1 rfl rfl rfl) (ja_cons (jp_op jp_int (jp_var C 2 rfl rfl rfl) (jo_mul (by walk_at "mul"))) (ja_cons jp_int ja_nil)))) (⟨cell, salt, 5040, 12 * sz, by rw [show 12 * (sz : Int) = ((12 * sz : Nat) : Int) by omega], rfl, by omega, by decide, by decide, s0, s1⟩) rfl) ?_)
  generalize numsOf cell salt 5040 (12 * sz) = parts at hl
  refine jb_cons (js_own C 5 (jn_lst ja_nil) fun pm _ => ?_)
  refine jb_cons (js_own C 6 (jn_lst ja_nil) fun pv hv => ?_)
  refine jb_cons (js_own C 7 (jn_lst ja_nil) fun pf hf => ?_)
  have n1 : pm ≠ pv := hv _ List.mem_cons_self
  have n2 : pv ≠ pf := hf _ List.mem_cons_self
  have n3 : pm ≠ pf := hf _ (List.mem_cons_of_mem _ List.mem_cons_self)
  let OF : Nat → Addr × Ob := fun i => (pf, .lst (((nats i).filter fun p => ladSafe parts sz p.toNat).map .int))
  let OV : Nat → Addr × Ob := fun i => (pv, .lst (((List.range i).map (ladRow parts sz)).map rowL))
  let OM : Nat → Addr × Ob := fun i => (pm, .lst (((List.range i).map (ladMark parts sz)).map .int))
  refine jb_cons (js_forR C (sz : Int) (ws := [8]) (ji_rangeN C T.f_range (jp_var C 2 rfl rfl rfl) (by omega) (by omega)) (fun i δ os => ∃ v8 v9 v10 v11 v12 v13 v14, δ = [some (.int cell), some (.int salt), some (.int sz), some (.int 3), some (.lst (parts.map .int)), some (.at pm), some (.at pv), some (.at pf), v8, v9, v10, v11, v12, v13, v14] ∧ os = [OF i, OV i, OM i]) ⟨_, _, _, _, _, _, _, rfl, rfl⟩ ?_ ?_)
  · rintro i δ' os' hi ⟨_, _, _, v11, v12, v13, v14, rfl, rfl⟩
    have hi : i < sz := hi
    have hat : ∀ {j : Int}, 0 ≤ j → j < 12 → atI ((pOf parts i).map Dt.int) j = some (.int (pa parts i j)) := fun {j} a b => pa_at hl hi a b
    refine ⟨_, (jg_name C 8), ?_⟩
    refine jb_cons (js_set C 9 (d := .lst ((pOf parts i).map .int)) (jp_new (JN.is (jn_slice (jp_var C 4 rfl rfl rfl) (.l) (jpo_some (jp_op jp_int (jp_var C 8 rfl rfl rfl) (jo_mul (by walk_at "mul")))) (jpo_some (jp_op (jp_op jp_int (jp_var C 8 rfl rfl rfl) (jo_mul (by walk_at "mul"))) jp_int jo_add))) (pOf_cut hl hi))) ?_)
    refine jb_cons (js_set C 10 (jp_ix (jp_new (jn_lst (ja_cons jp_int (ja_cons jp_int (ja_cons jp_int (ja_cons jp_int (ja_cons jp_int (ja_cons jp_int (ja_cons jp_int (ja_cons jp_int (ja_cons jp_int ja_nil))))))))))) (jp_op (jp_toint C T.f_int (jp_ix (jp_var C 9 rfl rfl rfl) jp_int (.lst .l (hat (by decide) (by decide))))) jp_int (jo_mod (by walk_at "pos"))) (.lst .l (mk9_at (Int.emod_nonneg _ (by decide)) (Int.emod_lt_of_pos _ (by decide))))) ?_)
    refine jb_mid (fun δ os => δ = [some (.int cell), some (.int salt), some (.int sz), some (.int 3), some (.lst (parts.map .int)), some (.at pm), some (.at pv), some (.at pf), some (.int i), some (.lst ((pOf parts i).map .int)), some (.int (if i = 0 then 1 + pa parts i 0 % 2 else mk9 (pa parts i 0 % 9))), v11, v12, v13, v14] ∧ os = [OF i, OV i, OM i]) ?_ ?_
    · refine js_if (k := decide (i = 0)) (JT.is (jt_cmp (jp_var C 8 rfl rfl rfl) jp_int jo_eqI) (by simp)) (fun h => ?_) (fun h => jb_nil ?_)
      · rw [if_pos (of_decide_eq_true h)]
        exact jb_cons (js_set C 10 (jp_op jp_int (jp_op (jp_toint C T.f_int (jp_ix (jp_var C 9 rfl rfl rfl) jp_int (.lst .l (hat (by decide) (by decide))))) jp_int (jo_mod (by walk_at "pos"))) jo_add) (jb_nil ⟨rfl, rfl⟩))
      · rw [if_neg (of_decide_eq_false h)]
        exact ⟨rfl, rfl⟩
    rintro δ' os' ⟨rfl, rfl⟩
    refine jb_mid (fun δ os => δ = [some (.int cell), some (.int salt), some (.int sz), some (.int 3), some (.lst (parts.map .int)), some (.at pm), some (.at pv), some (.at pf), some (.int i), some (.lst ((pOf parts i).map .int)), some (.int (ladMark parts sz i)), v11, v12, v13, v14] ∧ os = [OF i, OV i, OM i]) ?_ ?_
    · unfold ladMark
      refine js_if (k := decide (i + 1 = sz)) (JT.is (jt_cmp (jp_var C 8 rfl rfl rfl) (jp_op (jp_var C 2 rfl rfl rfl) jp_int jo_sub) jo_eqI) (by rw [decide_eq_decide]; omega)) (fun h => ?_) (fun h => jb_nil ?_)
      · rw [if_pos (of_decide_eq_true h)]
        exact jb_cons (js_set C 10 (jp_op jp_int (jp_op (jp_toint C T.f_int (jp_ix (jp_var C 9 rfl rfl rfl) jp_int (.lst .l (hat (by decide) (by decide))))) jp_int (jo_mod (by walk_at "pos"))) jo_add) (jb_nil ⟨rfl, rfl⟩))
      · rw [if_neg (of_decide_eq_false h)]
        exact ⟨rfl, rfl⟩
    rintro δ' os' ⟨rfl, rfl⟩
    refine jb_cons (js_own C 11 (jn_lst ja_nil) fun pr hpr => ?_)
    have n4 : pf ≠ pr := hpr _ List.mem_cons_self
    refine jb_mid (fun δ os => ∃ v12 v13 v14, δ = [some (.int cell), some (.int salt), some (.int sz), some (.int 3), some (.lst (parts.map .int)), some (.at pm), some (.at pv), some (.at pf), some (.int i), some (.lst ((pOf parts i).map .int)), some (.int (ladMark parts sz i)), some (.at pr), v12, v13, v14] ∧ os = [(pr, .lst ((ladRow parts sz i).map mvD)), OF (i + 1), OV i, OM i]) ?_ ?_
    · have eF : ladSafe parts sz i = false → OF i = OF (i + 1) := fun h => by
        show (pf, Ob.lst _) = (pf, Ob.lst _)
        rw [nats_snoc, List.filter_append, List.filter_cons, if_neg (by rw [Int.toNat_natCast, h]; exact Bool.false_ne_true)]; simp
      refine js_if (jt_cmp (jp_var C 10 rfl rfl rfl) jp_int jo_lt) (fun h => ?_) (fun h => jb_nil ?_)
      · have h := of_decide_eq_true h
        have hlt : i + 1 < sz := by have := ladMark_lt h; omega
        have hc := ladCnt_in parts i
        have hr1 : ladRow parts sz i = (nats (ladCnt parts i).toNat).map (ladMv parts sz i) := by unfold ladRow; rw [if_pos h]
        refine jb_mid (fun δ os => ∃ v12 v13 v14, δ = [some (.int cell), some (.int salt), some (.int sz), some (.int 3), some (.lst (parts.map .int)), some (.at pm), some (.at pv), some (.at pf), some (.int i), some (.lst ((pOf parts i).map .int)), some (.int (ladMark parts sz i)), some (.at pr), v12, v13, v14] ∧ os = [(pr, .lst ((ladRow parts sz i).map mvD)), OF i, OV i, OM i]) ?_ ?_
        · refine js_forR C (ladCnt parts i) (ws := [12]) (ji_rangeN C T.f_range (jp_op jp_int (jp_op (jp_toint C T.f_int (jp_ix (jp_var C 9 rfl rfl rfl) jp_int (.lst .l (hat (by decide) (by decide))))) jp_int (jo_mod (by walk_at "pos"))) jo_add) (by show ladCnt parts i ≤ 100000; omega) (by show 0 ≤ ladCnt parts i; omega)) (fun j δ os => ∃ v12 v13 v14, δ = [some (.int cell), some (.int salt), some (.int sz), some (.int 3), some (.lst (parts.map .int)), some (.at pm), some (.at pv), some (.at pf), some (.int i), some (.lst ((pOf parts i).map .int)), some (.int (ladMark parts sz i)), some (.at pr), v12, v13, v14] ∧ os = [(pr, .lst (((nats j).map (ladMv parts sz i)).map mvD)), OF i, OV i, OM i]) ⟨_, _, _, rfl, rfl⟩ ?_ ?_
          · rintro j δ' os' hj ⟨_, _, _, rfl, rfl⟩
            have hj3 : j < 3 := by omega
            have nb := ladNeed_in (parts := parts) (i := i) (j : Int)
            refine ⟨_, (jg_name C 12), ?_⟩
            refine jb_cons (js_set C 13 (d := .int (ladNeed parts i j)) (jp_op (jp_toint C T.f_int (jp_ix (jp_var C 9 rfl rfl rfl) (jp_op jp_int (jp_op jp_int (jp_var C 12 rfl rfl rfl) (jo_mul (by walk_at "mul"))) jo_add) (.lst .l (hat (by omega) (by omega))))) (jp_op (jp_var C 3 rfl rfl rfl) jp_int jo_add) (jo_mod (by walk_at "pos"))) ?_)
            refine jb_cons (js_set C 14 (d := .int (ladLost parts i j)) (jp_if (jt_cmp (jp_op (jp_toint C T.f_int (jp_ix (jp_var C 9 rfl rfl rfl) (jp_op jp_int (jp_op jp_int (jp_var C 12 rfl rfl rfl) (jo_mul (by walk_at "mul"))) jo_add) (.lst .l (hat (by omega) (by omega))))) jp_int (jo_mod (by walk_at "pos"))) jp_int jo_eqI) (fun h2 => JP.is (jp_var C 13 rfl rfl rfl) (by unfold ladLost; rw [if_pos (of_decide_eq_true h2)])) (fun h2 => JP.is (jp_op (jp_op (jp_toint C T.f_int (jp_ix (jp_var C 9 rfl rfl rfl) (jp_op jp_int (jp_op jp_int (jp_var C 12 rfl rfl rfl) (jo_mul (by walk_at "mul"))) jo_add) (.lst .l (hat (by omega) (by omega))))) jp_int (jo_div (by walk_at "div"))) (jp_op (jp_var C 13 rfl rfl rfl) jp_int jo_add) (jo_mod (by omega))) (by unfold ladLost; rw [if_neg (of_decide_eq_false h2)]))) ?_)
            refine jb_cons (js_append (jp_var C 11 rfl rfl rfl) List.mem_cons_self (jp_tup (ja_cons (jp_ix (jp_new (jn_lst (ja_cons jp_str (ja_cons jp_str (ja_cons jp_str ja_nil))))) (jp_var C 12 rfl rfl rfl) (.lst .l (wd_at (by omega) (by omega)))) (ja_cons (jp_op (jp_op (jp_var C 8 rfl rfl rfl) jp_int jo_add) (jp_op (jp_toint C T.f_int (jp_ix (jp_var C 9 rfl rfl rfl) (jp_op jp_int (jp_op jp_int (jp_var C 12 rfl rfl rfl) (jo_mul (by walk_at "mul"))) jo_add) (.lst .l (hat (by omega) (by omega))))) (jp_op (jp_op (jp_var C 2 rfl rfl rfl) jp_int jo_sub) (jp_var C 8 rfl rfl rfl) jo_sub) (jo_mod (by omega))) jo_add) (ja_cons (jp_var C 13 rfl rfl rfl) (ja_cons (jp_var C 14 rfl rfl rfl) ja_nil))))) (by rw [List.length_map, List.length_map, nats_len]; omega) (jb_nil ⟨_, _, _, rfl, ?_⟩))
            rw [nats_snoc, List.map_append, List.map_append]; rfl
          · rintro δ' os' ⟨_, _, _, rfl, rfl⟩
            exact ⟨_, _, _, rfl, by rw [hr1]⟩
        rintro δ' os' ⟨_, _, _, rfl, rfl⟩
        have hsf : ladSafe parts sz i = decide (pa parts i 11 % 3 = 0) := by unfold ladSafe; rw [decide_eq_true h]; rfl
        refine jb_cons (js_if (jt_cmp (jp_op (jp_toint C T.f_int (jp_ix (jp_var C 9 rfl rfl rfl) jp_int (.lst .l (hat (by decide) (by decide))))) jp_int (jo_mod (by walk_at "pos"))) jp_int jo_eqI) (fun h2 => ?_) (fun h2 => jb_nil (jb_nil ⟨_, _, _, rfl, ?_⟩)))
        · refine jb_cons (js_append (jp_var C 7 rfl rfl rfl) (List.mem_cons_of_mem _ List.mem_cons_self) (jp_var C 8 rfl rfl rfl) (by rw [List.length_map]; have := List.length_filter_le (fun p : Int => ladSafe parts sz p.toNat) (nats i); rw [nats_len] at this; omega) (jb_nil (jb_nil ⟨_, _, _, rfl, ?_⟩)) (he := putO_2 n4.symm))
          have : ((nats i).filter fun p => ladSafe parts sz p.toNat).map Dt.int ++ [Dt.int (i : Int)] = ((nats (i + 1)).filter fun p => ladSafe parts sz p.toNat).map Dt.int := by
            rw [nats_snoc, List.filter_append, List.map_append, List.filter_cons, if_pos (by rw [Int.toNat_natCast, hsf]; exact h2)]; rfl
          show [_, (pf, Ob.lst _), _, _] = [_, (pf, Ob.lst _), _, _]
          rw [this]
        · rw [eF (by rw [hsf]; exact h2)]
      · have h := of_decide_eq_false h
        refine ⟨_, _, _, rfl, ?_⟩
        rw [eF (by unfold ladSafe; rw [decide_eq_false h]; rfl)]
        unfold ladRow
        rw [if_neg h]; rfl
    rintro δ' os' ⟨_, _, _, rfl, rfl⟩
    refine jb_give 11 rfl dl1 (List.Perm.refl _) ?_
    refine jb_cons (js_append (jp_var C 5 rfl rfl rfl) (List.mem_cons_of_mem _ (List.mem_cons_of_mem _ List.mem_cons_self)) (jp_var C 10 rfl rfl rfl) (by rw [List.length_map, List.length_map, List.length_range]; omega) ?_ (he := putO_3 n3.symm n1.symm))
    refine jb_cons (js_append (jp_var C 6 rfl rfl rfl) (List.mem_cons_of_mem _ List.mem_cons_self) (jp_var C 11 rfl rfl rfl) (by rw [List.length_map, List.length_map, List.length_range]; omega) (jb_nil ⟨_, _, _, _, _, _, _, rfl, ?_⟩) (he := putO_2 n2.symm))
    have e1 : ((List.range i).map (ladMark parts sz)).map Dt.int ++ [Dt.int (ladMark parts sz i)] = ((List.range (i + 1)).map (ladMark parts sz)).map Dt.int := by rw [List.range_succ, List.map_append, List.map_append]; rfl
    have e2 : ((List.range i).map (ladRow parts sz)).map rowL ++ [rowL (ladRow parts sz i)] = ((List.range (i + 1)).map (ladRow parts sz)).map rowL := by rw [List.range_succ, List.map_append, List.map_append]; rfl
    show [_, (pv, Ob.lst (_ ++ [rowL _])), (pm, Ob.lst (_ ++ [_]))] = [_, (pv, Ob.lst _), (pm, Ob.lst _)]
    rw [e1, e2]
  · rintro δ' os' ⟨_, _, _, _, _, _, _, rfl, rfl⟩
    refine jb_give 7 rfl dl1 (List.Perm.refl _) ?_
    refine jb_give 6 rfl dl1 (List.Perm.refl _) ?_
    refine jb_give 5 rfl dl1 (List.Perm.refl _) ?_
    exact jb_cons (js_ret (jp_new (jn_lst (ja_cons (jp_var C 5 rfl rfl rfl) (ja_cons (jp_var C 6 rfl rfl rfl) (ja_cons (jp_var C 7 rfl rfl rfl) ja_nil))))) rfl)
end
end K70

set_option maxHeartbeats 4000000
namespace DL
open PySem PySem.Spec PyProof.Rows L2 Evl
section
variable {X : Cx} {N : List PySem.Str} {sc : Scope} {full : Bool} {vi st : List Bool} {δ : Sl} {os : Os} {e : Expr} {d : Dt} {pos : Pos} {D : DE}
theorem jg_lst (C : Ctx X N sc full vi st) {ts : List Expr} {ws : List Nat} {ds : List Dt} {k : Nat} {δ' : Sl} (h : JGs X ts ws ds δ δ') (hn : (assignEach ts X.env).length = ds.length := by rfl) (hst : (assignEach ts X.env).findIdx? (·.1) = none := by rfl) :
    JG X (.Tuple ts k pos) ws (.lst ds) δ δ' := fun os G H σ v O E s Q q => by
  obtain ⟨a, vs, rfl, h2, h3⟩ := (Lk.l (os := os)).see O s
  exact wG_of (pg_lst C.calm pgs_w hn hst) ⟨a, vs, rfl, SqL.of h2, h3.len.symm, h os G H σ vs O E h3 Q q⟩
/-- a new list handed back -/
theorem js_retL {xs : List Dt} (h : JN X e δ os xs) (q : ∀ p, D.rt (.at p) ((p, .lst xs) :: os)) : JS X (.Return (some e) pos) δ os D := fun B H0 G H σ A E =>
  wS_of (ps_ret pe_w) (h G H σ A.ow E _ fun p vs G' H' g hp gp h' s => ⟨_, _, G', A.take g hp gp h' (obs_lst s), by unfold Sees; rfl, q p⟩)
end
end DL
namespace K70
open PySem PySem.Spec PyProof.Rows L2 DL
local macro_rules | `(tactic| walk_at "mul") => `(tactic| first | exact .inl (by decide) | exact .inr (by decide) | exact .inl (by omega) | exact .inr (by omega))
local macro_rules | `(tactic| walk_at "pos") => `(tactic| first | assumption | decide | omega)
local macro_rules | `(tactic| walk_at "div") => `(tactic| first | exact ⟨by decide, by decide⟩ | exact ⟨by omega, by omega⟩)
local macro_rules | `(tactic| walk_at "pow") => `(tactic| exact ⟨by decide, by decide, by decide⟩)
local macro_rules | `(tactic| walk_at "side") => `(tactic| first | assumption | rfl | omega | decide)
local macro_rules | `(tactic| walk_at "lk") => `(tactic| first | exact .lst .l | exact .tup | exact .l)
local macro_rules | `(tactic| walk_at "it") => `(tactic| first | exact .lst | exact .tup)
local macro_rules | `(tactic| walk_at "len") => `(tactic| first | exact .lst .l | exact .tup | exact .scr)
local macro_rules | `(tactic| walk_at "ix") => `(tactic| first | exact .lst .l rfl | exact .tup rfl | exact .lst .l (by assumption) | exact .tup (by assumption) | exact .scr (by assumption))
local macro_rules | `(tactic| walk_at "dk") => `(tactic| exact .inl rfl)

/-! ### the match that the law draws -/
def pLeg (ns : List Int) (k : Nat) : List Int := numsOf (cellOf ns (1 + k)) (300 + k) 5040 6
def begOf (p : List Int) (sz : Nat) : Int := if 0 < p.getD (Int.toNat 0) 0 % 4 then 0 else p.getD (Int.toNat 1) 0 % sz
def addOf (p : List Int) : Int × Int := if p.getD (Int.toNat 4) 0 % 4 = 0 then (0, 0) else if p.getD (Int.toNat 4) 0 % 4 = 1 then (p.getD (Int.toNat 2) 0 % 8, p.getD (Int.toNat 3) 0 % 8)
  else if p.getD (Int.toNat 4) 0 % 4 = 2 then (p.getD (Int.toNat 2) 0 % 61, 60 - p.getD (Int.toNat 3) 0 % 61) else (0, 3)
def cParts (ns : List Int) (many : Int) (sz : Nat) (k : Nat) : Lg × Int × Int :=
  (⟨ladG (numsOf (cellOf ns (1 + many + k)) (310 + k) 5040 (12 * sz)) sz, begOf (pLeg ns k) sz, 1 + (pLeg ns k).getD (Int.toNat 5) 0 % 2⟩, addOf (pLeg ns k))
theorem add_at (m x y u v : Int) : (if m = 0 then Dt.lst [.int 0, .int 0] else if m = 1 then .lst [.int x, .int y] else if m = 2 then .lst [.int u, .int v] else .lst [.int 0, .int 3])
    = .lst [.int (if m = 0 then ((0 : Int), (0 : Int)) else if m = 1 then (x, y) else if m = 2 then (u, v) else (0, 3)).1, .int (if m = 0 then ((0 : Int), (0 : Int)) else if m = 1 then (x, y) else if m = 2 then (u, v) else (0, 3)).2] := by
  split
  · rfl
  · split
    · rfl
    · split <;> rfl
theorem int_at (m x y u v : Int) : (if m = 0 then Dt.int x else if m = 1 then .int y else if m = 2 then .int u else .int v) = .int (if m = 0 then x else if m = 1 then y else if m = 2 then u else v) := by
  split
  · rfl
  · split
    · rfl
    · split <;> rfl
def lgR (q : Lg × Int × Int) : Dt := .lst [blD q.1.g, .int q.1.at_, .int q.1.white, .lst [.int q.2.1, .int q.2.2]]
def winOf (n : List Int) : Int := if n.getD (Int.toNat 0) 0 % 4 = 0 then 2 else if n.getD (Int.toNat 0) 0 % 4 = 1 then 1 else if n.getD (Int.toNat 0) 0 % 4 = 2 then 3 else 1 + n.getD (Int.toNat 0) 0 / 4 % 9
def drawOf (n : List Int) : Int := if n.getD (Int.toNat 1) 0 % 4 = 0 then winOf n / 2 else if n.getD (Int.toNat 1) 0 % 4 = 1 then 0 else if n.getD (Int.toNat 1) 0 % 4 = 2 then winOf n else n.getD (Int.toNat 1) 0 / 4 % (winOf n + 1)
def lawCt (ns n : List Int) (many : Int) (sz : Nat) : Ct := ⟨(List.range many.toNat).map fun k => (cParts ns many sz k).1, winOf n, drawOf n⟩
theorem winOf_in (n : List Int) : 1 ≤ winOf n ∧ winOf n ≤ 9 := by
  unfold winOf
  split
  · omega
  · split
    · omega
    · split <;> omega
theorem drawOf_in (n : List Int) : 0 ≤ drawOf n ∧ drawOf n ≤ winOf n := by
  have h := winOf_in n
  unfold drawOf
  split
  · omega
  · split
    · omega
    · split
      · omega
      · have a := Int.emod_nonneg (n.getD (Int.toNat 1) 0 / 4) (show winOf n + 1 ≠ 0 by omega)
        have b := Int.emod_lt_of_pos (n.getD (Int.toNat 1) 0 / 4) (show 0 < winOf n + 1 by omega)
        omega
theorem lawCt_ok {ns n : List Int} {many : Int} {sz : Nat} (m1 : 1 ≤ many) (m3 : many ≤ 3) (z2 : 2 ≤ sz) (z : (sz : Int) + many ≤ 6) : CtOk (lawCt ns n many sz) := by
  have hn : (lawCt ns n many sz).n = many.toNat := by show ((List.range many.toNat).map _).length = _; rw [List.length_map, List.length_range]
  have w := winOf_in n
  have d := drawOf_in n
  refine ⟨by rw [hn]; omega, by rw [hn]; omega, fun l hl => ?_, fun l hl => ?_, w.1, w.2, d.1, d.2⟩
  · obtain ⟨k, hk, rfl⟩ := List.mem_map.mp hl
    have hg : Hg (cParts ns many sz k).1.g := ladG_hg z2 (by omega)
    have hs : (cParts ns many sz k).1.g.size = sz := ladG_size _ _
    have hb : 0 ≤ (cParts ns many sz k).1.at_ ∧ (cParts ns many sz k).1.at_ < sz := by
      show 0 ≤ begOf (pLeg ns k) sz ∧ begOf (pLeg ns k) sz < sz
      unfold begOf
      split
      · omega
      · exact ⟨Int.emod_nonneg _ (by omega), Int.emod_lt_of_pos _ (by omega)⟩
    refine ⟨hg, hb.1, by rw [hs]; exact hb.2, ?_⟩
    show 1 + _ % 2 = 1 ∨ 1 + _ % 2 = 2
    omega
  · obtain ⟨k, hk, rfl⟩ := List.mem_map.mp hl
    have hs : (cParts ns many sz k).1.g.size = sz := ladG_size _ _
    rw [hs, hn]
    omega
section
variable {P : Program} {w : World} {K : PySem.W.Frag} {mg : Str → Option Value} {base : Heap}
theorem at4 {a b c d : Dt} {m : Int} (h0 : 0 ≤ m) (h1 : m < 4) : atI [a, b, c, d] m = some (if m = 0 then a else if m = 1 then b else if m = 2 then c else d) := by
  have : m = 0 ∨ m = 1 ∨ m = 2 ∨ m = 3 := by omega
  rcases this with rfl | rfl | rfl | rfl <;> rfl
def R_L_contest (ds : List Dt) (xs : List Dt) : Prop := ∃ (ns n : List Int) (many : Int) (sz : Nat), ds = [.scr (ns.map .int), .int 1, .lst (n.map .int), .int many, .int sz, .int 3] ∧
  xs = [.lst ((List.range many.toNat).map fun k => lgR (cParts ns many sz k)), .int (winOf n), .int (drawOf n)] ∧ n.length = 12 ∧ 1 ≤ many ∧ many ≤ 3 ∧ 2 ≤ sz ∧ sz ≤ 5
theorem D_L_contest (T : Txt P w K mg base) : Def P w K mg base "_law_contest" ["script", "first", "n", "many", "size", "limit"] 3 (spN K R_L_contest) := by
  obtain ⟨fd, F⟩ := T.d_L_contest
  refine ⟨_, fd, T.g_L_contest, F.kp, F.bindsN fun _ _ _ _ _ _ us hl => match us, hl with | [_, _, _, _, _, _], _ => rfl, fn_N F sc_L_contest vi_L_contest st_L_contest (fun ds xs h => ?_) (fun X hX C hr ds xs h => ?_)⟩
  · obtain ⟨ns, n, many, sz, rfl, rfl, hn, m1, m3, z2, z5⟩ := h; rfl
  obtain ⟨rfl, rfl, rfl, rfl, rfl⟩ := hX
  obtain ⟨ns, n, many, sz, rfl, rfl, hn, m1, m3, z2, z5⟩ := h
  refine jb_cons (js_own C 6 (jn_lst ja_nil) fun p0 _ => ?_)
  refine jb_cons (js_forR C many (ws := [7]) (ji_rangeN C T.f_range (jp_var C 3 rfl rfl rfl) (by omega) (by omega)) (fun i δ os => ∃ v7 v8 v9 v10 v11, δ = [some (.scr (ns.map .int)), some (.int 1), some (.lst (n.map .int)), some (.int many), some (.int sz), some (.int 3), some (.at p0), v7, v8, v9, v10, v11, none, none] ∧ os = [(p0, .lst ((List.range i).map fun k => lgR (cParts ns many sz k)))]) ⟨_, _, _, _, _, rfl, rfl⟩ ?_ ?_)
  · rintro i δ' os' hi ⟨_, _, _, _, _, rfl, rfl⟩
    have hi3 : i < 3 := by omega
    have hp := fun {j : Int} (h0 : 0 ≤ j) (h1 : j < 6) => at_getD (l := pLeg ns i) h0 (by unfold pLeg; rw [numsOf_len (by decide)]; exact h1)
    refine ⟨_, (jg_name C 7), ?_⟩
    refine jb_cons (js_set C 8 (d := .lst ((pLeg ns i).map .int)) (jp_call C (D_L_numbers T) (hr.mono (by decide)) (ja_cons (jp_call C (D_L_cell T) (hr.mono (by decide)) (ja_cons (jp_var C 0 rfl rfl rfl) (ja_cons (jp_op (jp_var C 1 rfl rfl rfl) (jp_var C 7 rfl rfl rfl) jo_add) ja_nil)) (⟨ns, 1 + i, rfl, rfl, by omega⟩) rfl) (ja_cons (jp_op jp_int (jp_var C 7 rfl rfl rfl) jo_add) (ja_cons jp_int (ja_cons jp_int ja_nil)))) (⟨_, _, 5040, 6, rfl, rfl, by decide, by decide, by decide, by omega, by omega⟩) rfl) ?_)
    refine jb_cons (js_set C 9 (jp_call C (D_L_ladder T) (hr.mono (by decide)) (ja_cons (jp_call C (D_L_cell T) (hr.mono (by decide)) (ja_cons (jp_var C 0 rfl rfl rfl) (ja_cons (jp_op (jp_op (jp_var C 1 rfl rfl rfl) (jp_var C 3 rfl rfl rfl) jo_add) (jp_var C 7 rfl rfl rfl) jo_add) ja_nil)) (⟨ns, 1 + many + i, rfl, rfl, by omega⟩) rfl) (ja_cons (jp_op jp_int (jp_var C 7 rfl rfl rfl) jo_add) (ja_cons (jp_var C 4 rfl rfl rfl) (ja_cons (jp_var C 5 rfl rfl rfl) ja_nil)))) (⟨_, _, sz, rfl, rfl, z2, z5, by omega, by omega⟩) rfl) ?_)
    refine jb_cons (js_set C 10 (d := .lst [.int (addOf (pLeg ns i)).1, .int (addOf (pLeg ns i)).2]) (JP.is (jp_ix (jp_new (jn_lst (ja_cons (jp_new (jn_lst (ja_cons jp_int (ja_cons jp_int ja_nil)))) (ja_cons (jp_new (jn_lst (ja_cons (jp_op (jp_toint C T.f_int (jp_ix (jp_var C 8 rfl rfl rfl) jp_int (.lst .l (hp (by decide) (by decide))))) jp_int (jo_mod (by walk_at "pos"))) (ja_cons (jp_op (jp_toint C T.f_int (jp_ix (jp_var C 8 rfl rfl rfl) jp_int (.lst .l (hp (by decide) (by decide))))) jp_int (jo_mod (by walk_at "pos"))) ja_nil)))) (ja_cons (jp_new (jn_lst (ja_cons (jp_op (jp_toint C T.f_int (jp_ix (jp_var C 8 rfl rfl rfl) jp_int (.lst .l (hp (by decide) (by decide))))) jp_int (jo_mod (by walk_at "pos"))) (ja_cons (jp_op jp_int (jp_op (jp_toint C T.f_int (jp_ix (jp_var C 8 rfl rfl rfl) jp_int (.lst .l (hp (by decide) (by decide))))) jp_int (jo_mod (by walk_at "pos"))) jo_sub) ja_nil)))) (ja_cons (jp_new (jn_lst (ja_cons jp_int (ja_cons jp_int ja_nil)))) ja_nil)))))) (jp_op (jp_toint C T.f_int (jp_ix (jp_var C 8 rfl rfl rfl) jp_int (.lst .l (hp (by decide) (by decide))))) jp_int (jo_mod (by walk_at "pos"))) (.lst .l (at4 (Int.emod_nonneg _ (by decide)) (Int.emod_lt_of_pos _ (by decide))))) (add_at _ _ _ _ _)) ?_)
    refine jb_cons (js_set C 11 (d := .int (begOf (pLeg ns i) sz)) (jp_if (jt_cmp (jp_op (jp_toint C T.f_int (jp_ix (jp_var C 8 rfl rfl rfl) jp_int (.lst .l (hp (by decide) (by decide))))) jp_int (jo_mod (by walk_at "pos"))) jp_int jo_gt) (fun h => JP.is jp_int (by unfold begOf; rw [if_pos (of_decide_eq_true h)])) (fun h => JP.is (jp_op (jp_toint C T.f_int (jp_ix (jp_var C 8 rfl rfl rfl) jp_int (.lst .l (hp (by decide) (by decide))))) (jp_var C 4 rfl rfl rfl) (jo_mod (by omega))) (by unfold begOf; rw [if_neg (of_decide_eq_false h)]))) ?_)
    refine jb_cons (js_append (jp_var C 6 rfl rfl rfl) List.mem_cons_self (jp_new (jn_lst (ja_cons (jp_var C 9 rfl rfl rfl) (ja_cons (jp_var C 11 rfl rfl rfl) (ja_cons (jp_op jp_int (jp_op (jp_toint C T.f_int (jp_ix (jp_var C 8 rfl rfl rfl) jp_int (.lst .l (hp (by decide) (by decide))))) jp_int (jo_mod (by walk_at "pos"))) jo_add) (ja_cons (jp_var C 10 rfl rfl rfl) ja_nil)))))) (by rw [List.length_map, List.length_range]; omega) (jb_nil ⟨_, _, _, _, _, rfl, ?_⟩))
    rw [List.range_succ, List.map_append]
    rfl
  · rintro δ' os' ⟨_, _, _, _, _, rfl, rfl⟩
    have ha := fun {j : Int} (h0 : 0 ≤ j) (h1 : j < 12) => at_getD (l := n) h0 (by rw [hn]; exact h1)
    have w := winOf_in n
    refine jb_give 6 rfl dl1 (List.Perm.refl _) ?_
    refine jb_cons (js_set C 12 (d := .int (winOf n)) (JP.is (jp_ix (jp_new (jn_lst (ja_cons jp_int (ja_cons jp_int (ja_cons jp_int (ja_cons (jp_op jp_int (jp_op (jp_op (jp_toint C T.f_int (jp_ix (jp_var C 2 rfl rfl rfl) jp_int (.lst .l (ha (by decide) (by decide))))) jp_int (jo_div (by walk_at "div"))) jp_int (jo_mod (by walk_at "pos"))) jo_add) ja_nil)))))) (jp_op (jp_toint C T.f_int (jp_ix (jp_var C 2 rfl rfl rfl) jp_int (.lst .l (ha (by decide) (by decide))))) jp_int (jo_mod (by walk_at "pos"))) (.lst .l (at4 (Int.emod_nonneg _ (by decide)) (Int.emod_lt_of_pos _ (by decide))))) (int_at _ _ _ _ _)) ?_)
    refine jb_cons (js_set C 13 (d := .int (drawOf n)) (JP.is (jp_ix (jp_new (jn_lst (ja_cons (jp_op (jp_var C 12 rfl rfl rfl) jp_int (jo_div (by walk_at "div"))) (ja_cons jp_int (ja_cons (jp_var C 12 rfl rfl rfl) (ja_cons (jp_op (jp_op (jp_toint C T.f_int (jp_ix (jp_var C 2 rfl rfl rfl) jp_int (.lst .l (ha (by decide) (by decide))))) jp_int (jo_div (by walk_at "div"))) (jp_op (jp_var C 12 rfl rfl rfl) jp_int jo_add) (jo_mod (by omega))) ja_nil)))))) (jp_op (jp_toint C T.f_int (jp_ix (jp_var C 2 rfl rfl rfl) jp_int (.lst .l (ha (by decide) (by decide))))) jp_int (jo_mod (by walk_at "pos"))) (.lst .l (at4 (Int.emod_nonneg _ (by decide)) (Int.emod_lt_of_pos _ (by decide))))) (int_at _ _ _ _ _)) ?_)
    exact jb_cons (js_retL (jn_lst (ja_cons (jp_var C 6 rfl rfl rfl) (ja_cons (jp_var C 12 rfl rfl rfl) (ja_cons (jp_var C 13 rfl rfl rfl) ja_nil)))) fun p => ⟨p, rfl, List.mem_cons_self⟩)
def R_L_match (K : PySem.W.Frag) (ds : List Dt) (d : Dt) : Prop := ∃ (c : Ct), ds = [cnD c] ∧ d = ctD K c ∧ CtOk c
theorem D_L_match (T : Txt P w K mg base) : Def P w K mg base "_law_match" ["contest"] 9 (spD K (R_L_match K)) := by
  obtain ⟨fd, F⟩ := T.d_L_match
  refine ⟨_, fd, T.g_L_match, F.kp, F.bindsN fun _ _ _ _ _ _ us hl => match us, hl with | [_], _ => rfl, fn_D F sc_L_match vi_L_match st_L_match (fun ds d h => ?_) (fun X hX C hr ds d h => ?_)⟩
  · obtain ⟨c, rfl, rfl, ok⟩ := h; rfl
  obtain ⟨rfl, rfl, rfl, rfl, rfl⟩ := hX
  obtain ⟨c, rfl, rfl, ok⟩ := h
  have n3 := ok.n3
  refine jb_cons (js_own C 1 (jn_lst ja_nil) fun p _ => ?_)
  refine jb_cons (js_forM C c.legs lgL (ws := [2, 3, 4, 5]) (ji_X (jp_ix (jp_var C 0 rfl rfl rfl) jp_int (.lst .l rfl)) (.lst)) (fun pre δ os => ∃ v2 v3 v4 v5, δ = [some (cnD c), some (.at p), v2, v3, v4, v5] ∧ os = [(p, .lst (pre.map (lgD X.K)))]) ⟨_, _, _, _, rfl, rfl⟩ ?_ ?_)
  · rintro pre l post δ' os' e ⟨_, _, _, _, rfl, rfl⟩
    have hl := ok.legs l (by rw [e]; simp)
    have hlen : pre.length < c.n := by show pre.length < c.legs.length; rw [e]; simp
    refine ⟨_, (jg_lst C (jgs_cons (jg_name C 2) (jgs_cons (jg_name C 3) (jgs_cons (jg_name C 4) (jgs_cons (jg_name C 5) jgs_nil))))), ?_⟩
    refine jb_cons (js_append (jp_var C 1 rfl rfl rfl) List.mem_cons_self (jp_tup (ja_cons (jp_call C (D_L_made T) (hr.mono (by decide)) (ja_cons (jp_var C 2 rfl rfl rfl) ja_nil) (⟨l.g, rfl, rfl, hl.hg.ok⟩) rfl) (ja_cons (jp_var C 3 rfl rfl rfl) (ja_cons (jp_var C 4 rfl rfl rfl) (ja_cons (jp_ix (jp_var C 5 rfl rfl rfl) jp_int (.lst .l rfl)) (ja_cons (jp_ix (jp_var C 5 rfl rfl rfl) jp_int (.lst .l rfl)) ja_nil)))))) (by rw [List.length_map]; omega) (jb_nil ⟨_, _, _, _, rfl, ?_⟩))
    rw [List.map_append]; rfl
  · rintro δ' os' ⟨_, _, _, _, rfl, rfl⟩
    refine jb_give 1 rfl dl1 (List.Perm.refl _) ?_
    exact jb_cons (js_ret (jp_make C (D_Match_init T) (hr.mono (by decide)) (ja_cons (jp_var C 1 rfl rfl rfl) (ja_cons (jp_ix (jp_var C 0 rfl rfl rfl) jp_int (.lst .l rfl)) (ja_cons (jp_ix (jp_var C 0 rfl rfl rfl) jp_int (.lst .l rfl)) ja_nil))) (⟨c, rfl, rfl, ok⟩) rfl) rfl)
end
end K70

set_option maxHeartbeats 4000000
namespace K70
open PySem PySem.Spec PyProof.Rows L2 DL
local macro_rules | `(tactic| walk_at "mul") => `(tactic| first | exact .inl (by decide) | exact .inr (by decide) | exact .inl (by omega) | exact .inr (by omega))
local macro_rules | `(tactic| walk_at "pos") => `(tactic| first | assumption | decide | omega)
local macro_rules | `(tactic| walk_at "div") => `(tactic| first | exact ⟨by decide, by decide⟩ | exact ⟨by omega, by omega⟩)
local macro_rules | `(tactic| walk_at "pow") => `(tactic| exact ⟨by decide, by decide, by decide⟩)
local macro_rules | `(tactic| walk_at "side") => `(tactic| first | assumption | rfl | omega | decide)
local macro_rules | `(tactic| walk_at "lk") => `(tactic| first | exact .lst .l | exact .tup | exact .l)
local macro_rules | `(tactic| walk_at "it") => `(tactic| first | exact .lst | exact .tup)
local macro_rules | `(tactic| walk_at "len") => `(tactic| first | exact .lst .l | exact .tup | exact .scr)
local macro_rules | `(tactic| walk_at "ix") => `(tactic| first | exact .lst .l rfl | exact .tup rfl | exact .lst .l (by assumption) | exact .tup (by assumption) | exact .scr (by assumption))
local macro_rules | `(tactic| walk_at "dk") => `(tactic| exact .inl rfl)

/-! ### the law's own search -/
abbrev VF := Int → Int → Int → Int → Bool
def endv (m : Int) : Int := if m = 3 then 1 else if m = 4 then 2 else 0
theorem endv_at {m : Int} (h0 : 2 < m) (h1 : m ≤ 5) : atI ([.int 1, .int 2, .int 0] : List Dt) (m - 3) = some (.int (endv m)) := by
  have : m = 3 ∨ m = 4 ∨ m = 5 := by omega
  rcases this with rfl | rfl | rfl <;> rfl
theorem endv_in (m : Int) : endv m = 0 ∨ endv m = 1 ∨ endv m = 2 := by
  unfold endv
  split
  · exact .inr (.inl rfl)
  · split
    · exact .inr (.inr rfl)
    · exact .inl rfl
def nextF (c : Ct) (side t : Int) (V : VF) (k s o own : Int) : Bool :=
  if t ≤ s + worthL c side o then true else if k = c.n - 1 then false else V (k + 1) (s + worthL c side o) (c.lg (k + 1)).at_ own
def winsF (c : Ct) (side t total : Int) (V : VF) (k s p own : Int) : Bool :=
  if 2 < (c.game k).mark p then nextF c side t V k s (endv ((c.game k).mark p)) own
  else if (c.game k).mark p = side then (if flagOf c (c.game k) side t k s p = true then true else ((c.game k).row p).any fun m => decide (m.2.2.1 ≤ own) && V k s m.2.1 (own - m.2.2.2))
  else if flagOf c (c.game k) side t k s p = false then false else ((c.game k).row p).all fun m => !(decide (m.2.2.1 ≤ total - own) && !V k s m.2.1 (own + m.2.2.2))
structure IsDue (c : Ct) (side t total : Int) (V : VF) : Prop where
  at_ : ∀ k s p own : Int, 0 ≤ k → k < c.n → s ∈ c.below k t → 0 ≤ p → p < (c.game k).size → 0 ≤ own → own ≤ total → V k s p own = winsF c side t total V k s p own
def rowB (V : VF) (k s : Int) (total : Nat) (p : Int) : List Bool := (nats (total + 1)).map (V k s p)
def rowD (ys : List Bool) : Dt := .lst (ys.map .bl)
def tblD (c : Ct) (V : VF) (total : Nat) (k s : Int) : Dt := .lst (((nats (c.game k).size).map (rowB V k s total)).map rowD)
theorem tbl_at {c : Ct} {V : VF} {total : Nat} {k s p : Int} (h0 : 0 ≤ p) (h1 : p < (c.game k).size) : atI (((nats (c.game k).size).map (rowB V k s total)).map rowD) p = some (rowD (rowB V k s total p)) := by
  refine at_map h0 ?_
  rw [List.getElem?_map, nats_at (by omega)]
  simp only [Option.map_some]
  rw [show ((p.toNat : Nat) : Int) = p by omega]
theorem row_at' {V : VF} {total : Nat} {k s p own : Int} (h0 : 0 ≤ own) (h1 : own ≤ total) : atI ((rowB V k s total p).map Dt.bl) own = some (.bl (V k s p own)) := by
  refine at_map h0 ?_
  unfold rowB
  rw [List.getElem?_map, nats_at (by omega)]
  simp only [Option.map_some]
  rw [show ((own.toNat : Nat) : Int) = own by omega]
theorem worth_same {c : Ct} {side o : Int} (hs : side = 1 ∨ side = 2) (ho : o = 0 ∨ o = 1 ∨ o = 2) : worthM c side o = worthL c side o := by
  unfold worthM worthL
  rcases hs with rfl | rfl <;> rcases ho with rfl | rfl | rfl <;> simp
def ToldOk (c : Ct) (V : VF) (total : Nat) (t k : Int) (kvs : List (List Key × Dt)) : Prop := ∀ s, k < c.n → s ∈ c.below k t → getT kvs [.inl k, .inl s] = some (tblD c V total k s)
section
variable {P : Program} {w : World} {K : PySem.W.Frag} {mg : Str → Option Value} {base : Heap}
def R_L_next (ds : List Dt) (d : Dt) : Prop := ∃ (c : Ct) (side t : Int) (kvs : List (List Key × Dt)) (k s o own : Int) (V : VF) (total : Nat), ds = [cnD c, .int side, .int t, .dT kvs, .int k, .int s, .int o, .int own] ∧ d = .bl (nextF c side t V k s o own) ∧
  CtOk c ∧ (side = 1 ∨ side = 2) ∧ (o = 0 ∨ o = 1 ∨ o = 2) ∧ 0 ≤ k ∧ k < c.n ∧ s ∈ c.below k t ∧ 0 ≤ own ∧ own ≤ total ∧ ToldOk c V total t (k + 1) kvs
theorem D_L_next (T : Txt P w K mg base) : Def P w K mg base "_law_next" ["contest", "side", "target", "told", "leg", "score", "outcome", "own"] 2 (spD K R_L_next) := by
  obtain ⟨fd, F⟩ := T.d_L_next
  refine ⟨_, fd, T.g_L_next, F.kp, F.bindsN fun _ _ _ _ _ _ us hl => match us, hl with | [_, _, _, _, _, _, _, _], _ => rfl, fn_D F sc_L_next vi_L_next st_L_next (fun ds d h => ?_) (fun X hX C hr ds d h => ?_)⟩
  · obtain ⟨c, side, t, kvs, k, s, o, own, V, total, rfl, rfl, ok, hs, ho, h0, h1, hb, o0, o1, hT⟩ := h; rfl
  obtain ⟨rfl, rfl, rfl, rfl, rfl⟩ := hX
  obtain ⟨c, side, t, kvs, k, s, o, own, V, total, rfl, rfl, ok, hs, ho, h0, h1, hb, o0, o1, hT⟩ := h
  have n3 := ok.n3
  have hln : ∀ {os : Os}, Lnd os (.lst (c.legs.map lgL)) (c.n : Int) := fun {os} => (Lnd.lst .l).is (by rw [List.length_map]; rfl)
  refine jb_cons (js_set C 8 (jp_op (jp_var C 5 rfl rfl rfl) (jp_call C (D_L_worth T) (hr.mono (by decide)) (ja_cons (jp_var C 0 rfl rfl rfl) (ja_cons (jp_var C 1 rfl rfl rfl) (ja_cons (jp_var C 6 rfl rfl rfl) ja_nil))) (⟨c, side, o, rfl, rfl⟩) rfl) jo_add) ?_)
  unfold nextF
  refine jb_cons (js_if (jt_cmp (jp_var C 8 rfl rfl rfl) (jp_var C 2 rfl rfl rfl) jo_ge) (fun h => ?_) (fun h => jb_nil ?_))
  · rw [if_pos (of_decide_eq_true h)]
    exact jb_cons (js_ret jp_bl rfl)
  · have h := of_decide_eq_false h
    rw [if_neg h]
    refine jb_cons (js_if (jt_cmp (jp_var C 4 rfl rfl rfl) (jp_op (jp_lenX C T.f_len (jp_ix (jp_var C 0 rfl rfl rfl) jp_int (.lst .l rfl)) (hln)) jp_int jo_sub) jo_eqI) (fun h2 => ?_) (fun h2 => jb_nil ?_))
    · rw [if_pos (of_decide_eq_true h2)]
      exact jb_cons (js_ret jp_bl rfl)
    · have h2 := of_decide_eq_false h2
      rw [if_neg h2]
      have hb2 : s + worthL c side o ∈ c.below (k + 1) t := mem_below.mpr ⟨by rw [← worth_same hs ho]; exact ok.after h0 (mem_below.mp hb).1, by omega⟩
      have lo := ok.lgOk (k := k + 1) (by omega) (by omega)
      have hgs : (c.lg (k + 1)).at_ < (c.game (k + 1)).size := by unfold Ct.game; rw [Lg.seen_size]; exact lo.at1
      exact jb_cons (js_ret (jp_ix (jp_ix (jp_dget (k := ([.inl (k + 1), .inl (s + worthL c side o)])) (by have := L2.Room.units hr; omega) (jp_var C 3 rfl rfl rfl) (by walk_at "dk") (ja_cons (jp_op (jp_var C 4 rfl rfl rfl) jp_int jo_add) (ja_cons (jp_var C 8 rfl rfl rfl) ja_nil)) (hT _ (by omega) hb2) (by show 2 ≤ 1000; decide)) (jp_ix (jp_ix (jp_ix (jp_var C 0 rfl rfl rfl) jp_int (.lst .l rfl)) (jp_op (jp_var C 4 rfl rfl rfl) jp_int jo_add) (.lst .l (at_map (by omega) (CtOk.lg_at (c := c) (k := k + 1) (by omega) (by omega))))) jp_int (.lst .l rfl)) (.lst .l (tbl_at lo.at0 hgs))) (jp_var C 7 rfl rfl rfl) (.lst .l (row_at' o0 o1))) rfl)
theorem worthL_dummy : True := trivial
def R_L_wins (ds : List Dt) (d : Dt) : Prop := ∃ (c : Ct) (side t : Int) (kvs : List (List Key × Dt)) (k s p own : Int) (V : VF) (total : Nat) (yss : List (List Bool)),
  ds = [cnD c, blD (c.game k), .int side, .int t, .dT kvs, .int k, .int s, .int total, .lst (yss.map rowD), .int p, .int own] ∧ d = .bl (winsF c side t total V k s p own) ∧
  CtOk c ∧ (side = 1 ∨ side = 2) ∧ 0 ≤ k ∧ k < c.n ∧ s ∈ c.below k t ∧ 0 ≤ p ∧ p < (c.game k).size ∧ 0 ≤ own ∧ own ≤ total ∧ ToldOk c V total t (k + 1) kvs ∧ ∀ q : Int, p < q → q < (c.game k).size → yss[q.toNat]? = some (rowB V k s total q)
theorem D_L_wins (T : Txt P w K mg base) : Def P w K mg base "_law_wins" ["contest", "built", "side", "target", "told", "leg", "score", "total", "rows", "position", "own"] 3 (spD K R_L_wins) := by
  obtain ⟨fd, F⟩ := T.d_L_wins
  refine ⟨_, fd, T.g_L_wins, F.kp, F.bindsN fun _ _ _ _ _ _ us hl => match us, hl with | [_, _, _, _, _, _, _, _, _, _, _], _ => rfl, fn_D F sc_L_wins vi_L_wins st_L_wins (fun ds d h => ?_) (fun X hX C hr ds d h => ?_)⟩
  · obtain ⟨c, side, t, kvs, k, s, p, own, V, total, yss, rfl, rfl, ok, hs, h0, h1, hb, p0, p1, o0, o1, hT, hY⟩ := h; rfl
  obtain ⟨rfl, rfl, rfl, rfl, rfl⟩ := hX
  obtain ⟨c, side, t, kvs, k, s, p, own, V, total, yss, rfl, rfl, ok, hs, h0, h1, hb, p0, p1, o0, o1, hT, hY⟩ := h
  have hg := ok.hg h0 h1
  have hm := hg.ok.mark_in p0 p1
  have hmv := hg.ok.mv p0 p1
  have hac := hg.ac p p0 p1
  have hrow := hg.ok.row_at p0 p1
  refine jb_cons (js_set C 11 (jp_ix (jp_ix (jp_var C 1 rfl rfl rfl) jp_int (.lst .l rfl)) (jp_var C 9 rfl rfl rfl) (.lst .l (at_map p0 (GmOk.mark_at p0 p1)))) ?_)
  unfold winsF
  refine jb_cons (js_if (jt_cmp (jp_var C 11 rfl rfl rfl) jp_int jo_gt) (fun h => ?_) (fun h => jb_nil ?_))
  · have h := of_decide_eq_true h
    rw [if_pos h]
    exact jb_cons (js_ret (jp_call C (D_L_next T) (hr.mono (by decide)) (ja_cons (jp_var C 0 rfl rfl rfl) (ja_cons (jp_var C 2 rfl rfl rfl) (ja_cons (jp_var C 3 rfl rfl rfl) (ja_cons (jp_var C 4 rfl rfl rfl) (ja_cons (jp_var C 5 rfl rfl rfl) (ja_cons (jp_var C 6 rfl rfl rfl) (ja_cons (jp_ix (jp_new (jn_lst (ja_cons jp_int (ja_cons jp_int (ja_cons jp_int ja_nil))))) (jp_op (jp_var C 11 rfl rfl rfl) jp_int jo_sub) (.lst .l (endv_at h hm.2))) (ja_cons (jp_var C 10 rfl rfl rfl) ja_nil)))))))) (⟨c, side, t, kvs, k, s, _, own, V, total, rfl, rfl, ok, hs, endv_in _, h0, h1, hb, o0, o1, hT⟩) rfl) rfl)
  · have h := of_decide_eq_false h
    rw [if_neg h]
    refine jb_cons (js_set C 12 (jp_call C (D_L_flag T) (hr.mono (by decide)) (ja_cons (jp_var C 0 rfl rfl rfl) (ja_cons (jp_var C 1 rfl rfl rfl) (ja_cons (jp_var C 2 rfl rfl rfl) (ja_cons (jp_var C 3 rfl rfl rfl) (ja_cons (jp_var C 5 rfl rfl rfl) (ja_cons (jp_var C 6 rfl rfl rfl) (ja_cons (jp_var C 9 rfl rfl rfl) ja_nil))))))) (⟨c, c.game k, side, t, k, s, p, rfl, rfl, ok, p0, p1, h0, h1⟩) rfl) ?_)
    generalize flagOf c (c.game k) side t k s p = fl
    refine jb_cons (js_if (jt_cmp (jp_var C 11 rfl rfl rfl) (jp_var C 2 rfl rfl rfl) jo_eqI) (fun h2 => ?_) (fun h2 => jb_nil ?_))
    · rw [if_pos (of_decide_eq_true h2)]
      refine jb_cons (js_if (jt_val (jp_var C 12 rfl rfl rfl)) (fun h3 => ?_) (fun h3 => jb_nil ?_))
      · rw [if_pos h3]
        exact jb_cons (js_ret jp_bl rfl)
      · rw [if_neg (by rw [h3]; exact Bool.false_ne_true)]
        refine jb_cons (js_forM C ((c.game k).row p) mvD (ws := [13, 14, 15, 16]) (ji_X (jp_ix (jp_ix (jp_var C 1 rfl rfl rfl) jp_int (.lst .l rfl)) (jp_var C 9 rfl rfl rfl) (.lst .l (at_map p0 hrow))) (.lst)) (fun pre δ os => ∃ a b e f, δ = [some (cnD c), some (blD (c.game k)), some (.int side), some (.int t), some (.dT kvs), some (.int k), some (.int s), some (.int total), some (.lst (yss.map rowD)), some (.int p), some (.int own), some (.int ((c.game k).mark p)), some (.bl fl), a, b, e, f] ∧ os = [] ∧ (pre.any fun m => decide (m.2.2.1 ≤ own) && V k s m.2.1 (own - m.2.2.2)) = false) ⟨_, _, _, _, rfl, rfl, rfl⟩ ?_ ?_)
        · rintro pre m post δ' os' e ⟨_, _, _, _, rfl, rfl, hpre⟩
          have hmm : m ∈ (c.game k).row p := by rw [e]; simp
          obtain ⟨_, m0, m1, d0, d1, _⟩ := hmv m hmm
          have hlt := hac m hmm
          have hy := at_map (f := rowD) m0 (hY m.2.1 hlt m1)
          refine ⟨_, (jg_tup C (jgs_cons (jg_name C 13) (jgs_cons (jg_name C 14) (jgs_cons (jg_name C 15) (jgs_cons (jg_name C 16) jgs_nil))))), ?_⟩
          refine jb_cons (js_if (k := decide (m.2.2.1 ≤ own) && V k s m.2.1 (own - m.2.2.2)) (jt_w (jw_and (jt_cmp (jp_var C 15 rfl rfl rfl) (jp_var C 10 rfl rfl rfl) jo_le) (fun hk2 => (jw_and1 (jt_val (jp_ix (jp_ix (jp_var C 8 rfl rfl rfl) (jp_var C 14 rfl rfl rfl) (.lst .l hy)) (jp_op (jp_var C 10 rfl rfl rfl) (jp_var C 16 rfl rfl rfl) jo_sub) (.lst .l (row_at' (by have := of_decide_eq_true hk2; omega) (by omega))))))))) (fun h4 => ?_) (fun h4 => jb_nil (jb_nil ⟨_, _, _, _, rfl, rfl, ?_⟩)))
          · exact jb_cons (js_ret jp_bl (congrArg Dt.bl (Eq.symm (List.any_eq_true.mpr ⟨m, hmm, h4⟩))))
          · rw [List.any_append, hpre, List.any_cons, h4]; rfl
        · rintro δ' os' ⟨_, _, _, _, rfl, rfl, hpre⟩
          exact jb_cons (js_ret jp_bl (by rw [hpre]))
    · rw [if_neg (of_decide_eq_false h2)]
      refine jb_cons (js_if (jt_not (jt_val (jp_var C 12 rfl rfl rfl))) (fun h3 => ?_) (fun h3 => jb_nil ?_))
      · have h3 : fl = false := by cases fl <;> first | rfl | cases h3
        rw [if_pos h3]
        exact jb_cons (js_ret jp_bl rfl)
      · have h3 : fl = true := by cases fl <;> first | rfl | cases h3
        rw [if_neg (by rw [h3]; exact fun z => by cases z)]
        refine jb_cons (js_forM C ((c.game k).row p) mvD (ws := [13, 14, 15, 16]) (ji_X (jp_ix (jp_ix (jp_var C 1 rfl rfl rfl) jp_int (.lst .l rfl)) (jp_var C 9 rfl rfl rfl) (.lst .l (at_map p0 hrow))) (.lst)) (fun pre δ os => ∃ a b e f, δ = [some (cnD c), some (blD (c.game k)), some (.int side), some (.int t), some (.dT kvs), some (.int k), some (.int s), some (.int total), some (.lst (yss.map rowD)), some (.int p), some (.int own), some (.int ((c.game k).mark p)), some (.bl fl), a, b, e, f] ∧ os = [] ∧ (pre.all fun m => !(decide (m.2.2.1 ≤ total - own) && !V k s m.2.1 (own + m.2.2.2))) = true) ⟨_, _, _, _, rfl, rfl, rfl⟩ ?_ ?_)
        · rintro pre m post δ' os' e ⟨_, _, _, _, rfl, rfl, hpre⟩
          have hmm : m ∈ (c.game k).row p := by rw [e]; simp
          obtain ⟨_, m0, m1, d0, d1, _⟩ := hmv m hmm
          have hlt := hac m hmm
          have hy := at_map (f := rowD) m0 (hY m.2.1 hlt m1)
          refine ⟨_, (jg_tup C (jgs_cons (jg_name C 13) (jgs_cons (jg_name C 14) (jgs_cons (jg_name C 15) (jgs_cons (jg_name C 16) jgs_nil))))), ?_⟩
          refine jb_cons (js_if (k := decide (m.2.2.1 ≤ total - own) && !V k s m.2.1 (own + m.2.2.2)) (jt_w (jw_and (jt_cmp (jp_var C 15 rfl rfl rfl) (jp_op (jp_var C 7 rfl rfl rfl) (jp_var C 10 rfl rfl rfl) jo_sub) jo_le) (fun hk2 => (jw_and1 (jt_not (jt_val (jp_ix (jp_ix (jp_var C 8 rfl rfl rfl) (jp_var C 14 rfl rfl rfl) (.lst .l hy)) (jp_op (jp_var C 10 rfl rfl rfl) (jp_var C 16 rfl rfl rfl) jo_add) (.lst .l (row_at' (by omega) (by have := of_decide_eq_true hk2; omega)))))))))) (fun h4 => ?_) (fun h4 => jb_nil (jb_nil ⟨_, _, _, _, rfl, rfl, ?_⟩)))
          · refine jb_cons (js_ret jp_bl (congrArg Dt.bl ?_))
            cases hall : ((c.game k).row p).all fun m => !(decide (m.2.2.1 ≤ total - own) && !V k s m.2.1 (own + m.2.2.2)) with
            | false => rfl
            | true =>
              have := List.all_eq_true.mp hall m hmm
              rw [h4] at this
              cases this
          · rw [List.all_append, hpre, List.all_cons, h4]; rfl
        · rintro δ' os' ⟨_, _, _, _, rfl, rfl, hpre⟩
          exact jb_cons (js_ret jp_bl (by rw [hpre]))
end
end K70

set_option maxHeartbeats 4000000
namespace K70
open PySem PySem.Spec PyProof.Rows L2 DL
local macro_rules | `(tactic| walk_at "mul") => `(tactic| first | exact .inl (by decide) | exact .inr (by decide) | exact .inl (by omega) | exact .inr (by omega))
local macro_rules | `(tactic| walk_at "pos") => `(tactic| first | assumption | decide | omega)
local macro_rules | `(tactic| walk_at "div") => `(tactic| first | exact ⟨by decide, by decide⟩ | exact ⟨by omega, by omega⟩)
local macro_rules | `(tactic| walk_at "pow") => `(tactic| exact ⟨by decide, by decide, by decide⟩)
local macro_rules | `(tactic| walk_at "side") => `(tactic| first | assumption | rfl | omega | decide)
local macro_rules | `(tactic| walk_at "lk") => `(tactic| first | exact .lst .l | exact .tup | exact .l)
local macro_rules | `(tactic| walk_at "it") => `(tactic| first | exact .lst | exact .tup)
local macro_rules | `(tactic| walk_at "len") => `(tactic| first | exact .lst .l | exact .tup | exact .scr)
local macro_rules | `(tactic| walk_at "ix") => `(tactic| first | exact .lst .l rfl | exact .tup rfl | exact .lst .l (by assumption) | exact .tup (by assumption) | exact .scr (by assumption))
local macro_rules | `(tactic| walk_at "dk") => `(tactic| exact .inl rfl)

/-! ### the table that the search makes -/
def ent (c : Ct) (V : VF) (total : Nat) (k s : Int) : List Key × Dt := ([.inl k, .inl s], tblD c V total k s)
def dueTo (c : Ct) (V : VF) (total : Nat) (t : Int) (i : Nat) : List (List Key × Dt) := (List.range i).flatMap fun (b : Nat) => (c.below ((c.n : Int) - 1 - b) t).map (ent c V total ((c.n : Int) - 1 - b))
def dueK (c : Ct) (V : VF) (total : Nat) (t : Int) : List (List Key × Dt) := dueTo c V total t c.n
theorem dueTo_succ (c : Ct) (V : VF) (total : Nat) (t : Int) (i : Nat) : dueTo c V total t (i + 1) = dueTo c V total t i ++ (c.below ((c.n : Int) - 1 - i) t).map (ent c V total ((c.n : Int) - 1 - i)) := by
  unfold dueTo
  rw [List.range_succ, List.flatMap_append, List.flatMap_singleton]
theorem mem_dueTo {c : Ct} {V : VF} {total : Nat} {t : Int} {i : Nat} {e : List Key × Dt} : e ∈ dueTo c V total t i ↔ ∃ k s : Int, (c.n : Int) - 1 - k < i ∧ k < c.n ∧ s ∈ c.below k t ∧ e = ent c V total k s := by
  unfold dueTo
  rw [List.mem_flatMap]
  constructor
  · rintro ⟨b, hb, h⟩
    obtain ⟨s, hs, rfl⟩ := List.mem_map.mp h
    have := List.mem_range.mp hb
    exact ⟨_, s, by omega, by omega, hs, rfl⟩
  · rintro ⟨k, s, h1, h2, h3, rfl⟩
    have e : (c.n : Int) - 1 - (((c.n : Int) - 1 - k).toNat : Nat) = k := by omega
    exact ⟨((c.n : Int) - 1 - k).toNat, List.mem_range.mpr (by omega), by rw [e]; exact List.mem_map.mpr ⟨s, h3, rfl⟩⟩
theorem get_of {c : Ct} {V : VF} {total : Nat} {k s : Int} {kvs : List (List Key × Dt)} (hm : ent c V total k s ∈ kvs) (h : ∀ e ∈ kvs, ∃ k' s', e = ent c V total k' s') : getT kvs [.inl k, .inl s] = some (tblD c V total k s) := by
  unfold getT
  cases hf : kvs.find? fun kv => decide (kv.1 = [.inl k, .inl s]) with
  | none => exact absurd (decide_eq_true rfl) (List.find?_eq_none.mp hf _ hm)
  | some e =>
    have h1 : decide (e.1 = [.inl k, .inl s]) = true := List.find?_some (p := fun kv : List Key × Dt => decide (kv.1 = [.inl k, .inl s])) hf
    have h1 := of_decide_eq_true h1
    obtain ⟨k', s', rfl⟩ := h e (List.mem_of_find?_eq_some hf)
    have h2 : ([.inl k', .inl s'] : List Key) = [.inl k, .inl s] := h1
    simp at h2
    obtain ⟨rfl, rfl⟩ := h2
    rfl
theorem put_new {kvs : List (List Key × Dt)} {k : List Key} {d : Dt} (h : ∀ e ∈ kvs, e.1 ≠ k) : putT kvs k d = kvs ++ [(k, d)] := by
  unfold putT
  rw [if_neg]
  rw [Bool.not_eq_true, List.any_eq_false]
  intro e he
  simpa using h e he
theorem below_nd (c : Ct) (k t : Int) : (c.below k t).Nodup := by
  have : (c.below k t).Pairwise (· < ·) := (scL_asc _).sublist List.filter_sublist
  exact this.imp fun h => by omega
section
variable {P : Program} {w : World} {K : PySem.W.Frag} {mg : Str → Option Value} {base : Heap}
def R_L_search (ds : List Dt) (d : Dt) : Prop := ∃ (c : Ct) (side t : Int) (total : Nat) (V : VF), ds = [cnD c, .int side, .int t, .int total] ∧ d = .dT (dueK c V total t) ∧ CtOk c ∧ (side = 1 ∨ side = 2) ∧ total ≤ 1000 ∧ IsDue c side t total V
theorem filter_pre {c : Ct} {k t : Int} {pre post : List Int} {s : Int} (e : c.sc k = pre ++ s :: post) (h : s < t) : s ∈ c.below k t ∧ ∀ u ∈ pre.filter (fun x => decide (x < t)), u ≠ s := by
  refine ⟨mem_below.mpr ⟨by rw [e]; simp, h⟩, fun u hu z => ?_⟩
  have a : (c.sc k).Pairwise (· < ·) := scL_asc _
  rw [e] at a
  have := (List.pairwise_append.mp a).2.2 u (List.mem_filter.mp hu).1 s List.mem_cons_self
  omega
theorem D_L_search (T : Txt P w K mg base) : Def P w K mg base "_law_search" ["contest", "side", "target", "total"] 4 (spD K R_L_search) := by
  obtain ⟨fd, F⟩ := T.d_L_search
  refine ⟨_, fd, T.g_L_search, F.kp, F.bindsN fun _ _ _ _ _ _ us hl => match us, hl with | [_, _, _, _], _ => rfl, fn_D F sc_L_search vi_L_search st_L_search (fun ds d h => ?_) (fun X hX C hr ds d h => ?_)⟩
  · obtain ⟨c, side, t, total, V, rfl, rfl, ok, hs, hT, hV⟩ := h; rfl
  obtain ⟨rfl, rfl, rfl, rfl, rfl⟩ := hX
  obtain ⟨c, side, t, total, V, rfl, rfl, ok, hs, hT, hV⟩ := h
  have n1 := ok.n1
  have n3 := ok.n3
  have hln : ∀ {os : Os}, Lnd os (.lst (c.legs.map lgL)) (c.n : Int) := fun {os} => (Lnd.lst .l).is (by rw [List.length_map]; rfl)
  refine jb_cons (js_ownD C 4 fun pT _ => ?_)
  refine jb_cons (js_set C 5 (jp_lenX C T.f_len (jp_ix (jp_var C 0 rfl rfl rfl) jp_int (.lst .l rfl)) (hln)) ?_)
  refine jb_cons (js_forR C (c.n : Int) (ws := [6]) (ji_rangeN C T.f_range (jp_var C 5 rfl rfl rfl) (by omega) (by omega)) (fun i δ os => ∃ v6 v7 v8 v9 v10 v11 v12 v13 v14, δ = [some (cnD c), some (.int side), some (.int t), some (.int total), some (.at pT), some (.int c.n), v6, v7, v8, v9, v10, v11, v12, v13, v14, none] ∧ os = [(pT, .dT (dueTo c V total t i))]) ⟨_, _, _, _, _, _, _, _, _, rfl, rfl⟩ ?_ ?_)
  · rintro i δ' os' hi ⟨_, _, _, _, v10, v11, v12, v13, v14, rfl, rfl⟩
    have hi : i < c.n := hi
    have hk0 : 0 ≤ (c.n : Int) - 1 - i := by omega
    have hk1 : (c.n : Int) - 1 - i < c.n := by omega
    have hSucc := dueTo_succ c V total t i
    have hpre0 : ∀ e ∈ dueTo c V total t i, ∃ k' s', e = ent c V total k' s' ∧ (c.n : Int) - 1 - i < k' := fun e he => by
      obtain ⟨k', s', a, b, d, rfl⟩ := mem_dueTo.mp he
      exact ⟨k', s', rfl, by omega⟩
    have hTold : ToldOk c V total t ((c.n : Int) - 1 - i + 1) (dueTo c V total t i) := fun s h1 h2 => get_of (mem_dueTo.mpr ⟨_, s, by omega, h1, h2, rfl⟩) fun e he => by
      obtain ⟨k', s', a, _⟩ := hpre0 e he
      exact ⟨k', s', a⟩
    refine ⟨_, (jg_name C 6), ?_⟩
    refine jb_cons (js_set C 7 (jp_op (jp_op (jp_var C 5 rfl rfl rfl) jp_int jo_sub) (jp_var C 6 rfl rfl rfl) jo_sub) ?_)
    generalize (c.n : Int) - 1 - i = k at hk0 hk1 hSucc hpre0 hTold
    have hg := ok.hg hk0 hk1
    have hgs := ok.gsz hk0 hk1
    have hat := CtOk.lg_at (c := c) hk0 hk1
    refine jb_cons (js_set C 8 (jp_call C (D_L_seen T) (hr.mono (by decide)) (ja_cons (jp_ix (jp_ix (jp_var C 0 rfl rfl rfl) jp_int (.lst .l rfl)) (jp_var C 7 rfl rfl rfl) (.lst .l (at_map hk0 hat))) ja_nil) (⟨c.lg k, rfl, rfl, ok.lgOk hk0 hk1⟩) rfl) ?_)
    refine jb_cons (js_set C 9 (jp_lenX C T.f_len (jp_ix (jp_var C 8 rfl rfl rfl) jp_int (.lst .l rfl)) (Lnd.is (.lst .l) (m := ((c.game k).size : Int)) (by rw [List.length_map]; rfl))) ?_)
    have hsz : (c.game k).size ≤ 5 := by omega
    refine jb_cons (js_forM C (c.sc k) Dt.int (ws := [10]) (ji_X (jp_call C (D_L_scores T) (hr.mono (by decide)) (ja_cons (jp_var C 0 rfl rfl rfl) (ja_cons (jp_var C 7 rfl rfl rfl) ja_nil)) (⟨c, k, rfl, rfl, ok, hk0, by omega⟩) rfl) (.lst)) (fun pre δ os => ∃ v10 v11 v12 v13 v14, δ = [some (cnD c), some (.int side), some (.int t), some (.int total), some (.at pT), some (.int c.n), some (.int i), some (.int k), some (blD (c.game k)), some (.int (c.game k).size), v10, v11, v12, v13, v14, none] ∧ os = [(pT, .dT (dueTo c V total t i ++ (pre.filter fun s => decide (s < t)).map (ent c V total k)))]) ⟨_, _, _, _, _, rfl, by simp⟩ ?_ ?_)
    · rintro pre s post δ' os' e ⟨_, v11, v12, v13, v14, rfl, rfl⟩
      have hplen : (dueTo c V total t i ++ (pre.filter fun s => decide (s < t)).map (ent c V total k)).length < 100000 := by
        rw [List.length_append, List.length_map]
        have a := flat_len (f := fun (b : Nat) => (c.below ((c.n : Int) - 1 - b) t).map (ent c V total ((c.n : Int) - 1 - b))) (b := 28) (l := List.range i) fun b hb => by rw [List.length_map]; exact below_len ok (by omega)
        rw [List.length_range] at a
        have b := List.length_filter_le (fun s => decide (s < t)) pre
        have d := ok.sc_len (k := k) (by omega)
        rw [e] at d
        simp at d
        show (dueTo c V total t i).length + _ < _
        unfold dueTo
        omega
      refine ⟨_, (jg_name C 10), ?_⟩
      refine jb_cons (js_if (jt_cmp (jp_var C 10 rfl rfl rfl) (jp_var C 2 rfl rfl rfl) jo_lt) (fun h => ?_) (fun h => jb_nil (jb_nil ⟨_, _, _, _, _, rfl, by rw [List.filter_append, List.filter_cons, if_neg (by rw [h]; exact Bool.false_ne_true)]; simp⟩)))
      have hst := of_decide_eq_true h
      obtain ⟨hb, hnew⟩ := filter_pre e hst
      have hTold2 : ToldOk c V total t (k + 1) (dueTo c V total t i ++ (pre.filter fun s => decide (s < t)).map (ent c V total k)) := fun u h1 h2 => get_of (List.mem_append_left _ (by
        have := hTold u h1 h2
        unfold getT at this
        obtain ⟨e2, he2, e3⟩ := Option.map_eq_some_iff.mp this
        have h4 := of_decide_eq_true (List.find?_some (p := fun kv : List Key × Dt => decide (kv.1 = [.inl (k + 1), .inl u])) he2)
        have h5 := List.mem_of_find?_eq_some he2
        have : e2 = ent c V total (k + 1) u := Prod.ext h4 e3
        rw [← this]; exact h5)) fun e he => by
          rcases List.mem_append.mp he with he | he
          · obtain ⟨k', s', a, _⟩ := hpre0 e he
            exact ⟨k', s', a⟩
          · obtain ⟨s', _, rfl⟩ := List.mem_map.mp he
            exact ⟨k, s', rfl⟩
      have hfresh : ∀ e ∈ dueTo c V total t i ++ (pre.filter fun s => decide (s < t)).map (ent c V total k), e.1 ≠ [.inl k, .inl s] := fun e he z => by
        rcases List.mem_append.mp he with he | he
        · obtain ⟨k', s', rfl, hlt⟩ := hpre0 e he
          have z : ([.inl k', .inl s'] : List Key) = [.inl k, .inl s] := z
          simp at z
          omega
        · obtain ⟨s', hs', rfl⟩ := List.mem_map.mp he
          have z : ([.inl k, .inl s'] : List Key) = [.inl k, .inl s] := z
          simp at z
          exact hnew s' hs' z
      generalize hkv : dueTo c V total t i ++ (pre.filter fun s => decide (s < t)).map (ent c V total k) = kvs at hTold2 hfresh hplen
      refine jb_cons (js_lcN C 11 (List.range (c.game k).size) (fun (k : Nat) => Dt.int (k : Int))  (fun _ => []) [("position", 15)] (ji_rangeN C T.f_range (jp_var C 9 rfl rfl rfl) (by show ((c.game k).size : Int) ≤ 100000; omega) (by show 0 ≤ ((c.game k).size : Int); omega)) (?_) (by simp; omega) rfl rfl (by decide +kernel) rfl rfl rfl rfl rfl (fun pR ps hps nd hfr => ?_))
      · intro k hk
        exact ⟨_, fun X' hB C => ⟨(jg_name C 15), (jn_lst ja_nil)⟩⟩
      rw [List.length_range] at hps
      let n := (c.game k).size
      let full : Int → List Bool := rowB V k s total
      let YF : Nat → List (List Bool) := fun m => (List.range n).map fun (q : Nat) => if m ≤ q then full q else []
      let YA : Nat → List Bool → List (List Bool) := fun a part => (List.range n).map fun (q : Nat) => if a < q then full q else if q = a then part else []
      have yA0 : ∀ a, YA a [] = YF (a + 1) := fun a => List.map_congr_left fun q _ => by
        by_cases h1 : a < q
        · rw [if_pos h1, if_pos (show a + 1 ≤ q by omega)]
        · rw [if_neg h1, if_neg (show ¬ a + 1 ≤ q by omega)]; split <;> rfl
      have yA1 : ∀ a : Nat, YA a (full a) = YF a := fun a => List.map_congr_left fun q _ => by
        by_cases h1 : a < q
        · rw [if_pos h1, if_pos (by omega)]
        · rw [if_neg h1]
          by_cases h2 : q = a
          · subst h2; rw [if_pos rfl, if_pos (Nat.le_refl _)]
          · rw [if_neg h2, if_neg (by omega)]
      have yAl : ∀ a part, (YA a part).length = n := fun a part => by show ((List.range n).map _).length = n; rw [List.length_map, List.length_range]
      have yAa : ∀ a part, a < n → (YA a part)[a]? = some part := fun a part ha => by
        show ((List.range n).map _)[a]? = _
        rw [List.getElem?_map, List.getElem?_range ha]
        simp
      have yAq : ∀ (a : Nat) part (q : Int), (a : Int) < q → q < n → (YA a part)[q.toNat]? = some (full q) := fun a part q h1 h2 => by
        show ((List.range n).map _)[q.toNat]? = _
        rw [List.getElem?_map, List.getElem?_range (by omega)]
        simp only [Option.map_some]
        rw [if_pos (by omega), show ((q.toNat : Nat) : Int) = q by omega]
      have yAs : ∀ a part b, a < n → (YA a part).set a (part ++ [b]) = YA a (part ++ [b]) := fun a part b ha => by
        apply List.ext_getElem?
        intro q
        rw [List.getElem?_set]
        by_cases h1 : a = q
        · subst h1; rw [if_pos rfl, if_pos (by rw [yAl]; exact ha), yAa _ _ ha]
        · rw [if_neg h1]
          show ((List.range n).map _)[q]? = ((List.range n).map _)[q]?
          rw [List.getElem?_map, List.getElem?_map]
          by_cases hq : q < n
          · rw [List.getElem?_range hq]
            simp only [Option.map_some]
            by_cases h2 : a < q
            · rw [if_pos h2, if_pos h2]
            · rw [if_neg h2, if_neg h2, if_neg (fun z => h1 z.symm), if_neg (fun z => h1 z.symm)]
          · rw [List.getElem?_eq_none (by rw [List.length_range]; omega)]; rfl
      let OR : List (List Bool) → Os := fun yss => (pR, .lst (ps.map .at)) :: (zipO ps (yss.map fun ys => ys.map Dt.bl) ++ [(pT, .dT kvs)])
      have mR : ∀ {yss}, (pR, Ob.lst (ps.map .at)) ∈ OR yss := fun {_} => List.mem_cons_self
      have mT : ∀ {yss}, (pT, Ob.dT kvs) ∈ OR yss := fun {_} => List.mem_cons_of_mem _ (List.mem_append_right _ List.mem_cons_self)
      have mY : ∀ {yss : List (List Bool)} {j : Nat} {q : PySem.Addr} {ys : List Bool}, ps[j]? = some q → yss[j]? = some ys → (q, Ob.lst (ys.map .bl)) ∈ OR yss := fun {_ _ _ _} h1 h2 => List.mem_cons_of_mem _ (List.mem_append_left _ (zipO_mem h1 (by rw [List.getElem?_map, h2]; rfl)))
      have mD : ∀ {yss : List (List Bool)}, ps.length = yss.length → DeepL (OR yss) (ps.map .at) (yss.map rowD) := fun {yss} hl => by
        have := zipO_deep (ps := ps) (yss := yss.map fun ys => ys.map Dt.bl) (os := OR yss) (by rw [List.length_map]; exact hl) fun q hq => List.mem_cons_of_mem _ (List.mem_append_left _ hq)
        rw [List.map_map] at this
        exact this
      have hz0 : ((pR, Ob.lst (ps.map .at)) :: (zipO ps ((List.range (c.game k).size).map fun _ => []) ++ [(pT, Ob.dT kvs)])) = OR (YF n) := by
        show _ = (pR, _) :: (zipO ps (((List.range n).map _).map _) ++ _)
        rw [List.map_map]
        congr 3
        refine List.map_congr_left fun q hq => ?_
        have := List.mem_range.mp hq
        show [] = (if n ≤ q then full q else []).map Dt.bl
        rw [if_neg (by omega)]; rfl
      rw [hz0]
      refine jb_cons (js_forR C ((c.game k).size : Int) (ws := [12]) (ji_rangeN C T.f_range (jp_var C 9 rfl rfl rfl) (by omega) (by omega)) (fun j δ os => ∃ v12 v13 v14, δ = [some (cnD c), some (.int side), some (.int t), some (.int total), some (.at pT), some (.int c.n), some (.int i), some (.int k), some (blD (c.game k)), some (.int (c.game k).size), some (.int s), some (.at pR), v12, v13, v14, none] ∧ os = OR (YF (n - j))) ⟨_, _, _, rfl, rfl⟩ ?_ ?_)
      · rintro j δ' os' hj ⟨v12, v13, v14, rfl, rfl⟩
        have hj : j < n := hj
        refine ⟨_, (jg_name C 12), ?_⟩
        have hae : ((c.game k).size : Int) - 1 - j = ((n - 1 - j : Nat) : Int) := by show (n : Int) - 1 - j = _; omega
        refine jb_cons (js_set C 13 (JP.is (jp_op (jp_op (jp_var C 9 rfl rfl rfl) jp_int jo_sub) (jp_var C 12 rfl rfl rfl) jo_sub) (congrArg Dt.int hae)) ?_)
        have hy0 : YF (n - j) = YA (n - 1 - j) [] := by rw [yA0]; congr 1; omega
        have hyn : YF (n - (j + 1)) = YA (n - 1 - j) (full ((n - 1 - j : Nat) : Int)) := by rw [yA1]; congr 1; omega
        rw [hy0, hyn]
        have han : n - 1 - j < n := by omega
        generalize n - 1 - j = a at han
        have hap : a < ps.length := by rw [hps]; exact han
        have hp1 : ps[a]? = some ps[a] := List.getElem?_eq_getElem hap
        have hpm := List.getElem_mem hap
        refine jb_cons (js_forR C ((total : Int) + 1) (ws := [14]) (ji_rangeN C T.f_range (jp_op (jp_var C 3 rfl rfl rfl) jp_int jo_add) (by omega) (by omega)) (fun o δ os => ∃ v14, δ = [some (cnD c), some (.int side), some (.int t), some (.int total), some (.at pT), some (.int c.n), some (.int i), some (.int k), some (blD (c.game k)), some (.int (c.game k).size), some (.int s), some (.at pR), some (.int j), some (.int a), v14, none] ∧ os = OR (YA a ((nats o).map (V k s a)))) ⟨_, rfl, rfl⟩ ?_ ?_)
        · rintro o δ' os' ho ⟨_, rfl, rfl⟩
          have ho : (o : Int) ≤ total := by omega
          refine ⟨_, (jg_name C 14), ?_⟩
          have hv := hV.at_ k s a o hk0 hk1 hb (by omega) (by show (a : Int) < (n : Int); omega) (by omega) ho
          refine jb_cons (js_append (os' := OR (YA a ((nats (o + 1)).map (V k s a)))) (jp_ix (jp_var C 11 rfl rfl rfl) (jp_var C 13 rfl rfl rfl) (.lst (.o mR) (at_map (by omega) hp1))) (mY hp1 (yAa a _ han)) (jp_callO C (D_L_wins T) (hr.mono (by decide)) (ja_cons (jp_var C 0 rfl rfl rfl) (ja_cons (jp_var C 8 rfl rfl rfl) (ja_cons (jp_var C 1 rfl rfl rfl) (ja_cons (jp_var C 2 rfl rfl rfl) (ja_cons (jp_var C 4 rfl rfl rfl) (ja_cons (jp_var C 7 rfl rfl rfl) (ja_cons (jp_var C 10 rfl rfl rfl) (ja_cons (jp_var C 3 rfl rfl rfl) (ja_cons (jp_var C 11 rfl rfl rfl) (ja_cons (jp_var C 13 rfl rfl rfl) (ja_cons (jp_var C 14 rfl rfl rfl) ja_nil))))))))))) (.cons (.same _) (.cons (.same _) (.cons (.same _) (.cons (.same _) (.cons (.dT mT) (.cons (.same _) (.cons (.same _) (.cons (.same _) (.cons (.lst mR (mD (by rw [hps, yAl]))) (.cons (.same _) (.cons (.same _) .nil))))))))))) (⟨c, side, t, kvs, k, s, a, o, V, total, _, rfl, rfl, ok, hs, hk0, hk1, hb, by omega, by show (a : Int) < (n : Int); omega, by omega, ho, hTold2, fun q h1 h2 => yAq a _ q h1 h2⟩) rfl rfl) (by rw [List.length_map, List.length_map, nats_len]; omega) (jb_nil ⟨_, rfl, rfl⟩) (he := ?_))
          show putO _ _ ((pR, _) :: (zipO ps _ ++ _)) = _
          rw [putO_tl (fun z => (List.nodup_cons.mp nd).1 (by rw [z]; exact hpm)), zipO_put (List.nodup_cons.mp nd).2 (by rw [List.length_map, yAl, hps]) hp1]
          show (pR, _) :: (zipO ps _ ++ _) = (pR, _) :: (zipO ps _ ++ _)
          rw [← hv, nats_snoc, List.map_append]
          show (pR, _) :: (zipO ps (List.set (List.map _ (YA a _)) a (_ ++ [_])) ++ _) = (pR, _) :: (zipO ps (List.map _ (YA a (_ ++ [V k s a o]))) ++ _)
          rw [← yAs a _ _ han, List.map_set, List.map_append]; rfl
        · rintro δ' os' ⟨_, rfl, rfl⟩
          exact jb_nil ⟨_, _, _, rfl, rfl⟩
      · rintro δ' os' ⟨_, _, _, rfl, rfl⟩
        have hyz : YF (n - n) = (nats n).map (rowB V k s total) := by
          show (List.range n).map _ = (nats n).map _
          unfold nats
          rw [List.map_map, Nat.sub_self]
          exact List.map_congr_left fun q _ => if_pos (Nat.zero_le _)
        have hyl : ps.length = (YF (n - n)).length := by rw [hyz, List.length_map, nats_len, hps]
        have key : ∀ Y : List (List Bool), ps.length = Y.length → Deep ((pR, .lst (ps.map .at)) :: zipO ps (Y.map fun ys => ys.map Dt.bl)) (.at pR) (.lst (Y.map rowD)) := fun Y hl => by
          refine .lst List.mem_cons_self ?_
          have := zipO_deep (ps := ps) (yss := Y.map fun ys => ys.map Dt.bl) (os := (pR, .lst (ps.map .at)) :: zipO ps (Y.map fun ys => ys.map Dt.bl)) (by rw [List.length_map]; exact hl) fun q hq => List.mem_cons_of_mem _ hq
          have e : (Y.map fun ys => ys.map Dt.bl).map Dt.lst = Y.map rowD := by rw [List.map_map]; rfl
          rw [e] at this
          exact this
        refine jb_give (os' := [(pT, .dT kvs)]) (grp := (pR, .lst (ps.map .at)) :: zipO ps ((YF (n - n)).map fun ys => ys.map Dt.bl)) (d' := .lst ((YF (n - n)).map rowD)) 11 rfl (key _ hyl) (List.Perm.refl _) ?_
        · rw [hyz]
          refine jb_cons (js_dput (k := [.inl k, .inl s]) (by have := L2.Room.units hr; omega) (jp_var C 11 rfl rfl rfl) (jp_var C 4 rfl rfl rfl) (ja_cons (jp_var C 7 rfl rfl rfl) (ja_cons (jp_var C 10 rfl rfl rfl) ja_nil)) List.mem_cons_self (by show 2 ≤ 1000; decide) hplen (jb_nil (jb_nil ⟨_, _, _, _, _, rfl, ?_⟩)))
          rw [put_new hfresh, List.filter_append, List.filter_cons, if_pos h, List.map_append, ← List.append_assoc, hkv]; rfl
    · rintro δ' os' ⟨_, _, _, _, _, rfl, rfl⟩
      refine jb_nil ⟨_, _, _, _, _, _, _, _, _, rfl, ?_⟩
      rw [hSucc]; rfl
  · rintro δ' os' ⟨_, _, _, _, _, _, _, _, _, rfl, rfl⟩
    exact jb_cons (js_retD (jp_var C 4 rfl rfl rfl) List.mem_cons_self rfl)
end
end K70

set_option maxHeartbeats 4000000
namespace K70
open PySem PySem.Spec PyProof.Rows L2 DL
local macro_rules | `(tactic| walk_at "mul") => `(tactic| first | exact .inl (by decide) | exact .inr (by decide) | exact .inl (by omega) | exact .inr (by omega))
local macro_rules | `(tactic| walk_at "pos") => `(tactic| first | assumption | decide | omega)
local macro_rules | `(tactic| walk_at "div") => `(tactic| first | exact ⟨by decide, by decide⟩ | exact ⟨by omega, by omega⟩)
local macro_rules | `(tactic| walk_at "pow") => `(tactic| exact ⟨by decide, by decide, by decide⟩)
local macro_rules | `(tactic| walk_at "side") => `(tactic| first | assumption | rfl | omega | decide)
local macro_rules | `(tactic| walk_at "lk") => `(tactic| first | exact .lst .l | exact .tup | exact .l)
local macro_rules | `(tactic| walk_at "it") => `(tactic| first | exact .lst | exact .tup)
local macro_rules | `(tactic| walk_at "len") => `(tactic| first | exact .lst .l | exact .tup | exact .scr)
local macro_rules | `(tactic| walk_at "ix") => `(tactic| first | exact .lst .l rfl | exact .tup rfl | exact .lst .l (by assumption) | exact .tup (by assumption) | exact .scr (by assumption))
local macro_rules | `(tactic| walk_at "dk") => `(tactic| exact .inl rfl)

/-! ### the table against the one game -/
def vOf (c : Ct) (t : Int) (found : List (Option Int)) : VF := fun k s p own => suffO own (fAt found (offOf c t k s + p))
theorem enough_none (total : Nat) : (nats (total + 1)).filter (fun own => suffO own none) = [] := by
  rw [List.filter_eq_nil_iff]
  intro x _ h
  cases h
theorem enough_some {total l : Nat} (h : l ≤ total) : (nats (total + 1)).filter (fun own => suffO own (some (l : Int))) = (nats (total + 1 - l)).map (· + (l : Int)) := by
  refine asc_one ((nats_asc _).sublist List.filter_sublist) ?_ fun x => ?_
  · rw [List.pairwise_map]
    exact (nats_asc _).imp fun h => by omega
  · rw [List.mem_filter, mem_nats, List.mem_map]
    show (_ ∧ decide ((l : Int) ≤ x) = true) ↔ _
    rw [decide_eq_true_iff]
    constructor
    · rintro ⟨⟨a, b⟩, d⟩
      exact ⟨x - l, mem_nats.mpr ⟨by omega, by omega⟩, by omega⟩
    · rintro ⟨y, hy, rfl⟩
      have := mem_nats.mp hy
      omega
structure AskOk (c : Ct) (side t : Int) (total : Nat) (found : List (Option Int)) : Prop where
  fix : IsFix (mgG c side t) side total found
  due : IsDue c side t total (vOf c t found)
  inr : ∀ k s p : Int, 0 ≤ k → k < c.n → s ∈ c.below k t → 0 ≤ p → p < (c.game k).size → 0 ≤ offOf c t k s + p ∧ offOf c t k s + p < (mgG c side t).size
  low : ∀ k s p l : Int, 0 ≤ k → k < c.n → s ∈ c.below k t → 0 ≤ p → p < (c.game k).size → fAt found (offOf c t k s + p) = some l → 0 ≤ l ∧ l ≤ total
section
variable {P : Program} {w : World} {K : PySem.W.Frag} {mg : Str → Option Value} {base : Heap}
def R_L_asked (K : PySem.W.Frag) (ds : List Dt) (d : Dt) : Prop := ∃ (c : Ct) (side t : Int) (total : Nat) (found : List (Option Int)), ds = [cnD c, ctD K c, gmD K (mgG c side t), .int side, .int t, .int total] ∧ d = .bl true ∧
  CtOk c ∧ (side = 1 ∨ side = 2) ∧ 0 ≤ t ∧ t ≤ 1000 ∧ total ≤ 100 ∧ Hg (mgG c side t) ∧ AskOk c side t total found
theorem D_L_asked (T : Txt P w K mg base) : Def P w K mg base "_law_asked" ["contest", "made", "game", "side", "target", "total"] 6 (spD K (R_L_asked K)) := by
  obtain ⟨fd, F⟩ := T.d_L_asked
  refine ⟨_, fd, T.g_L_asked, F.kp, F.bindsN fun _ _ _ _ _ _ us hl => match us, hl with | [_, _, _, _, _, _], _ => rfl, fn_D F sc_L_asked vi_L_asked st_L_asked (fun ds d h => ?_) (fun X hX C hr ds d h => ?_)⟩
  · obtain ⟨c, side, t, total, found, rfl, rfl, ok, hs, t0, t1, hT, hg, A⟩ := h; rfl
  obtain ⟨rfl, rfl, rfl, rfl, rfl⟩ := hX
  obtain ⟨c, side, t, total, found, rfl, rfl, ok, hs, t0, t1, hT, hg, A⟩ := h
  have n3 := ok.n3
  have hfl : found.length = (mgG c side t).size := A.fix.len
  have hln : ∀ {os : Os}, Lnd os (.lst (c.legs.map lgL)) (c.n : Int) := fun {os} => (Lnd.lst .l).is (by rw [List.length_map]; rfl)
  refine jb_cons (js_set C 6 (jp_call C (D_hourglass_least T) (hr.mono (by decide)) (ja_cons (jp_var C 2 rfl rfl rfl) (ja_cons (jp_var C 3 rfl rfl rfl) (ja_cons (jp_var C 5 rfl rfl rfl) ja_nil))) (⟨_, side, (total : Int), found, rfl, rfl, hg, hs, by omega, by omega, A.fix⟩) rfl) ?_)
  refine jb_cons (js_set C 7 (jp_call C (D_L_search T) (hr.mono (by decide)) (ja_cons (jp_var C 0 rfl rfl rfl) (ja_cons (jp_var C 3 rfl rfl rfl) (ja_cons (jp_var C 4 rfl rfl rfl) (ja_cons (jp_var C 5 rfl rfl rfl) ja_nil)))) (⟨c, side, t, total, vOf c t found, rfl, rfl, ok, hs, by omega, A.due⟩) rfl) ?_)
  refine jb_cons (js_if (k := false) (JT.is (jt_w (jw_or (jt_not (jt_val (jp_isi (T := "list") C T.f_isinstance (jp_var C 6 rfl rfl rfl) T.f_list (by decide +kernel) rfl))) (fun hk2 => (jw_or1 (jt_cmp (jp_lenX C T.f_len (jp_var C 6 rfl rfl rfl) (Lnd.is (.lst .l) (m := ((mgG c side t).size : Int)) (by rw [List.length_map, hfl]))) (jp_fld (jp_var C 2 rfl rfl rfl) T.cl_Game T.na_Game_size rfl) jo_neI))))) (by simp)) (fun h => nomatch h) (fun _ => jb_nil ?_))
  refine jb_cons (js_forR C (c.n : Int) (ws := [8]) (ji_rangeN C T.f_range (jp_lenX C T.f_len (jp_ix (jp_var C 0 rfl rfl rfl) jp_int (.lst .l rfl)) (hln)) (by omega) (by omega)) (fun i δ os => ∃ v8 v9 v10 v11 v12 v13 v14, δ = [some (cnD c), some (ctD X.K c), some (gmD X.K (mgG c side t)), some (.int side), some (.int t), some (.int total), some (.lst (found.map oi)), some (.dT (dueK c (vOf c t found) total t)), v8, v9, v10, v11, v12, v13, v14, none] ∧ os = []) ⟨_, _, _, _, _, _, _, rfl, rfl⟩ ?_ ?_)
  · rintro i δ' os' hi ⟨_, v9, v10, v11, v12, v13, v14, rfl, rfl⟩
    have hi : i < c.n := hi
    have hk0 : (0 : Int) ≤ i := by omega
    have hk1 : (i : Int) < c.n := by omega
    have hgi := ok.gsz hk0 hk1
    refine ⟨_, (jg_name C 8), ?_⟩
    refine jb_cons (js_forM C (c.sc i) Dt.int (ws := [9]) (ji_X (jp_call C (D_L_scores T) (hr.mono (by decide)) (ja_cons (jp_var C 0 rfl rfl rfl) (ja_cons (jp_var C 8 rfl rfl rfl) ja_nil)) (⟨c, (i : Int), rfl, rfl, ok, hk0, by omega⟩) rfl) (.lst)) (fun pre δ os => ∃ v9 v10 v11 v12 v13 v14, δ = [some (cnD c), some (ctD X.K c), some (gmD X.K (mgG c side t)), some (.int side), some (.int t), some (.int total), some (.lst (found.map oi)), some (.dT (dueK c (vOf c t found) total t)), some (.int i), v9, v10, v11, v12, v13, v14, none] ∧ os = []) ⟨_, _, _, _, _, _, rfl, rfl⟩ ?_ ?_)
    · rintro pre s post δ' os' e ⟨_, v10, v11, v12, v13, v14, rfl, rfl⟩
      refine ⟨_, (jg_name C 9), ?_⟩
      refine jb_cons (js_if (jt_cmp (jp_var C 9 rfl rfl rfl) (jp_var C 4 rfl rfl rfl) jo_lt) (fun h => ?_) (fun h => jb_nil (jb_nil ⟨_, _, _, _, _, _, rfl, rfl⟩)))
      have hb : s ∈ c.below i t := mem_below.mpr ⟨by rw [e]; simp, of_decide_eq_true h⟩
      have hget : getT (dueK c (vOf c t found) total t) [.inl (i : Int), .inl s] = some (tblD c (vOf c t found) total i s) := get_of (mem_dueTo.mpr ⟨i, s, by omega, hk1, hb, rfl⟩) fun e he => by
        obtain ⟨k', s', _, _, _, rfl⟩ := mem_dueTo.mp he
        exact ⟨k', s', rfl⟩
      refine jb_cons (js_forR C ((c.game i).size : Int) (ws := [10]) (ji_rangeN C T.f_range (jp_lenX C T.f_len (jp_ix (jp_ix (jp_ix (jp_ix (jp_var C 0 rfl rfl rfl) jp_int (.lst .l rfl)) (jp_var C 8 rfl rfl rfl) (.lst .l (at_map hk0 (CtOk.lg_at hk0 hk1)))) jp_int (.lst .l rfl)) jp_int (.lst .l rfl)) (Lnd.is (.lst .l) (m := ((c.game i).size : Int)) (by unfold Ct.game; rw [List.length_map, Lg.seen_size]; rfl))) (by omega) (by omega)) (fun j δ os => ∃ v10 v11 v12 v13 v14, δ = [some (cnD c), some (ctD X.K c), some (gmD X.K (mgG c side t)), some (.int side), some (.int t), some (.int total), some (.lst (found.map oi)), some (.dT (dueK c (vOf c t found) total t)), some (.int i), some (.int s), v10, v11, v12, v13, v14, none] ∧ os = []) ⟨_, _, _, _, _, rfl, rfl⟩ ?_ ?_)
      · rintro p δ' os' hp ⟨_, v11, v12, v13, v14, rfl, rfl⟩
        have hp : p < (c.game i).size := hp
        have hp0 : (0 : Int) ≤ p := by omega
        have hp1 : (p : Int) < (c.game i).size := by omega
        have hin := A.inr i s p hk0 hk1 hb hp0 hp1
        have hlow := fun l => A.low i s p l hk0 hk1 hb hp0 hp1
        have hat := fAt_at hin.1 (by rw [hfl]; exact hin.2)
        refine ⟨_, (jg_name C 10), ?_⟩
        refine jb_cons (js_set C 11 (jp_ix (jp_dget (k := ([.inl (i : Int), .inl s])) (by have := L2.Room.units hr; omega) (jp_var C 7 rfl rfl rfl) (by walk_at "dk") (ja_cons (jp_var C 8 rfl rfl rfl) (ja_cons (jp_var C 9 rfl rfl rfl) ja_nil)) (hget) (by show 2 ≤ 1000; decide)) (jp_var C 10 rfl rfl rfl) (.lst .l (tbl_at hp0 hp1))) ?_)
        refine jb_cons (js_lc C 12 (List.range ((total : Int) + 1).toNat) (fun (k : Nat) => Dt.int (k : Int)) (fun (o : Nat) => vOf c t found i s p o) (fun (k : Nat) => Dt.int (k : Int)) [("own", 15)] (ji_rangeN C T.f_range (jp_op (jp_var C 5 rfl rfl rfl) jp_int jo_add) (by show (total : Int) + 1 ≤ 100000; omega) (by show 0 ≤ (total : Int) + 1; omega)) (?_) (by rw [List.length_range]; omega) rfl rfl (by decide +kernel) rfl rfl rfl rfl rfl ?_)
        · intro o ho
          have ho := List.mem_range.mp ho
          refine ⟨_, fun X' hB C => ⟨(jg_name C 15), jfs_one (jt_val (jp_ix (jp_var C 11 rfl rfl rfl) (jp_var C 15 rfl rfl rfl) (.lst .l (row_at' (by omega) (by omega))))), fun _ => ?_⟩⟩
          exact (jp_var C 15 rfl rfl rfl)
        have htn : ((total : Int) + 1).toNat = total + 1 := by omega
        rw [htn]
        have hen : outs (List.range (total + 1)) (fun (o : Nat) => vOf c t found i s p o) (fun (k : Nat) => Dt.int (k : Int)) = ((nats (total + 1)).filter fun own => suffO own (fAt found (offOf c t i s + p))).map Dt.int := by
          unfold outs nats
          rw [List.filter_map, List.map_map]; rfl
        rw [hen]
        generalize fAt found (offOf c t i s + p) = L at hlow hat
        have hend : ∀ (δ : Sl), True := fun _ => trivial
        cases L with
        | none =>
          rw [enough_none]
          refine jb_cons (js_set C 13 (d := .non) (jp_if (k := false) (JT.is (jt_cmp (jp_lenX C T.f_len (jp_var C 12 rfl rfl rfl) (Lnd.is (.lst .l) (m := 0) rfl)) jp_int jo_gt) rfl) (fun h => nomatch h) (fun _ => jp_non)) ?_)
          refine jb_cons (js_if (k := false) (jt_w (jw_and (k := false) (m := true) (jt_cmp (jp_var C 13 rfl rfl rfl) jp_non jo_isnot) (fun h => nomatch h))) (fun h => nomatch h) (fun _ => jb_nil ?_))
          refine jb_cons (js_set C 14 (jp_call C (D_match_position T) (hr.mono (by decide)) (ja_cons (jp_var C 1 rfl rfl rfl) (ja_cons (jp_var C 4 rfl rfl rfl) (ja_cons (jp_var C 8 rfl rfl rfl) (ja_cons (jp_var C 9 rfl rfl rfl) (ja_cons (jp_var C 10 rfl rfl rfl) ja_nil))))) (⟨c, t, i, s, p, rfl, rfl, ok, t0, t1, hk0, hk1, hb, hp0, hp1⟩) rfl) ?_)
          exact jb_cons (js_if (k := false) (JT.is (jt_not (jt_val (jp_call C (D_L_is T) (hr.mono (by decide)) (ja_cons (jp_ix (jp_var C 6 rfl rfl rfl) (jp_var C 14 rfl rfl rfl) (.lst .l hat)) (ja_cons (jp_var C 13 rfl rfl rfl) ja_nil)) (⟨none, none, rfl, rfl⟩) rfl))) rfl) (fun h => nomatch h) (fun _ => jb_nil (jb_nil ⟨_, _, _, _, _, rfl, rfl⟩)))
        | some l =>
          obtain ⟨l0, l1⟩ := hlow l rfl
          have hl2 : l = ((l.toNat : Nat) : Int) := by omega
          generalize l.toNat = ln at hl2
          subst hl2
          have hlt : ln ≤ total := by omega
          rw [enough_some hlt]
          have hlen : (((nats (total + 1 - ln)).map (· + (ln : Int))).map Dt.int).length = total + 1 - ln := by rw [List.length_map, List.length_map, nats_len]
          have hhead : atI (((nats (total + 1 - ln)).map (· + (ln : Int))).map Dt.int) 0 = some (.int ln) := by
            rw [List.map_map]
            refine (at_map (by decide) (nats_at (i := 0) (by omega))).trans ?_
            show some (Dt.int ((0 : Nat) + (ln : Int))) = _
            simp
          generalize ((nats (total + 1 - ln)).map (· + (ln : Int))).map Dt.int = en at hlen hhead
          have hLn : ∀ {os : Os}, Lnd os (.lst en) ((total + 1 - ln : Nat) : Int) := fun {os} => (Lnd.lst .l).is (by rw [hlen])
          refine jb_cons (js_set C 13 (d := .int ln) (jp_if (k := true) (JT.is (jt_cmp (jp_lenX C T.f_len (jp_var C 12 rfl rfl rfl) (hLn)) jp_int jo_gt) (by simp; omega)) (fun _ => (jp_ix (jp_var C 12 rfl rfl rfl) jp_int (.lst .l hhead))) (fun h => nomatch h)) ?_)
          refine jb_cons (js_if (k := false) (JT.is (jt_w (jw_and (jt_cmp (jp_var C 13 rfl rfl rfl) jp_non jo_isnot) (fun hk2 => (jw_and1 (jt_cmp (jp_lenX C T.f_len (jp_var C 12 rfl rfl rfl) (hLn)) (jp_op (jp_op (jp_var C 5 rfl rfl rfl) jp_int jo_add) (jp_var C 13 rfl rfl rfl) jo_sub) jo_neI))))) (by simp [DL.isNon]; omega)) (fun h => nomatch h) (fun _ => jb_nil ?_))
          refine jb_cons (js_set C 14 (jp_call C (D_match_position T) (hr.mono (by decide)) (ja_cons (jp_var C 1 rfl rfl rfl) (ja_cons (jp_var C 4 rfl rfl rfl) (ja_cons (jp_var C 8 rfl rfl rfl) (ja_cons (jp_var C 9 rfl rfl rfl) (ja_cons (jp_var C 10 rfl rfl rfl) ja_nil))))) (⟨c, t, i, s, p, rfl, rfl, ok, t0, t1, hk0, hk1, hb, hp0, hp1⟩) rfl) ?_)
          exact jb_cons (js_if (k := false) (JT.is (jt_not (jt_val (jp_call C (D_L_is T) (hr.mono (by decide)) (ja_cons (jp_ix (jp_var C 6 rfl rfl rfl) (jp_var C 14 rfl rfl rfl) (.lst .l hat)) (ja_cons (jp_var C 13 rfl rfl rfl) ja_nil)) (⟨some (ln : Int), some (ln : Int), rfl, rfl⟩) rfl))) (by simp)) (fun h => nomatch h) (fun _ => jb_nil (jb_nil ⟨_, _, _, _, _, rfl, rfl⟩)))
      · rintro δ' os' ⟨_, _, _, _, _, rfl, rfl⟩
        exact jb_nil (jb_nil ⟨_, _, _, _, _, _, rfl, rfl⟩)
    · rintro δ' os' ⟨_, _, _, _, _, _, rfl, rfl⟩
      exact jb_nil ⟨_, _, _, _, _, _, _, rfl, rfl⟩
  · rintro δ' os' ⟨_, _, _, _, _, _, _, rfl, rfl⟩
    exact jb_cons (js_ret jp_bl rfl)
end
end K70

set_option maxHeartbeats 4000000
namespace K70
open PySem PySem.Spec PyProof.Rows L2 DL
/-! ### the least own time, told by what it suffices for -/
theorem suff_lesser (a : Int) (x y : Option Int) : suffO a (lesserO x y) = true ↔ suffO a x = true ∨ suffO a y = true := by
  cases x with
  | none => simp [lesserO, suffO]
  | some x =>
    cases y with
    | none => simp [lesserO, suffO]
    | some y =>
      unfold lesserO
      dsimp only
      split
      · simp only [suffO, decide_eq_true_iff]; omega
      · simp only [suffO, decide_eq_true_iff]; omega
theorem mx_le_iff {a b B : Int} : mx a b ≤ B ↔ a ≤ B ∧ b ≤ B := by unfold mx; split <;> omega
theorem mn_le_iff {a b B : Int} : mn a b ≤ B ↔ a ≤ B ∨ b ≤ B := by unfold mn; split <;> omega
theorem one_suff {f : Int → Option Int} {a : Int} : ∀ {r : List Mv} {acc : Option Int}, suffO a (r.foldl (oneStep f) acc) = true ↔ suffO a acc = true ∨ ∃ m ∈ r, m.2.2.1 ≤ a ∧ suffO (a - m.2.2.2) (f m.2.1) = true
  | [], acc => by simp
  | m :: r, acc => by
    rw [List.foldl_cons, one_suff (r := r)]
    have h : suffO a (oneStep f acc m) = true ↔ suffO a acc = true ∨ (m.2.2.1 ≤ a ∧ suffO (a - m.2.2.2) (f m.2.1) = true) := by
      unfold oneStep
      cases f m.2.1 with
      | none => simp [suffO]
      | some v =>
        dsimp only
        rw [suff_lesser]
        simp only [suffO, decide_eq_true_iff, mx_le_iff]
        constructor
        · rintro (h | ⟨h1, h2⟩)
          · exact .inl h
          · exact .inr ⟨h1, by omega⟩
        · rintro (h | ⟨h1, h2⟩)
          · exact .inl h
          · exact .inr ⟨h1, by omega⟩
    rw [h]
    constructor
    · rintro ((h | h) | ⟨u, hu, h⟩)
      · exact .inl h
      · exact .inr ⟨m, List.mem_cons_self, h⟩
      · exact .inr ⟨u, List.mem_cons_of_mem _ hu, h⟩
    · rintro (z | ⟨u, hu, z⟩)
      · exact .inl (.inl z)
      · rcases List.mem_cons.mp hu with e | hu
        · exact .inl (.inr (e ▸ z))
        · exact .inr ⟨u, hu, z⟩
theorem all_suff {f : Int → Option Int} {a T : Int} : ∀ {r : List Mv} {acc : Int}, r.foldl (allStep f T) acc ≤ a ↔ acc ≤ a ∧ ∀ m ∈ r, m.2.2.1 ≤ T - a → suffO (a + m.2.2.2) (f m.2.1) = true
  | [], acc => by simp
  | m :: r, acc => by
    rw [List.foldl_cons, all_suff (r := r)]
    have h : allStep f T acc m ≤ a ↔ acc ≤ a ∧ (m.2.2.1 ≤ T - a → suffO (a + m.2.2.2) (f m.2.1) = true) := by
      unfold allStep
      rw [mx_le_iff]
      cases f m.2.1 with
      | none =>
        simp only [suffO]
        constructor
        · rintro ⟨h1, h2⟩; exact ⟨h1, fun z => by omega⟩
        · rintro ⟨h1, h2⟩
          refine ⟨h1, ?_⟩
          by_cases z : m.2.2.1 ≤ T - a
          · exact absurd (h2 z) Bool.false_ne_true
          · omega
      | some v =>
        simp only [suffO, decide_eq_true_iff, mn_le_iff]
        constructor
        · rintro ⟨h1, h2⟩; exact ⟨h1, fun z => by omega⟩
        · rintro ⟨h1, h2⟩
          refine ⟨h1, ?_⟩
          by_cases z : m.2.2.1 ≤ T - a
          · have := h2 z; omega
          · omega
    rw [h]
    constructor
    · rintro ⟨⟨h1, h2⟩, h3⟩
      refine ⟨h1, fun u hu => ?_⟩
      rcases List.mem_cons.mp hu with rfl | hu
      · exact h2
      · exact h3 u hu
    · rintro ⟨h1, h2⟩
      exact ⟨⟨h1, h2 m List.mem_cons_self⟩, fun u hu => h2 u (List.mem_cons_of_mem _ hu)⟩
theorem suff_cap {own total : Int} (h : own ≤ total) (l : Option Int) : suffO own (if suffO total l = true then l else none) = suffO own l := by
  cases l with
  | none => split <;> rfl
  | some l =>
    split
    · rfl
    · rename_i h2
      simp only [suffO, decide_eq_true_iff] at h2
      show false = decide (l ≤ own)
      rw [decide_eq_false (by omega)]
theorem renew_one {g : Gm} {side total p own : Int} {f : Int → Option Int} (h : own ≤ total) (hm : g.mover p = side) : suffO own (renewO g side total p f) = true ↔ ∃ m ∈ g.row p, m.2.2.1 ≤ own ∧ suffO (own - m.2.2.2) (f m.2.1) = true := by
  unfold renewO
  rw [if_pos hm]
  dsimp only
  rw [suff_cap h, one_suff]
  simp [suffO]
theorem renew_all {g : Gm} {side total p own : Int} {f : Int → Option Int} (h : own ≤ total) (hm : ¬ g.mover p = side) : suffO own (renewO g side total p f) = true ↔ p ∉ g.safe ∧ 0 ≤ own ∧ ∀ m ∈ g.row p, m.2.2.1 ≤ total - own → suffO (own + m.2.2.2) (f m.2.1) = true := by
  unfold renewO
  rw [if_neg hm]
  dsimp only
  rw [suff_cap h]
  by_cases hs : p ∈ g.safe
  · rw [if_pos hs]
    simp [suffO, hs]
  · rw [if_neg hs]
    show decide _ = true ↔ _
    rw [decide_eq_true_iff, all_suff]
    simp [hs]
/-! ### there is one -/
def valF (g : Gm) (side total : Int) : Nat → Int → Option Int
  | 0, _ => none
  | k + 1, p => if 0 < g.mover p then renewO g side total p (valF g side total k) else startO g side p
theorem valF_same {g : Gm} (hg : Hg g) (side total : Int) : ∀ (k : Nat) (p : Int), 0 ≤ p → p < g.size → (g.size : Int) - p ≤ k → valF g side total k p = valF g side total (k + 1) p
  | 0, p, h0, h1, h2 => by omega
  | k + 1, p, h0, h1, h2 => by
    show (if 0 < g.mover p then renewO g side total p (valF g side total k) else startO g side p) = (if 0 < g.mover p then renewO g side total p (valF g side total (k + 1)) else startO g side p)
    rw [renewO_same (f := valF g side total k) (f' := valF g side total (k + 1)) fun m hm => ?_]
    have a := hg.ac p h0 h1 m hm
    have b := hg.ok.mv h0 h1 m hm
    exact valF_same hg side total k _ b.2.1 b.2.2.1 (by omega)
theorem fix_ex {g : Gm} (hg : Hg g) (side total : Int) : ∃ found, IsFix g side total found := by
  have hat : ∀ p : Int, 0 ≤ p → p < g.size → fAt ((nats g.size).map (valF g side total g.size)) p = valF g side total g.size p := fun p h0 h1 => by
    unfold fAt
    rw [List.getD_eq_getElem?_getD, List.getElem?_map, nats_at (by omega)]
    show valF g side total g.size ((p.toNat : Nat) : Int) = _
    rw [show ((p.toNat : Nat) : Int) = p by omega]
  refine ⟨(nats g.size).map (valF g side total g.size), by rw [List.length_map, nats_len], fun p h0 h1 => ?_⟩
  rw [hat p h0 h1, valF_same hg side total g.size p h0 h1 (by omega)]
  show (if 0 < g.mover p then renewO g side total p (valF g side total g.size) else startO g side p) = _
  rw [renewO_same (f := valF g side total g.size) (f' := fAt ((nats g.size).map (valF g side total g.size))) fun m hm => ?_]
  have b := hg.ok.mv h0 h1 m hm
  exact (hat _ b.2.1 b.2.2.1).symm
/-! ### not both -/
theorem excl {g : Gm} {a b p : Int} {f1 f2 : List (Option Int)} (hg : Hg g) (h1 : IsFix g 1 (a + b) f1) (h2 : IsFix g 2 (a + b) f2) (a0 : 0 ≤ a) (b0 : 0 ≤ b) (p0 : 0 ≤ p) (p1 : p < g.size) : suffO a (fAt f1 p) = true → suffO b (fAt f2 p) = true → False := by
  generalize hT : a + b = T at h1 h2
  have key : ∀ (k : Nat) (p a b : Int), 0 ≤ p → p < g.size → (g.size : Int) - p ≤ k → a + b = T → 0 ≤ a → 0 ≤ b → suffO a (fAt f1 p) = true → suffO b (fAt f2 p) = true → False := by
    intro k
    induction k with
    | zero => intro p a b q0 q1 q2; omega
    | succ k ih =>
      intro p a b q0 q1 q2 hab ha hb s1 s2
      rw [h1.at_ p q0 q1] at s1
      rw [h2.at_ p q0 q1] at s2
      by_cases hm : 0 < g.mover p
      · rw [if_pos hm] at s1 s2
        have hmm : g.mover p = 1 ∨ g.mover p = 2 := by
          unfold Gm.mover at hm ⊢
          split at hm
          · rename_i h; rw [if_pos h]; exact h
          · omega
        rcases hmm with e | e
        · obtain ⟨m, hm, n1, n2⟩ := (renew_one (by omega) e).mp s1
          obtain ⟨_, _, hall⟩ := (renew_all (by omega) (by omega)).mp s2
          have n3 := hall m hm (by omega)
          have mv := hg.ok.mv q0 q1 m hm
          have ac := hg.ac p q0 q1 m hm
          have d0 := mv.2.2.2.1
          have d1 := mv.2.2.2.2.1
          exact ih m.2.1 _ _ mv.2.1 mv.2.2.1 (by omega) (by omega) (by omega) (by omega) n2 n3
        · obtain ⟨m, hm, n1, n2⟩ := (renew_one (by omega) e).mp s2
          obtain ⟨_, _, hall⟩ := (renew_all (by omega) (by omega)).mp s1
          have n3 := hall m hm (by omega)
          have mv := hg.ok.mv q0 q1 m hm
          have ac := hg.ac p q0 q1 m hm
          have d0 := mv.2.2.2.1
          have d1 := mv.2.2.2.2.1
          exact ih m.2.1 _ _ mv.2.1 mv.2.2.1 (by omega) (by omega) (by omega) (by omega) n3 n2
      · rw [if_neg hm] at s1 s2
        unfold startO at s1 s2
        split at s1
        · rename_i e1
          split at s2
          · rename_i e2
            rw [e1] at e2
            cases e2
          · cases s2
        · cases s1
  exact key g.size p a b p0 p1 (by omega) hT a0 b0
end K70

set_option maxHeartbeats 4000000
namespace K70
open PySem PySem.Spec PyProof.Rows L2 DL
/-! ### slots side by side -/
def Cum (c : Ct) : Int → List Slot → Int → Prop
  | o, [], e => e = o
  | o, x :: l, e => x.2.2 = o ∧ Cum c (o + (c.game x.1).size) l e
theorem Cum.snoc {c : Ct} : ∀ {l : List Slot} {o e : Int} {x : Slot}, Cum c o l e → x.2.2 = e → Cum c o (l ++ [x]) (e + (c.game x.1).size)
  | [], o, e, x, h, hx => by
    have h : e = o := h
    subst h
    exact ⟨hx, rfl⟩
  | y :: l, o, e, x, h, hx => ⟨h.1, Cum.snoc h.2 hx⟩
theorem Cum.le {c : Ct} : ∀ {l : List Slot} {o e : Int}, Cum c o l e → o ≤ e
  | [], o, e, h => by have h : e = o := h; omega
  | y :: l, o, e, h => by have := Cum.le h.2; omega
theorem Cum.mem {c : Ct} : ∀ {l : List Slot} {o e : Int} {x : Slot}, Cum c o l e → x ∈ l → o ≤ x.2.2 ∧ x.2.2 + (c.game x.1).size ≤ e
  | y :: l, o, e, x, h, hx => by
    rcases List.mem_cons.mp hx with rfl | hx
    · have := Cum.le h.2
      have := h.1
      omega
    · have := Cum.mem h.2 hx
      omega
theorem Cum.find {c : Ct} : ∀ {l : List Slot} {o e z : Int}, Cum c o l e → o ≤ z → z < e → ∃ x ∈ l, ∃ p : Int, 0 ≤ p ∧ p < (c.game x.1).size ∧ z = x.2.2 + p
  | [], o, e, z, h, h0, h1 => by have h : e = o := h; omega
  | y :: l, o, e, z, h, h0, h1 => by
    by_cases hz : z < o + (c.game y.1).size
    · exact ⟨y, List.mem_cons_self, z - o, by omega, by omega, by have := h.1; omega⟩
    · obtain ⟨x, hx, p, a, b, d⟩ := Cum.find h.2 (z := z) (by omega) h1
      exact ⟨x, List.mem_cons_of_mem _ hx, p, a, b, d⟩
theorem Cum.one {c : Ct} : ∀ {l : List Slot} {o e z : Int} {x y : Slot}, Cum c o l e → x ∈ l → y ∈ l → x.2.2 ≤ z → z < x.2.2 + (c.game x.1).size → y.2.2 ≤ z → z < y.2.2 + (c.game y.1).size → x = y
  | w :: l, o, e, z, x, y, h, hx, hy, a, b, d, f => by
    have hw := h.1
    rcases List.mem_cons.mp hx with e1 | hx <;> rcases List.mem_cons.mp hy with e2 | hy
    · rw [e1, e2]
    · have := Cum.mem h.2 hy
      rw [e1] at b
      omega
    · have := Cum.mem h.2 hx
      rw [e2] at f
      omega
    · exact Cum.one h.2 hx hy a b d f
theorem Cum.flat {c : Ct} {α : Type} {f : Slot → List α} : ∀ {l : List Slot} {o e : Int}, Cum c o l e → (∀ x ∈ l, (f x).length = (c.game x.1).size) → e = o + (l.flatMap f).length ∧ ∀ x ∈ l, ∀ p : Int, 0 ≤ p → p < (c.game x.1).size → (l.flatMap f)[(x.2.2 - o + p).toNat]? = (f x)[p.toNat]?
  | [], o, e, h, _ => ⟨by have h : e = o := h; simp [h], fun _ z => nomatch z⟩
  | y :: l, o, e, h, hf => by
    obtain ⟨i1, i2⟩ := Cum.flat h.2 fun x hx => hf x (List.mem_cons_of_mem _ hx)
    have hy := hf y List.mem_cons_self
    refine ⟨by rw [List.flatMap_cons, List.length_append]; omega, fun x hx p p0 p1 => ?_⟩
    rw [List.flatMap_cons]
    rcases List.mem_cons.mp hx with e1 | hx
    · subst e1
      have := h.1
      rw [List.getElem?_append_left (by omega)]
      congr 1
      omega
    · have hm := Cum.mem h.2 hx
      rw [List.getElem?_append_right (by omega)]
      rw [show (x.2.2 - o + p).toNat - (f y).length = (x.2.2 - (o + (c.game y.1).size) + p).toNat by omega]
      exact i2 x hx p p0 p1
theorem Cum.rise {c : Ct} {f : Slot → List Int} : ∀ {l : List Slot} {o e : Int}, Cum c o l e → (∀ x ∈ l, (f x).Pairwise (· < ·) ∧ ∀ p ∈ f x, x.2.2 ≤ p ∧ p < x.2.2 + (c.game x.1).size) → (l.flatMap f).Pairwise (· < ·) ∧ ∀ p ∈ l.flatMap f, o ≤ p ∧ p < e
  | [], o, e, h, _ => ⟨List.Pairwise.nil, fun _ z => by simp at z⟩
  | y :: l, o, e, h, hf => by
    obtain ⟨i1, i2⟩ := Cum.rise h.2 fun x hx => hf x (List.mem_cons_of_mem _ hx)
    obtain ⟨y1, y2⟩ := hf y List.mem_cons_self
    have hy := h.1
    have hle := Cum.le h.2
    rw [List.flatMap_cons]
    refine ⟨List.pairwise_append.mpr ⟨y1, i1, fun a ha b hb => ?_⟩, fun p hp => ?_⟩
    · have := y2 a ha
      have := i2 b hb
      omega
    · rcases List.mem_append.mp hp with hp | hp
      · have := y2 p hp; omega
      · have := i2 p hp; omega
theorem Cum.legs {c : Ct} : ∀ {l : List Slot} {o e : Int} {x y : Slot}, Cum c o l e → l.Pairwise (fun x y => x.1 ≤ y.1) → x ∈ l → y ∈ l → x.1 < y.1 → x.2.2 + (c.game x.1).size ≤ y.2.2
  | w :: l, o, e, x, y, h, hp, hx, hy, hlt => by
    rw [List.pairwise_cons] at hp
    have hw := h.1
    rcases List.mem_cons.mp hx with e1 | hx <;> rcases List.mem_cons.mp hy with e2 | hy
    · rw [e1, e2] at hlt; omega
    · have := Cum.mem h.2 hy
      rw [e1]; omega
    · have := hp.1 x hx
      rw [e2] at hlt; omega
    · exact Cum.legs h.2 hp.2 hx hy hlt
theorem fold_cum {c : Ct} {k : Int} : ∀ {l : List Int} {acc : List Slot × Int}, Cum c 0 acc.1 acc.2 → Cum c 0 (l.foldl (slotStep c k) acc).1 (l.foldl (slotStep c k) acc).2
  | [], acc, h => h
  | s :: l, acc, h => by
    rw [List.foldl_cons]
    exact fold_cum (Cum.snoc h rfl)
theorem slots_cum (c : Ct) (t : Int) : Cum c 0 (slots c t).1 (slots c t).2 := by
  unfold slots
  have : ∀ i, Cum c 0 (slotsTo c t i).1 (slotsTo c t i).2 := by
    intro i
    induction i with
    | zero => rfl
    | succ i ih => rw [slotsTo_succ]; exact fold_cum ih
  exact this c.n
theorem fold_legs {c : Ct} {k : Int} : ∀ {l : List Int} {acc : List Slot × Int}, acc.1.Pairwise (fun x y => x.1 ≤ y.1) → (∀ x ∈ acc.1, x.1 ≤ k) → (l.foldl (slotStep c k) acc).1.Pairwise (fun x y => x.1 ≤ y.1)
  | [], acc, h, _ => h
  | s :: l, acc, h, h2 => by
    rw [List.foldl_cons]
    refine fold_legs (List.pairwise_append.mpr ⟨h, List.pairwise_singleton _ _, fun a ha b hb => ?_⟩) fun x hx => ?_
    · rw [List.mem_singleton.mp hb]; exact h2 a ha
    · rcases List.mem_append.mp hx with hx | hx
      · exact h2 x hx
      · rw [List.mem_singleton.mp hx]; exact Int.le_refl _
theorem slots_legs (c : Ct) (t : Int) : (slots c t).1.Pairwise fun x y => x.1 ≤ y.1 := by
  unfold slots
  have : ∀ i, (slotsTo c t i).1.Pairwise fun x y => x.1 ≤ y.1 := by
    intro i
    induction i with
    | zero => exact List.Pairwise.nil
    | succ i ih =>
      rw [slotsTo_succ]
      exact fold_legs ih fun x hx => by have := (slotsTo_in c t i x hx).2.1; omega
  exact this c.n
section
variable {c : Ct} {side t : Int}
theorem slMarks_len (x : Slot) : (slMarks c side t x).length = (c.game x.1).size := by unfold slMarks; rw [List.length_map, nats_len]
theorem slMoves_len (x : Slot) : (slMoves c side t x).length = (c.game x.1).size := by unfold slMoves; rw [List.length_map, nats_len]
theorem slots_nn : 0 ≤ (slots c t).2 := Cum.le (slots_cum c t)
theorem mgG_size : ((mgG c side t).size : Int) = (slots c t).2 + 2 := by
  have := (Cum.flat (f := slMarks c side t) (slots_cum c t) fun x _ => slMarks_len x).1
  show (((slots c t).1.flatMap (slMarks c side t) ++ [2 + side, 5 - side]).length : Int) = _
  rw [List.length_append]
  simp only [List.length_cons, List.length_nil]
  omega
theorem mgG_mlen : (mgG c side t).moves.length = (mgG c side t).size := by
  have h1 := (Cum.flat (f := slMarks c side t) (slots_cum c t) fun x _ => slMarks_len x).1
  have h2 := (Cum.flat (f := slMoves c side t) (slots_cum c t) fun x _ => slMoves_len x).1
  show ((slots c t).1.flatMap (slMoves c side t) ++ [[], []]).length = ((slots c t).1.flatMap (slMarks c side t) ++ [2 + side, 5 - side]).length
  rw [List.length_append, List.length_append]
  simp only [List.length_cons, List.length_nil]
  omega
variable {x : Slot} {p : Int}
theorem mg_mark (hx : x ∈ (slots c t).1) (p0 : 0 ≤ p) (p1 : p < (c.game x.1).size) : (mgG c side t).mark (x.2.2 + p) = (mvPos c side t x.1 x.2.1 x.2.2 p).1 := by
  have hm := Cum.mem (slots_cum c t) hx
  have h := Cum.flat (f := slMarks c side t) (slots_cum c t) fun x _ => slMarks_len x
  have h2 := h.2 x hx p p0 p1
  rw [Int.sub_zero] at h2
  show ((slots c t).1.flatMap (slMarks c side t) ++ [2 + side, 5 - side]).getD (x.2.2 + p).toNat 0 = _
  rw [List.getD_eq_getElem?_getD, List.getElem?_append_left (by omega), h2]
  unfold slMarks
  rw [List.getElem?_map, nats_at (by omega)]
  show (mvPos c side t x.1 x.2.1 x.2.2 ((p.toNat : Nat) : Int)).1 = _
  rw [show ((p.toNat : Nat) : Int) = p by omega]
theorem mg_row (hx : x ∈ (slots c t).1) (p0 : 0 ≤ p) (p1 : p < (c.game x.1).size) : (mgG c side t).row (x.2.2 + p) = (mvPos c side t x.1 x.2.1 x.2.2 p).2 := by
  have hm := Cum.mem (slots_cum c t) hx
  have h := Cum.flat (f := slMoves c side t) (slots_cum c t) fun x _ => slMoves_len x
  have h2 := h.2 x hx p p0 p1
  rw [Int.sub_zero] at h2
  show ((slots c t).1.flatMap (slMoves c side t) ++ [[], []]).getD (x.2.2 + p).toNat [] = _
  rw [List.getD_eq_getElem?_getD, List.getElem?_append_left (by omega), h2]
  unfold slMoves
  rw [List.getElem?_map, nats_at (by omega)]
  show (mvPos c side t x.1 x.2.1 x.2.2 ((p.toNat : Nat) : Int)).2 = _
  rw [show ((p.toNat : Nat) : Int) = p by omega]
theorem slSafe_in (x : Slot) : (slSafe c side t x).Pairwise (· < ·) ∧ ∀ p ∈ slSafe c side t x, x.2.2 ≤ p ∧ p < x.2.2 + (c.game x.1).size := by
  unfold slSafe
  refine ⟨?_, fun p hp => ?_⟩
  · rw [List.pairwise_map]
    exact ((nats_asc _).sublist List.filter_sublist).imp fun h => by omega
  · obtain ⟨q, hq, rfl⟩ := List.mem_map.mp hp
    have := mem_nats.mp (List.mem_filter.mp hq).1
    omega
theorem mg_safe (hx : x ∈ (slots c t).1) (p0 : 0 ≤ p) (p1 : p < (c.game x.1).size) : x.2.2 + p ∈ (mgG c side t).safe ↔ (legPos c side t x.1 x.2.1 p).2.2 = true := by
  show x.2.2 + p ∈ (slots c t).1.flatMap (slSafe c side t) ↔ _
  rw [List.mem_flatMap]
  constructor
  · rintro ⟨y, hy, h⟩
    have hin := (slSafe_in y).2 _ h
    have e := Cum.one (slots_cum c t) (z := x.2.2 + p) hx hy (by omega) (by omega) hin.1 hin.2
    subst e
    obtain ⟨q, hq, e⟩ := List.mem_map.mp h
    have : q = p := by omega
    subst this
    exact (List.mem_filter.mp hq).2
  · intro h
    exact ⟨x, hx, List.mem_map.mpr ⟨p, List.mem_filter.mpr ⟨mem_nats.mpr ⟨p0, p1⟩, h⟩, rfl⟩⟩
theorem mg_end (i : Int) (h0 : (slots c t).2 ≤ i) (h1 : i < (slots c t).2 + 2) : (mgG c side t).mark i = (if i = (slots c t).2 then 2 + side else 5 - side) ∧ (mgG c side t).row i = [] ∧ i ∉ (mgG c side t).safe := by
  have n0 := slots_nn (c := c) (t := t)
  have e1 := (Cum.flat (f := slMarks c side t) (slots_cum c t) fun x _ => slMarks_len x).1
  have e2 := (Cum.flat (f := slMoves c side t) (slots_cum c t) fun x _ => slMoves_len x).1
  refine ⟨?_, ?_, fun h => ?_⟩
  · show ((slots c t).1.flatMap (slMarks c side t) ++ [2 + side, 5 - side]).getD i.toNat 0 = _
    rw [List.getD_eq_getElem?_getD, List.getElem?_append_right (by omega)]
    by_cases e : i = (slots c t).2
    · rw [if_pos e, show i.toNat - ((slots c t).1.flatMap (slMarks c side t)).length = 0 by omega]; rfl
    · rw [if_neg e, show i.toNat - ((slots c t).1.flatMap (slMarks c side t)).length = 1 by omega]; rfl
  · show ((slots c t).1.flatMap (slMoves c side t) ++ [[], []]).getD i.toNat [] = _
    rw [List.getD_eq_getElem?_getD, List.getElem?_append_right (by omega)]
    by_cases e : i = (slots c t).2
    · rw [show i.toNat - ((slots c t).1.flatMap (slMoves c side t)).length = 0 by omega]; rfl
    · rw [show i.toNat - ((slots c t).1.flatMap (slMoves c side t)).length = 1 by omega]; rfl
  · have := (Cum.rise (f := slSafe c side t) (slots_cum c t) fun x _ => slSafe_in x).2 i h
    omega
theorem slots_small (ok : CtOk c) : (slots c t).2 ≤ 90 := by
  have n1 := ok.n1
  have n3 := ok.n3
  have hb : ∀ k : Nat, (c.below k t).length ≤ 9 * k + 1 := fun k => Nat.le_trans (List.length_filter_le _ _) (by
    show (scL c.win c.draw ((k : Int)).toNat).length ≤ _
    rw [Int.toNat_natCast]
    exact scL_len ok.win0 ok.win1 ok.draw0 ok.draw1 k)
  have hs : ∀ i : Nat, (slotsTo c t (i + 1)).1.length = (slotsTo c t i).1.length + (c.below i t).length := fun i => by rw [slotsTo_succ, foldStep_len]
  have h0 : (slotsTo c t 0).1.length = 0 := rfl
  have h1 := hs 0
  have h2 := hs 1
  have h3 := hs 2
  have b0 := hb 0
  have b1 := hb 1
  have b2 := hb 2
  have e1 := (Cum.flat (f := slMarks c 1 t) (slots_cum c t) fun x _ => slMarks_len x).1
  have e2 := flat_len (f := slMarks c 1 t) (b := 6 - c.n) (l := (slots c t).1) fun x hx => by
    rw [slMarks_len]
    have a := slots_in hx
    have := ok.gsz a.1 a.2.1
    omega
  have hn : c.n = 1 ∨ c.n = 2 ∨ c.n = 3 := by omega
  unfold slots at e1 e2 ⊢
  rcases hn with e | e | e <;> rw [e] at e1 e2 ⊢ <;> simp only [Nat.zero_add, Nat.reduceAdd] at h1 h2 h3 b0 b1 b2 e2 <;> omega
end
end K70

set_option maxHeartbeats 4000000
namespace K70
open PySem PySem.Spec PyProof.Rows L2 DL
section
variable {c : Ct} {side t k s p : Int}
theorem legGm_mark (p0 : 0 ≤ p) (p1 : p < (c.game k).size) : (legGm c side t k s).mark p = (legPos c side t k s p).1 := by
  show ((nats _).map _).getD p.toNat 0 = _
  rw [List.getD_eq_getElem?_getD, List.getElem?_map, nats_at (by omega)]
  show (legPos c side t k s ((p.toNat : Nat) : Int)).1 = _
  rw [show ((p.toNat : Nat) : Int) = p by omega]
theorem legGm_row (p0 : 0 ≤ p) (p1 : p < (c.game k).size) : (legGm c side t k s).row p = (legPos c side t k s p).2.1 := by
  show ((nats _).map _).getD p.toNat [] = _
  rw [List.getD_eq_getElem?_getD, List.getElem?_map, nats_at (by omega)]
  show (legPos c side t k s ((p.toNat : Nat) : Int)).2.1 = _
  rw [show ((p.toNat : Nat) : Int) = p by omega]
theorem legPos_row (m : Mv) (h : m ∈ (legPos c side t k s p).2.1) : m ∈ (c.game k).row p := by
  unfold legPos at h
  split at h
  · cases h
  · split at h <;> exact h
theorem legPos_len (hg : Hg (c.game k)) (p0 : 0 ≤ p) (p1 : p < (c.game k).size) : (legPos c side t k s p).2.1.length ≤ 3 := by
  have := hg.few p p0 p1
  unfold legPos
  split
  · exact Nat.zero_le _
  · split <;> exact this
theorem lead_in (ok : CtOk c) {x : Slot} (o : Int) (hx : x ∈ (slots c t).1) (p1 : p < (c.game x.1).size) : x.2.2 + p < leadOf c side t x.1 x.2.1 o ∧ leadOf c side t x.1 x.2.1 o < (slots c t).2 + 2 := by
  obtain ⟨x0, x1, xb⟩ := slots_in hx
  have hm := Cum.mem (slots_cum c t) hx
  unfold leadOf
  split
  · omega
  · split
    · omega
    · rename_i h1 h2
      have hb : x.2.1 + worthM c side o ∈ c.below (x.1 + 1) t := mem_below.mpr ⟨ok.after x0 (mem_below.mp xb).1, by omega⟩
      obtain ⟨y, _, y1, _, hy, ho⟩ := slotOf_some (k := x.1 + 1) (by omega) (by omega) hb
      have lo := ok.lgOk (k := x.1 + 1) (by omega) (by omega)
      have hat : (c.lg (x.1 + 1)).at_ < (c.game (x.1 + 1)).size := by unfold Ct.game; rw [Lg.seen_size]; exact lo.at1
      have a0 := lo.at0
      have hy2 := Cum.mem (slots_cum c t) hy
      have hl := Cum.legs (slots_cum c t) (slots_legs c t) hx hy (by omega)
      rw [y1] at hy2
      rw [ho]
      omega
theorem endOut_some {m : Int} (h0 : 2 < m) (h1 : m ≤ 5) : endOut m = some (endv m) := by
  have : m = 3 ∨ m = 4 ∨ m = 5 := by omega
  rcases this with rfl | rfl | rfl <;> rfl
theorem endOut_none {m : Int} (h : m ≤ 2) : endOut m = none := by
  unfold endOut
  rw [if_neg (by omega), if_neg (by omega), if_neg (by omega)]
theorem onW : wordOk "on" := ⟨by decide +kernel, by decide +kernel, by decide +kernel⟩
/-- what the whole match has at a leg's position -/
theorem mv_ok (ok : CtOk c) (hs : side = 1 ∨ side = 2) {x : Slot} (hx : x ∈ (slots c t).1) (p0 : 0 ≤ p) (p1 : p < (c.game x.1).size) :
    posOk ((slots c t).2 + 2) (mvPos c side t x.1 x.2.1 x.2.2 p).1 (mvPos c side t x.1 x.2.1 x.2.2 p).2 (decide (x.2.2 + p ∈ (mgG c side t).safe)) ∧ (∀ m ∈ (mvPos c side t x.1 x.2.1 x.2.2 p).2, x.2.2 + p < m.2.1) ∧ (mvPos c side t x.1 x.2.1 x.2.2 p).2.length ≤ 3 := by
  obtain ⟨x0, x1, xb⟩ := slots_in hx
  have hg := ok.hg x0 x1
  have hm := Cum.mem (slots_cum c t) hx
  have hmk := hg.ok.mark_in p0 p1
  by_cases he : 2 < (c.game x.1).mark p
  · have hl := lead_in (side := side) ok (endv ((c.game x.1).mark p)) hx p1
    have e : mvPos c side t x.1 x.2.1 x.2.2 p = (side, [((("on" : Str), leadOf c side t x.1 x.2.1 (endv ((c.game x.1).mark p)), 0, 0) : Mv)]) := by unfold mvPos; rw [endOut_some he hmk.2]
    rw [e]
    refine ⟨.inl ⟨hs, by show 1 ≤ 1; decide, by show 1 ≤ 16; decide, fun m hm => ?_, by simp⟩, fun m hm => ?_, by show 1 ≤ 3; decide⟩
    · rw [List.mem_singleton.mp hm]
      exact ⟨onW, by show 0 ≤ leadOf _ _ _ _ _ _; omega, hl.2, Int.le_refl _, Int.le_refl _, by show (0 : Int) ≤ 9; decide⟩
    · rw [List.mem_singleton.mp hm]; exact hl.1
  · have e : mvPos c side t x.1 x.2.1 x.2.2 p = ((legPos c side t x.1 x.2.1 p).1, (legPos c side t x.1 x.2.1 p).2.1.map fun m => (m.1, x.2.2 + m.2.1, m.2.2.1, m.2.2.2)) := by
      unfold mvPos
      rw [endOut_none (by omega), legGm_mark p0 p1, legGm_row p0 p1]
    rw [e]
    have hp := legPos_ok (c := c) (side := side) (target := t) (k := x.1) (pts := x.2.1) hs hg p0 p1
    refine ⟨?_, fun m hm => ?_, by rw [List.length_map]; exact legPos_len hg p0 p1⟩
    · rcases hp with ⟨h1, h2, h3, h4, h5⟩ | ⟨h1, h2, h3⟩
      · refine .inl ⟨h1, by rw [List.length_map]; exact h2, by rw [List.length_map]; exact h3, fun m hm' => ?_, by rw [List.map_map]; exact h5⟩
        obtain ⟨u, hu, rfl⟩ := List.mem_map.mp hm'
        obtain ⟨a, b, d, f, g, i⟩ := h4 u hu
        exact ⟨a, by show 0 ≤ x.2.2 + u.2.1; omega, by show x.2.2 + u.2.1 < _; omega, f, g, i⟩
      · refine .inr ⟨h1, by rw [h2]; rfl, decide_eq_false fun z => ?_⟩
        have := (mg_safe hx p0 p1).mp z
        rw [h3] at this
        cases this
    · obtain ⟨u, hu, rfl⟩ := List.mem_map.mp hm
      have := hg.ac p p0 p1 u (legPos_row u hu)
      show x.2.2 + p < x.2.2 + u.2.1
      omega
theorem mg_hg (ok : CtOk c) (hs : side = 1 ∨ side = 2) : Hg (mgG c side t) ∧ (slots c t).2 ≤ 98 := by
  have h90 := slots_small (t := t) ok
  have hsz := mgG_size (c := c) (side := side) (t := t)
  have n0 := slots_nn (c := c) (t := t)
  have hrise := Cum.rise (f := slSafe c side t) (slots_cum c t) fun x _ => slSafe_in x
  have hrow : ∀ p : Int, 0 ≤ p → p < (mgG c side t).size → (∀ m ∈ (mgG c side t).row p, p < m.2.1) ∧ ((mgG c side t).row p).length ≤ 3 := fun p h0 h1 => by
    by_cases h : p < (slots c t).2
    · obtain ⟨x, hx, q, q0, q1, rfl⟩ := Cum.find (slots_cum c t) h0 h
      rw [mg_row hx q0 q1]
      exact (mv_ok ok hs hx q0 q1).2
    · rw [(mg_end p (by omega) (by omega)).2.1]
      exact ⟨fun m hm => (nomatch hm), Nat.zero_le _⟩
  refine ⟨⟨⟨by omega, by omega, mgG_mlen, ⟨hrise.1, fun p hp => ?_⟩, fun i m r hm hr => ?_⟩, fun p h0 h1 m hm => (hrow p h0 h1).1 m hm, by omega, fun p h0 h1 => (hrow p h0 h1).2⟩, by omega⟩
  · have := hrise.2 p hp
    omega
  · have hi : i < (mgG c side t).size := (List.getElem?_eq_some_iff.mp hm).1
    have hm' : (mgG c side t).mark i = m := by
      show (mgG c side t).marks.getD ((i : Int)).toNat 0 = m
      rw [Int.toNat_natCast, List.getD_eq_getElem?_getD, hm]; rfl
    have hr' : (mgG c side t).row i = r := by
      show (mgG c side t).moves.getD ((i : Int)).toNat [] = r
      rw [Int.toNat_natCast, List.getD_eq_getElem?_getD, hr]; rfl
    rw [hsz]
    by_cases h : (i : Int) < (slots c t).2
    · obtain ⟨x, hx, q, q0, q1, e⟩ := Cum.find (slots_cum c t) (z := (i : Int)) (by omega) h
      rw [e] at hm' hr' ⊢
      rw [mg_mark hx q0 q1] at hm'
      rw [mg_row hx q0 q1] at hr'
      subst hm' hr'
      exact (mv_ok ok hs hx q0 q1).1
    · obtain ⟨e1, e2, e3⟩ := mg_end (c := c) (side := side) (t := t) (i : Int) (by omega) (by omega)
      rw [hm'] at e1
      rw [hr'] at e2
      refine .inr ⟨?_, e2, decide_eq_false e3⟩
      rw [e1]
      rcases hs with rfl | rfl <;> split <;> simp
theorem mover_of {g : Gm} (h : g.mark p = 1 ∨ g.mark p = 2) : g.mover p = g.mark p := by unfold Gm.mover; rw [if_pos h]
theorem mover_no {g : Gm} (h : ¬ (g.mark p = 1 ∨ g.mark p = 2)) : g.mover p = 0 := by unfold Gm.mover; rw [if_neg h]
theorem fix_low {g : Gm} (hg : Hg g) {total : Int} {found : List (Option Int)} (h : IsFix g side total found) (t0 : 0 ≤ total) {l : Int} (p0 : 0 ≤ p) (p1 : p < g.size) (e : fAt found p = some l) : 0 ≤ l ∧ l ≤ total := by
  rw [h.at_ p p0 p1] at e
  by_cases hm : 0 < g.mover p
  · rw [if_pos hm] at e
    have hl : l ≤ total := by
      unfold renewO at e
      dsimp only at e
      generalize (if g.mover p = side then (g.row p).foldl (oneStep (fAt found)) none else if p ∈ g.safe then none else some ((g.row p).foldl (allStep (fAt found) total) 0)) = L at e
      by_cases z : suffO total L = true
      · rw [if_pos z] at e
        rw [e] at z
        exact of_decide_eq_true z
      · rw [if_neg z] at e
        cases e
    refine ⟨?_, hl⟩
    have hs : suffO l (renewO g side total p (fAt found)) = true := by rw [e]; exact decide_eq_true (Int.le_refl _)
    by_cases hms : g.mover p = side
    · obtain ⟨m, hm2, n1, _⟩ := (renew_one hl hms).mp hs
      have mv := hg.ok.mv p0 p1 m hm2
      have := mv.2.2.2.1
      have := mv.2.2.2.2.1
      omega
    · exact ((renew_all hl hms).mp hs).2.1
  · rw [if_neg hm] at e
    unfold startO at e
    split at e
    · cases e; omega
    · cases e
theorem ask_ok {total : Nat} {found : List (Option Int)} (ok : CtOk c) (hs : side = 1 ∨ side = 2) (h : IsFix (mgG c side t) side total found) : AskOk c side t total found := by
  have hsz := mgG_size (c := c) (side := side) (t := t)
  have n0 := slots_nn (c := c) (t := t)
  have hgm := (mg_hg (t := t) ok hs).1
  have hinr : ∀ k s p : Int, 0 ≤ k → k < c.n → s ∈ c.below k t → 0 ≤ p → p < (c.game k).size → 0 ≤ offOf c t k s + p ∧ offOf c t k s + p < (mgG c side t).size := fun k s p k0 k1 hb p0 p1 => by
    obtain ⟨x, _, e1, _, hx, e2⟩ := slotOf_some k0 k1 hb
    have := Cum.mem (slots_cum c t) hx
    rw [e1] at this
    omega
  refine ⟨h, ⟨fun k s p own k0 k1 hb p0 p1 o0 o1 => ?_⟩, hinr, fun k s p l k0 k1 hb p0 p1 e => fix_low hgm h (by omega) (hinr k s p k0 k1 hb p0 p1).1 (hinr k s p k0 k1 hb p0 p1).2 e⟩
  obtain ⟨x, _, e1, e2, hx, e3⟩ := slotOf_some k0 k1 hb
  have hg := ok.hg k0 k1
  have hmk := hg.ok.mark_in p0 p1
  have hin := hinr k s p k0 k1 hb p0 p1
  have hp1 : p < (c.game x.1).size := by rw [e1]; exact p1
  have hM := mg_mark (side := side) hx p0 hp1
  have hR := mg_row (side := side) hx p0 hp1
  have hS := mg_safe (side := side) hx p0 hp1
  have hld := fun o => lead_in (side := side) ok o hx hp1
  rw [e1, e2] at hM hR hS hld
  rw [← e3] at hM hR hS hld
  have hV : ∀ q : Int, vOf c t found k s q own = suffO own (fAt found (offOf c t k s + q)) := fun _ => rfl
  rw [hV, h.at_ _ hin.1 hin.2]
  have hon : 0 < (mgG c side t).mover (offOf c t k s + p) → (if 0 < (mgG c side t).mover (offOf c t k s + p) then renewO (mgG c side t) side total (offOf c t k s + p) (fAt found) else startO (mgG c side t) side (offOf c t k s + p)) = renewO (mgG c side t) side total (offOf c t k s + p) (fAt found) := fun z => if_pos z
  have hoff : ¬ 0 < (mgG c side t).mover (offOf c t k s + p) → (if 0 < (mgG c side t).mover (offOf c t k s + p) then renewO (mgG c side t) side total (offOf c t k s + p) (fAt found) else startO (mgG c side t) side (offOf c t k s + p)) = startO (mgG c side t) side (offOf c t k s + p) := fun z => if_neg z
  unfold winsF
  by_cases he : 2 < (c.game k).mark p
  · -- an ended position
    rw [if_pos he]
    have ev : mvPos c side t k s (offOf c t k s) p = (side, [((("on" : Str), leadOf c side t k s (endv ((c.game k).mark p)), 0, 0) : Mv)]) := by unfold mvPos; rw [endOut_some he hmk.2]
    rw [ev] at hM hR
    have hmv : (mgG c side t).mover (offOf c t k s + p) = side := (mover_of (by rw [hM]; exact hs)).trans hM
    rw [hon (by rw [hmv]; rcases hs with rfl | rfl <;> decide)]
    have hw := worth_same (c := c) hs (endv_in ((c.game k).mark p))
    have hkey : suffO own (renewO (mgG c side t) side total (offOf c t k s + p) (fAt found)) = suffO own (fAt found (leadOf c side t k s (endv ((c.game k).mark p)))) := by
      rw [Bool.eq_iff_iff, renew_one o1 hmv, hR]
      constructor
      · rintro ⟨m, hm, _, b⟩
        rw [List.mem_singleton.mp hm] at b
        have b : suffO (own - 0) (fAt found (leadOf c side t k s (endv ((c.game k).mark p)))) = true := b
        rw [Int.sub_zero] at b
        exact b
      · intro b
        refine ⟨_, List.mem_singleton.mpr rfl, o0, ?_⟩
        show suffO (own - 0) _ = true
        rw [Int.sub_zero]
        exact b
    rw [hkey]
    unfold nextF leadOf
    rw [hw]
    by_cases c1 : t ≤ s + worthL c side (endv ((c.game k).mark p))
    · rw [if_pos c1, if_pos c1, h.at_ _ n0 (by omega)]
      obtain ⟨m1, _, _⟩ := mg_end (c := c) (side := side) (t := t) (slots c t).2 (Int.le_refl _) (by omega)
      rw [if_pos rfl] at m1
      rw [mover_no (by rw [m1]; omega), if_neg (by decide)]
      unfold startO
      rw [m1, if_pos (by rcases hs with rfl | rfl <;> rfl)]
      exact decide_eq_true o0
    · rw [if_neg c1, if_neg c1]
      by_cases c2 : k = c.n - 1
      · rw [if_pos c2, if_pos c2, h.at_ _ (by omega) (by omega)]
        obtain ⟨m1, _, _⟩ := mg_end (c := c) (side := side) (t := t) ((slots c t).2 + 1) (by omega) (by omega)
        rw [if_neg (by omega)] at m1
        rw [mover_no (by rw [m1]; omega), if_neg (by decide)]
        unfold startO
        rw [m1, if_neg (by rcases hs with rfl | rfl <;> decide)]
        rfl
      · rw [if_neg c2, if_neg c2]; rfl
  · rw [if_neg he]
    have ev : mvPos c side t k s (offOf c t k s) p = ((legPos c side t k s p).1, (legPos c side t k s p).2.1.map fun m => (m.1, offOf c t k s + m.2.1, m.2.2.1, m.2.2.2)) := by
      unfold mvPos
      rw [endOut_none (by omega), legGm_mark p0 p1, legGm_row p0 p1]
    rw [ev] at hM hR
    have hgm12 : (c.game k).mark p = 1 ∨ (c.game k).mark p = 2 := by omega
    have hgmv : (c.game k).mover p = (c.game k).mark p := mover_of hgm12
    unfold legPos at hM hR hS
    rw [hgmv] at hM hR hS
    unfold flagOf
    by_cases hside : (c.game k).mark p = side
    · rw [if_pos hside, if_pos hside]
      by_cases hfl : p ∈ (c.game k).safe ∧ t ≤ s + c.draw
      · rw [if_pos (show (decide (p ∈ (c.game k).safe) && decide (t ≤ s + c.draw)) = true by rw [decide_eq_true hfl.1, decide_eq_true hfl.2]; rfl)]
        rw [if_pos ⟨hside, hfl.1, hfl.2⟩] at hM
        have hM : (mgG c side t).mark (offOf c t k s + p) = 2 + side := hM
        rw [hoff (by rw [mover_no (by rw [hM]; omega)]; decide)]
        unfold startO
        rw [hM, if_pos (by rcases hs with rfl | rfl <;> rfl)]
        exact decide_eq_true o0
      · rw [if_neg (show ¬ (decide (p ∈ (c.game k).safe) && decide (t ≤ s + c.draw)) = true by rw [Bool.and_eq_true, decide_eq_true_iff, decide_eq_true_iff]; exact hfl)]
        rw [if_neg (fun z => hfl z.2), if_neg (fun z => by omega)] at hM hR
        have hM : (mgG c side t).mark (offOf c t k s + p) = (c.game k).mark p := hM
        have hmv : (mgG c side t).mover (offOf c t k s + p) = side := (mover_of (by rw [hM]; exact hgm12)).trans (hM.trans hside)
        rw [hon (by rw [hmv]; rcases hs with rfl | rfl <;> decide)]
        rw [Bool.eq_iff_iff, renew_one o1 hmv, hR, List.any_eq_true]
        constructor
        · rintro ⟨m, hm, a, b⟩
          obtain ⟨u, hu, rfl⟩ := List.mem_map.mp hm
          exact ⟨u, hu, by rw [Bool.and_eq_true, decide_eq_true_iff]; exact ⟨a, b⟩⟩
        · rintro ⟨u, hu, z⟩
          rw [Bool.and_eq_true, decide_eq_true_iff] at z
          exact ⟨_, List.mem_map.mpr ⟨u, hu, rfl⟩, z.1, z.2⟩
    · rw [if_neg hside, if_neg hside]
      have ho : (c.game k).mark p = 3 - side := by omega
      rw [if_neg (fun z => hside z.1)] at hM hR hS
      by_cases hfl : byFlag c k s (decide (p ∈ (c.game k).safe)) < t
      · rw [if_pos (show decide (t ≤ byFlag c k s (decide (p ∈ (c.game k).safe))) = false from decide_eq_false (by omega))]
        rw [if_pos ⟨ho, hfl⟩] at hM hS
        have hM : (mgG c side t).mark (offOf c t k s + p) = (c.game k).mark p := hM
        have hmv : (mgG c side t).mover (offOf c t k s + p) = (c.game k).mark p := (mover_of (by rw [hM]; exact hgm12)).trans hM
        rw [hon (by rw [hmv]; omega)]
        have hsafe : offOf c t k s + p ∈ (mgG c side t).safe := hS.mpr rfl
        cases hb2 : suffO own (renewO (mgG c side t) side total (offOf c t k s + p) (fAt found)) with
        | false => rfl
        | true => exact absurd hsafe ((renew_all o1 (by rw [hmv]; exact hside)).mp hb2).1
      · rw [if_neg (show ¬ decide (t ≤ byFlag c k s (decide (p ∈ (c.game k).safe))) = false by rw [decide_eq_true (by omega)]; exact fun z => by cases z)]
        rw [if_neg (fun z => hfl z.2)] at hM hR hS
        have hM : (mgG c side t).mark (offOf c t k s + p) = (c.game k).mark p := hM
        have hmv : (mgG c side t).mover (offOf c t k s + p) = (c.game k).mark p := (mover_of (by rw [hM]; exact hgm12)).trans hM
        rw [hon (by rw [hmv]; omega)]
        have hsafe : offOf c t k s + p ∉ (mgG c side t).safe := fun z => by have := hS.mp z; cases this
        rw [Bool.eq_iff_iff, renew_all o1 (by rw [hmv]; exact hside), hR, List.all_eq_true]
        constructor
        · rintro ⟨_, _, hall⟩ u hu
          rw [Bool.not_eq_true', Bool.and_eq_false_iff]
          by_cases z : u.2.2.1 ≤ total - own
          · refine .inr ?_
            have := hall _ (List.mem_map.mpr ⟨u, hu, rfl⟩) z
            rw [Bool.not_eq_false']
            exact this
          · exact .inl (decide_eq_false z)
        · intro hall
          refine ⟨hsafe, o0, fun m hm z => ?_⟩
          obtain ⟨u, hu, rfl⟩ := List.mem_map.mp hm
          have := hall u hu
          rw [Bool.not_eq_true', Bool.and_eq_false_iff] at this
          rcases this with a | a
          · exact absurd z (of_decide_eq_false a)
          · rw [Bool.not_eq_false'] at a
            exact a
end
end K70

set_option maxHeartbeats 4000000
namespace K70
open PySem PySem.Spec PyProof.Rows L2 DL
local macro_rules | `(tactic| walk_at "mul") => `(tactic| first | exact .inl (by decide) | exact .inr (by decide) | exact .inl (by omega) | exact .inr (by omega))
local macro_rules | `(tactic| walk_at "pos") => `(tactic| first | assumption | decide | omega)
local macro_rules | `(tactic| walk_at "div") => `(tactic| first | exact ⟨by decide, by decide⟩ | exact ⟨by omega, by omega⟩)
local macro_rules | `(tactic| walk_at "pow") => `(tactic| exact ⟨by decide, by decide, by decide⟩)
local macro_rules | `(tactic| walk_at "side") => `(tactic| first | assumption | rfl | omega | decide)
local macro_rules | `(tactic| walk_at "lk") => `(tactic| first | exact .lst .l | exact .tup | exact .l)
local macro_rules | `(tactic| walk_at "it") => `(tactic| first | exact .lst | exact .tup)
local macro_rules | `(tactic| walk_at "len") => `(tactic| first | exact .lst .l | exact .tup | exact .scr)
local macro_rules | `(tactic| walk_at "ix") => `(tactic| first | exact .lst .l rfl | exact .tup rfl | exact .lst .l (by assumption) | exact .tup (by assumption) | exact .scr (by assumption))
local macro_rules | `(tactic| walk_at "dk") => `(tactic| exact .inl rfl)

theorem zero_below {c : Ct} (ok : CtOk c) {t : Int} (h : 1 ≤ t) : (0 : Int) ∈ c.below 0 t := mem_below.mpr ⟨List.mem_cons_self, by omega⟩
section
variable {P : Program} {w : World} {K : PySem.W.Frag} {mg : Str → Option Value} {base : Heap}
def R_law (ds : List Dt) (d : Dt) : Prop := ∃ (ns : List Int), ds = [.scr (ns.map .int)] ∧ d = .bl true
theorem many_at {m : Int} (h0 : 0 ≤ m) (h1 : m < 4) : atI ([.int 1, .int 2, .int 2, .int 3] : List Dt) m = some (.int (if m = 0 then 1 else if m = 3 then 3 else 2)) := by
  have : m = 0 ∨ m = 1 ∨ m = 2 ∨ m = 3 := by omega
  rcases this with rfl | rfl | rfl | rfl <;> rfl

theorem ok_law (T : Txt P w K mg base) {fd : FuncData} (F : FunD K "law" "law" (defArgs s_law) (defBody s_law) (defScope s_law) [] [] (He.fAd K ("law", none)) fd) : FnOk P w K mg base CX0 10 (He.fAd K ("law", none)) fd ["script"] (spD K R_law) := by
  refine fn_D F sc_law vi_law st_law (fun ds d h => ?_) (fun X hX C hr ds d h => ?_)
  · obtain ⟨ns, rfl, rfl⟩ := h; rfl
  obtain ⟨rfl, rfl, rfl, rfl, rfl⟩ := hX
  obtain ⟨ns, rfl, rfl⟩ := h
  refine jb_cons (js_set C 1 (d := .lst ((numsOf (cellOf ns 0) 0 5040 12).map .int)) (jp_call C (D_L_numbers T) (hr.mono (by decide)) (ja_cons (jp_call C (D_L_cell T) (hr.mono (by decide)) (ja_cons (jp_var C 0 rfl rfl rfl) (ja_cons jp_int ja_nil)) (⟨ns, 0, rfl, rfl, by decide⟩) rfl) (ja_cons jp_int (ja_cons jp_int (ja_cons jp_int ja_nil)))) (⟨_, _, 5040, 12, rfl, rfl, by decide, by decide, by decide, by decide, by decide⟩) rfl) ?_)
  have hn := numsOf_len (cell := cellOf ns 0) (salt := 0) (many := 5040) (by decide) 12
  generalize numsOf (cellOf ns 0) 0 5040 12 = n at hn
  have hq : ∀ {j : Int}, 0 ≤ j → j < 12 → ∃ x, atI (n.map Dt.int) j = some (.int x) := fun h0 h1 => ⟨_, at_getD h0 (by rw [hn]; exact h1)⟩
  obtain ⟨q2, a2⟩ := hq (j := 2) (by decide) (by decide)
  obtain ⟨q3, a3⟩ := hq (j := 3) (by decide) (by decide)
  obtain ⟨q4, a4⟩ := hq (j := 4) (by decide) (by decide)
  obtain ⟨q5, a5⟩ := hq (j := 5) (by decide) (by decide)
  obtain ⟨q6, a6⟩ := hq (j := 6) (by decide) (by decide)
  obtain ⟨q7, a7⟩ := hq (j := 7) (by decide) (by decide)
  obtain ⟨q8, a8⟩ := hq (j := 8) (by decide) (by decide)
  refine jb_cons (js_set C 2 (jp_ix (jp_new (jn_lst (ja_cons jp_int (ja_cons jp_int (ja_cons jp_int (ja_cons jp_int ja_nil)))))) (jp_op (jp_toint C T.f_int (jp_ix (jp_var C 1 rfl rfl rfl) jp_int (.lst .l a6))) jp_int (jo_mod (by walk_at "pos"))) (.lst .l (many_at (Int.emod_nonneg _ (by decide)) (Int.emod_lt_of_pos _ (by decide))))) ?_)
  have hm : 1 ≤ (if q6 % 4 = 0 then 1 else if q6 % 4 = 3 then 3 else 2 : Int) ∧ (if q6 % 4 = 0 then 1 else if q6 % 4 = 3 then 3 else 2 : Int) ≤ 3 := by
    split
    · omega
    · split <;> omega
  generalize (if q6 % 4 = 0 then 1 else if q6 % 4 = 3 then 3 else 2 : Int) = many at hm
  obtain ⟨m1, m3⟩ := hm
  have hz0 := Int.emod_nonneg q7 (show (5 : Int) - many ≠ 0 by omega)
  have hz1 := Int.emod_lt_of_pos q7 (show 0 < (5 : Int) - many by omega)
  obtain ⟨sz, hsz⟩ : ∃ sz : Nat, 2 + q7 % (5 - many) = sz := ⟨(2 + q7 % (5 - many)).toNat, by omega⟩
  have z2 : 2 ≤ sz := by omega
  have z5 : (sz : Int) + many ≤ 6 := by omega
  refine jb_cons (js_set C 3 (JP.is (jp_op jp_int (jp_op (jp_toint C T.f_int (jp_ix (jp_var C 1 rfl rfl rfl) jp_int (.lst .l a7))) (jp_op jp_int (jp_var C 2 rfl rfl rfl) jo_sub) (jo_mod (by omega))) jo_add) (congrArg Dt.int hsz)) ?_)
  refine jb_cons (js_own C 4 (jn_call C (D_L_contest T) (hr.mono (by decide)) (ja_cons (jp_var C 0 rfl rfl rfl) (ja_cons jp_int (ja_cons (jp_var C 1 rfl rfl rfl) (ja_cons (jp_var C 2 rfl rfl rfl) (ja_cons (jp_var C 3 rfl rfl rfl) (ja_cons jp_int ja_nil)))))) (⟨ns, n, many, sz, rfl, rfl, hn, m1, m3, z2, by omega⟩) rfl) fun pC _ => ?_)
  refine jb_cons (js_setI (jp_new (jn_lc C (List.range many.toNat) (fun k => lgR (cParts ns many sz k)) (fun _ => true) (fun k => lgL (cParts ns many sz k).1) [("leg", 15)] (ji_X (jp_ix (jp_var C 4 rfl rfl rfl) jp_int (.lst (.o List.mem_cons_self) rfl)) (.lst)) (?_) (by rw [List.length_range]; omega) rfl rfl (by decide +kernel) rfl)) (jp_var C 4 rfl rfl rfl) jp_int List.mem_cons_self (by decide) (by show (0 : Int) < ((3 : Nat) : Int); decide) ?_)
  · intro k hk
    refine ⟨_, fun X' hB C => ⟨(jg_name C 15), jfs_nil, fun _ => ?_⟩⟩
    exact JP.is (jp_new (jn_op (jp_new (jn_slice (jp_var C 15 rfl rfl rfl) (.l) jpo_none (jpo_some jp_int))) (jp_new (jn_lst (ja_cons (jp_new (jn_lst (ja_cons jp_int (ja_cons jp_int ja_nil)))) ja_nil))) (jo_cat .l .l (by show 3 + 1 ≤ 100000; decide)))) rfl
  have hcn : Dt.lst ([Dt.lst ((List.range many.toNat).map fun k => lgR (cParts ns many sz k)), .int (winOf n), .int (drawOf n)].set (Int.toNat 0) (.lst (outs (List.range many.toNat) (fun _ => true) fun k => lgL (cParts ns many sz k).1))) = cnD (lawCt ns n many sz) := by
    rw [outs_all]
    show Dt.lst [_, _, _] = Dt.lst [Dt.lst (((List.range many.toNat).map _).map lgL), _, _]
    rw [List.map_map]; rfl
  refine jb_give 4 rfl dl1 (List.Perm.refl _) ?_
  rw [hcn]
  have ok := lawCt_ok (ns := ns) (n := n) m1 m3 z2 z5
  have hwin : (lawCt ns n many sz).win = winOf n := rfl
  have hcnn : ((lawCt ns n many sz).n : Int) = many := by show (((List.range many.toNat).map _).length : Int) = many; rw [List.length_map, List.length_range]; omega
  have hw := winOf_in n
  have hmul : 1 ≤ winOf n * many ∧ winOf n * many ≤ 27 := by
    have : many = 1 ∨ many = 2 ∨ many = 3 := by omega
    rcases this with rfl | rfl | rfl <;> omega
  rw [← hwin] at hmul hw
  generalize lawCt ns n many sz = c at ok hwin hcnn hmul hw
  have ht0 := Int.emod_nonneg q2 (show c.win * many ≠ 0 by omega)
  have ht1 := Int.emod_lt_of_pos q2 (show 0 < c.win * many by omega)
  refine jb_cons (js_set C 5 (jp_op jp_int (jp_op (jp_toint C T.f_int (jp_ix (jp_var C 1 rfl rfl rfl) jp_int (.lst .l a2))) (jp_op (jp_ix (jp_var C 4 rfl rfl rfl) jp_int (.lst .l rfl)) (jp_var C 2 rfl rfl rfl) (jo_mul (.inl (by omega)))) (jo_mod (by omega))) jo_add) ?_)
  generalize ht : 1 + q2 % (c.win * many) = t
  have t1 : 1 ≤ t := by omega
  have t27 : t ≤ 27 := by omega
  refine jb_cons (js_set C 6 (jp_call C (D_L_match T) (hr.mono (by decide)) (ja_cons (jp_var C 4 rfl rfl rfl) ja_nil) (⟨c, rfl, rfl, ok⟩) rfl) ?_)
  have k00 : (0 : Int) < c.n := by omega
  have hb0 := zero_below ok t1
  have lo := ok.lgOk (k := 0) (by decide) k00
  have hb1 : (c.lg 0).at_ < (c.game 0).size := by unfold Ct.game; rw [Lg.seen_size]; exact lo.at1
  have hlg := CtOk.lg_at (c := c) (k := 0) (by decide) k00
  have hside : 1 + q8 % 2 = 1 ∨ 1 + q8 % 2 = 2 := by omega
  refine jb_cons (js_forM C [1 + q8 % 2] Dt.int (ws := [7]) (ji_X (jp_new (jn_lst (ja_cons (jp_op jp_int (jp_op (jp_toint C T.f_int (jp_ix (jp_var C 1 rfl rfl rfl) jp_int (.lst .l a8))) jp_int (jo_mod (by walk_at "pos"))) jo_add) ja_nil))) (.lst)) (fun pre δ os => ∃ v7 v8 v9 v10 v11 v12 v13 v14, δ = [some (.scr (ns.map .int)), some (.lst (n.map .int)), some (.int many), some (.int sz), some (cnD c), some (.int t), some (ctD X.K c), v7, v8, v9, v10, v11, v12, v13, v14, none] ∧ os = []) ⟨_, _, _, _, _, _, _, _, rfl, rfl⟩ ?_ ?_)
  · rintro pre side post δ' os' e ⟨_, v8, v9, v10, v11, v12, v13, v14, rfl, rfl⟩
    have hs : side = 1 ∨ side = 2 := by
      have : side ∈ [1 + q8 % 2] := by rw [e]; simp
      rw [List.mem_singleton.mp this]; exact hside
    obtain ⟨hg, h98⟩ := mg_hg (t := t) ok hs
    refine ⟨_, (jg_name C 7), ?_⟩
    refine jb_cons (js_set C 8 (jp_call C (D_match_game T) (hr.mono (by decide)) (ja_cons (jp_var C 6 rfl rfl rfl) (ja_cons (jp_var C 7 rfl rfl rfl) (ja_cons (jp_var C 5 rfl rfl rfl) ja_nil))) (⟨c, side, t, rfl, rfl, ok, hs, by omega, by omega, by omega, hg.ok⟩) rfl) ?_)
    refine jb_cons (js_forM C [q3 % 17, q4 % 6] Dt.int (ws := [9]) (ji_X (jp_new (jn_lst (ja_cons (jp_op (jp_toint C T.f_int (jp_ix (jp_var C 1 rfl rfl rfl) jp_int (.lst .l a3))) jp_int (jo_mod (by walk_at "pos"))) (ja_cons (jp_op (jp_toint C T.f_int (jp_ix (jp_var C 1 rfl rfl rfl) jp_int (.lst .l a4))) jp_int (jo_mod (by walk_at "pos"))) ja_nil)))) (.lst)) (fun pre δ os => ∃ v9 v10 v11 v12 v13 v14, δ = [some (.scr (ns.map .int)), some (.lst (n.map .int)), some (.int many), some (.int sz), some (cnD c), some (.int t), some (ctD X.K c), some (.int side), some (gmD X.K (mgG c side t)), v9, v10, v11, v12, v13, v14, none] ∧ os = []) ⟨_, _, _, _, _, _, rfl, rfl⟩ ?_ ?_)
    · rintro pre total post δ' os' e ⟨_, _, _, _, _, _, rfl, rfl⟩
      have htt : 0 ≤ total ∧ total ≤ 16 := by
        have : total ∈ [q3 % 17, q4 % 6] := by rw [e]; simp
        simp at this
        omega
      obtain ⟨tn, rfl⟩ : ∃ tn : Nat, total = tn := ⟨total.toNat, by omega⟩
      obtain ⟨found, hfx⟩ := fix_ex hg side tn
      refine ⟨_, (jg_name C 9), ?_⟩
      exact jb_cons (js_if (k := false) (JT.is (jt_not (jt_val (jp_call C (D_L_asked T) (hr.mono (by decide)) (ja_cons (jp_var C 4 rfl rfl rfl) (ja_cons (jp_var C 6 rfl rfl rfl) (ja_cons (jp_var C 8 rfl rfl rfl) (ja_cons (jp_var C 7 rfl rfl rfl) (ja_cons (jp_var C 5 rfl rfl rfl) (ja_cons (jp_var C 9 rfl rfl rfl) ja_nil)))))) (⟨c, side, t, tn, found, rfl, rfl, ok, hs, by omega, by omega, by omega, hg, ask_ok ok hs hfx⟩) rfl))) rfl) (fun h => nomatch h) (fun _ => jb_nil (jb_nil ⟨_, _, _, _, _, _, rfl, rfl⟩)))
    · rintro δ' os' ⟨_, _, _, _, _, _, rfl, rfl⟩
      refine jb_cons (js_set C 9 (jp_op (jp_toint C T.f_int (jp_ix (jp_var C 1 rfl rfl rfl) jp_int (.lst .l a5))) jp_int (jo_mod (by walk_at "pos"))) ?_)
      obtain ⟨tn, htn⟩ : ∃ tn : Nat, q5 % 9 = tn := ⟨(q5 % 9).toNat, by omega⟩
      have htn8 : tn ≤ 8 := by omega
      rw [htn]
      obtain ⟨f1, h1⟩ := fix_ex hg 1 tn
      obtain ⟨f2, h2⟩ := fix_ex hg 2 tn
      obtain ⟨found, hfx, hfo⟩ : ∃ found, IsFix (mgG c side t) side tn found ∧ ((side = 1 ∧ found = f1) ∨ (side = 2 ∧ found = f2)) := by
        rcases hs with rfl | rfl
        · exact ⟨f1, h1, .inl ⟨rfl, rfl⟩⟩
        · exact ⟨f2, h2, .inr ⟨rfl, rfl⟩⟩
      have A := ask_ok ok hs hfx
      have hin := A.inr 0 0 (c.lg 0).at_ (by decide) k00 hb0 lo.at0 hb1
      have hget : getT (dueK c (vOf c t found) tn t) [.inl 0, .inl 0] = some (tblD c (vOf c t found) tn 0 0) := get_of (mem_dueTo.mpr ⟨0, 0, by omega, k00, hb0, rfl⟩) fun e he => by
        obtain ⟨k', s', _, _, _, rfl⟩ := mem_dueTo.mp he
        exact ⟨k', s', rfl⟩
      refine jb_cons (js_set C 10 (jp_ix (jp_dget (k := ([.inl 0, .inl 0])) (by have := L2.Room.units hr; omega) (jp_call C (D_L_search T) (hr.mono (by decide)) (ja_cons (jp_var C 4 rfl rfl rfl) (ja_cons (jp_var C 7 rfl rfl rfl) (ja_cons (jp_var C 5 rfl rfl rfl) (ja_cons (jp_var C 9 rfl rfl rfl) ja_nil)))) (⟨c, side, t, tn, vOf c t found, rfl, rfl, ok, hs, by omega, A.due⟩) rfl) (by walk_at "dk") (ja_cons jp_int (ja_cons jp_int ja_nil)) (hget) (by show 2 ≤ 1000; decide)) (jp_ix (jp_ix (jp_ix (jp_var C 4 rfl rfl rfl) jp_int (.lst .l rfl)) jp_int (.lst .l (at_map (by decide) hlg))) jp_int (.lst .l rfl)) (.lst .l (tbl_at lo.at0 hb1))) ?_)
      refine jb_cons (js_set C 11 (jp_call C (D_match_position T) (hr.mono (by decide)) (ja_cons (jp_var C 6 rfl rfl rfl) (ja_cons (jp_var C 5 rfl rfl rfl) (ja_cons jp_int (ja_cons jp_int (ja_cons (jp_ix (jp_ix (jp_ix (jp_var C 4 rfl rfl rfl) jp_int (.lst .l rfl)) jp_int (.lst .l (at_map (by decide) hlg))) jp_int (.lst .l rfl)) ja_nil))))) (⟨c, t, 0, 0, _, rfl, rfl, ok, by omega, by omega, by decide, k00, hb0, lo.at0, hb1⟩) rfl) ?_)
      refine jb_cons (js_forR C ((tn : Int) + 1) (ws := [12]) (ji_rangeN C T.f_range (jp_op (jp_var C 9 rfl rfl rfl) jp_int jo_add) (by omega) (by omega)) (fun i δ os => ∃ v12 v13 v14, δ = [some (.scr (ns.map .int)), some (.lst (n.map .int)), some (.int many), some (.int sz), some (cnD c), some (.int t), some (ctD X.K c), some (.int side), some (gmD X.K (mgG c side t)), some (.int tn), some (rowD (rowB (vOf c t found) 0 0 tn (c.lg 0).at_)), some (.int (offOf c t 0 0 + (c.lg 0).at_)), v12, v13, v14, none] ∧ os = []) ⟨_, _, _, rfl, rfl⟩ ?_ ?_)
      · rintro i δ' os' hi ⟨_, _, _, rfl, rfl⟩
        have hi : (i : Int) ≤ tn := by omega
        refine ⟨_, (jg_name C 12), ?_⟩
        have hrow := row_at' (V := vOf c t found) (total := tn) (k := 0) (s := 0) (p := (c.lg 0).at_) (own := (i : Int)) (by omega) hi
        generalize hst : offOf c t 0 0 + (c.lg 0).at_ = start at hin
        have hvv : vOf c t found 0 0 (c.lg 0).at_ i = suffO i (fAt found start) := by unfold vOf; rw [hst]
        have hfin : ∀ a b : Int, a + b = tn → 0 ≤ a → 0 ≤ b → ((side = 1 ∧ a = i) ∨ (side = 2 ∧ b = i)) → decide (outOf f1 f2 start a b = side) = vOf c t found 0 0 (c.lg 0).at_ i := by
          intro a b hab ha hb hc
          rw [hvv]
          rw [← hab] at h1 h2
          have hex := excl hg h1 h2 ha hb hin.1 hin.2
          unfold outOf
          rcases hfo with ⟨rfl, rfl⟩ | ⟨rfl, rfl⟩
          · have : a = i := by omega
            subst this
            cases h : suffO (i : Int) (fAt found start) with
            | true => simp
            | false =>
              rw [if_neg Bool.false_ne_true, decide_eq_false]
              split <;> omega
          · have : b = i := by omega
            subst this
            cases h : suffO (i : Int) (fAt found start) with
            | true =>
              cases h' : suffO a (fAt f1 start) with
              | true => exact (hex h' h).elim
              | false => simp
            | false =>
              rw [if_neg (show ¬ (false = true) from Bool.false_ne_true), decide_eq_false]
              split <;> omega
        obtain ⟨a, b, hab, ha, hb, hc⟩ : ∃ a b : Int, a + b = tn ∧ 0 ≤ a ∧ 0 ≤ b ∧ ((side = 1 ∧ a = i ∧ b = tn - i) ∨ (side = 2 ∧ b = i ∧ a = tn - i)) := by
          rcases hs with rfl | rfl
          · exact ⟨i, tn - i, by omega, by omega, by omega, .inl ⟨rfl, rfl, rfl⟩⟩
          · exact ⟨tn - i, i, by omega, by omega, by omega, .inr ⟨rfl, rfl, rfl⟩⟩
        have hres := hfin a b hab ha hb (by rcases hc with ⟨x, y, _⟩ | ⟨x, y, _⟩; exact .inl ⟨x, y⟩; exact .inr ⟨x, y⟩)
        refine jb_cons (js_set C 13 (d := .lst [.int a, .int b]) (jp_if (jt_cmp (jp_var C 7 rfl rfl rfl) jp_int jo_eqI) (fun h => JP.is (jp_new (jn_lst (ja_cons (jp_var C 12 rfl rfl rfl) (ja_cons (jp_op (jp_var C 9 rfl rfl rfl) (jp_var C 12 rfl rfl rfl) jo_sub) ja_nil)))) ?_) (fun h => JP.is (jp_new (jn_lst (ja_cons (jp_op (jp_var C 9 rfl rfl rfl) (jp_var C 12 rfl rfl rfl) jo_sub) (ja_cons (jp_var C 12 rfl rfl rfl) ja_nil)))) ?_)) ?_)
        · have h := of_decide_eq_true h
          rcases hc with ⟨_, rfl, rfl⟩ | ⟨x, _, _⟩
          · rfl
          · omega
        · have h := of_decide_eq_false h
          rcases hc with ⟨x, _, _⟩ | ⟨_, rfl, rfl⟩
          · exact absurd x h
          · rfl
        refine jb_cons (js_set C 14 (jp_call C (D_hourglass_outcome T) (hr.mono (by decide)) (ja_cons (jp_var C 8 rfl rfl rfl) (ja_cons (jp_var C 11 rfl rfl rfl) (ja_cons (jp_ix (jp_var C 13 rfl rfl rfl) jp_int (.lst .l rfl)) (ja_cons (jp_ix (jp_var C 13 rfl rfl rfl) jp_int (.lst .l rfl)) ja_nil)))) (⟨mgG c side t, start, a, b, f1, f2, rfl, rfl, hg, hin.1, hin.2, ha, hb, by omega, by rw [hab]; exact h1, by rw [hab]; exact h2⟩) rfl) ?_)
        refine jb_cons (js_if (k := false) (JT.is (jt_w (jw_or (jt_not (jt_val (jp_isi (T := "int") C T.f_isinstance (jp_var C 14 rfl rfl rfl) T.f_int (by decide +kernel) rfl))) (fun hk3 => (jw_or (jt_val (jp_isi (T := "bool") C T.f_isinstance (jp_var C 14 rfl rfl rfl) T.f_bool (by decide +kernel) rfl)) (fun hk2 => (jw_or1 (jt_cmp (jp_cmp (jp_var C 14 rfl rfl rfl) (jp_var C 7 rfl rfl rfl) jo_eqI) (jp_ix (jp_var C 10 rfl rfl rfl) (jp_var C 12 rfl rfl rfl) (.lst .l hrow)) (jo_ne rfl)))))))) ?_) (fun h => nomatch h) (fun _ => jb_nil (jb_nil ⟨_, _, _, rfl, rfl⟩)))
        show (!true || (false || !decide (V.bl (decide (outOf f1 f2 start a b = side)) = V.bl (vOf c t found 0 0 (c.lg 0).at_ i)))) = false
        rw [hres]
        simp
      · rintro δ' os' ⟨_, _, _, rfl, rfl⟩
        exact jb_nil ⟨_, _, _, _, _, _, _, _, rfl, rfl⟩
  · rintro δ' os' ⟨_, _, _, _, _, _, _, _, rfl, rfl⟩
    exact jb_cons (js_ret jp_bl rfl)
end
end K70

set_option maxHeartbeats 0
namespace K70
open PySem PySem.Spec PyProof.Rows L2
def names0 : List PySem.Str := ["_wall", "Fault", "BadAmount", "BadSide", "BadGame", "NoPosition", "TooMany", "BadMatch", "NoLeg", "NoScore", "MOST", "checked_amount", "other_side", "lesser", "suffices", "FIRST", "SECOND", "WON", "LOST", "DRAWN", "MOST_POSITIONS", "MOST_MOVES", "MOST_NEED", "WORD_SIGNS", "TURNED_MARKS", "ENDED_OUTCOMES", "is_word", "moves_fit", "position_fits", "guards"]
def names1 : List PySem.Str := ["Game", "ended_outcome", "MOST_STANDINGS", "check_total", "least_for_one", "least_for_all", "renewed", "hourglass_least", "hourglass_outcome", "LED_ON", "scores_below", "checked_score", "points_by_flag", "leg_position", "leg_game", "match_slots", "match_size", "match_position", "position_after", "check_unadded", "match_moves", "match_game", "MOST_LEGS", "MOST_WIN", "MOST_ADDED", "leg_fits", "turned_leg", "score_rows", "Match", "_law_cell"]
def names2 : List PySem.Str := ["_law_numbers", "_law_is", "_law_made", "_law_turned", "_law_ladder", "_law_worth", "_law_scores", "_law_seen", "_law_flag", "_law_contest", "_law_match", "_law_next", "_law_wins", "_law_search", "_law_asked"]
def names : List PySem.Str := names0 ++ names1 ++ names2
abbrev R : PySem.W.OpenRow := PySem.W.OpenLaw.row PySem.Challenge.rw_matchclocks_k70_hourglasses_over_matches
/-- what the walk reads: the module's names, what these name, the classes' own names, what these name -/
def valsOf (o : Option Obj) : List Addr := match o with
  | some ⟨_, _, .dict es _, _⟩ => es.toList.flatMap fun e => He.refV e.val
  | _ => []
def nexts (g : Addr → Option Obj) (as : List Addr) : List Addr := as.flatMap fun a => match g a with
  | some o => He.refsD o
  | none => []
def asL (g : Addr → Option Obj) : List Addr :=
  let l1 := valsOf (g mainGlobals)
  let l2 := nexts g l1
  let l3 := l2.flatMap fun a => valsOf (g a)
  mainGlobals :: (l1 ++ (l2 ++ (l3 ++ nexts g l3)))
def obL (g : Addr → Option Obj) : He.AlD × Bool := let K := He.frG g (asL g); (He.obsD fa fn K, ex K)
def hk : PySem.W.Hook where
  α := He.AlD × Bool
  obs := fun s => obL s.heap.get?
  val := fun _ => (He.valD fn, true)
  says := fun _ h => ∃ K : PySem.W.Frag, K.In h ∧ He.SaysD fa fn K ∧ ex K = true
  of := fun _ _ e => ⟨_, He.frG_in, congrArg (fun z : He.AlD × Bool => z.1) e, congrArg (fun z : He.AlD × Bool => z.2) e⟩
  keeps := fun _ _ _ ⟨K, hK, c⟩ k => ⟨K, PySem.W.Frag.In.keeps hK k, c⟩
def ob (s : PySem.W.SharedT) : He.AlD × Bool := obL (HandSHeadRun.getT s)
theorem ob_eq (s : PySem.W.SharedT) : ob s = hk.obs s.abs := by
  have e : HandSHeadRun.getT s = s.abs.heap.get? := funext (HandSHeadRun.getT_eq s)
  unfold ob
  rw [e]
  rfl
theorem run (w : World) : HandSHeadRun.RunEq R (PySem.W.view R.prog [82]) hk ob 5600 names w := by
  intro os
  kernel_rfl
end K70

set_option maxHeartbeats 0
namespace K70
open PySem PySem.Spec PyProof.Rows L2 DL
theorem facts {P : Program} {w : World} {K : PySem.W.Frag} {h : Heap} {mg : Str → Option Value} {f : PySem.Addr} (X : K.In h) (G : h.Ns mainGlobals mg) (hfa : mg ("law" : Str) = some (.ref f)) (c : He.SaysD fa fn K) (e : ex K = true) :
    ∃ fd : FuncData, (∀ (s : Shared) (v : Value), BindsTo s fd ⟨[v], []⟩ [("script", v)]) ∧ ∀ base : Heap, K.In base → base.Ns mainGlobals mg → FnOk P w K mg base CX0 10 f fd ["script"] (spD K R_law) := by
  have T : ∀ base : Heap, Txt P w K mg base := fun base => ⟨c, e, h, X, G⟩
  obtain ⟨fd, F⟩ := (T h).d_law
  have e2 := hfa.symm.trans ((T h).g_law)
  cases e2
  have b := FunD.bindsA (ps := ["script"]) F fun _ _ _ _ _ _ us hl => match us, hl with | [_], _ => rfl
  exact ⟨fd, fun s v => b s [v] rfl, fun base _ _ => ok_law (T base) F⟩
theorem sp_law {K : PySem.W.Frag} {H : Hp} {a : PySem.Addr} {ns : List Int} (hS : SqL K H a (ns.map V.int)) : spD K R_law [.ref a] H (fun v _ => v = .bl true) fun _ _ _ => False := by
  refine ⟨H, [.scr (ns.map Dt.int)], .bl true, Evl.Ex.refl _, .cons ?_ .nil, ⟨ns, rfl, rfl⟩, fun v G H' _ s => s⟩
  unfold Sees
  exact ⟨a, _, rfl, hS, seenInts ns⟩
end K70
open PySem PySem.W PySem.Calls PyProof.Rows
theorem PySem.Challenge.cw_matchclocks_k70_hourglasses_over_matches_holds : PySem.Challenge.rw_matchclocks_k70_hourglasses_over_matches.Holds := by
  w_on; o_law
  refine HandSHeadRun.head_any (r := OpenLaw.row PySem.Challenge.rw_matchclocks_k70_hourglasses_over_matches) (q := view (OpenLaw.row PySem.Challenge.rw_matchclocks_k70_hourglasses_over_matches).prog [82]) (H := K70.hk) (ob := K70.ob) (M := 5600) (loose := K70.names) (d := HandSHeadRun.topDef (OpenLaw.row PySem.Challenge.rw_matchclocks_k70_hourglasses_over_matches).prog 82) (kwd := []) K70.ob_eq
    (by kernel_rfl) (fun s => by kernel_rfl) K70.run (by kernel_rfl) (by kernel_rfl) (by kernel_rfl) (by rfl) (by first | assumption | decide +kernel) (by decide +kernel) ⟨rfl, rfl, rfl, rfl, rfl, by decide +kernel⟩ ?hw ?hc
  case hw => w_witness2
  case hc =>
    refine L2.walk_ofE (l := PySem.Challenge.rw_matchclocks_k70_hourglasses_over_matches) (n := 63) (k := 10) (x := "script") (CX := L2.CX0) rfl (by decide) (by kernel_rfl) ⟨rfl, by decide, by decide⟩ ?F (fun _ _ _ _ z => z)
    intro w mg fa h Y G hmg0
    obtain ⟨K, KX, c, e⟩ := Y
    have hmg : mg ("law" : PySem.Str) = some (.ref fa) := by
      have e : (HandSHeadRun.topDef (OpenLaw.row PySem.Challenge.rw_matchclocks_k70_hourglasses_over_matches).prog 82).name = ("law" : PySem.Str) := by kernel_rfl
      rw [← e]
      exact hmg0
    obtain ⟨fd, hb, hF⟩ := K70.facts (P := (PySem.Challenge.rw_matchclocks_k70_hourglasses_over_matches).prog) (w := w) KX G hmg c e
    exact ⟨K, fd, DL.spD K K70.R_law, KX, hb, fun H a ns hl _ hS => K70.sp_law hS, hF⟩
