import PyProof.Rows.All
import Wide.All
import OpenK.AllK
import Wide.FinOn
import HandS.ForMost
import HandS.Walk
import HandS.Wide
import HandS.Flow
import HandS.IsInst
import HandS.TupAny
import HandS.TupMul
import HandS.Zip
import HandS.Deep
import KE.GoesEnum
import KE.KTupSum
import HandS.Codes
import HandS.Style
import PySem.Challenge.RW_lasttext_k05_shapes_of_a_program
set_option Elab.async false
set_option linter.all false
set_option maxRecDepth 100000
set_option maxHeartbeats 4000000
namespace ML
open PySem PySem.Spec PyProof.Rows L2

/-! ## data, the store, what stands for what -/
inductive D where
  | non | bl (b : Bool) | int (i : Int) | str (s : PySem.Str) | tup (ds : List D) | lst (ds : List D) | sq (ds : List D) | ref (n : Nat) | adr (a : Addr) | ty (n : String)
inductive O where
  | lst (ds : List D)
abbrev Env := List (Option D)
abbrev Sto := List O
abbrev Frag := PySem.W.Frag
mutual
inductive Rep (K : Frag) (θ : List Addr) (G : Hp) : V → D → Prop
  | non : Rep K θ G .non .non
  | bl (b : Bool) : Rep K θ G (.bl b) (.bl b)
  | int (i : Int) : Rep K θ G (.int i) (.int i)
  | str (x : PySem.Str) : Rep K θ G (.str x) (.str x)
  | tup {a : Addr} {vs : List V} {ds : List D} : SqT K G a vs → Reps K θ G vs ds → Rep K θ G (.ref a) (.tup ds)
  | lst {a : Addr} {vs : List V} {ds : List D} : G a = some (.lst vs) → Reps K θ G vs ds → Rep K θ G (.ref a) (.lst ds)
  | sq {a : Addr} {vs : List V} {ds : List D} : SqL K G a vs → Reps K θ G vs ds → Rep K θ G (.ref a) (.sq ds)
  | ref {n : Nat} {a : Addr} : θ[n]? = some a → Rep K θ G (.ref a) (.ref n)
  | adr (a : Addr) : Rep K θ G (.ref a) (.adr a)
  | ty (n : String) : Rep K θ G (.ty n) (.ty n)
inductive Reps (K : Frag) (θ : List Addr) (G : Hp) : List V → List D → Prop
  | nil : Reps K θ G [] []
  | cons {v : V} {vs : List V} {d : D} {ds : List D} : Rep K θ G v d → Reps K θ G vs ds → Reps K θ G (v :: vs) (d :: ds)
end
def Gle (G G' : Hp) : Prop := ∀ a o, G a = some o → G' a = some o
theorem Gle.rd {G G' : Hp} (g : Gle G G') {a : Addr} {u : HO} (h : Rd G a u) : Rd G' a u := by
  rcases h with h | ⟨o, h⟩
  · exact .inl (g _ _ h)
  · exact .inr ⟨o, g _ _ h⟩
theorem Gle.t {K : Frag} {G G' : Hp} (g : Gle G G') {a : Addr} {vs : List V} (h : SqT K G a vs) : SqT K G' a vs := by
  rcases h with h | h
  · exact .inl (g.rd h)
  · exact .inr h
theorem Gle.l {K : Frag} {G G' : Hp} (g : Gle G G') {a : Addr} {vs : List V} (h : SqL K G a vs) : SqL K G' a vs := by
  rcases h with h | h
  · exact .inl (g.rd h)
  · exact .inr h
theorem pre_at {θ θ' : List Addr} (p : ∃ l, θ' = θ ++ l) {n : Nat} {a : Addr} (h : θ[n]? = some a) : θ'[n]? = some a := by
  obtain ⟨l, rfl⟩ := p
  obtain ⟨hn, _⟩ := List.getElem?_eq_some_iff.mp h
  rw [List.getElem?_append_left hn]
  exact h
section
variable {K : Frag} {θ θ' : List Addr} {G G' : Hp}
mutual
theorem Rep.mono (p : ∃ l, θ' = θ ++ l) (g : Gle G G') : ∀ (d : D) (v : V), Rep K θ G v d → Rep K θ' G' v d
  | .non, _, h => by cases h; exact .non
  | .bl b, _, h => by cases h; exact .bl b
  | .int i, _, h => by cases h; exact .int i
  | .str x, _, h => by cases h; exact .str x
  | .tup ds, _, h => by
    cases h with
    | tup h1 h2 => exact .tup (g.t h1) (Reps.mono p g ds _ h2)
  | .lst ds, _, h => by
    cases h with
    | lst h1 h2 => exact .lst (g _ _ h1) (Reps.mono p g ds _ h2)
  | .sq ds, _, h => by
    cases h with
    | sq h1 h2 => exact .sq (g.l h1) (Reps.mono p g ds _ h2)
  | .ref n, _, h => by
    cases h with
    | ref h1 => exact .ref (pre_at p h1)
  | .adr a, _, h => by cases h; exact .adr a
  | .ty n, _, h => by cases h; exact .ty n
theorem Reps.mono (p : ∃ l, θ' = θ ++ l) (g : Gle G G') : ∀ (ds : List D) (vs : List V), Reps K θ G vs ds → Reps K θ' G' vs ds
  | [], _, h => by cases h; exact .nil
  | d :: ds, _, h => by
    cases h with
    | cons h1 h2 => exact .cons (Rep.mono p g d _ h1) (Reps.mono p g ds _ h2)
end
theorem Reps.len {vs : List V} {ds : List D} (h : Reps K θ G vs ds) : vs.length = ds.length := by
  induction ds generalizing vs with
  | nil => cases h; rfl
  | cons d ds ih =>
    cases h with
    | cons h1 h2 => simp [ih h2]
theorem Reps.at {vs : List V} {ds : List D} (h : Reps K θ G vs ds) {i : Nat} {d : D} (e : ds[i]? = some d) : ∃ v, vs[i]? = some v ∧ Rep K θ G v d := by
  induction ds generalizing vs i with
  | nil => simp at e
  | cons x ds ih =>
    cases h with
    | cons h1 h2 =>
      cases i with
      | zero =>
        simp at e
        subst e
        exact ⟨_, rfl, h1⟩
      | succ i => simpa using ih h2 (i := i) (by simpa using e)
theorem Reps.at' {vs : List V} {ds : List D} (h : Reps K θ G vs ds) {i : Nat} {v : V} (e : vs[i]? = some v) : ∃ d, ds[i]? = some d ∧ Rep K θ G v d := by
  induction ds generalizing vs i with
  | nil => cases h; simp at e
  | cons x ds ih =>
    cases h with
    | cons h1 h2 =>
      cases i with
      | zero =>
        simp at e
        subst e
        exact ⟨_, rfl, h1⟩
      | succ i => simpa using ih h2 (i := i) (by simpa using e)
theorem Reps.append {vs ws : List V} {ds es : List D} (h : Reps K θ G vs ds) (h' : Reps K θ G ws es) : Reps K θ G (vs ++ ws) (ds ++ es) := by
  induction ds generalizing vs with
  | nil => cases h; exact h'
  | cons x ds ih =>
    cases h with
    | cons h1 h2 => exact .cons h1 (ih h2)
theorem Reps.set {vs : List V} {ds : List D} (h : Reps K θ G vs ds) {v : V} {d : D} (r : Rep K θ G v d) (i : Nat) : Reps K θ G (vs.set i v) (ds.set i d) := by
  induction ds generalizing vs i with
  | nil => cases h; exact .nil
  | cons x ds ih =>
    cases h with
    | cons h1 h2 =>
      cases i with
      | zero => exact .cons r h2
      | succ i => exact .cons h1 (ih h2 i)
theorem Reps.take {vs : List V} {ds : List D} (h : Reps K θ G vs ds) (i : Nat) : Reps K θ G (vs.take i) (ds.take i) := by
  induction ds generalizing vs i with
  | nil => cases h; simp; exact .nil
  | cons x ds ih =>
    cases h with
    | cons h1 h2 =>
      cases i with
      | zero => exact .nil
      | succ i => exact .cons h1 (ih h2 i)
theorem Reps.drop {vs : List V} {ds : List D} (h : Reps K θ G vs ds) (i : Nat) : Reps K θ G (vs.drop i) (ds.drop i) := by
  induction ds generalizing vs i with
  | nil => cases h; simp; exact .nil
  | cons x ds ih =>
    cases h with
    | cons h1 h2 =>
      cases i with
      | zero => exact .cons h1 h2
      | succ i => exact ih h2 i
theorem Reps.ints {vs : List V} {ns : List Int} (h : Reps K θ G vs (ns.map D.int)) : vs = ns.map V.int := by
  induction ns generalizing vs with
  | nil => cases h; rfl
  | cons n ns ih =>
    cases h with
    | cons h1 h2 =>
      cases h1
      rw [ih h2]
      rfl
theorem Reps.of_ints (ns : List Int) : Reps K θ G (ns.map V.int) (ns.map D.int) := by
  induction ns with
  | nil => exact .nil
  | cons n ns ih => exact .cons (.int n) ih
end
/-- an object of the store stands at a -/
def OR (K : Frag) (θ : List Addr) (G H : Hp) (a : Addr) : O → Prop
  | .lst ds => ∃ vs, H a = some (.lst vs) ∧ Reps K θ G vs ds
structure Sim (K : Frag) (θ : List Addr) (G H : Hp) (st : Sto) : Prop where
  sub : Gle G H
  len : θ.length = st.length
  nd : θ.Nodup
  off : ∀ a, a ∈ θ → G a = none
  obj : ∀ (i : Nat) a o, θ[i]? = some a → st[i]? = some o → OR K θ G H a o
structure Ext (θ θ' : List Addr) (G G' H H' : Hp) : Prop where
  pre : ∃ l, θ' = θ ++ l
  im : Gle G G'
  fr : ∀ a o, H a = some o → a ∉ θ → H' a = some o
  nθ : ∀ a, a ∈ θ' → a ∉ θ → H a = none
  nG : ∀ a o, G' a = some o → G a = none → H a = none
def EnvR (K : Frag) (θ : List Addr) (G : Hp) (σ : L2.St) (env : Env) : Prop :=
  σ.length = env.length ∧ ∀ (i : Nat) d, env[i]? = some (some d) → ∃ v, σ[i]? = some (some v) ∧ Rep K θ G v d
section
variable {K : Frag} {θ θ' θ1 θ2 : List Addr} {G G' G1 G2 H H' H1 H2 : Hp} {st st1 st2 : Sto} {σ : L2.St} {env : Env} {v w : V} {d e : D} {a p : Addr}
theorem Ext.refl : Ext θ θ G G H H := ⟨⟨[], by simp⟩, fun _ _ h => h, fun _ _ h _ => h, fun _ h n => absurd h n, fun _ _ h n => by rw [h] at n; cases n⟩
theorem OR.there {o : O} (h : OR K θ G H a o) : ∃ u, H a = some u := by
  cases o with
  | lst ds => obtain ⟨vs, h, _⟩ := h; exact ⟨_, h⟩
theorem Sim.at (S : Sim K θ G H st) {i : Nat} (h : θ[i]? = some a) : ∃ o, st[i]? = some o ∧ OR K θ G H a o := by
  obtain ⟨hi, _⟩ := List.getElem?_eq_some_iff.mp h
  have hi' : i < st.length := by rw [← S.len]; exact hi
  exact ⟨st[i], List.getElem?_eq_getElem hi', S.obj i a _ h (List.getElem?_eq_getElem hi')⟩
theorem Sim.there (S : Sim K θ G H st) (h : a ∈ θ) : ∃ u, H a = some u := by
  obtain ⟨i, hi⟩ := List.mem_iff_getElem?.mp h
  obtain ⟨o, _, r⟩ := S.at hi
  exact r.there
theorem Ext.trans (e1 : Ext θ θ1 G G1 H H1) (S : Sim K θ1 G1 H1 st1) (e2 : Ext θ1 θ2 G1 G2 H1 H2) : Ext θ θ2 G G2 H H2 := by
  obtain ⟨l1, p1⟩ := e1.pre
  obtain ⟨l2, p2⟩ := e2.pre
  have back : ∀ a, H1 a = none → H a = none := fun a h => by
    cases q : H a with
    | none => rfl
    | some o =>
      by_cases m : a ∈ θ
      · obtain ⟨u, hu⟩ := S.there (a := a) (by rw [p1]; exact List.mem_append_left _ m)
        rw [hu] at h
        cases h
      · rw [e1.fr a o q m] at h
        cases h
  refine ⟨⟨l1 ++ l2, by rw [p2, p1, List.append_assoc]⟩, fun a o h => e2.im a o (e1.im a o h), fun a o h n => ?_, fun a h n => ?_, fun a o h n => ?_⟩
  · refine e2.fr a o (e1.fr a o h n) fun m => ?_
    have := e1.nθ a m n
    rw [h] at this
    cases this
  · by_cases m : a ∈ θ1
    · exact e1.nθ a m n
    · exact back a (e2.nθ a h m)
  · cases q : G1 a with
    | some u => exact e1.nG a u q n
    | none => exact back a (e2.nG a o h q)
theorem Rep.ext (r : Rep K θ G v d) (x : Ext θ θ' G G' H H') : Rep K θ' G' v d := r.mono x.pre x.im _ _
theorem Reps.ext {vs : List V} {ds : List D} (r : Reps K θ G vs ds) (x : Ext θ θ' G G' H H') : Reps K θ' G' vs ds := r.mono x.pre x.im _ _
theorem EnvR.ext (r : EnvR K θ G σ env) (x : Ext θ θ' G G' H H') : EnvR K θ' G' σ env := ⟨r.1, fun i d h => by
  obtain ⟨v, h1, h2⟩ := r.2 i d h
  exact ⟨v, h1, h2.ext x⟩⟩
theorem EnvR.set (r : EnvR K θ G σ env) (h : Rep K θ G v d) (i : Nat) : EnvR K θ G (σ.set i (some v)) (env.set i (some d)) := by
  refine ⟨by simp [r.1], fun j e he => ?_⟩
  by_cases hj : i = j
  · subst hj
    obtain ⟨hl, _⟩ := List.getElem?_eq_some_iff.mp he
    rw [List.length_set] at hl
    rw [List.getElem?_set_self hl] at he
    cases he
    exact ⟨v, List.getElem?_set_self (by rw [r.1]; exact hl), h⟩
  · rw [List.getElem?_set_ne hj] at he
    obtain ⟨w, h1, h2⟩ := r.2 j e he
    exact ⟨w, by rw [List.getElem?_set_ne hj]; exact h1, h2⟩
theorem OR.mono {o : O} (h : OR K θ G H a o) (p : ∃ l, θ' = θ ++ l) (g : Gle G G') (e : H' a = H a) : OR K θ' G' H' a o := by
  cases o with
  | lst ds => obtain ⟨vs, h, r⟩ := h; exact ⟨vs, by rw [e]; exact h, r.mono p g _ _⟩
theorem Sim.ne (S : Sim K θ G H st) (h : H p = none) (m : a ∈ θ) : a ≠ p := fun z => by
  obtain ⟨u, hu⟩ := S.there m
  rw [z, h] at hu
  cases hu
theorem Sim.gnone (S : Sim K θ G H st) (h : H p = none) : G p = none := by
  cases q : G p with
  | none => rfl
  | some o => rw [S.sub p o q] at h; cases h
/-- a new object that never changes -/
theorem Sim.newG (S : Sim K θ G H st) (h : H p = none) (o : HO) : Sim K θ (upd G p o) (upd H p o) st where
  sub := fun a u e => by
    by_cases z : a = p
    · subst z; rw [upd_same] at e ⊢; exact e
    · rw [upd_ne z] at e ⊢; exact S.sub a u e
  len := S.len
  nd := S.nd
  off := fun a m => by rw [upd_ne (S.ne h m)]; exact S.off a m
  obj := fun i a u e1 e2 => (S.obj i a u e1 e2).mono ⟨[], by simp⟩ (fun b x e => by
    have z : b ≠ p := fun z => by rw [z, S.gnone h] at e; cases e
    rw [upd_ne z]; exact e) (upd_ne (S.ne h (List.mem_of_getElem? e1)))
theorem Ext.newG (S : Sim K θ G H st) (h : H p = none) (o : HO) : Ext θ θ G (upd G p o) H (upd H p o) where
  pre := ⟨[], by simp⟩
  im := fun b x e => by
    have z : b ≠ p := fun z => by rw [z, S.gnone h] at e; cases e
    rw [upd_ne z]; exact e
  fr := fun a u e _ => by
    have z : a ≠ p := fun z => by rw [z, h] at e; cases e
    rw [upd_ne z]; exact e
  nθ := fun a m n => absurd m n
  nG := fun a u e n => by
    by_cases z : a = p
    · rw [z]; exact h
    · rw [upd_ne z, n] at e; cases e
/-- a new list that may change -/
theorem Sim.newM (S : Sim K θ G H st) (h : H p = none) {vs : List V} {ds : List D} (r : Reps K θ G vs ds) : Sim K (θ ++ [p]) G (upd H p (.lst vs)) (st ++ [.lst ds]) where
  sub := fun a u e => by
    have z : a ≠ p := fun z => by rw [z, S.gnone h] at e; cases e
    rw [upd_ne z]; exact S.sub a u e
  len := by simp [S.len]
  nd := by
    rw [List.nodup_append]
    refine ⟨S.nd, by simp, fun a ha b hb => ?_⟩
    rw [List.mem_singleton] at hb
    subst hb
    exact S.ne h ha
  off := fun a m => by
    rcases List.mem_append.mp m with m | m
    · exact S.off a m
    · rw [List.mem_singleton] at m
      subst m
      exact S.gnone h
  obj := fun i a o e1 e2 => by
    by_cases hi : i < θ.length
    · rw [List.getElem?_append_left hi] at e1
      rw [List.getElem?_append_left (by rw [← S.len]; exact hi)] at e2
      exact (S.obj i a o e1 e2).mono ⟨_, rfl⟩ (fun _ _ e => e) (upd_ne (S.ne h (List.mem_of_getElem? e1)))
    · have hi2 : i = θ.length := by
        obtain ⟨hl, _⟩ := List.getElem?_eq_some_iff.mp e1
        simp at hl
        omega
      subst hi2
      rw [List.getElem?_append_right (Nat.le_refl _)] at e1
      rw [List.getElem?_append_right (by rw [S.len]; exact Nat.le_refl _), S.len] at e2
      simp at e1 e2
      subst e1
      subst e2
      exact ⟨vs, upd_same, r.mono ⟨_, rfl⟩ (fun _ _ e => e) _ _⟩
theorem Ext.newM (S : Sim K θ G H st) (h : H p = none) (o : HO) : Ext θ (θ ++ [p]) G G H (upd H p o) where
  pre := ⟨[p], rfl⟩
  im := fun _ _ e => e
  fr := fun a u e _ => by
    have z : a ≠ p := fun z => by rw [z, h] at e; cases e
    rw [upd_ne z]; exact e
  nθ := fun a m n => by
    rcases List.mem_append.mp m with m | m
    · exact absurd m n
    · rw [List.mem_singleton] at m
      rw [m]
      exact h
  nG := fun a u e n => by rw [n] at e; cases e
/-- a list of the store changes -/
theorem Sim.set (S : Sim K θ G H st) {n : Nat} (ha : θ[n]? = some a) {vs : List V} {ds : List D} (r : Reps K θ G vs ds) : Sim K θ G (upd H a (.lst vs)) (st.set n (.lst ds)) where
  sub := fun b u e => by
    have z : b ≠ a := fun z => by
      have := S.off a (List.mem_of_getElem? ha)
      rw [z, this] at e
      cases e
    rw [upd_ne z]; exact S.sub b u e
  len := by simp [S.len]
  nd := S.nd
  off := S.off
  obj := fun i b o e1 e2 => by
    by_cases hi : n = i
    · subst hi
      rw [ha] at e1
      cases e1
      obtain ⟨hl, _⟩ := List.getElem?_eq_some_iff.mp e2
      rw [List.length_set] at hl
      rw [List.getElem?_set_self hl] at e2
      cases e2
      exact ⟨vs, upd_same, r⟩
    · rw [List.getElem?_set_ne hi] at e2
      have z : b ≠ a := fun z => by
        subst z
        obtain ⟨l1, q1⟩ := List.getElem?_eq_some_iff.mp ha
        obtain ⟨l2, q2⟩ := List.getElem?_eq_some_iff.mp e1
        exact hi ((List.getElem_inj S.nd).mp (q1.trans q2.symm))
      exact (S.obj i b o e1 e2).mono ⟨[], by simp⟩ (fun _ _ e => e) (upd_ne z)
theorem Ext.set (S : Sim K θ G H st) {n : Nat} (ha : θ[n]? = some a) (o : HO) : Ext θ θ G G H (upd H a o) where
  pre := ⟨[], by simp⟩
  im := fun _ _ e => e
  fr := fun b u e m => by
    have z : b ≠ a := fun z => m (by rw [z]; exact List.mem_of_getElem? ha)
    rw [upd_ne z]; exact e
  nθ := fun a m n => absurd m n
  nG := fun a u e n => by rw [n] at e; cases e
end

/-! ## readings by functions -/
def PostE (K : Frag) (θ : List Addr) (G H : Hp) (st' : Sto) (d : D) (Q : VK) : Prop :=
  ∀ θ' G' H' v, Ext θ θ' G G' H H' → Sim K θ' G' H' st' → Rep K θ' G' v d → Q v H'
abbrev FE := Env → Sto → Option (D × Sto)
abbrev FA := Env → Sto → Option (List D × Sto)
abbrev FT := Env → Sto → Option (Bool × Sto)
def tE (K : Frag) (f : FE) : TE := fun σ H Q => ∃ θ G env st d st', Sim K θ G H st ∧ EnvR K θ G σ env ∧ f env st = some (d, st') ∧ PostE K θ G H st' d Q
def tA (K : Frag) (f : FA) : TA := fun σ H Q => ∃ θ G env st ds st', Sim K θ G H st ∧ EnvR K θ G σ env ∧ f env st = some (ds, st') ∧
  ∀ θ' G' H' vs, Ext θ θ' G G' H H' → Sim K θ' G' H' st' → Reps K θ' G' vs ds → Q vs H'
def tT (K : Frag) (f : FT) : TT := fun σ H Q => ∃ θ G env st b st', Sim K θ G H st ∧ EnvR K θ G σ env ∧ f env st = some (b, st') ∧
  ∀ θ' G' H', Ext θ θ' G G' H H' → Sim K θ' G' H' st' → Q b H'
section
variable {X : Cx}
theorem peImp {e : Expr} {t t' : TE} (h : PE X e t) (i : ∀ σ H Q, t' σ H Q → t σ H Q) : PE X e t' := ⟨fun pins s σ H Q I q => h.run pins s σ H Q I (i _ _ _ q)⟩
theorem ptImp {e : Expr} {t t' : TT} (h : PT X e t) (i : ∀ σ H Q, t' σ H Q → t σ H Q) : PT X e t' := ⟨fun pins s σ H Q I q => h.run pins s σ H Q I (i _ _ _ q)⟩
theorem pwImp {e : Expr} {t t' : TT} (h : PW X e t) (i : ∀ σ H Q, t' σ H Q → t σ H Q) : PW X e t' := ⟨fun wh pins s σ H Q I q => h.run wh pins s σ H Q I (i _ _ _ q)⟩
theorem paImp {e : List Expr} {t t' : TA} (h : PA X e t) (i : ∀ σ H Q, t' σ H Q → t σ H Q) : PA X e t' := ⟨fun pos pins s σ H Q I q => h.run pos pins s σ H Q I (i _ _ _ q)⟩
theorem psImp {e : Stmt} {t t' : TS} (h : PS X e t) (i : ∀ D σ H, t' D σ H → t D σ H) : PS X e t' := ⟨fun pins s σ H D I q => h.run pins s σ H D I (i _ _ _ q)⟩
theorem pssImp {e : List Stmt} {t t' : TS} (h : PSs X e t) (i : ∀ D σ H, t' D σ H → t D σ H) : PSs X e t' := ⟨fun pins s σ H D I q => h.run pins s σ H D I (i _ _ _ q)⟩
end
section
variable {K : Frag} {θ : List Addr} {G H : Hp} {st st1 : Sto} {σ : L2.St} {env : Env} {x : D} {f : FE} {Q : VK}
theorem tE.go (S : Sim K θ G H st) (EN : EnvR K θ G σ env) (hf : f env st = some (x, st1))
    (k : ∀ θ1 G1 H1 v1, Ext θ θ1 G G1 H H1 → Sim K θ1 G1 H1 st1 → EnvR K θ1 G1 σ env → Rep K θ1 G1 v1 x → Q v1 H1) : tE K f σ H Q :=
  ⟨θ, G, env, st, x, st1, S, EN, hf, fun θ' G' H' v e s r => k θ' G' H' v e s (EN.ext e) r⟩
theorem tA.go {xs : List D} {f : FA} {Q : List V → Hp → Prop} (S : Sim K θ G H st) (EN : EnvR K θ G σ env) (hf : f env st = some (xs, st1))
    (k : ∀ θ1 G1 H1 v1, Ext θ θ1 G G1 H H1 → Sim K θ1 G1 H1 st1 → EnvR K θ1 G1 σ env → Reps K θ1 G1 v1 xs → Q v1 H1) : tA K f σ H Q :=
  ⟨θ, G, env, st, xs, st1, S, EN, hf, fun θ' G' H' v e s r => k θ' G' H' v e s (EN.ext e) r⟩
theorem tT.go {b : Bool} {f : FT} {Q : Bool → Hp → Prop} (S : Sim K θ G H st) (EN : EnvR K θ G σ env) (hf : f env st = some (b, st1))
    (k : ∀ θ1 G1 H1, Ext θ θ1 G G1 H H1 → Sim K θ1 G1 H1 st1 → EnvR K θ1 G1 σ env → Q b H1) : tT K f σ H Q :=
  ⟨θ, G, env, st, b, st1, S, EN, hf, fun θ' G' H' e s => k θ' G' H' e s (EN.ext e)⟩
end

/-! ### names, constants -/
def Ev (i : Nat) : FE := fun env st => match env[i]? with | some (some d) => some (d, st) | _ => none
def Ec (d : D) : FE := fun _ st => some (d, st)
section
variable {X : Cx} {pos : Pos}
theorem c_v (i : Nat) {x : PySem.Str} {pos : Pos} (hN : X.N[i]? = some x := by rfl) (hv : Vis X.env.scope x := by first | exact Or.inl rfl | exact Or.inr (Or.inl rfl) | exact Or.inr (Or.inr rfl)) (hd : (x == ("__debug__" : PySem.Str)) = false := by decide)
    (hcd : (x == ("__classdict__" : PySem.Str)) = false := by decide) : PE X (.Name x pos) (tE X.K (Ev i)) := by
  refine peImp (pe_var hN hv hd hcd) fun σ H Q ⟨θ, G, env, st, d, st', S, EN, hf, post⟩ => ?_
  unfold Ev at hf
  split at hf
  · rename_i d' he
    cases hf
    obtain ⟨v, h1, h2⟩ := EN.2 i _ he
    exact ⟨v, h1, post θ G H v .refl S h2⟩
  · cases hf
theorem c_const {e : Expr} {v : V} {d : D} (h : PE X e (tC v)) (r : ∀ θ G, Rep X.K θ G v d) : PE X e (tE X.K (Ec d)) := by
  refine peImp h fun σ H Q ⟨θ, G, env, st, d, st', S, EN, hf, post⟩ => ?_
  cases hf
  exact post θ G H v .refl S (r θ G)
theorem c_int {i j pos} : PE X (.Constant (.int i) j pos) (tE X.K (Ec (.int i))) := c_const pe_int fun _ _ => .int i
theorem c_bl {b j pos} : PE X (.Constant (.bool b) j pos) (tE X.K (Ec (.bl b))) := c_const pe_bl fun _ _ => .bl b
theorem c_non {j pos} : PE X (.Constant .none j pos) (tE X.K (Ec .non)) := c_const pe_non fun _ _ => .non
theorem c_str {x j pos} : PE X (.Constant (.str x) j pos) (tE X.K (Ec (.str x))) := c_const pe_str fun _ _ => .str x
theorem c_gint {x : PySem.Str} {i : Int} {t : Tok} (hg : Gl X x) (hm : X.mg x = some (.int i t)) (hd : (x == ("__debug__" : PySem.Str)) = false := by decide) : PE X (.Name x pos) (tE X.K (Ec (.int i))) :=
  c_const (pe_glob hg hm (v := .int i) ⟨t, rfl⟩ hd) fun _ _ => .int i
theorem c_gstr {x : PySem.Str} {i : PySem.Str} {t : Tok} (hg : Gl X x) (hm : X.mg x = some (.str i t)) (hd : (x == ("__debug__" : PySem.Str)) = false := by decide) : PE X (.Name x pos) (tE X.K (Ec (.str i))) :=
  c_const (pe_glob hg hm (v := .str i) ⟨t, rfl⟩ hd) fun _ _ => .str i
end

/-! ### operators by values -/
abbrev F2 := D → D → Sto → Option (D × Sto)
def E2 (f : F2) (fa fb : FE) : FE := fun env st => (fa env st).bind fun p => (fb env p.2).bind fun q => f p.1 q.1 q.2
def Op2 (K : Frag) (r : R2) (f : F2) : Prop := ∀ θ G H st x y d e z st' Q, Sim K θ G H st → Rep K θ G x d → Rep K θ G y e → f d e st = some (z, st') → PostE K θ G H st' z Q → r x y H Q
theorem bind2 {α β γ : Type} {o : Option α} {f : α → Option β} {z : β} (h : o.bind f = some z) : ∃ a, o = some a ∧ f a = some z := by
  cases o with
  | none => cases h
  | some a => exact ⟨a, rfl, h⟩
section
variable {X : Cx} {a b : Expr} {fa fb : FE} {pos : Pos} {f : F2} {r : R2}
theorem go2 (hf : Op2 X.K r f) {σ : L2.St} {H : Hp} {Q : VK} (h : tE X.K (E2 f fa fb) σ H Q) : tOp r (tE X.K fa) (tE X.K fb) σ H Q := by
  obtain ⟨θ, G, env, st, d, st', S, EN, he, post⟩ := h
  obtain ⟨⟨x, st1⟩, h1, he⟩ := Option.bind_eq_some_iff.mp he
  obtain ⟨⟨y, st2⟩, h2, he⟩ := Option.bind_eq_some_iff.mp he
  refine tE.go S EN h1 fun θ1 G1 H1 v1 e1 S1 EN1 r1 => tE.go S1 EN1 h2 fun θ2 G2 H2 v2 e2 S2 EN2 r2 => ?_
  exact hf _ _ _ _ _ _ _ _ _ _ _ S2 (r1.ext e2) r2 he fun θ3 G3 H3 v e3 S3 r3 => post _ _ _ _ ((e1.trans S1 e2).trans S2 e3) S3 r3
theorem c_op {op : Operator} (ho : OpR X (binaryOp op) r) (hf : Op2 X.K r f) (ha : PE X a (tE X.K fa)) (hb : PE X b (tE X.K fb)) : PE X (.BinOp a op b pos) (tE X.K (E2 f fa fb)) :=
  peImp (pe_op ho ha hb) fun _ _ _ h => go2 hf h
theorem c_cmp {op : CmpOp} (ho : OpR X (compareOp op) r) (hf : Op2 X.K r f) (ha : PE X a (tE X.K fa)) (hb : PE X b (tE X.K fb)) (hm : behindInMarks op b = false) : PE X (.Compare a [op] [b] pos) (tE X.K (E2 f fa fb)) :=
  peImp (pe_cmpR ho ha hb hm) fun _ _ _ h => go2 hf h
/-- a test of a bool -/
def Tb (f : FE) : FT := fun env st => match f env st with | some (.bl b, st') => some (b, st') | _ => none
theorem goT {t : TE} (h : ∀ σ H Q, tE X.K (E2 f fa fb) σ H Q → t σ H Q) {σ : L2.St} {H : Hp} {Q : Bool → Hp → Prop} (q : tT X.K (Tb (E2 f fa fb)) σ H Q) : tTest t σ H Q := by
  obtain ⟨θ, G, env, st, d, st', S, EN, he, post⟩ := q
  unfold Tb at he
  split at he
  · rename_i b st2 he2
    cases he
    refine h _ _ _ (tE.go S EN he2 fun θ1 G1 H1 v1 e1 S1 EN1 r1 => ?_)
    cases r1
    exact ⟨_, rfl, post _ _ _ e1 S1⟩
  · cases he
theorem t_cmp {op : CmpOp} (ho : OpR X (compareOp op) r) (hf : Op2 X.K r f) (ha : PE X a (tE X.K fa)) (hb : PE X b (tE X.K fb)) (hm : behindInMarks op b = false) : PT X (.Compare a [op] [b] pos) (tT X.K (Tb (E2 f fa fb))) :=
  ptImp (pt_cmpR ho ha hb hm) fun _ _ _ h => goT (fun _ _ _ h => go2 hf h) h
end

section
variable {K : Frag} {θ : List Addr} {G H : Hp} {st : Sto} {v : V} {d : D} {Q : VK} {vs : List V} {ds : List D} {q : Addr}
theorem PostE.same (p : PostE K θ G H st d Q) (S : Sim K θ G H st) (r : Rep K θ G v d) : Q v H := p θ G H v .refl S r
theorem PostE.newT (p : PostE K θ G H st (.tup ds) Q) (S : Sim K θ G H st) (h : H q = none) (r : Reps K θ G vs ds) : Q (.ref q) (upd H q (.tup vs)) :=
  p _ _ _ _ (Ext.newG S h _) (S.newG h _) (.tup (.inl (.inl upd_same)) (r.ext (Ext.newG S h _)))
theorem PostE.newL (p : PostE K θ G H st (.lst ds) Q) (S : Sim K θ G H st) (h : H q = none) (r : Reps K θ G vs ds) : Q (.ref q) (upd H q (.lst vs)) :=
  p _ _ _ _ (Ext.newG S h _) (S.newG h _) (.lst upd_same (r.ext (Ext.newG S h _)))
theorem PostE.newM (p : PostE K θ G H (st ++ [.lst ds]) (.ref st.length) Q) (S : Sim K θ G H st) (h : H q = none) (r : Reps K θ G vs ds) : Q (.ref q) (upd H q (.lst vs)) :=
  p _ _ _ _ (Ext.newM S h _) (S.newM h r) (.ref (by rw [← S.len, List.getElem?_append_right (Nat.le_refl _), Nat.sub_self]; rfl))
theorem Sim.t (S : Sim K θ G H st) {a : Addr} (h : SqT K G a vs) : SqT K H a vs := S.sub.t h
theorem Sim.l (S : Sim K θ G H st) {a : Addr} (h : SqL K G a vs) : SqL K H a vs := S.sub.l h
end
/-- the items of a list: frozen, or of the store -/
def lsD (st : Sto) : D → Option (List D)
  | .lst ds => some ds
  | .ref n => match st[n]? with | some (.lst ds) => some ds | none => none
  | _ => none
/-- .. or one that is read only -/
def sqD (st : Sto) : D → Option (List D)
  | .sq ds => some ds
  | .lst ds => some ds
  | .ref n => match st[n]? with | some (.lst ds) => some ds | none => none
  | _ => none
section
variable {K : Frag} {θ : List Addr} {G H : Hp} {st : Sto} {v : V} {d : D} {ds : List D}
theorem lsD.ok (S : Sim K θ G H st) (r : Rep K θ G v d) (h : lsD st d = some ds) : ∃ a vs, v = .ref a ∧ H a = some (.lst vs) ∧ Reps K θ G vs ds := by
  cases d with
  | lst es =>
    cases h
    cases r with
    | lst h1 h2 => exact ⟨_, _, rfl, S.sub _ _ h1, h2⟩
  | ref n =>
    cases r with
    | ref h1 =>
      obtain ⟨o, h2, h3⟩ := S.at h1
      simp only [lsD, h2] at h
      cases o with
      | lst es =>
        cases h
        obtain ⟨vs, h4, h5⟩ := h3
        exact ⟨_, vs, rfl, h4, h5⟩
  | _ => cases h
theorem sqD.ok (S : Sim K θ G H st) (r : Rep K θ G v d) (h : sqD st d = some ds) : ∃ a vs, v = .ref a ∧ SqL K H a vs ∧ Reps K θ G vs ds := by
  cases d with
  | sq es =>
    cases h
    cases r with
    | sq h1 h2 => exact ⟨_, _, rfl, S.l h1, h2⟩
  | lst es =>
    obtain ⟨a, vs, h1, h2, h3⟩ := lsD.ok S r (show lsD st (.lst es) = some ds from h)
    exact ⟨a, vs, h1, SqL.of h2, h3⟩
  | ref n =>
    obtain ⟨a, vs, h1, h2, h3⟩ := lsD.ok S r (show lsD st (.ref n) = some ds from h)
    exact ⟨a, vs, h1, SqL.of h2, h3⟩
  | _ => cases h
end

/-! ### the operators -/
theorem szl {n : Nat} (h : n ≤ 16777216) : n ≤ sizeLine := by rw [sizeLine_eq]; exact h
theorem szlt {n : Nat} (h : n < 16777216) : n < sizeLine := by rw [sizeLine_eq]; exact h
def addD : F2 := fun x y st => match x, y with
  | .int i, .int j => some (.int (i + j), st)
  | .str s, .str t => if s.length + t.length ≤ 16777216 then some (.str (s ++ t), st) else none
  | .tup a, .tup b => if a.length + b.length ≤ 16777216 then some (.tup (a ++ b), st) else none
  | x, y => match lsD st x, lsD st y with
    | some a, some b => if a.length + b.length ≤ 16777216 then some (.lst (a ++ b), st) else none
    | _, _ => none
def rAddA (K : Frag) : R2 := fun x y H Q => (∃ i j, x = .int i ∧ y = .int j ∧ Q (.int (i + j)) H) ∨ (∃ i j, x = .str i ∧ y = .str j ∧ i.length + j.length ≤ sizeLine ∧ Q (.str (i ++ j)) H) ∨ rCatA K x y H Q ∨ rCat x y H Q
theorem o_add {X : Cx} : OpR X (binaryOp .Add) (rAddA X.K) := op_add.or (op_add_str.or (op_catA.or op_cat))
theorem s_add {K : Frag} : Op2 K (rAddA K) addD := by
  intro θ G H st x y d e z st' Q S rx ry h post
  unfold addD at h
  split at h
  · cases h; cases rx; cases ry
    exact .inl ⟨_, _, rfl, rfl, post.same S (.int _)⟩
  · split at h
    · rename_i hl
      cases h; cases rx; cases ry
      exact .inr (.inl ⟨_, _, rfl, rfl, szl hl, post.same S (.str _)⟩)
    · cases h
  · split at h
    · rename_i a b hl
      cases h
      cases rx with
      | tup h1 h2 =>
        cases ry with
        | tup h3 h4 =>
          refine .inr (.inr (.inl ⟨_, _, _, _, rfl, rfl, S.t h1, S.t h3, by rw [h2.len, h4.len]; exact szl hl, fun e => ?_, fun _ e => ?_, fun _ _ p hp => ?_⟩))
          · subst e
            cases a with
            | nil => exact post.same S (by rw [List.nil_append]; exact .tup h3 h4)
            | cons _ _ => cases h2
          · subst e
            cases b with
            | nil => exact post.same S (by rw [List.append_nil]; exact .tup h1 h2)
            | cons _ _ => cases h4
          · exact post.newT S hp (h2.append h4)
    · cases h
  · split at h
    · rename_i a b ha hb
      split at h
      · rename_i hl
        cases h
        obtain ⟨p, vs, rfl, h1, h2⟩ := lsD.ok S rx ha
        obtain ⟨q, ws, rfl, h3, h4⟩ := lsD.ok S ry hb
        exact .inr (.inr (.inr ⟨_, _, _, _, rfl, rfl, h1, h3, by rw [h2.len, h4.len]; exact szl hl, fun p hp => post.newL S hp (h2.append h4)⟩))
      · cases h
    · cases h
def subD : F2 := fun x y st => match x, y with
  | .int i, .int j => some (.int (i - j), st)
  | _, _ => none
theorem s_int {K : Frag} {f : F2} {C : Int → Int → Prop} {g : Int → Int → V} {gd : Int → Int → D} (hf : ∀ x y st r, f x y st = some r → ∃ i j, x = .int i ∧ y = .int j ∧ C i j ∧ r = (gd i j, st)) (hr : ∀ i j θ G, Rep K θ G (g i j) (gd i j)) : Op2 K (rI C g) f := by
  intro θ G H st x y d e z st' Q S rx ry h post
  obtain ⟨i, j, rfl, rfl, hc, he⟩ := hf _ _ _ _ h
  cases he; cases rx; cases ry
  exact ⟨i, j, rfl, rfl, hc, post.same S (hr i j θ G)⟩
theorem s_int0 {K : Frag} {f : F2} {g : Int → Int → V} {gd : Int → Int → D} (hf : ∀ x y st r, f x y st = some r → ∃ i j, x = .int i ∧ y = .int j ∧ r = (gd i j, st)) (hr : ∀ i j θ G, Rep K θ G (g i j) (gd i j)) : Op2 K (rI0 g) f := by
  intro θ G H st x y d e z st' Q S rx ry h post
  obtain ⟨i, j, rfl, rfl, he⟩ := hf _ _ _ _ h
  cases he; cases rx; cases ry
  exact ⟨i, j, rfl, rfl, post.same S (hr i j θ G)⟩
theorem s_sub {K : Frag} : Op2 K (rI0 fun i j => .int (i - j)) subD := s_int0 (gd := fun i j => .int (i - j)) (fun x y st r h => by
  unfold subD at h
  split at h
  · cases h; exact ⟨_, _, rfl, rfl, rfl⟩
  · cases h) fun _ _ _ _ => .int _
def mulOk (i j : Int) : Prop := (-(2 ^ 64) < i ∧ i < 2 ^ 64) ∨ (-(2 ^ 64) < j ∧ j < 2 ^ 64)
instance (i j : Int) : Decidable (mulOk i j) := by unfold mulOk; infer_instance
def mulI : F2 := fun x y st => match x, y with
  | .int i, .int j => if mulOk i j then some (.int (i * j), st) else none
  | _, _ => none
theorem s_mulI {K : Frag} : Op2 K (rI CMul fun i j => .int (i * j)) mulI := s_int (gd := fun i j => .int (i * j)) (fun x y st r h => by
  unfold mulI at h
  split at h
  · split at h
    · rename_i hm
      cases h; exact ⟨_, _, rfl, rfl, hm, rfl⟩
    · cases h
  · cases h) fun _ _ _ _ => .int _
def fdivD : F2 := fun x y st => match x, y with
  | .int i, .int j => if 0 < j ∧ j < 2 ^ 64 then some (.int (i / j), st) else none
  | _, _ => none
theorem s_fdiv {K : Frag} : Op2 K (rI CDivW fun i j => .int (i / j)) fdivD := s_int (gd := fun i j => .int (i / j)) (fun x y st r h => by
  unfold fdivD at h
  split at h
  · split at h
    · rename_i hm
      cases h; exact ⟨_, _, rfl, rfl, wide_div (b := 64) hm.1 (by omega) (by decide) (by decide), rfl⟩
    · cases h
  · cases h) fun _ _ _ _ => .int _
def modD : F2 := fun x y st => match x, y with
  | .int i, .int j => if 0 < j then some (.int (i % j), st) else none
  | _, _ => none
theorem s_mod {K : Frag} : Op2 K (rI (fun _ j => 0 < j) fun i j => .int (i % j)) modD := s_int (gd := fun i j => .int (i % j)) (fun x y st r h => by
  unfold modD at h
  split at h
  · split at h
    · rename_i hm
      cases h; exact ⟨_, _, rfl, rfl, hm, rfl⟩
    · cases h
  · cases h) fun _ _ _ _ => .int _
def powD : F2 := fun x y st => match x, y with
  | .int i, .int j => if 0 ≤ j ∧ j ≤ 1000000 ∧ i.natAbs < 2 ^ 64 then some (.int (i ^ j.toNat), st) else none
  | _, _ => none
theorem s_pow {K : Frag} : Op2 K (rI CPow fun i j => .int (i ^ j.toNat)) powD := s_int (gd := fun i j => .int (i ^ j.toNat)) (fun x y st r h => by
  unfold powD at h
  split at h
  · split at h
    · rename_i hm
      cases h; exact ⟨_, _, rfl, rfl, hm, rfl⟩
    · cases h
  · cases h) fun _ _ _ _ => .int _
def shlD : F2 := fun x y st => match x, y with
  | .int i, .int j => if 0 ≤ j ∧ j ≤ 1000000 ∧ i.natAbs < 2 ^ 64 then some (.int (i * 2 ^ j.toNat), st) else none
  | _, _ => none
theorem s_shl {K : Frag} : Op2 K (rI CPow fun i j => .int (i * 2 ^ j.toNat)) shlD := s_int (gd := fun i j => .int (i * 2 ^ j.toNat)) (fun x y st r h => by
  unfold shlD at h
  split at h
  · split at h
    · rename_i hm
      cases h; exact ⟨_, _, rfl, rfl, hm, rfl⟩
    · cases h
  · cases h) fun _ _ _ _ => .int _
def cmpD (p : Int → Int → Bool) : F2 := fun x y st => match x, y with
  | .int i, .int j => some (.bl (p i j), st)
  | _, _ => none
theorem s_cmp {K : Frag} {p : Int → Int → Bool} : Op2 K (rI0 fun i j => .bl (p i j)) (cmpD p) := s_int0 (gd := fun i j => .bl (p i j)) (fun x y st r h => by
  unfold cmpD at h
  split at h
  · cases h; exact ⟨_, _, rfl, rfl, rfl⟩
  · cases h) fun _ _ _ _ => .bl _
abbrev ltD : F2 := cmpD fun i j => decide (i < j)
abbrev leD : F2 := cmpD fun i j => decide (i ≤ j)
abbrev gtD : F2 := cmpD fun i j => decide (j < i)
abbrev geD : F2 := cmpD fun i j => decide (j ≤ i)
def isNon : D → Bool
  | .non => true
  | _ => false
theorem isNon_v {K : Frag} {θ : List Addr} {G : Hp} {v : V} {d : D} (r : Rep K θ G v d) : decide (v = .non) = isNon d := by
  cases r <;> simp [isNon]
def isnD (neg : Bool) : F2 := fun x y st => match y with
  | .non => some (.bl (if neg then !isNon x else isNon x), st)
  | _ => none
theorem s_isN {K : Frag} : Op2 K (fun x y H Q => y = .non ∧ Q (.bl (decide (x = .non))) H) (isnD false) := by
  intro θ G H st x y d e z st' Q S rx ry h post
  unfold isnD at h
  split at h
  · cases h; cases ry
    exact ⟨rfl, post.same S (by rw [isNon_v rx]; exact .bl _)⟩
  · cases h
theorem s_notN {K : Frag} : Op2 K (fun x y H Q => y = .non ∧ Q (.bl (!decide (x = .non))) H) (isnD true) := by
  intro θ G H st x y d e z st' Q S rx ry h post
  unfold isnD at h
  split at h
  · cases h; cases ry
    exact ⟨rfl, post.same S (by rw [isNon_v rx]; exact .bl _)⟩
  · cases h
/-! subscripts -/
theorem at_rep {K : Frag} {θ : List Addr} {G : Hp} {vs : List V} {ds : List D} (r : Reps K θ G vs ds) {i : Int} {d : D} (h : atI ds i = some d) : ∃ v, atI vs i = some v ∧ Rep K θ G v d := by
  unfold atI at h ⊢
  obtain ⟨j, h1, h2⟩ := Option.bind_eq_some_iff.mp h
  obtain ⟨v, h3, h4⟩ := r.at h2
  exact ⟨v, Option.bind_eq_some_iff.mpr ⟨j, by rw [r.len]; exact h1, h3⟩, h4⟩
def ixD : F2 := fun x y st => match y with
  | .int i => match x with
    | .tup ds => (atI ds i).map fun d => (d, st)
    | .str z => if z.length ≤ 16777216 then (atI z.cps.toList i).map fun c => (.str ⟨#[c]⟩, st) else none
    | x => match sqD st x with
      | some ds => (atI ds i).map fun d => (d, st)
      | none => none
  | _ => none
theorem s_ix {K : Frag} : Op2 K (rIx K) ixD := by
  intro θ G H st x y d e z st' Q S rx ry h post
  unfold ixD at h
  split at h
  · cases ry
    split at h
    · obtain ⟨d', h1, h2⟩ := Option.map_eq_some_iff.mp h
      cases h2
      cases rx with
      | tup h3 h4 =>
        obtain ⟨v, h5, h6⟩ := at_rep h4 h1
        exact .inr (.inl ⟨_, _, _, v, rfl, rfl, S.t h3, h5, post.same S h6⟩)
    · split at h
      · rename_i hl
        obtain ⟨c, h1, h2⟩ := Option.map_eq_some_iff.mp h
        cases h2
        cases rx
        exact .inr (.inr ⟨_, _, c, rfl, rfl, szl hl, h1, post.same S (.str _)⟩)
      · cases h
    · split at h
      · rename_i ds hq
        obtain ⟨d', h1, h2⟩ := Option.map_eq_some_iff.mp h
        cases h2
        obtain ⟨a, vs, rfl, h3, h4⟩ := sqD.ok S rx hq
        obtain ⟨v, h5, h6⟩ := at_rep h4 h1
        exact .inl ⟨_, _, _, v, rfl, rfl, h3, h5, post.same S h6⟩
      · cases h
  · cases h
section
variable {X : Cx} {a b : Expr} {fa fb : FE} {pos : Pos}
theorem c_ix (ha : PE X a (tE X.K fa)) (hb : PE X b (tE X.K fb)) (hs : PlainIx b := by exact fun _ _ => rfl) : PE X (.Subscript a b pos) (tE X.K (E2 ixD fa fb)) :=
  peImp (pe_ix ix_seq ha hb hs) fun _ _ _ h => go2 s_ix h
theorem c_add (ha : PE X a (tE X.K fa)) (hb : PE X b (tE X.K fb)) : PE X (.BinOp a .Add b pos) (tE X.K (E2 addD fa fb)) := c_op o_add s_add ha hb
theorem c_sub (ha : PE X a (tE X.K fa)) (hb : PE X b (tE X.K fb)) : PE X (.BinOp a .Sub b pos) (tE X.K (E2 subD fa fb)) := c_op op_sub s_sub ha hb
theorem c_mulI (ha : PE X a (tE X.K fa)) (hb : PE X b (tE X.K fb)) : PE X (.BinOp a .Mult b pos) (tE X.K (E2 mulI fa fb)) := c_op op_mul s_mulI ha hb
theorem c_fdiv (ha : PE X a (tE X.K fa)) (hb : PE X b (tE X.K fb)) : PE X (.BinOp a .FloorDiv b pos) (tE X.K (E2 fdivD fa fb)) := c_op op_fdivW s_fdiv ha hb
theorem c_mod (ha : PE X a (tE X.K fa)) (hb : PE X b (tE X.K fb)) : PE X (.BinOp a .Mod b pos) (tE X.K (E2 modD fa fb)) := c_op op_mod s_mod ha hb
theorem c_pow (ha : PE X a (tE X.K fa)) (hb : PE X b (tE X.K fb)) : PE X (.BinOp a .Pow b pos) (tE X.K (E2 powD fa fb)) := c_op op_pow s_pow ha hb
theorem c_shl (ha : PE X a (tE X.K fa)) (hb : PE X b (tE X.K fb)) : PE X (.BinOp a .LShift b pos) (tE X.K (E2 shlD fa fb)) := c_op op_shl s_shl ha hb
theorem t_lt (ha : PE X a (tE X.K fa)) (hb : PE X b (tE X.K fb)) : PT X (.Compare a [.Lt] [b] pos) (tT X.K (Tb (E2 ltD fa fb))) := t_cmp op_lt s_cmp ha hb (nomark _)
theorem t_le (ha : PE X a (tE X.K fa)) (hb : PE X b (tE X.K fb)) : PT X (.Compare a [.LtE] [b] pos) (tT X.K (Tb (E2 leD fa fb))) := t_cmp op_le s_cmp ha hb (nomark _)
theorem t_gt (ha : PE X a (tE X.K fa)) (hb : PE X b (tE X.K fb)) : PT X (.Compare a [.Gt] [b] pos) (tT X.K (Tb (E2 gtD fa fb))) := t_cmp op_gt s_cmp ha hb (nomark _)
theorem t_ge (ha : PE X a (tE X.K fa)) (hb : PE X b (tE X.K fb)) : PT X (.Compare a [.GtE] [b] pos) (tT X.K (Tb (E2 geD fa fb))) := t_cmp op_ge s_cmp ha hb (nomark _)
theorem c_lt (ha : PE X a (tE X.K fa)) (hb : PE X b (tE X.K fb)) : PE X (.Compare a [.Lt] [b] pos) (tE X.K (E2 ltD fa fb)) := c_cmp op_lt s_cmp ha hb (nomark _)
theorem c_le (ha : PE X a (tE X.K fa)) (hb : PE X b (tE X.K fb)) : PE X (.Compare a [.LtE] [b] pos) (tE X.K (E2 leD fa fb)) := c_cmp op_le s_cmp ha hb (nomark _)
theorem c_gt (ha : PE X a (tE X.K fa)) (hb : PE X b (tE X.K fb)) : PE X (.Compare a [.Gt] [b] pos) (tE X.K (E2 gtD fa fb)) := c_cmp op_gt s_cmp ha hb (nomark _)
theorem c_ge (ha : PE X a (tE X.K fa)) (hb : PE X b (tE X.K fb)) : PE X (.Compare a [.GtE] [b] pos) (tE X.K (E2 geD fa fb)) := c_cmp op_ge s_cmp ha hb (nomark _)
theorem t_isN (ha : PE X a (tE X.K fa)) (hb : PE X b (tE X.K fb)) : PT X (.Compare a [.Is] [b] pos) (tT X.K (Tb (E2 (isnD false) fa fb))) := t_cmp op_isN s_isN ha hb (nomark _)
theorem t_notN (ha : PE X a (tE X.K fa)) (hb : PE X b (tE X.K fb)) : PT X (.Compare a [.IsNot] [b] pos) (tT X.K (Tb (E2 (isnD true) fa fb))) := t_cmp op_notN s_notN ha hb (nomark _)
theorem c_isN (ha : PE X a (tE X.K fa)) (hb : PE X b (tE X.K fb)) : PE X (.Compare a [.Is] [b] pos) (tE X.K (E2 (isnD false) fa fb)) := c_cmp op_isN s_isN ha hb (nomark _)
theorem c_notN (ha : PE X a (tE X.K fa)) (hb : PE X b (tE X.K fb)) : PE X (.Compare a [.IsNot] [b] pos) (tE X.K (E2 (isnD true) fa fb)) := c_cmp op_notN s_notN ha hb (nomark _)
end

/-! ### == and in, of data -/
mutual
def toPy : D → Option PyData
  | .non => some .none
  | .bl b => some (.bool b)
  | .int i => some (.int i)
  | .str s => some (.str s)
  | .tup ds => (toPys ds).map .tuple
  | .lst ds => (toPys ds).map .list
  | .sq ds => (toPys ds).map .list
  | .ref _ => none
  | .adr _ => none
  | .ty _ => none
def toPys : List D → Option (List PyData)
  | [] => some []
  | d :: ds => (toPy d).bind fun p => (toPys ds).map (p :: ·)
end
def pyD (st : Sto) : D → Option PyData
  | .ref n => match st[n]? with | some (.lst ds) => (toPys ds).map .list | none => none
  | d => toPy d
section
variable {K : Frag} {θ : List Addr} {G H : Hp} {st : Sto}
mutual
theorem toPy.ok (S : Gle G H) : ∀ (d : D) (v : V) (p : PyData), Rep K θ G v d → toPy d = some p → Dp K H v p
  | .non, _, _, r, h => by cases r; cases h; exact .non
  | .bl b, _, _, r, h => by cases r; cases h; exact .bl b
  | .int i, _, _, r, h => by cases r; cases h; exact .int i
  | .str x, _, _, r, h => by cases r; cases h; exact .str x
  | .tup ds, _, _, r, h => by
    obtain ⟨ps, h1, rfl⟩ := Option.map_eq_some_iff.mp (show (toPys ds).map PyData.tuple = some _ from h)
    cases r with
    | tup h2 h3 => exact .tup (S.t h2) (toPys.ok S ds _ ps h3 h1)
  | .lst ds, _, _, r, h => by
    obtain ⟨ps, h1, rfl⟩ := Option.map_eq_some_iff.mp (show (toPys ds).map PyData.list = some _ from h)
    cases r with
    | lst h2 h3 => exact .lst (SqL.of (S _ _ h2)) (toPys.ok S ds _ ps h3 h1)
  | .sq ds, _, _, r, h => by
    obtain ⟨ps, h1, rfl⟩ := Option.map_eq_some_iff.mp (show (toPys ds).map PyData.list = some _ from h)
    cases r with
    | sq h2 h3 => exact .lst (S.l h2) (toPys.ok S ds _ ps h3 h1)
  | .ref _, _, _, _, h => by cases h
  | .adr _, _, _, _, h => by cases h
  | .ty _, _, _, _, h => by cases h
theorem toPys.ok (S : Gle G H) : ∀ (ds : List D) (vs : List V) (ps : List PyData), Reps K θ G vs ds → toPys ds = some ps → DpAll K H vs ps
  | [], _, _, r, h => by cases r; cases h; exact .nil
  | d :: ds, _, _, r, h => by
    obtain ⟨p, h1, h2⟩ := Option.bind_eq_some_iff.mp (show ((toPy d).bind fun p => (toPys ds).map (p :: ·)) = some _ from h)
    obtain ⟨ps, h3, rfl⟩ := Option.map_eq_some_iff.mp h2
    cases r with
    | cons r1 r2 => exact .cons (toPy.ok S d _ p r1 h1) (toPys.ok S ds _ ps r2 h3)
end
theorem pyD.ok {d : D} {v : V} {p : PyData} (S : Sim K θ G H st) (r : Rep K θ G v d) (h : pyD st d = some p) : Dp K H v p := by
  cases d with
  | ref n =>
    cases r with
    | ref h1 =>
      obtain ⟨o, h2, h3⟩ := S.at h1
      simp only [pyD, h2] at h
      cases o with
      | lst es =>
        obtain ⟨vs, h4, h5⟩ := h3
        obtain ⟨ps, h6, rfl⟩ := Option.map_eq_some_iff.mp h
        exact .lst (SqL.of h4) (toPys.ok S.sub es vs ps h5 h6)
  | _ => exact toPy.ok S.sub _ _ _ r h
end
def eqD (neg : Bool) : F2 := fun x y st => match x, y with
  | .str a, .str b => some (.bl (if neg then !(a == b) else a == b), st)
  | x, y => match pyD st x, pyD st y with
    | some p, some q => if SeqAt.shaped p = true ∧ SeqAt.shaped q = true then some (.bl (if neg then !PyData.eqv p q else PyData.eqv p q), st) else none
    | _, _ => none
theorem s_eq {K : Frag} : Op2 K (fun x y H Q => rEq x y H Q ∨ rEqD K x y H Q) (eqD false) := by
  intro θ G H st x y d e z st' Q S rx ry h post
  unfold eqD at h
  split at h
  · cases h; cases rx; cases ry
    exact .inl ⟨rfl, post.same S (by rw [dec_str]; exact .bl _)⟩
  · split at h
    · rename_i p q h1 h2
      split at h
      · rename_i hs
        cases h
        exact .inr ⟨p, q, pyD.ok S rx h1, pyD.ok S ry h2, hs.1, hs.2, post.same S (.bl _)⟩
      · cases h
    · cases h
theorem s_ne {K : Frag} : Op2 K (fun x y H Q => rNe x y H Q ∨ rNeD K x y H Q) (eqD true) := by
  intro θ G H st x y d e z st' Q S rx ry h post
  unfold eqD at h
  split at h
  · cases h; cases rx; cases ry
    exact .inl ⟨rfl, post.same S (by rw [dec_str]; exact .bl _)⟩
  · split at h
    · rename_i p q h1 h2
      split at h
      · rename_i hs
        cases h
        exact .inr ⟨p, q, pyD.ok S rx h1, pyD.ok S ry h2, hs.1, hs.2, post.same S (.bl _)⟩
      · cases h
    · cases h
def rInA (K : Frag) : R2 := fun x y H Q => (∃ i j, x = .str i ∧ y = .str j ∧ Q (.bl (!(Builtin.Str.occurrences j i 0 j.length 1).isEmpty)) H) ∨
  (∃ d ds, Dp K H x d ∧ (Dp K H y (.list ds) ∨ Dp K H y (.tuple ds)) ∧ SeqAt.shaped d = true ∧ SeqAt.shaped (.list ds) = true ∧ Q (.bl (ds.any fun z => PyData.eqv z d)) H)
def rNotInA (K : Frag) : R2 := fun x y H Q => (∃ i j, x = .str i ∧ y = .str j ∧ Q (.bl (!(!(Builtin.Str.occurrences j i 0 j.length 1).isEmpty))) H) ∨
  (∃ d ds, Dp K H x d ∧ (Dp K H y (.list ds) ∨ Dp K H y (.tuple ds)) ∧ SeqAt.shaped d = true ∧ SeqAt.shaped (.list ds) = true ∧ Q (.bl (!ds.any fun z => PyData.eqv z d)) H)
theorem room_in {A : Around} {ds : List PyData} {d : PyData} (sd : SeqAt.shaped d = true) (hu : A.units + 65 < cLine) : A.units + 1 + min (PyData.depthAll ds) d.depth < cLine := by
  have h1 := SeqAt.depth_of_shaped sd
  have h2 : min (PyData.depthAll ds) d.depth ≤ d.depth := Nat.min_le_right _ _
  omega
theorem o_in {X : Cx} (hu : X.A.units + 65 < cLine) : OpR X (compareOp .In) (rInA X.K) := by
  intro pins s σ H x y v u Q I rx ry h
  rcases h with h | ⟨d, ds, hd, he, sd, se, q⟩
  · exact op_in_str pins s σ H x y v u Q I rx ry h
  · obtain ⟨as, r1⟩ := Dp.reads I d x v hd rx
    rcases he with he | he
    · obtain ⟨bs, r2⟩ := Dp.reads I (.list ds) y u he ry
      exact SeqAt.in_list_reads r2 r1 (SeqAt.canLay_of_shaped se) (SeqAt.canLay_of_shaped sd) (room_in sd hu) ⟨.bl _, H, I, rfl, q⟩
    · obtain ⟨bs, r2⟩ := Dp.reads I (.tuple ds) y u he ry
      exact SeqAt.in_tuple_reads r2 r1 (SeqAt.canLay_of_shaped se) (SeqAt.canLay_of_shaped sd) (room_in sd hu) ⟨.bl _, H, I, rfl, q⟩
theorem o_notIn {X : Cx} (hu : X.A.units + 65 < cLine) : OpR X (compareOp .NotIn) (rNotInA X.K) := by
  intro pins s σ H x y v u Q I rx ry h
  rcases h with h | ⟨d, ds, hd, he, sd, se, q⟩
  · exact op_notIn_str pins s σ H x y v u Q I rx ry h
  · obtain ⟨as, r1⟩ := Dp.reads I d x v hd rx
    rcases he with he | he
    · obtain ⟨bs, r2⟩ := Dp.reads I (.list ds) y u he ry
      exact SeqAt.notIn_list_reads r2 r1 (SeqAt.canLay_of_shaped se) (SeqAt.canLay_of_shaped sd) (room_in sd hu) ⟨.bl _, H, I, rfl, q⟩
    · obtain ⟨bs, r2⟩ := Dp.reads I (.tuple ds) y u he ry
      exact SeqAt.notIn_tuple_reads r2 r1 (SeqAt.canLay_of_shaped se) (SeqAt.canLay_of_shaped sd) (room_in sd hu) ⟨.bl _, H, I, rfl, q⟩
def seqPy : PyData → Option (List PyData)
  | .list ds => some ds
  | .tuple ds => some ds
  | _ => none
def inD (neg : Bool) : F2 := fun x y st => match y with
  | .str b => match x with
    | .str a => some (.bl (if neg then !(!(Builtin.Str.occurrences b a 0 b.length 1).isEmpty) else !(Builtin.Str.occurrences b a 0 b.length 1).isEmpty), st)
    | _ => none
  | y => match pyD st x, (pyD st y).bind seqPy with
    | some p, some qs => if SeqAt.shaped p = true ∧ SeqAt.shaped (.list qs) = true then some (.bl (if neg then !qs.any fun z => PyData.eqv z p else qs.any fun z => PyData.eqv z p), st) else none
    | _, _ => none
theorem seqPy.ok {K : Frag} {H : Hp} {v : V} {p : PyData} {ds : List PyData} (h : Dp K H v p) (e : seqPy p = some ds) : Dp K H v (.list ds) ∨ Dp K H v (.tuple ds) := by
  cases p with
  | list xs => cases e; exact .inl h
  | tuple xs => cases e; exact .inr h
  | _ => cases e
theorem s_in {K : Frag} : Op2 K (rInA K) (inD false) := by
  intro θ G H st x y d e z st' Q S rx ry h post
  unfold inD at h
  split at h
  · split at h
    · cases h; cases rx; cases ry
      exact .inl ⟨_, _, rfl, rfl, post.same S (.bl _)⟩
    · cases h
  · split at h
    · rename_i p qs h1 h2
      split at h
      · rename_i hs
        cases h
        obtain ⟨q, h3, h4⟩ := Option.bind_eq_some_iff.mp h2
        exact .inr ⟨p, qs, pyD.ok S rx h1, seqPy.ok (pyD.ok S ry h3) h4, hs.1, hs.2, post.same S (.bl _)⟩
      · cases h
    · cases h
theorem s_notIn {K : Frag} : Op2 K (rNotInA K) (inD true) := by
  intro θ G H st x y d e z st' Q S rx ry h post
  unfold inD at h
  split at h
  · split at h
    · cases h; cases rx; cases ry
      exact .inl ⟨_, _, rfl, rfl, post.same S (.bl _)⟩
    · cases h
  · split at h
    · rename_i p qs h1 h2
      split at h
      · rename_i hs
        cases h
        obtain ⟨q, h3, h4⟩ := Option.bind_eq_some_iff.mp h2
        exact .inr ⟨p, qs, pyD.ok S rx h1, seqPy.ok (pyD.ok S ry h3) h4, hs.1, hs.2, post.same S (.bl _)⟩
      · cases h
    · cases h
theorem hu64 {A : Around} {k : Nat} (hr : Room k A) : A.units + 64 < cLine := hr.units
theorem hu65 {A : Around} {k : Nat} (hr : Room k A) : A.units + 65 < cLine := by have := hr.un; omega
section
variable {X : Cx} {a b : Expr} {fa fb : FE} {pos : Pos}
theorem c_eq {k : Nat} (hr : Room k X.A) (ha : PE X a (tE X.K fa)) (hb : PE X b (tE X.K fb)) : PE X (.Compare a [.Eq] [b] pos) (tE X.K (E2 (eqD false) fa fb)) := c_cmp (op_eq.or (op_eqD (hu64 hr))) s_eq ha hb (nomark _)
theorem c_ne {k : Nat} (hr : Room k X.A) (ha : PE X a (tE X.K fa)) (hb : PE X b (tE X.K fb)) : PE X (.Compare a [.NotEq] [b] pos) (tE X.K (E2 (eqD true) fa fb)) := c_cmp (op_ne.or (op_neD (hu64 hr))) s_ne ha hb (nomark _)
theorem t_eq {k : Nat} (hr : Room k X.A) (ha : PE X a (tE X.K fa)) (hb : PE X b (tE X.K fb)) : PT X (.Compare a [.Eq] [b] pos) (tT X.K (Tb (E2 (eqD false) fa fb))) := t_cmp (op_eq.or (op_eqD (hu64 hr))) s_eq ha hb (nomark _)
theorem t_ne {k : Nat} (hr : Room k X.A) (ha : PE X a (tE X.K fa)) (hb : PE X b (tE X.K fb)) : PT X (.Compare a [.NotEq] [b] pos) (tT X.K (Tb (E2 (eqD true) fa fb))) := t_cmp (op_ne.or (op_neD (hu64 hr))) s_ne ha hb (nomark _)
theorem c_in {k : Nat} (hr : Room k X.A) (ha : PE X a (tE X.K fa)) (hb : PE X b (tE X.K fb)) (hm : behindInMarks .In b = false := by rfl) : PE X (.Compare a [.In] [b] pos) (tE X.K (E2 (inD false) fa fb)) := c_cmp (o_in (hu65 hr)) s_in ha hb hm
theorem t_in {k : Nat} (hr : Room k X.A) (ha : PE X a (tE X.K fa)) (hb : PE X b (tE X.K fb)) (hm : behindInMarks .In b = false := by rfl) : PT X (.Compare a [.In] [b] pos) (tT X.K (Tb (E2 (inD false) fa fb))) := t_cmp (o_in (hu65 hr)) s_in ha hb hm
theorem c_notIn {k : Nat} (hr : Room k X.A) (ha : PE X a (tE X.K fa)) (hb : PE X b (tE X.K fb)) (hm : behindInMarks .NotIn b = false := by rfl) : PE X (.Compare a [.NotIn] [b] pos) (tE X.K (E2 (inD true) fa fb)) := c_cmp (o_notIn (hu65 hr)) s_notIn ha hb hm
theorem t_notIn {k : Nat} (hr : Room k X.A) (ha : PE X a (tE X.K fa)) (hb : PE X b (tE X.K fb)) (hm : behindInMarks .NotIn b = false := by rfl) : PT X (.Compare a [.NotIn] [b] pos) (tT X.K (Tb (E2 (inD true) fa fb))) := t_cmp (o_notIn (hu65 hr)) s_notIn ha hb hm
end

/-! ### truth, and, or, not, if else -/
def truD (st : Sto) : D → Option Bool
  | .non => some false
  | .bl b => some b
  | .int i => some (i != 0)
  | .str s => if s.length ≤ 16777216 then some ((s.length : Int) != 0) else none
  | .tup ds => some (!ds.isEmpty)
  | d => (sqD st d).map fun ds => !ds.isEmpty
theorem empty_rep {K : Frag} {θ : List Addr} {G : Hp} {vs : List V} {ds : List D} (r : Reps K θ G vs ds) : vs.isEmpty = ds.isEmpty := by
  cases r <;> rfl
theorem truD.ok {K : Frag} {θ : List Addr} {G H : Hp} {st : Sto} {v : V} {d : D} {b : Bool} (S : Sim K θ G H st) (r : Rep K θ G v d) (h : truD st d = some b) : TruV K v H b := by
  have sq : ∀ ds, sqD st d = some ds → b = !ds.isEmpty → TruV K v H b := fun ds e1 e2 => by
    obtain ⟨a, vs, rfl, h1, h2⟩ := sqD.ok S r e1
    exact .inl ⟨vs, h1, by rw [empty_rep h2]; exact e2⟩
  cases d with
  | non => cases r; cases h; rfl
  | bl _ => cases r; cases h; rfl
  | int _ => cases r; cases h; rfl
  | str s =>
    cases r
    simp only [truD] at h
    split at h
    · rename_i hl
      cases h
      exact ⟨szl hl, rfl⟩
    · cases h
  | tup ds =>
    cases h
    cases r with
    | tup h1 h2 => exact .inr (.inl ⟨_, S.t h1, by rw [empty_rep h2]⟩)
  | lst ds => cases h; exact sq ds rfl rfl
  | sq ds => cases h; exact sq ds rfl rfl
  | ref n =>
    obtain ⟨ds, h1, h2⟩ := Option.map_eq_some_iff.mp (show (sqD st (.ref n)).map (fun ds => !ds.isEmpty) = some b from h)
    exact sq ds h1 h2.symm
  | adr _ => cases h
  | ty _ => cases h
/-- a value's truth -/
def Tt (f : FE) : FT := fun env st => (f env st).bind fun p => (truD p.2 p.1).map fun b => (b, p.2)
def Tand (f g : FT) : FT := fun env st => (f env st).bind fun p => if p.1 = true then g env p.2 else some (false, p.2)
def Tor (f g : FT) : FT := fun env st => (f env st).bind fun p => if p.1 = true then some (true, p.2) else g env p.2
def Tnot (f : FT) : FT := fun env st => (f env st).bind fun p => some (!p.1, p.2)
def Eand (f g : FE) : FE := fun env st => (f env st).bind fun p => (truD p.2 p.1).bind fun b => if b = true then g env p.2 else some (p.1, p.2)
def Eor (f g : FE) : FE := fun env st => (f env st).bind fun p => (truD p.2 p.1).bind fun b => if b = true then some (p.1, p.2) else g env p.2
def Enot (f : FE) : FE := fun env st => (f env st).bind fun p => (truD p.2 p.1).map fun b => (.bl (!b), p.2)
def Eif (c : FT) (f g : FE) : FE := fun env st => (c env st).bind fun p => if p.1 = true then f env p.2 else g env p.2
section
variable {X : Cx} {a b : Expr} {rest : List Expr} {fa fb : FE} {ga gb : FT} {pos : Pos}
theorem t_tru (ha : PE X a (tE X.K fa)) (he : ∀ whole, isTrue a X.env whole = (do let v ← whole; standAt a.pos; holding [v] (truthy v)) := by intro _; rfl) : PT X a (tT X.K (Tt fa)) :=
  ptImp (pt_truth ha he) fun σ H Q ⟨θ, G, env, st, d, st', S, EN, hf, post⟩ => by
    obtain ⟨⟨x, st1⟩, h1, h2⟩ := Option.bind_eq_some_iff.mp hf
    obtain ⟨b, h3, h4⟩ := Option.map_eq_some_iff.mp h2
    cases h4
    exact tE.go S EN h1 fun θ1 G1 H1 v1 e1 S1 EN1 r1 => ⟨_, truD.ok S1 r1 h3, post _ _ _ e1 S1⟩
theorem t_not (ha : PT X a (tT X.K ga)) : PT X (.UnaryOp .Not a pos) (tT X.K (Tnot ga)) :=
  ptImp (pt_not ha) fun σ H Q ⟨θ, G, env, st, d, st', S, EN, hf, post⟩ => by
    obtain ⟨⟨x, st1⟩, h1, h2⟩ := Option.bind_eq_some_iff.mp hf
    cases h2
    exact tT.go S EN h1 fun θ1 G1 H1 e1 S1 EN1 => post _ _ _ e1 S1
theorem w_and1 (ha : PT X a (tT X.K ga)) : PW X (.BoolOp .And [a] pos) (tT X.K ga) := pw_and1 ha
theorem w_or1 (ha : PT X a (tT X.K ga)) : PW X (.BoolOp .Or [a] pos) (tT X.K ga) := pw_or1 ha
theorem w_and (ha : PT X a (tT X.K ga)) (hb : PW X (.BoolOp .And (b :: rest) pos) (tT X.K gb)) : PW X (.BoolOp .And (a :: b :: rest) pos) (tT X.K (Tand ga gb)) :=
  pwImp (pw_and ha hb) fun σ H Q ⟨θ, G, env, st, d, st', S, EN, hf, post⟩ => by
    obtain ⟨⟨x, st1⟩, h1, h2⟩ := Option.bind_eq_some_iff.mp hf
    refine tT.go S EN h1 fun θ1 G1 H1 e1 S1 EN1 => ?_
    cases x with
    | true =>
      rw [if_pos rfl] at h2 ⊢
      exact tT.go S1 EN1 h2 fun θ2 G2 H2 e2 S2 EN2 => post _ _ _ (e1.trans S1 e2) S2
    | false =>
      rw [if_neg Bool.false_ne_true] at h2 ⊢
      cases h2
      exact post _ _ _ e1 S1
theorem w_or (ha : PT X a (tT X.K ga)) (hb : PW X (.BoolOp .Or (b :: rest) pos) (tT X.K gb)) : PW X (.BoolOp .Or (a :: b :: rest) pos) (tT X.K (Tor ga gb)) :=
  pwImp (pw_or ha hb) fun σ H Q ⟨θ, G, env, st, d, st', S, EN, hf, post⟩ => by
    obtain ⟨⟨x, st1⟩, h1, h2⟩ := Option.bind_eq_some_iff.mp hf
    refine tT.go S EN h1 fun θ1 G1 H1 e1 S1 EN1 => ?_
    cases x with
    | true =>
      rw [if_pos rfl] at h2 ⊢
      cases h2
      exact post _ _ _ e1 S1
    | false =>
      rw [if_neg Bool.false_ne_true] at h2 ⊢
      exact tT.go S1 EN1 h2 fun θ2 G2 H2 e2 S2 EN2 => post _ _ _ (e1.trans S1 e2) S2
theorem c_one {op} (ha : PE X a (tE X.K fa)) : PE X (.BoolOp op [a] pos) (tE X.K fa) := pe_one ha
theorem c_and (ha : PE X a (tE X.K fa)) (hb : PE X (.BoolOp .And (b :: rest) pos) (tE X.K fb)) : PE X (.BoolOp .And (a :: b :: rest) pos) (tE X.K (Eand fa fb)) :=
  peImp (pe_andT ha hb) fun σ H Q ⟨θ, G, env, st, d, st', S, EN, hf, post⟩ => by
    obtain ⟨⟨x, st1⟩, h1, h2⟩ := Option.bind_eq_some_iff.mp hf
    obtain ⟨b, h3, h4⟩ := Option.bind_eq_some_iff.mp h2
    refine tE.go S EN h1 fun θ1 G1 H1 v1 e1 S1 EN1 r1 => ⟨b, truD.ok S1 r1 h3, ?_⟩
    cases b with
    | true =>
      rw [if_pos rfl] at h4 ⊢
      exact tE.go S1 EN1 h4 fun θ2 G2 H2 v2 e2 S2 EN2 r2 => post _ _ _ _ (e1.trans S1 e2) S2 r2
    | false =>
      rw [if_neg Bool.false_ne_true] at h4 ⊢
      cases h4
      exact post _ _ _ _ e1 S1 r1
theorem c_or (ha : PE X a (tE X.K fa)) (hb : PE X (.BoolOp .Or (b :: rest) pos) (tE X.K fb)) : PE X (.BoolOp .Or (a :: b :: rest) pos) (tE X.K (Eor fa fb)) :=
  peImp (pe_orT ha hb) fun σ H Q ⟨θ, G, env, st, d, st', S, EN, hf, post⟩ => by
    obtain ⟨⟨x, st1⟩, h1, h2⟩ := Option.bind_eq_some_iff.mp hf
    obtain ⟨b, h3, h4⟩ := Option.bind_eq_some_iff.mp h2
    refine tE.go S EN h1 fun θ1 G1 H1 v1 e1 S1 EN1 r1 => ⟨b, truD.ok S1 r1 h3, ?_⟩
    cases b with
    | true =>
      rw [if_pos rfl] at h4 ⊢
      cases h4
      exact post _ _ _ _ e1 S1 r1
    | false =>
      rw [if_neg Bool.false_ne_true] at h4 ⊢
      exact tE.go S1 EN1 h4 fun θ2 G2 H2 v2 e2 S2 EN2 r2 => post _ _ _ _ (e1.trans S1 e2) S2 r2
theorem c_not (ha : PE X a (tE X.K fa)) : PE X (.UnaryOp .Not a pos) (tE X.K (Enot fa)) :=
  peImp (pe_notT ha) fun σ H Q ⟨θ, G, env, st, d, st', S, EN, hf, post⟩ => by
    obtain ⟨⟨x, st1⟩, h1, h2⟩ := Option.bind_eq_some_iff.mp hf
    obtain ⟨b, h3, h4⟩ := Option.map_eq_some_iff.mp h2
    cases h4
    exact tE.go S EN h1 fun θ1 G1 H1 v1 e1 S1 EN1 r1 => ⟨b, truD.ok S1 r1 h3, post _ _ _ _ e1 S1 (.bl _)⟩
theorem c_if {c : Expr} (hc : PT X c (tT X.K ga)) (ha : PE X a (tE X.K fa)) (hb : PE X b (tE X.K fb)) : PE X (.IfExp c a b pos) (tE X.K (Eif ga fa fb)) :=
  peImp (pe_ifExp hc ha hb) fun σ H Q ⟨θ, G, env, st, d, st', S, EN, hf, post⟩ => by
    obtain ⟨⟨x, st1⟩, h1, h2⟩ := Option.bind_eq_some_iff.mp hf
    refine tT.go S EN h1 fun θ1 G1 H1 e1 S1 EN1 => ?_
    cases x with
    | true =>
      rw [if_pos rfl] at h2 ⊢
      exact tE.go S1 EN1 h2 fun θ2 G2 H2 v2 e2 S2 EN2 r2 => post _ _ _ _ (e1.trans S1 e2) S2 r2
    | false =>
      rw [if_neg Bool.false_ne_true] at h2 ⊢
      exact tE.go S1 EN1 h2 fun θ2 G2 H2 v2 e2 S2 EN2 r2 => post _ _ _ _ (e1.trans S1 e2) S2 r2
end

/-! ### chains of two comparisons -/
def E3 (f g : F2) (fa fb fc : FE) : FE := fun env st => (fa env st).bind fun p => (fb env p.2).bind fun q => (f p.1 q.1 q.2).bind fun r => match r.1 with
  | .bl true => (fc env r.2).bind fun u => g q.1 u.1 u.2
  | .bl false => some (.bl false, r.2)
  | _ => none
section
variable {X : Cx} {a b c : Expr} {fa fb fc : FE} {pos : Pos} {f g : F2} {r r' : R2}
theorem go3 (hf : Op2 X.K r f) (hg : Op2 X.K r' g) {σ : L2.St} {H : Hp} {Q : VK} (h : tE X.K (E3 f g fa fb fc) σ H Q) : tChain r r' (tE X.K fa) (tE X.K fb) (tE X.K fc) σ H Q := by
  obtain ⟨θ, G, env, st, d, st', S, EN, he, post⟩ := h
  obtain ⟨⟨x, st1⟩, h1, he⟩ := Option.bind_eq_some_iff.mp he
  obtain ⟨⟨y, st2⟩, h2, he⟩ := Option.bind_eq_some_iff.mp he
  obtain ⟨⟨z, st3⟩, h3, he⟩ := Option.bind_eq_some_iff.mp he
  refine tE.go S EN h1 fun θ1 G1 H1 v1 e1 S1 EN1 r1 => tE.go S1 EN1 h2 fun θ2 G2 H2 v2 e2 S2 EN2 r2 => ?_
  refine hf _ _ _ _ _ _ _ _ _ _ _ S2 (r1.ext e2) r2 h3 fun θ3 G3 H3 v e3 S3 r3 => ?_
  have e123 := (e1.trans S1 e2).trans S2 e3
  split at he
  · rename_i hz
    dsimp only at hz
    subst hz
    cases r3
    refine ⟨true, rfl, ?_⟩
    rw [if_pos rfl]
    obtain ⟨⟨w, st4⟩, h4, he⟩ := Option.bind_eq_some_iff.mp he
    refine tE.go S3 ((EN2.ext e3)) h4 fun θ4 G4 H4 v4 e4 S4 EN4 r4 => ?_
    exact hg _ _ _ _ _ _ _ _ _ _ _ S4 ((r2.ext e3).ext e4) r4 he fun θ5 G5 H5 v5 e5 S5 r5 => post _ _ _ _ ((e123.trans S3 e4).trans S4 e5) S5 r5
  · rename_i hz
    dsimp only at hz
    subst hz
    cases r3
    refine ⟨false, rfl, ?_⟩
    rw [if_neg Bool.false_ne_true]
    cases he
    exact post _ _ _ _ e123 S3 (.bl _)
  · cases he
theorem c_chain {op op' : CmpOp} (ho : OpR X (compareOp op) r) (hf : Op2 X.K r f) (ho' : OpR X (compareOp op') r') (hg : Op2 X.K r' g) (ha : PE X a (tE X.K fa)) (hb : PE X b (tE X.K fb)) (hc : PE X c (tE X.K fc))
    (hm : lastMarks [op, op'] [b, c] = false := by with_unfolding_all rfl) : PE X (.Compare a [op, op'] [b, c] pos) (tE X.K (E3 f g fa fb fc)) :=
  peImp (pe_chain ho ho' ha hb hc hm) fun _ _ _ h => go3 hf hg h
theorem t_chain {op op' : CmpOp} (ho : OpR X (compareOp op) r) (hf : Op2 X.K r f) (ho' : OpR X (compareOp op') r') (hg : Op2 X.K r' g) (ha : PE X a (tE X.K fa)) (hb : PE X b (tE X.K fb)) (hc : PE X c (tE X.K fc))
    (hm : lastMarks [op, op'] [b, c] = false := by with_unfolding_all rfl) : PT X (.Compare a [op, op'] [b, c] pos) (tT X.K (Tb (E3 f g fa fb fc))) := by
  refine ptImp (pt_chain ho ho' ha hb hc hm) fun σ H Q h => ?_
  obtain ⟨θ, G, env, st, d, st', S, EN, he, post⟩ := h
  unfold Tb at he
  split at he
  · rename_i k st2 he2
    cases he
    refine go3 (fc := fc) hf hg (tE.go S EN he2 fun θ1 G1 H1 v1 e1 S1 EN1 r1 => ?_)
    cases r1
    exact ⟨_, rfl, post _ _ _ e1 S1⟩
  · cases he
end

/-! ### argument lists, displays, calls -/
def Anil : FA := fun _ st => some ([], st)
def Acons (f : FE) (g : FA) : FA := fun env st => (f env st).bind fun p => (g env p.2).bind fun q => some (p.1 :: q.1, q.2)
def Etup (g : FA) : FE := fun env st => (g env st).bind fun p => if p.1.length ≤ 16777216 then some (.tup p.1, p.2) else none
def Elst (g : FA) : FE := fun env st => (g env st).bind fun p => if p.1.length ≤ 16777216 then some (.lst p.1, p.2) else none
def Enew (g : FA) : FE := fun env st => (g env st).bind fun p => if p.1.length ≤ 16777216 then some (.ref p.2.length, p.2 ++ [.lst p.1]) else none
abbrev FC := List D → Sto → Option (D × Sto)
def EC (f : FC) (g : FA) : FE := fun env st => (g env st).bind fun p => f p.1 p.2
def CallS (K : Frag) (r : List V → Hp → VK → Prop) (f : FC) : Prop := ∀ θ G H st vs ds z st' Q, Sim K θ G H st → Reps K θ G vs ds → f ds st = some (z, st') → PostE K θ G H st' z Q → r vs H Q
section
variable {X : Cx} {e : Expr} {es : List Expr} {fe : FE} {g : FA} {pos : Pos}
theorem a_nil : PA X [] (tA X.K Anil) := paImp pa_nil fun σ H Q ⟨θ, G, env, st, d, st', S, EN, hf, post⟩ => by
  cases hf
  exact post _ _ _ _ .refl S .nil
theorem a_cons (ha : PE X e (tE X.K fe)) (hr : PA X es (tA X.K g)) (hs : starEach (e :: es) X.env = (false, eval e X.env) :: starEach es X.env := by rfl) : PA X (e :: es) (tA X.K (Acons fe g)) :=
  paImp (pa_cons ha hr hs) fun σ H Q ⟨θ, G, env, st, d, st', S, EN, hf, post⟩ => by
    obtain ⟨⟨x, st1⟩, h1, h2⟩ := Option.bind_eq_some_iff.mp hf
    obtain ⟨⟨y, st2⟩, h3, h4⟩ := Option.bind_eq_some_iff.mp h2
    cases h4
    exact tE.go S EN h1 fun θ1 G1 H1 v1 e1 S1 EN1 r1 => tA.go S1 EN1 h3 fun θ2 G2 H2 v2 e2 S2 EN2 r2 => post _ _ _ _ (e1.trans S1 e2) S2 (.cons (r1.ext e2) r2)
theorem c_tup {x1} (h : PA X es (tA X.K g)) : PE X (.Tuple es x1 pos) (tE X.K (Etup g)) :=
  peImp (pe_tup h) fun σ H Q ⟨θ, G, env, st, d, st', S, EN, hf, post⟩ => by
    obtain ⟨⟨x, st1⟩, h1, h2⟩ := Option.bind_eq_some_iff.mp hf
    dsimp only at h2
    split at h2
    · rename_i hl
      cases h2
      refine tA.go S EN h1 fun θ1 G1 H1 v1 e1 S1 EN1 r1 => ⟨by rw [r1.len]; exact szl hl, fun p hp => ?_⟩
      exact PostE.newT (fun θ' G' H' v e s r => post _ _ _ _ (e1.trans S1 e) s r) S1 hp r1
    · cases h2
theorem c_lst (h : PA X es (tA X.K g)) : PE X (.List es pos) (tE X.K (Elst g)) :=
  peImp (pe_lst h) fun σ H Q ⟨θ, G, env, st, d, st', S, EN, hf, post⟩ => by
    obtain ⟨⟨x, st1⟩, h1, h2⟩ := Option.bind_eq_some_iff.mp hf
    dsimp only at h2
    split at h2
    · rename_i hl
      cases h2
      refine tA.go S EN h1 fun θ1 G1 H1 v1 e1 S1 EN1 r1 => ⟨by rw [r1.len]; exact szl hl, fun p hp => ?_⟩
      exact PostE.newL (fun θ' G' H' v e s r => post _ _ _ _ (e1.trans S1 e) s r) S1 hp r1
    · cases h2
theorem c_new (h : PA X es (tA X.K g)) : PE X (.List es pos) (tE X.K (Enew g)) :=
  peImp (pe_lst h) fun σ H Q ⟨θ, G, env, st, d, st', S, EN, hf, post⟩ => by
    obtain ⟨⟨x, st1⟩, h1, h2⟩ := Option.bind_eq_some_iff.mp hf
    dsimp only at h2
    split at h2
    · rename_i hl
      cases h2
      refine tA.go S EN h1 fun θ1 G1 H1 v1 e1 S1 EN1 r1 => ⟨by rw [r1.len]; exact szl hl, fun p hp => ?_⟩
      exact PostE.newM (fun θ' G' H' v e s r => post _ _ _ _ (e1.trans S1 e) s r) S1 hp r1
    · cases h2
theorem goC {r : List V → Hp → VK → Prop} {f : FC} (hs : CallS X.K r f) {σ : L2.St} {H : Hp} {Q : VK} (h : tE X.K (EC f g) σ H Q) : tCB r (tA X.K g) σ H Q := by
  obtain ⟨θ, G, env, st, d, st', S, EN, hf, post⟩ := h
  obtain ⟨⟨x, st1⟩, h1, h2⟩ := Option.bind_eq_some_iff.mp hf
  exact tA.go S EN h1 fun θ1 G1 H1 v1 e1 S1 EN1 r1 => hs _ _ _ _ _ _ _ _ _ S1 r1 h2 fun θ' G' H' v e s r => post _ _ _ _ (e1.trans S1 e) s r
theorem c_cb {id : String} {x : PySem.Str} {p : Pos} {r : List V → Hp → VK → Prop} {f : FC} (hc : CallR X (.builtin id) r) (hs : CallS X.K r f) (hg : Gl X x) (hm : X.mg x = none) (hv : bootBuiltins x = some (.builtin id)) (ha : PA X (e :: es) (tA X.K g))
    (hn : x ≠ "__name__" := by decide) (hdb : (x == ("__debug__" : PySem.Str)) = false := by decide) (he : starEach (e :: es) X.env = (false, eval e X.env) :: starEach es X.env := by rfl) (hpl : (backTo pos (starEach es X.env)).any (·.1) = false := by rfl) :
    PE X (.Call (.Name x p) (e :: es) [] pos) (tE X.K (EC f g)) := peImp (pe_callB hc hg hm hv ha hn hdb he hpl) fun _ _ _ h => goC hs h
theorem c_ct {id : String} {x : PySem.Str} {p : Pos} {r : List V → Hp → VK → Prop} {f : FC} (hc : CallR X (.type id) r) (hs : CallS X.K r f) (hg : Gl X x) (hm : X.mg x = none) (hv : bootBuiltins x = some (.type id)) (ha : PA X (e :: es) (tA X.K g))
    (hn : x ≠ "__name__" := by decide) (hdb : (x == ("__debug__" : PySem.Str)) = false := by decide) (he : starEach (e :: es) X.env = (false, eval e X.env) :: starEach es X.env := by rfl) (hpl : (backTo pos (starEach es X.env)).any (·.1) = false := by rfl) :
    PE X (.Call (.Name x p) (e :: es) [] pos) (tE X.K (EC f g)) := peImp (pe_callTy hc hg hm hv ha hn hdb he hpl) fun _ _ _ h => goC hs h
theorem c_bty {x : PySem.Str} {n : String} (hg : Gl X x) (hm : X.mg x = none) (hv : bootBuiltins x = some (.type n)) (hn : x ≠ "__name__" := by decide) (hd : (x == ("__debug__" : PySem.Str)) = false := by decide) : PE X (.Name x pos) (tE X.K (Ec (.ty n))) :=
  c_const (pe_bltn hg hm hv (v := .ty n) rfl hn hd) fun _ _ => .ty n
end
/-! the built-ins -/
section
variable {K : Frag}
def fAbs : FC := fun ds st => match ds with
  | [.int i] => some (.int (if i < 0 then -i else i), st)
  | _ => none
theorem s_abs : CallS K (fun xs H Q => ∃ i, xs = [.int i] ∧ Q (.int (if i < 0 then -i else i)) H) fAbs := by
  intro θ G H st vs ds z st' Q S r h post
  unfold fAbs at h
  split at h
  · cases h
    cases r with
    | cons r1 r2 => cases r1; cases r2; exact ⟨_, rfl, post.same S (.int _)⟩
  · cases h
def fInt : FC := fun ds st => match ds with
  | [.int i] => some (.int i, st)
  | [.bl b] => some (.int (if b then 1 else 0), st)
  | [.str s] => match PySem.intText? s with
    | some n => if s.length ≤ 640 then some (.int n, st) else none
    | none => none
  | _ => none
def rInt : List V → Hp → VK → Prop := fun xs H Q => ((∃ i, xs = [.int i] ∧ Q (.int i) H) ∨ ∃ k, xs = [.bl k] ∧ Q (.int (if k then 1 else 0)) H) ∨ ∃ a n, xs = [.str a] ∧ PySem.intText? a = some n ∧ a.length ≤ 640 ∧ Q (.int n) H
theorem o_int {X : Cx} : CallR X (.type "int") rInt := call_int1.or call_int_str
theorem s_intc : CallS K rInt fInt := by
  intro θ G H st vs ds z st' Q S r h post
  unfold fInt at h
  split at h
  · cases h
    cases r with
    | cons r1 r2 => cases r1; cases r2; exact .inl (.inl ⟨_, rfl, post.same S (.int _)⟩)
  · cases h
    cases r with
    | cons r1 r2 => cases r1; cases r2; exact .inl (.inr ⟨_, rfl, post.same S (.int _)⟩)
  · split at h
    · rename_i n hn
      split at h
      · rename_i hl
        cases h
        cases r with
        | cons r1 r2 => cases r1; cases r2; exact .inr ⟨_, n, rfl, hn, hl, post.same S (.int _)⟩
      · cases h
    · cases h
  · cases h
def fLen : FC := fun ds st => match ds with
  | [.str s] => if s.length ≤ 16777216 then some (.int s.length, st) else none
  | [.tup es] => some (.int es.length, st)
  | [d] => (sqD st d).map fun es => (.int es.length, st)
  | _ => none
def rLen (K : Frag) : List V → Hp → VK → Prop := fun xs H Q => (∃ p ys, xs = [.ref p] ∧ (SqL K H p ys ∨ SqT K H p ys) ∧ Q (.int ys.length) H) ∨ (∃ z, xs = [.str z] ∧ z.length ≤ sizeLine ∧ Q (.int z.length) H)
theorem o_len {X : Cx} : CallR X (.builtin "len") (rLen X.K) := call_len_seq.or call_len_str
theorem s_len : CallS K (rLen K) fLen := by
  intro θ G H st vs ds z st' Q S r h post
  unfold fLen at h
  split at h
  · split at h
    · rename_i hl
      cases h
      cases r with
      | cons r1 r2 => cases r1; cases r2; exact .inr ⟨_, rfl, szl hl, post.same S (.int _)⟩
    · cases h
  · cases h
    cases r with
    | cons r1 r2 =>
      cases r2
      cases r1 with
      | tup h1 h2 => exact .inl ⟨_, _, rfl, .inr (S.t h1), post.same S (by rw [h2.len]; exact .int _)⟩
  · obtain ⟨es, h1, h2⟩ := Option.map_eq_some_iff.mp h
    cases h2
    cases r with
    | cons r1 r2 =>
      cases r2
      obtain ⟨a, ws, rfl, h3, h4⟩ := sqD.ok S r1 h1
      exact .inl ⟨_, _, rfl, .inl h3, post.same S (by rw [h4.len]; exact .int _)⟩
  · cases h
def fOrd : FC := fun ds st => match ds with
  | [.str s] => if s.length = 1 then some (.int ((s.cps.getD 0 0 : Nat) : Int), st) else none
  | _ => none
theorem s_ord : CallS K (fun xs H Q => ∃ x, xs = [.str x] ∧ x.length = 1 ∧ Q (.int (x.cps.getD 0 0 : Nat)) H) fOrd := by
  intro θ G H st vs ds z st' Q S r h post
  unfold fOrd at h
  split at h
  · split at h
    · rename_i hl
      cases h
      cases r with
      | cons r1 r2 => cases r1; cases r2; exact ⟨_, rfl, hl, post.same S (.int _)⟩
    · cases h
  · cases h
/-- the name of a datum's type -/
def tyN (st : Sto) : D → Option String
  | .non => some "NoneType"
  | .bl _ => some "bool"
  | .int _ => some "int"
  | .str _ => some "str"
  | .tup _ => some "tuple"
  | .lst _ => some "list"
  | .ref n => match st[n]? with | some (.lst _) => some "list" | none => none
  | _ => none
def fIsi : FC := fun ds st => match ds with
  | [d, .ty T] => match tyN st d with
    | some n => (kitB n T).map fun b => (.bl b, st)
    | none => none
  | _ => none
theorem SqT.tyx {H : Hp} {a : Addr} {vs : List V} (h : SqT K H a vs) : TyX K H (.ref a) (.type "tuple") := by
  rcases h with (h | ⟨o, h⟩) | ⟨o, its, n, h1, h2, _⟩
  · exact .base (.tup h)
  · exact .fTuple h
  · exact .kTuple h1 h2
theorem tyN.ok {θ : List Addr} {G H : Hp} {st : Sto} {v : V} {d : D} {n : String} (S : Sim K θ G H st) (r : Rep K θ G v d) (h : tyN st d = some n) : TyX K H v (.type n) := by
  cases d with
  | non => cases h; cases r; exact .base .non
  | bl b => cases h; cases r; exact .base (.bl b)
  | int i => cases h; cases r; exact .base (.int i)
  | str s => cases h; cases r; exact .base (.str s)
  | tup ds =>
    cases h
    cases r with
    | tup h1 h2 => exact SqT.tyx (S.t h1)
  | lst ds =>
    cases h
    cases r with
    | lst h1 h2 => exact .base (.lst (S.sub _ _ h1))
  | ref m =>
    cases r with
    | ref h1 =>
      obtain ⟨o, h2, h3⟩ := S.at h1
      simp only [tyN, h2] at h
      cases o with
      | lst es =>
        cases h
        obtain ⟨vs, h4, _⟩ := h3
        exact .base (.lst h4)
  | _ => cases h
theorem s_isi : CallS K (rIsi K) fIsi := by
  intro θ G H st vs ds z st' Q S r h post
  unfold fIsi at h
  split at h
  · split at h
    · rename_i n hn
      obtain ⟨b, h1, h2⟩ := Option.map_eq_some_iff.mp h
      cases h2
      cases r with
      | cons r1 r2 =>
        cases r2 with
        | cons r3 r4 =>
          cases r4
          cases r3
          exact ⟨_, _, _, _, b, rfl, .ty _, tyN.ok S r1 hn, kit_ty h1, post.same S (.bl _)⟩
    · cases h
  · cases h
end
section
variable {X : Cx} {e : Expr} {es : List Expr} {g : FA} {p pos : Pos}
theorem c_abs (hg : Gl X "abs") (hm : X.mg "abs" = none) (ha : PA X [e] (tA X.K g)) (he : starEach [e] X.env = (false, eval e X.env) :: starEach [] X.env := by rfl) : PE X (.Call (.Name "abs" p) [e] [] pos) (tE X.K (EC fAbs g)) := c_cb call_abs s_abs hg hm (by decide +kernel) ha (by decide) (by decide) he
theorem c_intc (hg : Gl X "int") (hm : X.mg "int" = none) (ha : PA X [e] (tA X.K g)) (he : starEach [e] X.env = (false, eval e X.env) :: starEach [] X.env := by rfl) : PE X (.Call (.Name "int" p) [e] [] pos) (tE X.K (EC fInt g)) := c_ct o_int s_intc hg hm (by decide +kernel) ha (by decide) (by decide) he
theorem c_len (hg : Gl X "len") (hm : X.mg "len" = none) (ha : PA X [e] (tA X.K g)) (he : starEach [e] X.env = (false, eval e X.env) :: starEach [] X.env := by rfl) : PE X (.Call (.Name "len" p) [e] [] pos) (tE X.K (EC fLen g)) := c_cb o_len s_len hg hm (by decide +kernel) ha (by decide) (by decide) he
theorem c_ord (hg : Gl X "ord") (hm : X.mg "ord" = none) (ha : PA X [e] (tA X.K g)) (he : starEach [e] X.env = (false, eval e X.env) :: starEach [] X.env := by rfl) : PE X (.Call (.Name "ord" p) [e] [] pos) (tE X.K (EC fOrd g)) := c_cb call_ord s_ord hg hm (by decide +kernel) ha (by decide) (by decide) he
theorem c_isi {e2 : Expr} (hg : Gl X "isinstance") (hm : X.mg "isinstance" = none) (ha : PA X [e, e2] (tA X.K g)) (he : starEach [e, e2] X.env = (false, eval e X.env) :: starEach [e2] X.env := by rfl) (hpl : (backTo pos (starEach [e2] X.env)).any (·.1) = false := by rfl) :
    PE X (.Call (.Name "isinstance" p) [e, e2] [] pos) (tE X.K (EC fIsi g)) := c_cb call_isi s_isi hg hm (by decide +kernel) ha (by decide) (by decide) he hpl
end

/-! ### methods of built-in types -/
abbrev FM := D → List D → Sto → Option (D × Sto)
def tyOk (st : Sto) (T : String) (d : D) : Prop := (T = "str" ∧ ∃ s, d = .str s) ∨ (T = "list" ∧ ∃ ds, sqD st d = some ds)
def EM (T : String) (f : FM) (fo : FE) (g : FA) : FE := fun env st => (fo env st).bind fun p => match p.1 with
  | .str s => if T = "str" then (g env p.2).bind fun q => f (.str s) q.1 q.2 else none
  | d => if T = "list" then (sqD p.2 d).bind fun _ => (g env p.2).bind fun q => f d q.1 q.2 else none
def MtS (K : Frag) (r : V → List V → Hp → VK → Prop) (f : FM) : Prop := ∀ θ G H st x d vs ds z st' Q, Sim K θ G H st → Rep K θ G x d → Reps K θ G vs ds → f d ds st = some (z, st') → PostE K θ G H st' z Q → r x vs H Q
section
variable {X : Cx} {o e : Expr} {es : List Expr} {fo : FE} {g : FA} {name : PySem.Str} {apos cpos : Pos} {T id : String} {r : V → List V → Hp → VK → Prop} {f : FM}
theorem EM.inv {env : Env} {st : Sto} {z : D} {st' : Sto} (h : EM T f fo g env st = some (z, st')) : ∃ d st1, fo env st = some (d, st1) ∧ tyOk st1 T d ∧ ∃ q, g env st1 = some q ∧ f d q.1 q.2 = some (z, st') := by
  obtain ⟨⟨d, st1⟩, h1, h2⟩ := Option.bind_eq_some_iff.mp h
  dsimp only at h2
  split at h2
  · split at h2
    · rename_i ht
      obtain ⟨q, h3, h4⟩ := Option.bind_eq_some_iff.mp h2
      exact ⟨_, st1, h1, .inl ⟨ht, _, rfl⟩, q, h3, h4⟩
    · cases h2
  · split at h2
    · rename_i ht
      obtain ⟨ds, h5, h2⟩ := Option.bind_eq_some_iff.mp h2
      obtain ⟨q, h3, h4⟩ := Option.bind_eq_some_iff.mp h2
      exact ⟨_, st1, h1, .inr ⟨ht, ds, h5⟩, q, h3, h4⟩
    · cases h2
theorem tyOk.v {K : Frag} {θ : List Addr} {G H : Hp} {st : Sto} {v : V} {d : D} (S : Sim K θ G H st) (r : Rep K θ G v d) (h : tyOk st T d) : tyV K T v H := by
  rcases h with ⟨rfl, s, rfl⟩ | ⟨rfl, ds, h⟩
  · cases r; rfl
  · obtain ⟨a, vs, rfl, h1, h2⟩ := sqD.ok S r h
    exact .inl ⟨rfl, vs, h1⟩
theorem goM (hs : MtS X.K r f) {σ : L2.St} {H : Hp} {Q : VK} (h : tE X.K (EM T f fo g) σ H Q) : tBM X.K T r (tE X.K fo) (tA X.K g) σ H Q := by
  obtain ⟨θ, G, env, st, d, st', S, EN, hf, post⟩ := h
  obtain ⟨d, st1, h1, ht, q, h2, h3⟩ := EM.inv hf
  refine tE.go S EN h1 fun θ1 G1 H1 v1 e1 S1 EN1 r1 => ⟨ht.v S1 r1, ?_⟩
  refine tA.go S1 EN1 h2 fun θ2 G2 H2 v2 e2 S2 EN2 r2 => ?_
  exact hs _ _ _ _ _ _ _ _ _ _ _ S2 (r1.ext e2) r2 h3 fun θ' G' H' v e s r => post _ _ _ _ ((e1.trans S1 e2).trans S2 e) s r
theorem c_bm (pa : PlainAttrs T) (slot : Slot T name id) (hty : typeOf (.builtin id) = pure (.type "method_descriptor")) (hm : MtR X id r) (hs : MtS X.K r f) (ho : PE X o (tE X.K fo)) (ha : PA X (e :: es) (tA X.K g))
    (hbase : attributeBase o name X.env (eval o X.env) = eval o X.env := by rfl)
    (hfew : ((backTo cpos (starEach (e :: es) X.env)).all (fun x => !x.1) && (backToKw cpos (keywordEach [] X.env)).all (fun x => x.1.isSome)
      && decide ((e :: es).length + ([] : List Keyword).length + (if ([] : List Keyword).isEmpty then 0 else 1) < 30)) = true := by rfl)
    (hline : (apos.endLine == cpos.line) = true := by rfl) (hse : starEach (e :: es) X.env = (false, eval e X.env) :: starEach es X.env := by rfl) (hplain : (backTo cpos (starEach es X.env)).any (·.1) = false := by rfl) :
    PE X (.Call (.Attribute o name apos) (e :: es) [] cpos) (tE X.K (EM T f fo g)) :=
  peImp (pe_bm pa slot hty hm ho ha hbase hfew hline hse hplain) fun _ _ _ h => goM hs h
end
section
variable {K : Frag}
def mFind : FM := fun d ds st => match d, ds with
  | .str a, [.str b] => some (.int (Txt.find a b), st)
  | _, _ => none
theorem s_find : MtS K (fun x xs H Q => ∃ a b, x = .str a ∧ xs = [.str b] ∧ Q (.int (Txt.find a b)) H) mFind := by
  intro θ G H st x d vs ds z st' Q S rx r h post
  unfold mFind at h
  split at h
  · cases h; cases rx
    cases r with
    | cons r1 r2 => cases r1; cases r2; exact ⟨_, _, rfl, rfl, post.same S (.int _)⟩
  · cases h
def mApp : FM := fun d ds st => match d, ds with
  | .ref n, [y] => match st[n]? with
    | some (.lst es) => if es.length < 16777216 then some (.non, st.set n (.lst (es ++ [y]))) else none
    | none => none
  | _, _ => none
theorem s_app : MtS K rAppend mApp := by
  intro θ G H st x d vs ds z st' Q S rx r h post
  unfold mApp at h
  split at h
  · split at h
    · rename_i es he
      split at h
      · rename_i hl
        cases h
        cases rx with
        | ref h1 =>
          obtain ⟨o, h2, h3⟩ := S.at h1
          rw [he] at h2
          cases h2
          obtain ⟨ws, h4, h5⟩ := h3
          cases r with
          | cons r1 r2 =>
            cases r2
            exact ⟨_, ws, _, rfl, rfl, h4, by rw [h5.len]; exact szlt hl, post _ _ _ _ (Ext.set S h1 _) (S.set h1 (h5.append (.cons r1 .nil))) .non⟩
      · cases h
    · cases h
  · cases h
end

/-! ## statements -/
inductive Fl where
  | nx (env : Env) | rt (d : D) | bk (env : Env) | ct (env : Env)
abbrev FS := Env → Sto → Option (Fl × Sto)
def FlP (K : Frag) (E : Ends) (θ : List Addr) (G H : Hp) : Fl → Prop
  | .nx env => ∀ σ, EnvR K θ G σ env → E.nx σ H
  | .rt d => ∀ v, Rep K θ G v d → E.rt v H
  | .bk env => ∀ σ, EnvR K θ G σ env → E.bk σ H
  | .ct env => ∀ σ, EnvR K θ G σ env → E.ct σ H
def tS (K : Frag) (f : FS) : TS := fun E σ H => ∃ θ G env st fl st', Sim K θ G H st ∧ EnvR K θ G σ env ∧ f env st = some (fl, st') ∧
  ∀ θ' G' H', Ext θ θ' G G' H H' → Sim K θ' G' H' st' → FlP K E θ' G' H' fl
theorem tS.go {K : Frag} {θ : List Addr} {G H : Hp} {st st1 : Sto} {σ : L2.St} {env : Env} {fl : Fl} {f : FS} {E : Ends} (S : Sim K θ G H st) (EN : EnvR K θ G σ env) (hf : f env st = some (fl, st1))
    (k : ∀ θ1 G1 H1, Ext θ θ1 G G1 H H1 → Sim K θ1 G1 H1 st1 → FlP K E θ1 G1 H1 fl) : tS K f E σ H := ⟨θ, G, env, st, fl, st1, S, EN, hf, k⟩
def Snil : FS := fun env st => some (.nx env, st)
def Sseq (f g : FS) : FS := fun env st => (f env st).bind fun p => match p.1 with | .nx e => g e p.2 | r => some (r, p.2)
def Sret (f : FE) : FS := fun env st => (f env st).bind fun p => some (.rt p.1, p.2)
def SretN : FS := fun _ st => some (.rt .non, st)
def Sexp (f : FE) : FS := fun env st => (f env st).bind fun p => some (.nx env, p.2)
def Sset (i : Nat) (f : FE) : FS := fun env st => (f env st).bind fun p => some (.nx (env.set i (some p.1)), p.2)
def Sbrk : FS := fun env st => some (.bk env, st)
def Sctn : FS := fun env st => some (.ct env, st)
def Sif (c : FT) (f g : FS) : FS := fun env st => (c env st).bind fun p => if p.1 = true then f env p.2 else g env p.2
/-- xs[i] = v in a list of the store -/
def setD (o i v : D) (st : Sto) : Option Sto := match o, i with
  | .ref n, .int k => match st[n]? with
    | some (.lst es) => (ixN es.length k).map fun j => st.set n (.lst (es.set j v))
    | none => none
  | _, _ => none
def SsetIx (fo fi fv : FE) : FS := fun env st => (fv env st).bind fun p => (fo env p.2).bind fun q => (fi env q.2).bind fun r => (setD q.1 r.1 p.1 r.2).map fun st' => (.nx env, st')
def Saug (f : F2) (i : Nat) (fe : FE) : FS := fun env st => match env[i]? with
  | some (some x) => (fe env st).bind fun p => (f x p.1 p.2).bind fun q => some (.nx (env.set i (some q.1)), q.2)
  | _ => none
def SaugIx (f : F2) (fo fi fe : FE) : FS := fun env st => (fo env st).bind fun p => (fi env p.2).bind fun q => (ixD p.1 q.1 q.2).bind fun r => (fe env r.2).bind fun u => (f r.1 u.1 u.2).bind fun w =>
  (setD p.1 q.1 w.1 w.2).map fun st' => (.nx env, st')
theorem FlP.of_seq {K : Frag} {E : Ends} {θ : List Addr} {G H : Hp} {fl : Fl} {t : L2.St → Hp → Prop} (hn : ∀ env, fl = .nx env → ∀ σ, EnvR K θ G σ env → t σ H) (hr : (∀ env, fl ≠ .nx env) → FlP K E θ G H fl) : FlP K { E with nx := t } θ G H fl := by
  cases fl with
  | nx env => exact hn env rfl
  | rt d => exact hr (fun _ h => nomatch h)
  | bk env => exact hr (fun _ h => nomatch h)
  | ct env => exact hr (fun _ h => nomatch h)
section
variable {X : Cx} {s : Stmt} {rest : List Stmt} {e : Expr} {fe : FE} {f g : FS} {pos : Pos}
theorem k_nil : PSs X [] (tS X.K Snil) := pssImp pss_nil fun E σ H ⟨θ, G, env, st, d, st', S, EN, hf, post⟩ => by
  cases hf
  exact post _ _ _ .refl S σ EN
theorem k_one (h : PS X s (tS X.K f)) : PSs X [s] (tS X.K f) := pss_one h
theorem k_cons (h : PS X s (tS X.K f)) (hr : PSs X rest (tS X.K g)) : PSs X (s :: rest) (tS X.K (Sseq f g)) :=
  pssImp (pss_cons h hr) fun E σ H ⟨θ, G, env, st, d, st', S, EN, hf, post⟩ => by
    obtain ⟨⟨fl, st1⟩, h1, h2⟩ := Option.bind_eq_some_iff.mp hf
    refine tS.go S EN h1 fun θ1 G1 H1 e1 S1 => FlP.of_seq (fun env1 he σ1 EN1 => ?_) fun hn => ?_
    · subst he
      exact tS.go S1 EN1 h2 fun θ2 G2 H2 e2 S2 => post _ _ _ (e1.trans S1 e2) S2
    · cases fl with
      | nx env1 => exact absurd rfl (hn env1)
      | rt _ => cases h2; exact post _ _ _ e1 S1
      | bk _ => cases h2; exact post _ _ _ e1 S1
      | ct _ => cases h2; exact post _ _ _ e1 S1
theorem k_pass : PS X (.Pass pos) (tS X.K Snil) := psImp ps_pass fun E σ H ⟨θ, G, env, st, d, st', S, EN, hf, post⟩ => by
  cases hf
  exact post _ _ _ .refl S σ EN
theorem k_brk : PS X (.Break pos) (tS X.K Sbrk) := psImp ps_break fun E σ H ⟨θ, G, env, st, d, st', S, EN, hf, post⟩ => by
  cases hf
  exact post _ _ _ .refl S σ EN
theorem k_ctn : PS X (.Continue pos) (tS X.K Sctn) := psImp ps_continue fun E σ H ⟨θ, G, env, st, d, st', S, EN, hf, post⟩ => by
  cases hf
  exact post _ _ _ .refl S σ EN
theorem k_retN : PS X (.Return none pos) (tS X.K SretN) := psImp ps_retN fun E σ H ⟨θ, G, env, st, d, st', S, EN, hf, post⟩ => by
  cases hf
  exact post _ _ _ .refl S .non .non
theorem k_ret (h : PE X e (tE X.K fe)) : PS X (.Return (some e) pos) (tS X.K (Sret fe)) := psImp (ps_ret h) fun E σ H ⟨θ, G, env, st, d, st', S, EN, hf, post⟩ => by
  obtain ⟨⟨x, st1⟩, h1, h2⟩ := Option.bind_eq_some_iff.mp hf
  cases h2
  exact tE.go S EN h1 fun θ1 G1 H1 v1 e1 S1 EN1 r1 => post _ _ _ e1 S1 v1 r1
theorem k_exp (h : PE X e (tE X.K fe)) (hs : swapsWith e none pos.line X.env = pure false := by rfl) : PS X (.Expr e pos) (tS X.K (Sexp fe)) := psImp (ps_expr h hs) fun E σ H ⟨θ, G, env, st, d, st', S, EN, hf, post⟩ => by
  obtain ⟨⟨x, st1⟩, h1, h2⟩ := Option.bind_eq_some_iff.mp hf
  cases h2
  exact tE.go S EN h1 fun θ1 G1 H1 v1 e1 S1 EN1 r1 => post _ _ _ e1 S1 σ EN1
theorem k_set {i : Nat} {x : PySem.Str} {pos' : Pos} (hN : X.N.Nodup) (h : PE X e (tE X.K fe)) (hi : X.N[i]? = some x := by rfl) (hx : Loc X.env.scope x := by first | exact Or.inl rfl | exact Or.inr rfl) (hs : swapsWith e (some (.Name x pos')) pos.line X.env = pure false := by rfl)
    (hf : X.fn x = true ∨ X.env.scope.names.lookup x = some .local := by first | exact .inl rfl | exact .inr rfl) : PS X (.Assign [.Name x pos'] e pos) (tS X.K (Sset i fe)) :=
  psImp (ps_set hN hi hx h hs hf) fun E σ H ⟨θ, G, env, st, d, st', S, EN, hf, post⟩ => by
    obtain ⟨⟨x, st1⟩, h1, h2⟩ := Option.bind_eq_some_iff.mp hf
    cases h2
    exact tE.go S EN h1 fun θ1 G1 H1 v1 e1 S1 EN1 r1 => post _ _ _ e1 S1 _ (EN1.set r1 i)
theorem k_if {c : Expr} {a b : List Stmt} {gc : FT} (hc : PT X c (tT X.K gc)) (ha : PSs X a (tS X.K f)) (hb : PSs X b (tS X.K g)) : PS X (.If c a b pos) (tS X.K (Sif gc f g)) :=
  psImp (ps_if hc ha hb) fun E σ H ⟨θ, G, env, st, d, st', S, EN, hf, post⟩ => by
    obtain ⟨⟨x, st1⟩, h1, h2⟩ := Option.bind_eq_some_iff.mp hf
    refine tT.go S EN h1 fun θ1 G1 H1 e1 S1 EN1 => ?_
    cases x with
    | true =>
      rw [if_pos rfl] at h2 ⊢
      exact tS.go S1 EN1 h2 fun θ2 G2 H2 e2 S2 => post _ _ _ (e1.trans S1 e2) S2
    | false =>
      rw [if_neg Bool.false_ne_true] at h2 ⊢
      exact tS.go S1 EN1 h2 fun θ2 G2 H2 e2 S2 => post _ _ _ (e1.trans S1 e2) S2
theorem goSet {K : Frag} {θ : List Addr} {G H : Hp} {st st' : Sto} {o i v : D} {ov iv vv : V} {Q : Hp → Prop} (S : Sim K θ G H st) (ro : Rep K θ G ov o) (ri : Rep K θ G iv i) (rv : Rep K θ G vv v) (h : setD o i v st = some st')
    (k : ∀ H', Ext θ θ G G H H' → Sim K θ G H' st' → Q H') : rSetL ov iv vv H Q := by
  unfold setD at h
  split at h
  · split at h
    · rename_i es he
      obtain ⟨j, h1, h2⟩ := Option.map_eq_some_iff.mp h
      cases h2
      cases ri
      cases ro with
      | ref h3 =>
        obtain ⟨ob, h4, h5⟩ := S.at h3
        rw [he] at h4
        cases h4
        obtain ⟨ws, h6, h7⟩ := h5
        exact ⟨_, ws, _, j, rfl, rfl, h6, by rw [h7.len]; exact h1, k _ (Ext.set S h3 _) (S.set h3 (h7.set rv j))⟩
    · cases h
  · cases h
theorem k_setIx {o i : Expr} {fo fi : FE} {tpos : Pos} (h : PE X e (tE X.K fe)) (ho : PE X o (tE X.K fo)) (hi : PE X i (tE X.K fi))
    (ha : ∀ v, assign (.Subscript o i tpos) X.env v = (do
      let ov ← holding [v] (eval o X.env)
      let iv ← holding [v, ov] (eval i X.env)
      standAt tpos
      holding [v, ov, iv] (setItem ov iv v)
      release [v, ov, iv] []) := by intro _; rfl)
    (hs : swapsWithSole [.Subscript o i tpos] e pos.line X.env = pure false := by rfl) (hw : swappedStores [.Subscript o i tpos] e X.env = pure none := by rfl)
    (h1 : (assignEach [.Subscript o i tpos] X.env).map (·.2) = [assign (.Subscript o i tpos) X.env] := by rfl) : PS X (.Assign [.Subscript o i tpos] e pos) (tS X.K (SsetIx fo fi fe)) :=
  psImp (ps_asg h (pg_sub ho hi set_list ha) hs hw h1) fun E σ H ⟨θ, G, env, st, d, st', S, EN, hf, post⟩ => by
    obtain ⟨⟨x, st1⟩, h1, h2⟩ := Option.bind_eq_some_iff.mp hf
    obtain ⟨⟨y, st2⟩, h3, h4⟩ := Option.bind_eq_some_iff.mp h2
    obtain ⟨⟨z, st3⟩, h5, h6⟩ := Option.bind_eq_some_iff.mp h4
    obtain ⟨st4, h7, h8⟩ := Option.map_eq_some_iff.mp h6
    cases h8
    refine tE.go S EN h1 fun θ1 G1 H1 v1 e1 S1 EN1 r1 => tE.go S1 EN1 h3 fun θ2 G2 H2 v2 e2 S2 EN2 r2 => tE.go S2 EN2 h5 fun θ3 G3 H3 v3 e3 S3 EN3 r3 => ?_
    exact goSet S3 (r2.ext e3) r3 ((r1.ext e2).ext e3) h7 fun H' e4 S4 => post _ _ _ (((e1.trans S1 e2).trans S2 e3).trans S3 e4) S4 σ EN3
end
/-! op= -/
theorem pget {X : Cx} : PGet X (rIxL X.K) := by
  intro pins s σ H o i ov iv Q I ro ri h
  obtain ⟨p, xs, k, z, rfl, rfl, hq, he, q⟩ := h
  cases ro
  obtain ⟨t, rfl⟩ := ri
  obtain ⟨its, r, pl, hz⟩ := I.list hq
  obtain ⟨j, h1, h2, h3, h4, h5⟩ := atI_get he
  obtain ⟨w, ew, rw'⟩ := r.get h2
  have hl := r.length
  have hn := line63
  have fin : EP X pins σ Q w s := ⟨z, H, I, rw', q⟩
  by_cases h0 : 0 ≤ k
  · have hj : k.toNat = j := by rw [seqIndex_of h0 h5] at h1; exact Option.some.inj h1
    exact wpAny_getItem_list pl.isList h0 (by omega) (by rw [hj]; simpa using ew) fin
  · have hj : (k + (its.toArray.size : Int)).toNat = j := by
      rw [seqIndex_neg (by omega) h4] at h1
      rw [List.size_toArray, ← hl]
      exact Option.some.inj h1
    exact wpAny_getItem_list_neg pl.isList (by omega) (by rw [List.size_toArray] <;> omega) (by omega) (by rw [hj]; simpa using ew) fin
def Ip (K : Frag) (t : TIp) (f : F2) : Prop := ∀ θ G H st x y d e z st' Q, Sim K θ G H st → Rep K θ G x d → Rep K θ G y e → f d e st = some (z, st') → PostE K θ G H st' z Q → t x y H Q
def iaddI : F2 := fun x y st => match x, y with | .int i, .int j => some (.int (i + j), st) | _, _ => none
theorem s_iaddI {K : Frag} : Ip K (ipI fun i j => i + j) iaddI := by
  intro θ G H st x y d e z st' Q S rx ry h post
  unfold iaddI at h
  split at h
  · cases h; cases rx; cases ry
    exact ⟨_, _, rfl, rfl, post.same S (.int _)⟩
  · cases h
theorem s_isubI {K : Frag} : Ip K (ipI fun i j => i - j) subD := by
  intro θ G H st x y d e z st' Q S rx ry h post
  unfold subD at h
  split at h
  · cases h; cases rx; cases ry
    exact ⟨_, _, rfl, rfl, post.same S (.int _)⟩
  · cases h
section
variable {X : Cx} {e o i : Expr} {fe fo fi : FE} {pos : Pos} {op : Operator} {t : TIp} {f : F2}
theorem k_aug {j : Nat} {x : PySem.Str} {pos' : Pos} (hN : X.N.Nodup) (hp : PIp X op t) (hs : Ip X.K t f) (h : PE X e (tE X.K fe)) (hi : X.N[j]? = some x := by rfl) (hx : Loc X.env.scope x := by first | exact Or.inl rfl | exact Or.inr rfl)
    (hf : X.fn x = true ∨ X.env.scope.names.lookup x = some .local := by first | exact .inl rfl | exact .inr rfl) : PS X (.AugAssign (.Name x pos') op e pos) (tS X.K (Saug f j fe)) :=
  psImp (ps_aug hN hi hx h hp hf) fun E σ H ⟨θ, G, env, st, d, st', S, EN, hf, post⟩ => by
    unfold Saug at hf
    split at hf
    · rename_i x0 hx0
      obtain ⟨⟨y, st1⟩, h1, h2⟩ := Option.bind_eq_some_iff.mp hf
      obtain ⟨⟨z, st2⟩, h3, h4⟩ := Option.bind_eq_some_iff.mp h2
      cases h4
      obtain ⟨v0, hv0, r0⟩ := EN.2 _ _ hx0
      refine ⟨v0, hv0, tE.go S EN h1 fun θ1 G1 H1 v1 e1 S1 EN1 r1 => ?_⟩
      exact hs _ _ _ _ _ _ _ _ _ _ _ S1 (r0.ext e1) r1 h3 fun θ2 G2 H2 v2 e2 S2 r2 => post _ _ _ (e1.trans S1 e2) S2 _ ((EN1.ext e2).set r2 j)
    · cases hf
theorem k_augIx {tpos : Pos} (hp : PIp X op t) (hs : Ip X.K t f) (ho : PE X o (tE X.K fo)) (hi : PE X i (tE X.K fi)) (he : PE X e (tE X.K fe))
    (ha : ∀ ov iv new, augStore i ov iv new = (do holding [new, ov, iv] (setItem ov iv new); release [new, ov, iv] []; pure .next) := by intros; rfl) : PS X (.AugAssign (.Subscript o i tpos) op e pos) (tS X.K (SaugIx f fo fi fe)) :=
  psImp (ps_augS ho hi pget he hp set_list ha) fun E σ H ⟨θ, G, env, st, d, st', S, EN, hf, post⟩ => by
    obtain ⟨⟨x, st1⟩, h1, h2⟩ := Option.bind_eq_some_iff.mp hf
    obtain ⟨⟨y, st2⟩, h3, h4⟩ := Option.bind_eq_some_iff.mp h2
    obtain ⟨⟨z, st3⟩, h5, h6⟩ := Option.bind_eq_some_iff.mp h4
    obtain ⟨⟨u, st4⟩, h7, h8⟩ := Option.bind_eq_some_iff.mp h6
    obtain ⟨⟨w, st5⟩, h9, h10⟩ := Option.bind_eq_some_iff.mp h8
    obtain ⟨st6, h11, h12⟩ := Option.map_eq_some_iff.mp h10
    cases h12
    dsimp only at h3 h5 h7 h9 h11
    refine tE.go S EN h1 fun θ1 G1 H1 v1 e1 S1 EN1 r1 => tE.go S1 EN1 h3 fun θ2 G2 H2 v2 e2 S2 EN2 r2 => ?_
    have r1' := r1.ext e2
    -- the old item
    have hx : ∃ n, x = .ref n := by
      unfold setD at h11
      split at h11
      · exact ⟨_, rfl⟩
      · cases h11
    obtain ⟨n, rfl⟩ := hx
    have hy : ∃ k, y = .int k := by
      unfold setD at h11
      split at h11
      · exact ⟨_, rfl⟩
      · cases h11
    obtain ⟨k, rfl⟩ := hy
    cases r2
    simp only [ixD] at h5
    split at h5
    · rename_i ds hq
      obtain ⟨d', h13, h14⟩ := Option.map_eq_some_iff.mp h5
      cases h14
      obtain ⟨a, vs, rfl, h15, h16⟩ := sqD.ok S2 r1' hq
      obtain ⟨v, h17, h18⟩ := at_rep h16 h13
      refine ⟨a, vs, k, v, rfl, rfl, h15, h17, ?_⟩
      refine tE.go S2 EN2 h7 fun θ4 G4 H4 v4 e4 S4 EN4 r4 => ?_
      refine hs _ _ _ _ _ _ _ _ _ _ _ S4 (h18.ext e4) r4 h9 fun θ5 G5 H5 v5 e5 S5 r5 => ?_
      exact goSet S5 ((r1'.ext e4).ext e5) (.int k) r5 h11 fun H' e6 S6 => post _ _ _ ((((e1.trans S1 e2).trans S2 e4).trans S4 e5).trans S5 e6) S6 σ (EN4.ext e5)
    · cases h5
end

/-! ### targets -/
inductive Tg where
  | nm (i : Nat) | tp (ts : List Tg)
mutual
def bindT : Tg → D → Env → Option Env
  | .nm i, d, env => some (env.set i (some d))
  | .tp ts, .tup ds, env => bindTs ts ds env
  | .tp _, _, _ => none
def bindTs : List Tg → List D → Env → Option Env
  | [], [], env => some env
  | t :: ts, d :: ds, env => (bindT t d env).bind fun e => bindTs ts ds e
  | _, _, _ => none
end
mutual
def Tg.slots : Tg → List Nat
  | .nm i => [i]
  | .tp ts => Tg.slotss ts
def Tg.slotss : List Tg → List Nat
  | [] => []
  | t :: ts => t.slots ++ Tg.slotss ts
end
def offSlots (is : List Nat) (σ σ' : L2.St) : Prop := σ'.length = σ.length ∧ ∀ j, j ∉ is → σ'[j]? = σ[j]?
def tG (K : Frag) (t : Tg) : TG := fun v σ H Q => ∃ θ G st env d env', Sim K θ G H st ∧ EnvR K θ G σ env ∧ Rep K θ G v d ∧ bindT t d env = some env' ∧ ∀ σ', EnvR K θ G σ' env' → offSlots t.slots σ σ' → Q σ' H
def tGs (K : Frag) (ts : List Tg) : TGs := fun vs σ H Q => ∃ θ G st env ds env', Sim K θ G H st ∧ EnvR K θ G σ env ∧ Reps K θ G vs ds ∧ bindTs ts ds env = some env' ∧ ∀ σ', EnvR K θ G σ' env' → offSlots (Tg.slotss ts) σ σ' → Q σ' H
section
variable {X : Cx} {pos : Pos}
theorem pgImp {tg : Expr} {t t' : TG} (h : PG X tg t) (i : ∀ v σ H Q, t' v σ H Q → t v σ H Q) : PG X tg t' := ⟨fun pins s σ H v u Q I r q => h.run pins s σ H v u Q I r (i _ _ _ _ q)⟩
theorem pgsImp {tg : List Expr} {t t' : TGs} (h : PGs X tg t) (i : ∀ v σ H Q, t' v σ H Q → t v σ H Q) : PGs X tg t' := ⟨fun pins s σ H v u Q I r q => h.run pins s σ H v u Q I r (i _ _ _ _ q)⟩
theorem g_nm {i : Nat} {x : PySem.Str} (hN : X.N.Nodup) (hi : X.N[i]? = some x := by rfl) (hx : Loc X.env.scope x := by first | exact Or.inl rfl | exact Or.inr rfl) (hf : X.fn x = true ∨ X.env.scope.names.lookup x = some .local := by first | exact .inl rfl | exact .inr rfl) : PG X (.Name x pos) (tG X.K (.nm i)) :=
  pgImp (pg_name hN hi hx hf) fun v σ H Q ⟨θ, G, st, env, d, env', S, EN, r, hb, k⟩ => by
    cases hb
    exact k _ (EN.set r i) ⟨by simp, fun j hj => List.getElem?_set_ne (fun e => hj (by simp [Tg.slots, e]))⟩
theorem g_nil : PGs X [] (tGs X.K []) := pgsImp pgs_nil fun v σ H Q ⟨θ, G, st, env, ds, env', S, EN, r, hb, k⟩ => by
  cases r with
  | nil => cases hb; exact ⟨rfl, k σ EN ⟨rfl, fun _ _ => rfl⟩⟩
  | cons _ _ => simp [bindTs] at hb
theorem g_cons {e : Expr} {es : List Expr} {t : Tg} {ts : List Tg} (h1 : PG X e (tG X.K t)) (h2 : PGs X es (tGs X.K ts))
    (hs : (assignEach (e :: es) X.env).map (·.2) = assign e X.env :: (assignEach es X.env).map (·.2) := by rfl) : PGs X (e :: es) (tGs X.K (t :: ts)) :=
  pgsImp (pgs_cons h1 h2 hs) fun v σ H Q ⟨θ, G, st, env, ds, env', S, EN, r, hb, k⟩ => by
    cases r with
    | nil => simp [bindTs] at hb
    | cons r1 r2 =>
      obtain ⟨env1, h1, h2⟩ := Option.bind_eq_some_iff.mp (show ((bindT _ _ env).bind fun e => bindTs _ _ e) = some env' from hb)
      refine ⟨_, _, rfl, θ, G, st, env, _, env1, S, EN, r1, h1, fun σ1 EN1 o1 => ⟨θ, G, st, env1, _, env', S, EN1, r2, h2, fun σ2 EN2 o2 => k σ2 EN2 ⟨o2.1.trans o1.1, fun j hj => ?_⟩⟩⟩
      have hj2 : j ∉ t.slots ∧ j ∉ Tg.slotss ts := by simpa [Tg.slotss] using hj
      exact (o2.2 j hj2.2).trans (o1.2 j hj2.1)
theorem g_tp {es : List Expr} {k : Nat} {ts : List Tg} (h : PGs X es (tGs X.K ts)) (hc : X.calm = true := by rfl) (hn : (assignEach es X.env).length = ts.length := by rfl) (hst : (assignEach es X.env).findIdx? (·.1) = none := by rfl) : PG X (.Tuple es k pos) (tG X.K (.tp ts)) :=
  pgImp (pg_tup (n := ts.length) hc h hn hst) fun v σ H Q ⟨θ, G, st, env, d, env', S, EN, r, hb, kk⟩ => by
    have hlen : ∀ (ts : List Tg) (ds : List D) (e e' : Env), bindTs ts ds e = some e' → ds.length = ts.length := by
      intro ts
      induction ts with
      | nil =>
        intro ds e e' h
        cases ds with
        | nil => rfl
        | cons _ _ => simp [bindTs] at h
      | cons t ts ih =>
        intro ds e e' h
        cases ds with
        | nil => simp [bindTs] at h
        | cons x ds =>
          obtain ⟨e1, h1, h2⟩ := Option.bind_eq_some_iff.mp (show ((bindT _ _ e).bind fun e => bindTs _ _ e) = some e' from h)
          simp [ih ds e1 e' h2]
    cases r with
    | tup h1 h2 =>
      have hb' : bindTs ts _ env = some env' := hb
      exact ⟨_, _, rfl, S.t h1, by rw [h2.len]; exact hlen _ _ _ _ hb', θ, G, st, env, _, env', S, EN, h2, hb', fun σ' EN' o => kk σ' EN' o⟩
    | _ => cases hb
def Sbind (t : Tg) (f : FE) : FS := fun env st => (f env st).bind fun p => (bindT t p.1 env).map fun e => (.nx e, p.2)
theorem k_bind {tg e : Expr} {fe : FE} {t : Tg} (he : PE X e (tE X.K fe)) (hg : PG X tg (tG X.K t)) (hs : swapsWithSole [tg] e pos.line X.env = pure false := by rfl) (hw : swappedStores [tg] e X.env = pure none := by rfl)
    (h1 : (assignEach [tg] X.env).map (·.2) = [assign tg X.env] := by rfl) : PS X (.Assign [tg] e pos) (tS X.K (Sbind t fe)) :=
  psImp (ps_asg he hg hs hw h1) fun E σ H ⟨θ, G, env, st, d, st', S, EN, hf, post⟩ => by
    obtain ⟨⟨x, st1⟩, h1, h2⟩ := Option.bind_eq_some_iff.mp hf
    obtain ⟨env1, h3, h4⟩ := Option.map_eq_some_iff.mp h2
    cases h4
    exact tE.go S EN h1 fun θ1 G1 H1 v1 e1 S1 EN1 r1 => ⟨θ1, G1, st1, env, x, env1, S1, EN1, r1, h3, fun σ' EN' _ => post _ _ _ e1 S1 σ' EN'⟩
end

/-! ### what a for walks -/
abbrev Watch := List (Nat × List D)
def watchOk (w : Watch) (st : Sto) : Prop := ∀ p, p ∈ w → st[p.1]? = some (.lst p.2)
noncomputable instance watchDec {w : Watch} {st : Sto} : Decidable (watchOk w st) := Classical.propDecidable _
abbrev FI := Env → Sto → Option (List D × Watch × Sto)
def WkD (K : Frag) (J : It) (θ0 : List Addr) (G0 : Hp) (items : List D) (w : Watch) : Prop := ∃ (Gd : Hp → Prop) (Y : Nat → Hp → V → Hp → Prop), Walk J items.length Gd Y ∧
  (∀ θ G H st, (∃ l, θ = θ0 ++ l) → Gle G0 G → Sim K θ G H st → watchOk w st → Gd H) ∧
  (∀ i x H H' θ G st, i < items.length → (∃ l, θ = θ0 ++ l) → Gle G0 G → Sim K θ G H st → watchOk w st → Y i H x H' → ∃ G', Ext θ θ G G' H H' ∧ Sim K θ G' H' st ∧ ∃ d, items[i]? = some d ∧ Rep K θ G' x d)
def tI (K : Frag) (f : FI) : TI := fun σ H R => ∃ θ G env st items w st', Sim K θ G H st ∧ EnvR K θ G σ env ∧ f env st = some (items, w, st') ∧
  ∀ θ' G' H' J, Ext θ θ' G G' H H' → Sim K θ' G' H' st' → WkD K J θ' G' items w → R J H'
theorem piImp {X : Cx} {tg e : Expr} {t t' : TI} (h : PI X tg e t) (i : ∀ σ H Q, t' σ H Q → t σ H Q) : PI X tg e t' := ⟨fun pins s σ H Q I q => h.run pins s σ H Q I (i _ _ _ q)⟩
theorem piOr {X : Cx} {tg e : Expr} {t t' : TI} (h : PI X tg e t) (h' : PI X tg e t') : PI X tg e (fun σ H R => t σ H R ∨ t' σ H R) := ⟨fun pins s σ H Q I q => by
  rcases q with q | q
  · exact h.run pins s σ H Q I q
  · exact h'.run pins s σ H Q I q⟩
noncomputable def forL (w : Watch) (t : Tg) (body : FS) : List D → Env → Sto → Option (Fl × Sto)
  | [], env, st => if watchOk w st then some (.nx env, st) else none
  | x :: r, env, st => if watchOk w st then (bindT t x env).bind fun e1 => (body e1 st).bind fun p => match p.1 with
    | .nx e => forL w t body r e p.2
    | .ct e => forL w t body r e p.2
    | .bk e => some (.nx e, p.2)
    | .rt d => some (.rt d, p.2) else none
noncomputable def Sfor (fi : FI) (t : Tg) (body : FS) : FS := fun env st => (fi env st).bind fun p => forL p.2.1 t body p.1 env p.2.2
theorem forL.watch {w : Watch} {t : Tg} {body : FS} {xs : List D} {env : Env} {st : Sto} {r : Fl × Sto} (h : forL w t body xs env st = some r) : watchOk w st := by
  cases xs with
  | nil =>
    unfold forL at h
    split at h
    · assumption
    · cases h
  | cons x xs =>
    unfold forL at h
    split at h
    · assumption
    · cases h
theorem k_for {X : Cx} {tg iter : Expr} {b : List Stmt} {pos : Pos} {fi : FI} {t : Tg} {fb : FS} (hp : PassesOwn (model X.prog X.w) X.A X.env X.xe) (hc : X.calm = true) (hi : PI X tg iter (tI X.K fi)) (hg : PG X tg (tG X.K t)) (hb : PSs X b (tS X.K fb))
    (hs : ∀ x, foldedSetIterable iter X.env x = pure x := by intro _; rfl) : PS X (.For tg iter b [] pos) (tS X.K (Sfor fi t fb)) :=
  psImp (ps_for hp hc hi hg hb hs) fun E σ H ⟨θ, G, env, st, fl, st', S, EN, hf, post⟩ => by
    obtain ⟨⟨items, w, st1⟩, h1, h2⟩ := Option.bind_eq_some_iff.mp hf
    dsimp only at h2
    refine ⟨θ, G, env, st, items, w, st1, S, EN, h1, fun θ1 G1 H1 J e1 S1 ⟨Gd, Y, wk, w1, w2⟩ => ?_⟩
    refine for_it wk (fun i σ' H' => ∃ θ' G' env' st2, Ext θ1 θ' G1 G' H1 H' ∧ Sim X.K θ' G' H' st2 ∧ EnvR X.K θ' G' σ' env' ∧ forL w t fb (items.drop i) env' st2 = some (fl, st'))
      ⟨θ1, G1, env, st1, .refl, S1, EN.ext e1, h2⟩ ?_ ?_ ?_
    · rintro i σ' H' _ ⟨θ', G', env', st2, e2, S2, EN2, h3⟩
      exact w1 _ _ _ _ e2.pre e2.im S2 (forL.watch h3)
    · rintro i x σ' H2 H3 hi ⟨θ', G', env', st2, e2, S2, EN2, h3⟩ hY
      obtain ⟨G3, e3, S3, d, hd, rd⟩ := w2 i x H2 H3 θ' G' st2 hi e2.pre e2.im S2 (forL.watch h3) hY
      have hdr : items.drop i = d :: items.drop (i + 1) := by
        have hd' := (List.getElem?_eq_some_iff.mp hd).2
        rw [List.drop_eq_getElem_cons hi, hd']
      rw [hdr] at h3
      unfold forL at h3
      split at h3
      · obtain ⟨env1, h4, h5⟩ := Option.bind_eq_some_iff.mp h3
        obtain ⟨⟨fl1, st3⟩, h6, h7⟩ := Option.bind_eq_some_iff.mp h5
        refine ⟨θ', G3, st2, env', d, env1, S3, EN2.ext e3, rd, h4, fun σ2 EN3 _ => ?_⟩
        refine tS.go S3 EN3 h6 fun θ4 G4 H4 e4 S4 => ?_
        have e14 := (e2.trans S2 e3).trans S3 e4
        cases fl1 with
        | nx e => exact fun σ4 EN4 => ⟨θ4, G4, e, st3, e14, S4, EN4, h7⟩
        | ct e => exact fun σ4 EN4 => ⟨θ4, G4, e, st3, e14, S4, EN4, h7⟩
        | bk e =>
          cases h7
          exact fun σ4 EN4 => post _ _ _ (e1.trans S1 e14) S4 σ4 EN4
        | rt d' =>
          cases h7
          exact fun v r => post _ _ _ (e1.trans S1 e14) S4 v r
      · cases h3
    · rintro σ' H' ⟨θ', G', env', st2, e2, S2, EN2, h3⟩
      rw [List.drop_length] at h3
      unfold forL at h3
      split at h3
      · cases h3
        exact post _ _ _ (e1.trans S1 e2) S2 σ' EN2
      · cases h3

/-! ### sources -/
def watchOf : D → List D → Watch
  | .ref n, ds => [(n, ds)]
  | _, _ => []
def chars (s : PySem.Str) : List D := s.cps.toList.map fun c => .str ⟨#[c]⟩
def Iseq (f : FE) : FI := fun env st => (f env st).bind fun p => match p.1 with
  | .tup ds => some (ds, [], p.2)
  | .str s => some (chars s, [], p.2)
  | d => (sqD p.2 d).map fun ds => (ds, watchOf d ds, p.2)
def rangeL (lo : Int) (n : Nat) : List D := (List.range n).map fun i => .int (lo + (i : Nat))
def Irng1 (g : FA) : FI := fun env st => (g env st).bind fun p => match p.1 with
  | [.int n] => if -(2 ^ 62) ≤ n ∧ n < 2 ^ 62 then some (rangeL 0 n.toNat, [], p.2) else none
  | _ => none
def Irng2 (g : FA) : FI := fun env st => (g env st).bind fun p => match p.1 with
  | [.int lo, .int n] => if -(2 ^ 62) ≤ lo ∧ lo < 2 ^ 62 ∧ -(2 ^ 62) ≤ n ∧ n < 2 ^ 62 then some (rangeL lo (n - lo).toNat, [], p.2) else none
  | _ => none
def downL (hi : Int) (n : Nat) : List D := (List.range n).map fun i => .int (hi + (i : Nat) * (-1))
def Irng3 (g : FA) : FI := fun env st => (g env st).bind fun p => match p.1 with
  | [.int i, .int j, .int (-1)] => if -(2 ^ 62) ≤ i ∧ i < 2 ^ 62 ∧ -(2 ^ 62) ≤ j ∧ j < 2 ^ 62 then some (downL i (i - j).toNat, [], p.2) else none
  | _ => none
section
variable {K : Frag} {θ : List Addr} {G H : Hp} {st : Sto} {v : V} {d : D} {ds : List D}
theorem wk_list (S : Sim K θ G H st) (r : Rep K θ G v d) (h : sqD st d = some ds) : ∃ a, v = .ref a ∧ (∃ vs, SqL K H a vs) ∧ WkD K (Itl K a) θ G ds (watchOf d ds) := by
  obtain ⟨a, vs, rfl, h1, h2⟩ := sqD.ok S r h
  have key : ∀ θ' G' H' st', (∃ l, θ' = θ ++ l) → Gle G G' → Sim K θ' G' H' st' → watchOk (watchOf d ds) st' → ∃ vs, SqL K H' a vs ∧ Reps K θ' G' vs ds := by
    intro θ' G' H' st' p g S' w
    cases d with
    | ref n =>
      have hw : st'[n]? = some (.lst ds) := w (n, ds) (List.mem_singleton.mpr rfl)
      cases r with
      | ref h3 =>
        obtain ⟨o, h4, h5⟩ := S'.at (pre_at p h3)
        rw [hw] at h4
        cases h4
        obtain ⟨ws, h6, h7⟩ := h5
        exact ⟨ws, SqL.of h6, h7⟩
    | lst es =>
      cases h
      cases r with
      | lst h3 h4 => exact ⟨_, SqL.of (S'.sub _ _ (g _ _ h3)), h4.mono p g _ _⟩
    | sq es =>
      cases h
      cases r with
      | sq h3 h4 => exact ⟨_, S'.l (g.l h3), h4.mono p g _ _⟩
    | _ => cases h
  refine ⟨a, rfl, ⟨vs, h1⟩, fun H => ∃ vs, SqL K H a vs ∧ vs.length = ds.length, fun i H x H' => H' = H ∧ ∀ vs, SqL K H a vs → vs[i]? = some x, ⟨?_, ?_, ?_⟩, ?_, ?_⟩
  · rintro i H' hi ⟨ws, h3, h4⟩
    exact ⟨ws, ws[i]'(by omega), h3, List.getElem?_eq_getElem (by omega)⟩
  · rintro H' ⟨ws, h3, h4⟩
    exact ⟨ws, h3, by omega⟩
  · rintro i H1 x H2 hi _ h3
    exact h3
  · intro θ' G' H' st' p g S' w
    obtain ⟨ws, h3, h4⟩ := key θ' G' H' st' p g S' w
    exact ⟨ws, h3, h4.len⟩
  · rintro i x H1 H2 θ' G' st' hi p g S' w ⟨rfl, hY⟩
    obtain ⟨ws, h3, h4⟩ := key θ' G' _ st' p g S' w
    obtain ⟨d', h5, h6⟩ := h4.at' (hY ws h3)
    exact ⟨G', .refl, S', d', h5, h6⟩
theorem wk_tup (S : Sim K θ G H st) (r : Rep K θ G v (.tup ds)) : ∃ a, v = .ref a ∧ (∃ vs, SqT K H a vs) ∧ WkD K (Itt K a) θ G ds [] := by
  cases r with
  | @tup a vs _ h1 h2 =>
    refine ⟨a, rfl, ⟨_, S.t h1⟩, fun H => SqT K H a vs, YAt vs, by rw [← h2.len]; exact walk_tup, fun θ' G' H' st' p g S' w => S'.t (g.t h1), ?_⟩
    rintro i x H1 H2 θ' G' st' hi p g S' w ⟨rfl, hY⟩
    obtain ⟨d', h5, h6⟩ := (h2.mono p g _ _).at' hY
    exact ⟨G', .refl, S', d', h5, h6⟩
theorem wk_str {s : PySem.Str} : WkD K (Its s) θ G (chars s) [] := by
  have hl : (chars s).length = s.cps.size := by simp [chars]
  refine ⟨fun _ => True, _, by rw [hl]; exact walk_str, fun _ _ _ _ _ _ _ _ => trivial, ?_⟩
  rintro i x H1 H2 θ' G' st' hi p g S' w ⟨rfl, c, hc, rfl⟩
  exact ⟨G', .refl, S', .str ⟨#[c]⟩, by simp [chars, hc], .str _⟩
theorem wk_range {lo : Int} {n : Nat} : WkD K (Itr lo n) θ G (rangeL lo n) [] := by
  have hl : (rangeL lo n).length = n := by simp [rangeL]
  refine ⟨fun _ => True, _, by rw [hl]; exact walk_range, fun _ _ _ _ _ _ _ _ => trivial, ?_⟩
  rintro i x H1 H2 θ' G' st' hi p g S' w ⟨rfl, rfl⟩
  exact ⟨G', .refl, S', .int (lo + (i : Nat)), by rw [hl] at hi; simp [rangeL, hi], .int _⟩
theorem wk_down {hi : Int} {n : Nat} : WkD K (Itc hi (-1) n) θ G (downL hi n) [] := by
  have hl : (downL hi n).length = n := by simp [downL]
  refine ⟨fun _ => True, _, by rw [hl]; exact walk_rangeC, fun _ _ _ _ _ _ _ _ => trivial, ?_⟩
  rintro i x H1 H2 θ' G' st' hi p g S' w ⟨rfl, rfl⟩
  exact ⟨G', .refl, S', .int (_ + (i : Nat) * (-1)), by rw [hl] at hi; simp [downL, hi], .int _⟩
end
section
variable {X : Cx} {tg e : Expr} {fe : FE} {g : FA} {p pos : Pos}
theorem i_seq (h : PE X e (tE X.K fe)) : PI X tg e (tI X.K (Iseq fe)) :=
  piImp (piOr (pi_tup h) (piOr (pi_str h) (pi_list h))) fun σ H R ⟨θ, G, env, st, items, w, st', S, EN, hf, post⟩ => by
    obtain ⟨⟨x, st1⟩, h1, h2⟩ := Option.bind_eq_some_iff.mp hf
    dsimp only at h2
    split at h2
    · cases h2
      refine .inl (tE.go S EN h1 fun θ1 G1 H1 v1 e1 S1 EN1 r1 => ?_)
      obtain ⟨a, rfl, h3, h4⟩ := wk_tup S1 r1
      exact ⟨a, rfl, h3, post _ _ _ _ e1 S1 h4⟩
    · cases h2
      refine .inr (.inl (tE.go S EN h1 fun θ1 G1 H1 v1 e1 S1 EN1 r1 => ?_))
      cases r1
      exact ⟨_, rfl, post _ _ _ _ e1 S1 wk_str⟩
    · obtain ⟨ds, h3, h4⟩ := Option.map_eq_some_iff.mp h2
      cases h4
      refine .inr (.inr (tE.go S EN h1 fun θ1 G1 H1 v1 e1 S1 EN1 r1 => ?_))
      obtain ⟨a, rfl, h5, h6⟩ := wk_list S1 r1 h3
      exact ⟨a, rfl, h5, post _ _ _ _ e1 S1 h6⟩
theorem i_rng1 (hg : Gl X "range") (hm : X.mg "range" = none) (ha : PA X [e] (tA X.K g)) (hs : starEach [e] X.env = [(false, eval e X.env)] := by rfl) : PI X tg (.Call (.Name "range" p) [e] [] pos) (tI X.K (Irng1 g)) :=
  piImp (pi_range1 hg hm ha hs) fun σ H R ⟨θ, G, env, st, items, w, st', S, EN, hf, post⟩ => by
    obtain ⟨⟨x, st1⟩, h1, h2⟩ := Option.bind_eq_some_iff.mp hf
    dsimp only at h2
    split at h2
    · split at h2
      · rename_i hb
        cases h2
        refine tA.go S EN h1 fun θ1 G1 H1 v1 e1 S1 EN1 r1 => ?_
        cases r1 with
        | cons r1 r2 =>
          cases r1
          cases r2
          exact ⟨_, rfl, hb.1, hb.2, post _ _ _ _ e1 S1 wk_range⟩
      · cases h2
    · cases h2
theorem i_rng2 {e2 : Expr} (hg : Gl X "range") (hm : X.mg "range" = none) (ha : PA X [e, e2] (tA X.K g)) (hs : starEach [e, e2] X.env = [(false, eval e X.env), (false, eval e2 X.env)] := by rfl) (hs2 : starEach [e2] X.env = [(false, eval e2 X.env)] := by rfl) : PI X tg (.Call (.Name "range" p) [e, e2] [] pos) (tI X.K (Irng2 g)) :=
  piImp (pi_range2 hg hm ha hs hs2) fun σ H R ⟨θ, G, env, st, items, w, st', S, EN, hf, post⟩ => by
    obtain ⟨⟨x, st1⟩, h1, h2⟩ := Option.bind_eq_some_iff.mp hf
    dsimp only at h2
    split at h2
    · split at h2
      · rename_i hb
        cases h2
        refine tA.go S EN h1 fun θ1 G1 H1 v1 e1 S1 EN1 r1 => ?_
        cases r1 with
        | cons r1 r2 =>
          cases r1
          cases r2 with
          | cons r2 r3 =>
            cases r2
            cases r3
            exact ⟨_, _, rfl, hb, post _ _ _ _ e1 S1 wk_range⟩
      · cases h2
    · cases h2
theorem i_rng3 {e2 e3 : Expr} (hg : Gl X "range") (hm : X.mg "range" = none) (ha : PA X [e, e2, e3] (tA X.K g)) (hp : PI X tg (.Call (.Name "range" p) [e, e2, e3] [] pos) (iRng3 (tA X.K g))) : PI X tg (.Call (.Name "range" p) [e, e2, e3] [] pos) (tI X.K (Irng3 g)) :=
  piImp hp fun σ H R ⟨θ, G, env, st, items, w, st', S, EN, hf, post⟩ => by
    obtain ⟨⟨x, st1⟩, h1, h2⟩ := Option.bind_eq_some_iff.mp hf
    dsimp only at h2
    split at h2
    · split at h2
      · rename_i hb
        cases h2
        refine tA.go S EN h1 fun θ1 G1 H1 v1 e1 S1 EN1 r1 => ?_
        cases r1 with
        | cons r1 r2 =>
          cases r1
          cases r2 with
          | cons r2 r3 =>
            cases r2
            cases r3 with
            | cons r3 r4 =>
              cases r3
              cases r4
              exact ⟨_, _, _, _, rfl, RgC.neg hb.1 hb.2.1 hb.2.2.1 hb.2.2.2, post _ _ _ _ e1 S1 wk_down⟩
      · cases h2
    · cases h2
end

/-! ### list comprehensions -/
section
variable {K : Frag} {θ θ' : List Addr} {G G' H H' : Hp} {st : Sto} {p : Addr}
/-- what neither the store nor the lasting part knows may change -/
theorem Sim.other (S : Sim K θ G H st) (h1 : G p = none) (h2 : p ∉ θ) (o : HO) : Sim K θ G (upd H p o) st where
  sub := fun a u e => by
    have z : a ≠ p := fun z => by rw [z, h1] at e; cases e
    rw [upd_ne z]; exact S.sub a u e
  len := S.len
  nd := S.nd
  off := S.off
  obj := fun i a u e1 e2 => (S.obj i a u e1 e2).mono ⟨[], by simp⟩ (fun _ _ e => e) (upd_ne fun z => h2 (by rw [← z]; exact List.mem_of_getElem? e1))
theorem Ext.other (e : Ext θ θ' G G' H H') (h : H p = none) (o : HO) : Ext θ θ' G G' H (upd H' p o) where
  pre := e.pre
  im := e.im
  fr := fun a u q m => by
    have z : a ≠ p := fun z => by rw [z, h] at q; cases q
    rw [upd_ne z]; exact e.fr a u q m
  nθ := e.nθ
  nG := e.nG
theorem Sim.freeze (S : Sim K θ G H st) (h1 : G p = none) (h2 : p ∉ θ) {o : HO} (h3 : H p = some o) : Sim K θ (upd G p o) H st where
  sub := fun a u e => by
    by_cases z : a = p
    · rw [z, upd_same] at e; rw [z, h3]; exact e
    · rw [upd_ne z] at e; exact S.sub a u e
  len := S.len
  nd := S.nd
  off := fun a m => by rw [upd_ne (fun z => h2 (by rw [← z]; exact m))]; exact S.off a m
  obj := fun i a u e1 e2 => (S.obj i a u e1 e2).mono ⟨[], by simp⟩ (fun b x e => by
    have z : b ≠ p := fun z => by rw [z, h1] at e; cases e
    rw [upd_ne z]; exact e) rfl
theorem Ext.freeze (e : Ext θ θ' G G' H H') (h : H p = none) (h1 : G' p = none) (o : HO) : Ext θ θ' G (upd G' p o) H H' where
  pre := e.pre
  im := fun a u q => by
    have z : a ≠ p := fun z => by rw [z] at q; rw [e.im _ _ q] at h1; cases h1
    rw [upd_ne z]; exact e.im a u q
  fr := e.fr
  nθ := e.nθ
  nG := fun a u q n => by
    by_cases z : a = p
    · rw [z]; exact h
    · rw [upd_ne z] at q; exact e.nG a u q n
theorem Sim.adopt (S : Sim K θ G H st) (h1 : G p = none) (h2 : p ∉ θ) {vs : List V} {ds : List D} (h3 : H p = some (.lst vs)) (r : Reps K θ G vs ds) : Sim K (θ ++ [p]) G H (st ++ [.lst ds]) where
  sub := S.sub
  len := by simp [S.len]
  nd := by
    rw [List.nodup_append]
    refine ⟨S.nd, by simp, fun a ha b hb => ?_⟩
    rw [List.mem_singleton] at hb
    subst hb
    exact fun z => h2 (by rw [← z]; exact ha)
  off := fun a m => by
    rcases List.mem_append.mp m with m | m
    · exact S.off a m
    · rw [List.mem_singleton] at m
      subst m
      exact h1
  obj := fun i a o e1 e2 => by
    by_cases hi : i < θ.length
    · rw [List.getElem?_append_left hi] at e1
      rw [List.getElem?_append_left (by rw [← S.len]; exact hi)] at e2
      exact (S.obj i a o e1 e2).mono ⟨_, rfl⟩ (fun _ _ e => e) rfl
    · have hi2 : i = θ.length := by
        obtain ⟨hl, _⟩ := List.getElem?_eq_some_iff.mp e1
        simp at hl
        omega
      subst hi2
      rw [List.getElem?_append_right (Nat.le_refl _)] at e1
      rw [List.getElem?_append_right (by rw [S.len]; exact Nat.le_refl _), S.len] at e2
      simp at e1 e2
      subst e1
      subst e2
      exact ⟨vs, h3, r.mono ⟨_, rfl⟩ (fun _ _ e => e) _ _⟩
theorem Ext.adopt (e : Ext θ θ' G G' H H') (h : H p = none) : Ext θ (θ' ++ [p]) G G' H H' where
  pre := by
    obtain ⟨l, q⟩ := e.pre
    exact ⟨l ++ [p], by rw [q, List.append_assoc]⟩
  im := e.im
  fr := e.fr
  nθ := fun a m n => by
    rcases List.mem_append.mp m with m | m
    · exact e.nθ a m n
    · rw [List.mem_singleton] at m
      rw [m]
      exact h
  nG := e.nG
end
/-- the slots of a comprehension's own names forgotten -/
def wipeE (env : Env) : List Nat → Env
  | [] => env
  | v :: vs => (wipeE env vs).set v none
noncomputable def compL (w : Watch) (t : Tg) (test : FT) (elt : FE) (env : Env) : List D → Sto → Option (List D × Sto)
  | [], st => if watchOk w st then some ([], st) else none
  | x :: r, st => if watchOk w st then (bindT t x env).bind fun e1 => (test e1 st).bind fun b => if b.1 = true then (elt e1 b.2).bind fun y => (compL w t test elt env r y.2).bind fun q => some (y.1 :: q.1, q.2)
    else compL w t test elt env r b.2 else none
noncomputable def Ecmp (fi : FI) (t : Tg) (test : FT) (elt : FE) (own : List Nat) : FE := fun env st => (fi env st).bind fun p => if p.1.length ≤ 16777216 then (compL p.2.1 t test elt (wipeE env own) p.1 p.2.2).bind fun q => some (.lst q.1, q.2) else none
noncomputable def EcmpN (fi : FI) (t : Tg) (test : FT) (elt : FE) (own : List Nat) : FE := fun env st => (fi env st).bind fun p => if p.1.length ≤ 16777216 then (compL p.2.1 t test elt (wipeE env own) p.1 p.2.2).bind fun q => some (.ref q.2.length, q.2 ++ [.lst q.1]) else none
def Tyes : FT := fun _ st => some (true, st)
theorem compL.watch {w : Watch} {t : Tg} {test : FT} {elt : FE} {xs : List D} {env : Env} {st : Sto} {r : List D × Sto} (h : compL w t test elt env xs st = some r) : watchOk w st := by
  cases xs with
  | nil =>
    unfold compL at h
    split at h
    · assumption
    · cases h
  | cons x xs =>
    unfold compL at h
    split at h
    · assumption
    · cases h
theorem EnvR.wipe {K : Frag} {θ : List Addr} {G : Hp} {σ : L2.St} {env : Env} (r : EnvR K θ G σ env) : ∀ own : List Nat, EnvR K θ G (L2.wipe σ own) (wipeE env own)
  | [] => r
  | v :: vs => by
    have ih := EnvR.wipe r vs
    refine ⟨by simp [L2.wipe, wipeE, ih.1], fun i d h => ?_⟩
    unfold wipeE at h
    by_cases hi : v = i
    · subst hi
      by_cases hl : v < (wipeE env vs).length
      · rw [List.getElem?_set_self hl] at h; cases h
      · rw [List.getElem?_eq_none (by simpa using hl)] at h; cases h
    · rw [List.getElem?_set_ne hi] at h
      obtain ⟨x, h1, h2⟩ := ih.2 i d h
      exact ⟨x, by unfold L2.wipe; rw [List.getElem?_set_ne hi]; exact h1, h2⟩
theorem wipe_at (σ : L2.St) (i : Nat) : ∀ own : List Nat, (L2.wipe σ own)[i]? = if i ∈ own then (if i < σ.length then some none else none) else σ[i]?
  | [] => by simp [L2.wipe]
  | v :: vs => by
    unfold L2.wipe
    by_cases hi : v = i
    · subst hi
      by_cases hl : v < σ.length
      · rw [List.getElem?_set_self (by rw [wipe_length]; exact hl)]; simp [hl]
      · rw [List.getElem?_eq_none (by rw [List.length_set, wipe_length]; omega)]; simp [hl]
    · rw [List.getElem?_set_ne hi, wipe_at σ i vs]
      have : (i ∈ v :: vs) = (i ∈ vs) := by
        simp
        intro e
        exact absurd e.symm hi
      simp only [this]
theorem wipe_off {is own : List Nat} (hs : ∀ j, j ∈ is → j ∈ own) {σ σ' : L2.St} (o : offSlots is (L2.wipe σ own) σ') : L2.wipe σ' own = L2.wipe σ own := by
  refine List.ext_getElem? fun i => ?_
  have hl : σ'.length = σ.length := by rw [o.1, wipe_length]
  rw [wipe_at, wipe_at, hl]
  by_cases hi : i ∈ own
  · simp only [hi, if_true]
  · simp only [hi, if_false]
    rw [o.2 i (fun z => hi (hs i z)), wipe_at]
    simp only [hi, if_false]
def tTs (K : Frag) (f : FT) : TT := tT K f
section
variable {X : Cx}
theorem ptsImp {cs : List Expr} {t t' : TT} (h : PTs X cs t) (i : ∀ σ H Q, t' σ H Q → t σ H Q) : PTs X cs t' := ⟨fun pins s σ H Q I q => h.run pins s σ H Q I (i _ _ _ q)⟩
theorem l_nil : PTs X [] (tT X.K Tyes) := ptsImp pts_nil fun σ H Q ⟨θ, G, env, st, b, st', S, EN, hf, post⟩ => by
  cases hf
  exact post _ _ _ .refl S
theorem l_one {c : Expr} {f : FT} (h : PT X c (tT X.K f)) : PTs X [c] (tT X.K f) := pts_one h
end
theorem goComp {K : Frag} {fi : FI} {t : Tg} {test : FT} {elt : FE} {own : List Nat} (hs : ∀ j, j ∈ t.slots → j ∈ own) {θ : List Addr} {G H : Hp} {st st1 st' : Sto} {σ : L2.St} {env : Env} {items : List D} {w : Watch} {tot : List D} {Q : VK}
    (S : Sim K θ G H st) (EN : EnvR K θ G σ env) (h1 : fi env st = some (items, w, st1)) (hl : items.length ≤ 16777216) (h2 : compL w t test elt (wipeE env own) items st1 = some (tot, st'))
    (k : ∀ θ' G' H' Dl vs, Ext θ θ' G G' H H' → Sim K θ' G' H' st' → H Dl = none → G' Dl = none → Dl ∉ θ' → H' Dl = some (.lst vs) → Reps K θ' G' vs tot → Q (.ref Dl) H') :
    tLc (tI K fi) (tG K t) (tT K test) (tE K elt) own σ H Q := by
  refine ⟨θ, G, env, st, items, w, st1, S, EN, h1, fun θ1 G1 H1 J e1 S1 ⟨Gd, Y, wk, w1, w2⟩ Dl hD => ?_⟩
  have EN1 := EN.ext e1
  have hD0 : H Dl = none := by
    cases q : H Dl with
    | none => rfl
    | some o =>
      by_cases m : Dl ∈ θ
      · obtain ⟨l, hp⟩ := e1.pre
        obtain ⟨u, hu⟩ := S1.there (a := Dl) (by rw [hp]; exact List.mem_append_left _ m)
        rw [hu] at hD
        cases hD
      · rw [e1.fr Dl o q m] at hD
        cases hD
  have hD1 : Dl ∉ θ1 := fun m => by
    obtain ⟨u, hu⟩ := S1.there m
    rw [hu] at hD
    cases hD
  refine lc_it wk (D := Dl) (Qd := Q (.ref Dl)) (fun i H' => ∃ θ' G' st2 vs acc rest, Ext θ1 θ' G1 G' H1 H' ∧ Sim K θ' G' H' st2 ∧ G' Dl = none ∧ Dl ∉ θ' ∧ H' Dl = some (.lst vs) ∧ Reps K θ' G' vs acc ∧ acc.length ≤ i ∧
    compL w t test elt (wipeE env own) (items.drop i) st2 = some (rest, st') ∧ acc ++ rest = tot)
    ⟨θ1, G1, st1, [], [], tot, Ext.refl.other hD _, S1.other (S1.gnone hD) hD1 _, S1.gnone hD, hD1, upd_same, .nil, Nat.zero_le _, h2, rfl⟩ ?_ ?_ ?_
  · rintro i H' _ ⟨θ', G', st2, vs, acc, rest, e2, S2, _, _, _, _, _, h3, _⟩
    exact w1 _ _ _ _ e2.pre e2.im S2 (compL.watch h3)
  · rintro i x H2 H3 hi ⟨θ', G', st2, vs, acc, rest, e2, S2, n1, n2, hv, rv, hal, h3, ht⟩ hY
    obtain ⟨G3, e3, S3, d, hd, rd⟩ := w2 i x H2 H3 θ' G' st2 hi e2.pre e2.im S2 (compL.watch h3) hY
    have hdr : items.drop i = d :: items.drop (i + 1) := by
      have hd' := (List.getElem?_eq_some_iff.mp hd).2
      rw [List.drop_eq_getElem_cons hi, hd']
    have carry : ∀ {θa θb : List Addr} {Ga Gb Ha Hb : Hp} {stb : Sto} {ws : List V}, Ext θa θb Ga Gb Ha Hb → Ga Dl = none → Dl ∉ θa → Ha Dl = some (.lst ws) → Gb Dl = none ∧ Dl ∉ θb ∧ Hb Dl = some (.lst ws) := by
      intro θa θb Ga Gb Ha Hb stb ws e a1 a2 a3
      refine ⟨?_, fun m => ?_, e.fr _ _ a3 a2⟩
      · cases q : Gb Dl with
        | none => rfl
        | some o =>
          have := e.nG Dl o q a1
          rw [this] at a3
          cases a3
      · have := e.nθ Dl m a2
        rw [this] at a3
        cases a3
    obtain ⟨n31, n32, hv3⟩ := carry (stb := st2) e3 n1 n2 hv
    rw [hdr] at h3
    unfold compL at h3
    split at h3
    · obtain ⟨env1, h4, h5⟩ := Option.bind_eq_some_iff.mp h3
      obtain ⟨⟨b, st3⟩, h6, h7⟩ := Option.bind_eq_some_iff.mp h5
      have e13 := e2.trans S2 e3
      refine ⟨θ', G3, st2, wipeE env own, d, env1, S3, ((EN1.ext e2).ext e3).wipe own, rd, h4, fun σ2 EN3 o => ⟨wipe_off hs o, ?_⟩⟩
      refine tT.go S3 EN3 h6 fun θ4 G4 H4 e4 S4 EN4 => ?_
      obtain ⟨n41, n42, hv4⟩ := carry (stb := st2) e4 n31 n32 hv3
      cases b with
      | true =>
        rw [if_pos rfl] at h7 ⊢
        obtain ⟨⟨y, st4⟩, h8, h9⟩ := Option.bind_eq_some_iff.mp h7
        obtain ⟨⟨rest2, st5⟩, h10, h11⟩ := Option.bind_eq_some_iff.mp h9
        cases h11
        refine tE.go S4 EN4 h8 fun θ5 G5 H5 v5 e5 S5 EN5 r5 => ?_
        obtain ⟨n51, n52, hv5⟩ := carry (stb := st2) e5 n41 n42 hv4
        have rv5 := ((rv.ext e3).ext e4).ext e5
        have hvl : vs.length ≤ i := by rw [rv.len]; exact hal
        refine ⟨vs, hv5, szlt (by omega), θ5, G5, st4, vs ++ [v5], acc ++ [y], rest2, (((e13.trans S3 e4).trans S4 e5)).other hD _, S5.other n51 n52 _, n51, n52, upd_same, rv5.append (.cons r5 .nil), ?_, h10, by rw [← ht]; simp⟩
        rw [List.length_append]
        simp
        exact hal
      | false =>
        rw [if_neg Bool.false_ne_true] at h7 ⊢
        exact ⟨θ4, G4, st3, vs, acc, rest, e13.trans S3 e4, S4, n41, n42, hv4, (rv.ext e3).ext e4, by omega, h7, ht⟩
    · cases h3
  · rintro H' ⟨θ', G', st2, vs, acc, rest, e2, S2, n1, n2, hv, rv, hal, h3, ht⟩
    rw [List.drop_length] at h3
    unfold compL at h3
    split at h3
    · cases h3
      rw [List.append_nil] at ht
      subst ht
      exact k _ _ _ Dl vs (e1.trans S1 e2) S2 hD0 n1 n2 hv rv
    · cases h3
section
variable {K : Frag} {fi : FI} {t : Tg} {test : FT} {elt : FE} {own : List Nat} {σ : L2.St} {H : Hp} {Q : VK}
theorem goCmp (hs : ∀ j, j ∈ t.slots → j ∈ own) (h : tE K (Ecmp fi t test elt own) σ H Q) : tLc (tI K fi) (tG K t) (tT K test) (tE K elt) own σ H Q := by
  obtain ⟨θ, G, env, st, d, st', S, EN, hf, post⟩ := h
  obtain ⟨⟨items, w, st1⟩, h1, h2⟩ := Option.bind_eq_some_iff.mp hf
  dsimp only at h2
  split at h2
  · rename_i hl
    obtain ⟨⟨tot, st2⟩, h3, h4⟩ := Option.bind_eq_some_iff.mp h2
    cases h4
    refine goComp hs S EN h1 hl h3 fun θ' G' H' Dl vs e S' n0 n1 n2 hv r => ?_
    exact post _ _ _ _ (e.freeze n0 n1 _) (S'.freeze n1 n2 hv) (.lst upd_same (r.mono ⟨[], by simp⟩ (fun b x q => by
      have z : b ≠ Dl := fun z => by rw [z, n1] at q; cases q
      rw [upd_ne z]; exact q) _ _))
  · cases h2
theorem goCmpN (hs : ∀ j, j ∈ t.slots → j ∈ own) (h : tE K (EcmpN fi t test elt own) σ H Q) : tLc (tI K fi) (tG K t) (tT K test) (tE K elt) own σ H Q := by
  obtain ⟨θ, G, env, st, d, st', S, EN, hf, post⟩ := h
  obtain ⟨⟨items, w, st1⟩, h1, h2⟩ := Option.bind_eq_some_iff.mp hf
  dsimp only at h2
  split at h2
  · rename_i hl
    obtain ⟨⟨tot, st2⟩, h3, h4⟩ := Option.bind_eq_some_iff.mp h2
    cases h4
    refine goComp hs S EN h1 hl h3 fun θ' G' H' Dl vs e S' n0 n1 n2 hv r => ?_
    exact post _ _ _ _ (e.adopt n0) (S'.adopt n1 n2 hv r) (.ref (by rw [← S'.len, List.getElem?_append_right (Nat.le_refl _), Nat.sub_self]; rfl))
  · cases h2
end
section
variable {X : Cx} {elt tg iter : Expr} {ifs : List Expr} {scope : Scope} {own : List (PySem.Str × Nat)} {pos : Pos} {fi : FI} {t : Tg} {ft : FT} {fe : FE}
theorem c_cmp_ (hc : X.calm = true) (hN : X.N.Nodup) (hi : PI X tg iter (tI X.K fi)) (ok : BlkOk X.N X.env.scope scope own) (hsl : (t.slots.all fun j => (own.map (·.2)).contains j) = true)
    (hg : ∀ (s : Shared) (H : Hp) (C : Addr) (cl : List (PySem.Str × Addr)) (fp : List Addr), PG (X.blk s H scope (compEnvC scope cl C X.env) fp) tg (tG X.K t)) (ht : ∀ (s : Shared) (H : Hp) (C : Addr) (cl : List (PySem.Str × Addr)) (fp : List Addr), PTs (X.blk s H scope (compEnvC scope cl C X.env) fp) ifs (tT X.K ft))
    (he : ∀ (s : Shared) (H : Hp) (C : Addr) (cl : List (PySem.Str × Addr)) (fp : List Addr), PE (X.blk s H scope (compEnvC scope cl C X.env) fp) elt (tE X.K fe)) (hs : ∀ x, foldedSetIterable iter X.env x = pure x := by intro _; rfl) :
    PE X (.ListComp elt [⟨tg, iter, ifs, 0⟩] scope pos) (tE X.K (Ecmp fi t ft fe (own.map (·.2)))) :=
  peImp (pe_lc hc hN hi ok hg ht he hs) fun _ _ _ h => goCmp (fun j hj => by simpa using List.all_eq_true.mp hsl j hj) h
theorem c_cmpN (hc : X.calm = true) (hN : X.N.Nodup) (hi : PI X tg iter (tI X.K fi)) (ok : BlkOk X.N X.env.scope scope own) (hsl : (t.slots.all fun j => (own.map (·.2)).contains j) = true)
    (hg : ∀ (s : Shared) (H : Hp) (C : Addr) (cl : List (PySem.Str × Addr)) (fp : List Addr), PG (X.blk s H scope (compEnvC scope cl C X.env) fp) tg (tG X.K t)) (ht : ∀ (s : Shared) (H : Hp) (C : Addr) (cl : List (PySem.Str × Addr)) (fp : List Addr), PTs (X.blk s H scope (compEnvC scope cl C X.env) fp) ifs (tT X.K ft))
    (he : ∀ (s : Shared) (H : Hp) (C : Addr) (cl : List (PySem.Str × Addr)) (fp : List Addr), PE (X.blk s H scope (compEnvC scope cl C X.env) fp) elt (tE X.K fe)) (hs : ∀ x, foldedSetIterable iter X.env x = pure x := by intro _; rfl) :
    PE X (.ListComp elt [⟨tg, iter, ifs, 0⟩] scope pos) (tE X.K (EcmpN fi t ft fe (own.map (·.2)))) :=
  peImp (pe_lc hc hN hi ok hg ht he hs) fun _ _ _ h => goCmpN (fun j hj => by simpa using List.all_eq_true.mp hsl j hj) h
/-- name = [..] -/
theorem k_setC {i : Nat} {y : PySem.Str} {py spos : Pos} {g : FE} (hc : X.calm = true) (hN : X.N.Nodup) (hgo : ∀ σ H Q, tE X.K g σ H Q → tLc (tI X.K fi) (tG X.K t) (tT X.K ft) (tE X.K fe) (own.map (·.2)) σ H Q) (hi : PI X tg iter (tI X.K fi)) (ok : BlkOk X.N X.env.scope scope own)
    (hg : ∀ (s : Shared) (H : Hp) (C : Addr) (cl : List (PySem.Str × Addr)) (fp : List Addr), PG (X.blk s H scope (compEnvC scope cl C X.env) fp) tg (tG X.K t)) (ht : ∀ (s : Shared) (H : Hp) (C : Addr) (cl : List (PySem.Str × Addr)) (fp : List Addr), PTs (X.blk s H scope (compEnvC scope cl C X.env) fp) ifs (tT X.K ft))
    (he : ∀ (s : Shared) (H : Hp) (C : Addr) (cl : List (PySem.Str × Addr)) (fp : List Addr), PE (X.blk s H scope (compEnvC scope cl C X.env) fp) elt (tE X.K fe))
    (hsw : swapsWith (.ListComp elt [⟨tg, iter, ifs, 0⟩] scope pos) (some (.Name y py)) spos.line X.env = pure true) (hy : X.N[i]? = some y := by rfl) (hyl : X.env.scope.names.lookup y = some .local := by rfl) (hs : ∀ x, foldedSetIterable iter X.env x = pure x := by intro _; rfl) :
    PS X (.Assign [.Name y py] (.ListComp elt [⟨tg, iter, ifs, 0⟩] scope pos) spos) (tS X.K (Sset i g)) :=
  psImp (ps_setLc hc hN hy hyl hsw hi ok hg ht he hs) fun E σ H ⟨θ, G, env, st, d, st', S, EN, hf, post⟩ => by
    obtain ⟨⟨x, st1⟩, h1, h2⟩ := Option.bind_eq_some_iff.mp hf
    cases h2
    exact hgo _ _ _ (tE.go S EN h1 fun θ1 G1 H1 v1 e1 S1 EN1 r1 => post _ _ _ e1 S1 _ (EN1.set r1 i))
end

/-! ## defs -/
def runF (n : Nat) (body : FS) : FC := fun ds st => (body (ds.map some ++ List.replicate (n - ds.length) none) st).bind fun p => match p.1 with
  | .rt d => some (d, p.2)
  | .nx _ => some (.non, p.2)
  | _ => none
def spF (K : Frag) (np : Nat) (f : FC) : Sp := fun vs H Q _ => vs.length = np ∧ ∃ θ G st ds d st', Sim K θ G H st ∧ Reps K θ G vs ds ∧ f ds st = some (d, st') ∧ PostE K θ G H st' d Q
theorem start_rep {K : Frag} {θ : List Addr} {G : Hp} {vs : List V} {ds : List D} (r : Reps K θ G vs ds) (N : List PySem.Str) : EnvR K θ G (start N vs) (ds.map some ++ List.replicate (N.length - ds.length) none) := by
  refine ⟨by simp [L2.start, r.len], fun i d h => ?_⟩
  by_cases hi : i < ds.length
  · rw [List.getElem?_append_left (by simpa using hi), List.getElem?_map] at h
    obtain ⟨x, h1, h2⟩ := Option.map_eq_some_iff.mp h
    cases h2
    obtain ⟨v, h3, h4⟩ := r.at h1
    refine ⟨v, ?_, h4⟩
    unfold L2.start
    rw [List.getElem?_append_left (by simpa [r.len] using hi), List.getElem?_map, h3]
    rfl
  · rw [List.getElem?_append_right (by simpa using Nat.le_of_not_lt hi)] at h
    rw [List.getElem?_replicate] at h
    split at h <;> cases h
section
variable {P : Program} {w : World} {K : Frag} {mg : PySem.Str → Option Value} {base : Heap}
theorem fn_ok {x qual : PySem.Str} {st : Stmt} {f : Addr} {fd : FuncData} {N ps : List PySem.Str} {k : Nat} {fb : FS} (F : Fun K x qual st f fd) (S : FnScope N ps (defScope st))
    (hbody : ∀ (cdv : Value) (A : Around) (outer : List PySem.Env) (s : Shared) (H : Hp) (E : XK), Room k (A.deeper (envOfC qual (defScope st) s.heap.objs.size f cdv)) →
      PSs (cxOf CX0 P w K mg base N qual (defScope st) f cdv A outer s H E).nox (defBody st) (tS K fb)) : FnOk P w K mg base CX0 (k + 1) f fd ps (spF K ps.length (runF N.length fb)) := by
  refine F.ok S (fun vs H Q E h => h.1) (fun cdv A outer s H vs Q E hr h => ⟨_, hbody cdv A outer s H E hr, ?_⟩)
  obtain ⟨hl, θ, G, sto, ds, d, st', S', r, hf, post⟩ := h
  obtain ⟨⟨fl, st2⟩, h1, h2⟩ := Option.bind_eq_some_iff.mp hf
  refine tS.go S' (start_rep r N) h1 fun θ1 G1 H1 e1 S1 => ?_
  cases fl with
  | nx env => cases h2; exact fun σ _ => post _ _ _ _ e1 S1 .non
  | rt d' => cases h2; exact fun v r => post _ _ _ _ e1 S1 r
  | bk _ => cases h2
  | ct _ => cases h2
end
section
variable {X : Cx} {e : Expr} {es : List Expr} {g : FA} {pos p : Pos} {x : PySem.Str} {k np : Nat} {f : Addr} {fd : FuncData} {ps : List PySem.Str} {m : FC}
theorem goF {E : XK} (hl : ∀ ds st r, m ds st = some r → ds.length = np) {σ : L2.St} {H : Hp} {Q : VK} (h : tE X.K (EC m g) σ H Q) : tCall (spF X.K np m) [] E (tA X.K g) σ H Q := by
  obtain ⟨θ, G, env, st, d, st', S, EN, hf, post⟩ := h
  obtain ⟨⟨xs, st1⟩, h1, h2⟩ := Option.bind_eq_some_iff.mp hf
  refine tA.go S EN h1 fun θ1 G1 H1 v1 e1 S1 EN1 r1 => ?_
  rw [List.append_nil]
  exact ⟨by rw [r1.len]; exact hl _ _ _ h2, θ1, G1, st1, xs, d, st', S1, r1, h2, fun θ' G' H' v e s r => post _ _ _ _ (e1.trans S1 e) s r⟩
end
/-- exactly n arguments -/
def arN (n : Nat) (m : FC) : FC := fun ds st => if ds.length = n then m ds st else none
theorem arN.len {n : Nat} {m : FC} : ∀ ds st r, arN n m ds st = some r → ds.length = n := fun ds st r h => by
  unfold arN at h
  split at h
  · assumption
  · cases h
theorem sp_ar {P : Program} {w : World} {K : Frag} {mg : PySem.Str → Option Value} {base : Heap} {CX : CXT} {k n : Nat} {f : Addr} {fd : FuncData} {ps : List PySem.Str} {m : FC} (F : FnOk P w K mg base CX k f fd ps (spF K n m)) : FnOk P w K mg base CX k f fd ps (spF K n (arN n m)) :=
  F.imp fun vs H Q E ⟨hl, θ, G, st, ds, d, st', S, r, hf, post⟩ => ⟨hl, θ, G, st, ds, d, st', S, r, (by
    unfold arN at hf
    split at hf
    · exact hf
    · cases hf), post⟩
/-! what a call leaves in the store alone is dropped -/
mutual
def D.blw (n : Nat) : D → Prop
  | .ref i => i < n
  | .tup ds => belows n ds
  | .lst ds => belows n ds
  | .sq ds => belows n ds
  | _ => True
def belows (n : Nat) : List D → Prop
  | [] => True
  | d :: ds => d.blw n ∧ belows n ds
end
section
variable {K : Frag} {θ l : List Addr} {G : Hp}
mutual
theorem Rep.blw : ∀ (d : D) (v : V), Rep K θ G v d → d.blw θ.length
  | .ref n, _, h => by
    cases h with
    | ref h => exact (List.getElem?_eq_some_iff.mp h).1
  | .tup ds, _, h => by
    cases h with
    | tup _ h => exact Reps.blw ds _ h
  | .lst ds, _, h => by
    cases h with
    | lst _ h => exact Reps.blw ds _ h
  | .sq ds, _, h => by
    cases h with
    | sq _ h => exact Reps.blw ds _ h
  | .non, _, _ => trivial
  | .bl _, _, _ => trivial
  | .int _, _, _ => trivial
  | .str _, _, _ => trivial
  | .adr _, _, _ => trivial
  | .ty _, _, _ => trivial
theorem Reps.blw : ∀ (ds : List D) (vs : List V), Reps K θ G vs ds → belows θ.length ds
  | [], _, _ => trivial
  | d :: ds, _, h => by
    cases h with
    | cons h1 h2 => exact ⟨Rep.blw d _ h1, Reps.blw ds _ h2⟩
end
mutual
theorem Rep.back : ∀ (d : D) (v : V), d.blw θ.length → Rep K (θ ++ l) G v d → Rep K θ G v d
  | .ref n, _, b, h => by
    cases h with
    | ref h => exact .ref (by rw [List.getElem?_append_left b] at h; exact h)
  | .tup ds, _, b, h => by
    cases h with
    | tup h1 h => exact .tup h1 (Reps.back ds _ b h)
  | .lst ds, _, b, h => by
    cases h with
    | lst h1 h => exact .lst h1 (Reps.back ds _ b h)
  | .sq ds, _, b, h => by
    cases h with
    | sq h1 h => exact .sq h1 (Reps.back ds _ b h)
  | .non, _, _, h => by cases h; exact .non
  | .bl _, _, _, h => by cases h; exact .bl _
  | .int _, _, _, h => by cases h; exact .int _
  | .str _, _, _, h => by cases h; exact .str _
  | .adr _, _, _, h => by cases h; exact .adr _
  | .ty _, _, _, h => by cases h; exact .ty _
theorem Reps.back : ∀ (ds : List D) (vs : List V), belows θ.length ds → Reps K (θ ++ l) G vs ds → Reps K θ G vs ds
  | [], _, _, h => by cases h; exact .nil
  | d :: ds, _, b, h => by
    cases h with
    | cons h1 h2 => exact .cons (Rep.back d _ b.1 h1) (Reps.back ds _ b.2 h2)
end
end
open Classical in
noncomputable def gcF (m : FC) : FC := fun ds st => (m ds st).map fun p => if (∃ g, p.2 = st ++ g) ∧ p.1.blw st.length then (p.1, st) else p
theorem gcF.of {m : FC} {ds : List D} {st g : Sto} {d : D} (h : m ds st = some (d, st ++ g)) (b : D.blw st.length d) : gcF m ds st = some (d, st) := by
  unfold gcF
  rw [h]
  simp only [Option.map_some]
  rw [if_pos ⟨⟨g, rfl⟩, b⟩]
theorem sp_gc {P : Program} {w : World} {K : Frag} {mg : PySem.Str → Option Value} {base : Heap} {CX : CXT} {k n : Nat} {f : Addr} {fd : FuncData} {ps : List PySem.Str} {m : FC} (F : FnOk P w K mg base CX k f fd ps (spF K n m)) : FnOk P w K mg base CX k f fd ps (spF K n (gcF m)) :=
  F.imp fun vs H Q E ⟨hl, θ, G, st, ds, d, st', S, r, hf, post⟩ => by
    obtain ⟨⟨d2, st2⟩, h1, h2⟩ := Option.map_eq_some_iff.mp hf
    split at h2
    · rename_i hc
      obtain ⟨⟨g, hg⟩, hb⟩ := hc
      cases h2
      dsimp only at hg
      subst hg
      refine ⟨hl, θ, G, st, ds, _, _, S, r, h1, fun θ' G' H' v e S' rv => ?_⟩
      obtain ⟨l, rfl⟩ := e.pre
      have lθ : θ.length = st.length := S.len
      have S2 : Sim K θ G' H' st := ⟨S'.sub, S.len, S.nd, fun a m => S'.off a (List.mem_append_left _ m), fun i a o e1 e2 => by
        have hi : i < θ.length := (List.getElem?_eq_some_iff.mp e1).1
        have e3 : (θ ++ l)[i]? = some a := by rw [List.getElem?_append_left hi]; exact e1
        have e4 : (st ++ g)[i]? = some o := by rw [List.getElem?_append_left (by omega)]; exact e2
        have q := S'.obj i a o e3 e4
        have q0 := S.obj i a o e1 e2
        cases o with
        | lst es =>
          obtain ⟨ws, h3, h4⟩ := q
          obtain ⟨ws0, _, h5⟩ := q0
          exact ⟨ws, h3, Reps.back es ws (Reps.blw es ws0 h5) h4⟩⟩
      refine post θ G' H' v ⟨⟨[], by simp⟩, e.im, e.fr, fun a m n => absurd m n, e.nG⟩ S2 (Rep.back _ v (by rw [lθ]; exact hb) rv)
    · cases h2
      exact ⟨hl, θ, G, st, ds, d, st', S, r, h1, post⟩
/-- a def's own law, by an equal function -/
theorem sp_eq {P : Program} {w : World} {K : Frag} {mg : PySem.Str → Option Value} {base : Heap} {CX : CXT} {k n : Nat} {f : Addr} {fd : FuncData} {ps : List PySem.Str} {m m' : FC} (F : FnOk P w K mg base CX k f fd ps (spF K n m)) (h : ∀ ds st r, m' ds st = some r → m ds st = some r) : FnOk P w K mg base CX k f fd ps (spF K n m') :=
  F.imp fun vs H Q E ⟨hl, θ, G, st, ds, d, st', S, r, hf, post⟩ => ⟨hl, θ, G, st, ds, d, st', S, r, h _ _ _ hf, post⟩
section
variable {X : Cx} {e : Expr} {es : List Expr} {g : FA} {pos p : Pos} {x : PySem.Str} {k np : Nat} {f : Addr} {fd : FuncData} {ps : List PySem.Str} {m : FC}
theorem c_call (F : FnOk X.prog X.w X.K X.mg X.base CX0 k f fd ps (spF X.K np m)) (hr : Room k X.A) (hg : Gl X x) (hm : X.mg x = some (.ref f)) (hk : PySem.W.keepIn X.K (.ref f) = true) (hb : Binds X.K fd ps []) (ha : PA X (e :: es) (tA X.K g))
    (hdb : (x == ("__debug__" : PySem.Str)) = false := by decide) (he : starEach (e :: es) X.env = (false, eval e X.env) :: starEach es X.env := by rfl) (hpl : (backTo pos (starEach es X.env)).any (·.1) = false := by rfl) :
    PE X (.Call (.Name x p) (e :: es) [] pos) (tE X.K (EC (arN np m) g)) :=
  peImp (pe_call (sp_ar F) hr hg hm hk hb .nil pass0 ha hdb he hpl) fun _ _ _ h => goF arN.len h
end
/-- the law's own promise -/
def spLaw (K : Frag) : Sp := fun vs H Q _ => ∃ (a : Addr) (ns : List Int), vs = [.ref a] ∧ SqL K H a (ns.map V.int) ∧ ns.length ≤ 63 ∧ ∀ H', Q (.bl true) H'
theorem law_of {P : Program} {w : World} {K : Frag} {mg : PySem.Str → Option Value} {base : Heap} {CX : CXT} {k : Nat} {f : Addr} {fd : FuncData} {ps : List PySem.Str} {m : FC} (F : FnOk P w K mg base CX k f fd ps (spF K 1 m))
    (h : ∀ ns : List Int, ns.length ≤ 63 → ∃ st, m [.sq (ns.map D.int)] [] = some (.bl true, st)) : FnOk P w K mg base CX k f fd ps (spLaw K) :=
  F.imp fun vs H Q E ⟨a, ns, hv, hs, hl, q⟩ => by
    obtain ⟨st, hm⟩ := h ns hl
    subst hv
    refine ⟨rfl, [], H, [], [.sq (ns.map D.int)], .bl true, st, ⟨fun _ _ h => h, rfl, List.nodup_nil, (fun a m => nomatch m), (fun i a o e => by simp at e)⟩, .cons (.sq hs (Reps.of_ints ns)) .nil, hm, ?_⟩
    intro θ' G' H' v _ _ r
    cases r
    exact q H'

/-! ### more of the operators -/
def E1 (f : D → Sto → Option (D × Sto)) (fa : FE) : FE := fun env st => (fa env st).bind fun p => f p.1 p.2
def negD : D → Sto → Option (D × Sto) := fun x st => match x with
  | .int i => some (.int (-i), st)
  | _ => none
def mulD : F2 := fun x y st => match x, y with
  | .int i, .int j => if mulOk i j then some (.int (i * j), st) else none
  | .tup ds, .int k => if ds ≠ [] ∧ 2 ≤ k ∧ k ≤ 1000 ∧ ds.length ≤ 1000 then some (.tup (List.replicate k.toNat ds).flatten, st) else none
  | x, .int k => match lsD st x with
    | some ds => if -(2 ^ 63) ≤ k ∧ k < 2 ^ 63 ∧ ds.length * k.toNat ≤ 16777216 then some (.lst (List.replicate k.toNat ds).flatten, st) else none
    | none => none
  | _, _ => none
theorem Reps.rep {K : Frag} {θ : List Addr} {G : Hp} {vs : List V} {ds : List D} (r : Reps K θ G vs ds) : ∀ n : Nat, Reps K θ G (List.replicate n vs).flatten (List.replicate n ds).flatten
  | 0 => .nil
  | n + 1 => by
    rw [List.replicate_succ, List.replicate_succ, List.flatten_cons, List.flatten_cons]
    exact r.append (Reps.rep r n)
def rMulA (K : Frag) : R2 := fun x y H Q => rI CMul (fun i j => .int (i * j)) x y H Q ∨ rRepT K x y H Q ∨ rRep x y H Q
theorem o_mul {X : Cx} : OpR X (binaryOp .Mult) (rMulA X.K) := op_mul.or (op_repT.or op_rep)
theorem s_mul {K : Frag} : Op2 K (rMulA K) mulD := by
  intro θ G H st x y d e z st' Q S rx ry h post
  unfold mulD at h
  split at h
  · split at h
    · rename_i hm
      cases h; cases rx; cases ry
      exact .inl ⟨_, _, rfl, rfl, hm, post.same S (.int _)⟩
    · cases h
  · split at h
    · rename_i ds k hm
      cases h; cases ry
      cases rx with
      | tup h1 h2 =>
        refine .inr (.inl ⟨_, _, _, rfl, rfl, S.t h1, fun e => ?_, hm.2.1, hm.2.2.1, by rw [h2.len]; exact hm.2.2.2, fun p hp => post.newT S hp (h2.rep _)⟩)
        subst e
        cases h2
        exact hm.1 rfl
    · cases h
  · split at h
    · rename_i ds hq
      split at h
      · rename_i hm
        cases h; cases ry
        obtain ⟨a, vs, rfl, h1, h2⟩ := lsD.ok S rx hq
        exact .inr (.inr ⟨_, _, vs, rfl, rfl, h1, hm.1, hm.2.1, by rw [h2.len]; exact szl hm.2.2, fun p hp => post.newL S hp (h2.rep _)⟩)
      · cases h
    · cases h
  · cases h
section
variable {X : Cx} {a b : Expr} {fa fb : FE} {pos : Pos}
theorem c_mul (ha : PE X a (tE X.K fa)) (hb : PE X b (tE X.K fb)) : PE X (.BinOp a .Mult b pos) (tE X.K (E2 mulD fa fb)) := c_op o_mul s_mul ha hb
theorem c_neg (ha : PE X a (tE X.K fa)) : PE X (.UnaryOp .USub a pos) (tE X.K (E1 negD fa)) :=
  peImp (pe_un un_neg ha) fun σ H Q ⟨θ, G, env, st, d, st', S, EN, hf, post⟩ => by
    obtain ⟨⟨x, st1⟩, h1, h2⟩ := Option.bind_eq_some_iff.mp hf
    unfold negD at h2
    split at h2
    · cases h2
      rename_i he
      dsimp only at he
      subst he
      refine tE.go S EN h1 fun θ1 G1 H1 v1 e1 S1 EN1 r1 => ?_
      cases r1
      exact ⟨_, rfl, post _ _ _ _ e1 S1 (.int _)⟩
    · cases h2
theorem c_gintE {x : PySem.Str} {i : Int} (hg : Gl X x) (hm : ∃ t, X.mg x = some (.int i t)) (hd : (x == ("__debug__" : PySem.Str)) = false := by decide) : PE X (.Name x pos) (tE X.K (Ec (.int i))) := by
  obtain ⟨t, h⟩ := hm
  exact c_gint hg h hd
theorem c_gstrE {x : PySem.Str} {i : PySem.Str} (hg : Gl X x) (hm : ∃ t, X.mg x = some (.str i t)) (hd : (x == ("__debug__" : PySem.Str)) = false := by decide) : PE X (.Name x pos) (tE X.K (Ec (.str i))) := by
  obtain ⟨t, h⟩ := hm
  exact c_gstr hg h hd
end

/-! ## reckoning with the readings -/
def bnd {α β : Type} (o : Option α) (f : α → Option β) : Option β := o.bind f
theorem bnd_some {α β : Type} (a : α) (f : α → Option β) : bnd (some a) f = f a := rfl
theorem bnd_none {α β : Type} (f : α → Option β) : bnd none f = none := rfl
theorem bnd_congr {α β : Type} {o o' : Option α} {f : α → Option β} (h : o = o') : bnd o f = bnd o' f := by rw [h]
section
variable {env : Env} {st : Sto} {fa fb fc fo fi fe fv : FE} {ga gb : FT} {g : FA} {f f' : F2} {fC : FC} {s s' : FS}
theorem q_v (i : Nat) : Ev i env st = match env[i]? with | some (some d) => some (d, st) | _ => none := rfl
theorem q_c (d : D) : Ec d env st = some (d, st) := rfl
theorem q_2 : E2 f fa fb env st = bnd (fa env st) fun p => bnd (fb env p.2) fun q => f p.1 q.1 q.2 := rfl
theorem q_1 {f : D → Sto → Option (D × Sto)} : E1 f fa env st = bnd (fa env st) fun p => f p.1 p.2 := rfl
theorem q_3 : E3 f f' fa fb fc env st = bnd (fa env st) fun p => bnd (fb env p.2) fun q => bnd (f p.1 q.1 q.2) fun r => match r.1 with
  | .bl true => bnd (fc env r.2) fun u => f' q.1 u.1 u.2
  | .bl false => some (.bl false, r.2)
  | _ => none := rfl
theorem q_nil : Anil env st = some ([], st) := rfl
theorem q_cons : Acons fa g env st = bnd (fa env st) fun p => bnd (g env p.2) fun q => some (p.1 :: q.1, q.2) := rfl
theorem q_tup : Etup g env st = bnd (g env st) fun p => if p.1.length ≤ 16777216 then some (.tup p.1, p.2) else none := rfl
theorem q_lst : Elst g env st = bnd (g env st) fun p => if p.1.length ≤ 16777216 then some (.lst p.1, p.2) else none := rfl
theorem q_new : Enew g env st = bnd (g env st) fun p => if p.1.length ≤ 16777216 then some (.ref p.2.length, p.2 ++ [.lst p.1]) else none := rfl
theorem q_call : EC fC g env st = bnd (g env st) fun p => fC p.1 p.2 := rfl
theorem q_ar (n : Nat) (ds : List D) : arN n fC ds st = if ds.length = n then fC ds st else none := rfl
theorem q_tb : Tb fa env st = bnd (fa env st) fun p => match p.1 with | .bl b => some (b, p.2) | _ => none := by
  unfold Tb
  cases h : fa env st with
  | none => rfl
  | some p =>
    obtain ⟨x, y⟩ := p
    cases x <;> rfl
theorem q_tt : Tt fa env st = bnd (fa env st) fun p => bnd (truD p.2 p.1) fun b => some (b, p.2) := by
  unfold Tt bnd
  cases h : fa env st with
  | none => rfl
  | some p =>
    cases h2 : truD p.2 p.1 with
    | none => simp only [Option.bind_some, Option.map]; rw [h2]; rfl
    | some b => simp only [Option.bind_some, Option.map]; rw [h2]; rfl
theorem q_and : Tand ga gb env st = bnd (ga env st) fun p => if p.1 = true then gb env p.2 else some (false, p.2) := rfl
theorem q_or : Tor ga gb env st = bnd (ga env st) fun p => if p.1 = true then some (true, p.2) else gb env p.2 := rfl
theorem q_not : Tnot ga env st = bnd (ga env st) fun p => some (!p.1, p.2) := rfl
theorem q_yes : Tyes env st = some (true, st) := rfl
theorem q_eand : Eand fa fb env st = bnd (fa env st) fun p => bnd (truD p.2 p.1) fun b => if b = true then fb env p.2 else some (p.1, p.2) := rfl
theorem q_eor : Eor fa fb env st = bnd (fa env st) fun p => bnd (truD p.2 p.1) fun b => if b = true then some (p.1, p.2) else fb env p.2 := rfl
theorem q_enot : Enot fa env st = bnd (fa env st) fun p => bnd (truD p.2 p.1) fun b => some (.bl (!b), p.2) := by
  unfold Enot bnd
  cases h : fa env st with
  | none => rfl
  | some p =>
    cases h2 : truD p.2 p.1 with
    | none => simp only [Option.bind_some, Option.map]; rw [h2]; rfl
    | some b => simp only [Option.bind_some, Option.map]; rw [h2]; rfl
theorem q_if : Eif ga fa fb env st = bnd (ga env st) fun p => if p.1 = true then fa env p.2 else fb env p.2 := rfl
theorem q_snil : Snil env st = some (.nx env, st) := rfl
theorem q_seq : Sseq s s' env st = bnd (s env st) fun p => match p.1 with | .nx e => s' e p.2 | r => some (r, p.2) := rfl
theorem q_ret : Sret fa env st = bnd (fa env st) fun p => some (.rt p.1, p.2) := rfl
theorem q_retN : SretN env st = some (.rt .non, st) := rfl
theorem q_exp : Sexp fa env st = bnd (fa env st) fun p => some (.nx env, p.2) := rfl
theorem q_set (i : Nat) : Sset i fa env st = bnd (fa env st) fun p => some (.nx (env.set i (some p.1)), p.2) := rfl
theorem q_brk : Sbrk env st = some (.bk env, st) := rfl
theorem q_ctn : Sctn env st = some (.ct env, st) := rfl
theorem q_sif : Sif ga s s' env st = bnd (ga env st) fun p => if p.1 = true then s env p.2 else s' env p.2 := rfl
theorem q_setIx : SsetIx fo fi fv env st = bnd (fv env st) fun p => bnd (fo env p.2) fun q => bnd (fi env q.2) fun r => bnd (setD q.1 r.1 p.1 r.2) fun st' => some (.nx env, st') := by
  unfold SsetIx bnd
  congr 1; funext p; congr 1; funext q; congr 1; funext r
  cases setD q.1 r.1 p.1 r.2 <;> rfl
theorem q_aug (i : Nat) : Saug f i fe env st = match env[i]? with
  | some (some x) => bnd (fe env st) fun p => bnd (f x p.1 p.2) fun q => some (.nx (env.set i (some q.1)), q.2)
  | _ => none := rfl
theorem q_augIx : SaugIx f fo fi fe env st = bnd (fo env st) fun p => bnd (fi env p.2) fun q => bnd (ixD p.1 q.1 q.2) fun r => bnd (fe env r.2) fun u => bnd (f r.1 u.1 u.2) fun w => bnd (setD p.1 q.1 w.1 w.2) fun st' => some (.nx env, st') := by
  unfold SaugIx bnd
  congr 1; funext p; congr 1; funext q; congr 1; funext r; congr 1; funext u; congr 1; funext w
  cases setD p.1 q.1 w.1 w.2 <;> rfl
theorem q_bind (t : Tg) : Sbind t fa env st = bnd (fa env st) fun p => bnd (bindT t p.1 env) fun e => some (.nx e, p.2) := by
  unfold Sbind bnd
  congr 1; funext p
  cases bindT t p.1 env <;> rfl
theorem q_run (n : Nat) (ds : List D) : runF n s ds st = bnd (s (ds.map some ++ List.replicate (n - ds.length) none) st) fun p => match p.1 with
  | .rt d => some (d, p.2)
  | .nx _ => some (.non, p.2)
  | _ => none := rfl
theorem q_for {i : FI} {t : Tg} {b : FS} : Sfor i t b env st = bnd (i env st) fun p => forL p.2.1 t b p.1 env p.2.2 := rfl
theorem q_cmp {i : FI} {t : Tg} {own : List Nat} : Ecmp i t ga fe own env st = bnd (i env st) fun p => if p.1.length ≤ 16777216 then bnd (compL p.2.1 t ga fe (wipeE env own) p.1 p.2.2) fun q => some (.lst q.1, q.2) else none := rfl
theorem q_cmpN {i : FI} {t : Tg} {own : List Nat} : EcmpN i t ga fe own env st = bnd (i env st) fun p => if p.1.length ≤ 16777216 then bnd (compL p.2.1 t ga fe (wipeE env own) p.1 p.2.2) fun q => some (.ref q.2.length, q.2 ++ [.lst q.1]) else none := rfl
theorem q_iseq : Iseq fa env st = bnd (fa env st) fun p => match p.1 with
  | .tup ds => some (ds, [], p.2)
  | .str s => some (chars s, [], p.2)
  | d => bnd (sqD p.2 d) fun ds => some (ds, watchOf d ds, p.2) := by
  unfold Iseq bnd
  congr 1; funext p
  obtain ⟨x, y⟩ := p
  cases x <;> first | rfl | (dsimp only; generalize sqD _ _ = o; cases o <;> rfl)
theorem q_rng1 : Irng1 g env st = bnd (g env st) fun p => match p.1 with
  | [.int n] => if -(2 ^ 62) ≤ n ∧ n < 2 ^ 62 then some (rangeL 0 n.toNat, [], p.2) else none
  | _ => none := rfl
theorem q_rng2 : Irng2 g env st = bnd (g env st) fun p => match p.1 with
  | [.int lo, .int n] => if -(2 ^ 62) ≤ lo ∧ lo < 2 ^ 62 ∧ -(2 ^ 62) ≤ n ∧ n < 2 ^ 62 then some (rangeL lo (n - lo).toNat, [], p.2) else none
  | _ => none := rfl
theorem q_em {T : String} {f : FM} : EM T f fo g env st = bnd (fo env st) fun p => match p.1 with
  | .str s => if T = "str" then bnd (g env p.2) fun q => f (.str s) q.1 q.2 else none
  | d => if T = "list" then bnd (sqD p.2 d) fun _ => bnd (g env p.2) fun q => f d q.1 q.2 else none := rfl
/-! by values -/
theorem v_addI (i j : Int) : addD (.int i) (.int j) st = some (.int (i + j), st) := rfl
theorem v_addS (a b : PySem.Str) : addD (.str a) (.str b) st = if a.length + b.length ≤ 16777216 then some (.str (a ++ b), st) else none := rfl
theorem v_addT (a b : List D) : addD (.tup a) (.tup b) st = if a.length + b.length ≤ 16777216 then some (.tup (a ++ b), st) else none := rfl
theorem v_sub (i j : Int) : subD (.int i) (.int j) st = some (.int (i - j), st) := rfl
theorem v_mul (i j : Int) : mulD (.int i) (.int j) st = if mulOk i j then some (.int (i * j), st) else none := rfl
theorem v_fdiv (i j : Int) : fdivD (.int i) (.int j) st = if 0 < j ∧ j < 18446744073709551616 then some (.int (i / j), st) else none := rfl
theorem v_mod (i j : Int) : modD (.int i) (.int j) st = if 0 < j then some (.int (i % j), st) else none := rfl
theorem v_neg (i : Int) : negD (.int i) st = some (.int (-i), st) := rfl
theorem v_lt (i j : Int) : ltD (.int i) (.int j) st = some (.bl (decide (i < j)), st) := rfl
theorem v_le (i j : Int) : leD (.int i) (.int j) st = some (.bl (decide (i ≤ j)), st) := rfl
theorem v_gt (i j : Int) : gtD (.int i) (.int j) st = some (.bl (decide (j < i)), st) := rfl
theorem v_ge (i j : Int) : geD (.int i) (.int j) st = some (.bl (decide (j ≤ i)), st) := rfl
theorem v_isn (b : Bool) (x : D) : isnD b x .non st = some (.bl (if b then !isNon x else isNon x), st) := rfl
theorem v_iadd (i j : Int) : iaddI (.int i) (.int j) st = some (.int (i + j), st) := rfl
theorem v_pow (i j : Int) : powD (.int i) (.int j) st = if 0 ≤ j ∧ j ≤ 1000000 ∧ i.natAbs < 18446744073709551616 then some (.int (i ^ j.toNat), st) else none := rfl
theorem v_abs (i : Int) : fAbs [.int i] st = some (.int (if i < 0 then -i else i), st) := rfl
theorem v_intI (i : Int) : fInt [.int i] st = some (.int i, st) := rfl
theorem v_intB (b : Bool) : fInt [.bl b] st = some (.int (if b then 1 else 0), st) := rfl
theorem v_lenT (ds : List D) : fLen [.tup ds] st = some (.int ds.length, st) := rfl
theorem v_lenL (ds : List D) : fLen [.lst ds] st = some (.int ds.length, st) := rfl
theorem v_lenQ (ds : List D) : fLen [.sq ds] st = some (.int ds.length, st) := rfl
theorem v_lenR (n : Nat) : fLen [.ref n] st = bnd st[n]? fun | .lst ds => some (.int ds.length, st) := by
  unfold fLen sqD bnd
  cases h : st[n]? with
  | none => simp only [h]; rfl
  | some o => cases o; simp only [h]; rfl
theorem v_ixT (ds : List D) (i : Int) : ixD (.tup ds) (.int i) st = bnd (atI ds i) fun d => some (d, st) := by
  unfold ixD bnd
  cases h : atI ds i <;> simp [h]
theorem v_ixL (ds : List D) (i : Int) : ixD (.lst ds) (.int i) st = bnd (atI ds i) fun d => some (d, st) := by
  unfold ixD bnd
  cases h : atI ds i <;> simp [h, sqD]
theorem v_ixQ (ds : List D) (i : Int) : ixD (.sq ds) (.int i) st = bnd (atI ds i) fun d => some (d, st) := by
  unfold ixD bnd
  cases h : atI ds i <;> simp [h, sqD]
theorem v_ixR (n : Nat) (i : Int) : ixD (.ref n) (.int i) st = bnd st[n]? fun | .lst ds => bnd (atI ds i) fun d => some (d, st) := by
  unfold ixD bnd
  cases h : st[n]? with
  | none => simp [h, sqD]
  | some o =>
    cases o with
    | lst ds => cases h2 : atI ds i <;> simp [h, sqD, h2]
theorem v_ixS (z : PySem.Str) (i : Int) : ixD (.str z) (.int i) st = if z.length ≤ 16777216 then bnd (atI z.cps.toList i) fun c => some (.str ⟨#[c]⟩, st) else none := by
  unfold ixD bnd
  cases h : atI z.cps.toList i <;> simp [h]
theorem v_set (n : Nat) (k : Int) (v : D) : setD (.ref n) (.int k) v st = bnd st[n]? fun | .lst es => bnd (ixN es.length k) fun j => some (st.set n (.lst (es.set j v))) := by
  unfold setD bnd
  cases h : st[n]? with
  | none => simp [h]
  | some o =>
    cases o with
    | lst ds => cases h2 : ixN ds.length k <;> simp [h, h2]
theorem v_eqI (i j : Int) : eqD false (.int i) (.int j) st = some (.bl (i == j), st) := rfl
theorem v_neI (i j : Int) : eqD true (.int i) (.int j) st = some (.bl (!(i == j)), st) := rfl
theorem v_eqS (i j : PySem.Str) : eqD false (.str i) (.str j) st = some (.bl (i == j), st) := rfl
theorem v_neS (i j : PySem.Str) : eqD true (.str i) (.str j) st = some (.bl (!(i == j)), st) := rfl
theorem v_app (n : Nat) (y : D) : mApp (.ref n) [y] st = bnd st[n]? fun | .lst es => if es.length < 16777216 then some (.non, st.set n (.lst (es ++ [y]))) else none := by
  unfold mApp bnd
  cases h : st[n]? with
  | none => simp [h]
  | some o => cases o; simp [h]
theorem v_sqL (ds : List D) : sqD st (.lst ds) = some ds := rfl
theorem v_sqQ (ds : List D) : sqD st (.sq ds) = some ds := rfl
theorem v_sqR (n : Nat) : sqD st (.ref n) = bnd st[n]? fun | .lst ds => some ds := by
  unfold sqD bnd
  cases h : st[n]? with
  | none => simp [h]
  | some o => cases o; simp [h]
theorem v_truB (b : Bool) : truD st (.bl b) = some b := rfl
theorem v_truI (i : Int) : truD st (.int i) = some (i != 0) := rfl
theorem v_isiI (T : String) (i : Int) : fIsi [.int i, .ty T] st = bnd (kitB "int" T) fun b => some (.bl b, st) := by
  unfold fIsi bnd
  simp only [tyN]
  cases kitB "int" T <;> rfl
theorem kit_ii : kitB "int" "int" = some true := by decide +kernel
theorem kit_tt : kitB "tuple" "tuple" = some true := by decide +kernel
theorem kit_it : kitB "int" "tuple" = some false := by decide +kernel
theorem kit_st : kitB "str" "tuple" = some false := by decide +kernel
theorem kit_si : kitB "str" "int" = some false := by decide +kernel
theorem kit_ss : kitB "str" "str" = some true := by decide +kernel
theorem kit_lt : kitB "list" "tuple" = some false := by decide +kernel
theorem kit_ls : kitB "list" "str" = some false := by decide +kernel
theorem kit_ib : kitB "int" "bool" = some false := by decide +kernel
/-! places -/
theorem at_0 {α : Type} (a : α) (l : List α) : atI (a :: l) 0 = some a := atI_nat (j := 0) rfl
theorem at_1 {α : Type} (a b : α) (l : List α) : atI (a :: b :: l) 1 = some b := atI_nat (j := 1) rfl
theorem at_2 {α : Type} (a b c : α) (l : List α) : atI (a :: b :: c :: l) 2 = some c := atI_nat (j := 2) rfl
theorem at_3 {α : Type} (a b c d : α) (l : List α) : atI (a :: b :: c :: d :: l) 3 = some d := atI_nat (j := 3) rfl
theorem at_4 {α : Type} (a b c d e : α) (l : List α) : atI (a :: b :: c :: d :: e :: l) 4 = some e := atI_nat (j := 4) rfl
theorem ixN_ok {n : Nat} {i : Int} (h : 0 ≤ i) (h2 : i < n) : ixN n i = some i.toNat := by
  unfold ixN
  rw [if_pos h, if_pos h2]
theorem atI_ok {α : Type} {l : List α} {i : Int} (h : 0 ≤ i) (h2 : i < l.length) : atI l i = some (l[i.toNat]'(by omega)) := by
  unfold atI
  rw [ixN_ok h h2]
  exact List.getElem?_eq_getElem _
theorem atI_get {α : Type} {l : List α} {i : Int} {x : α} (h : 0 ≤ i) (h2 : l[i.toNat]? = some x) : atI l i = some x := by
  obtain ⟨j, e⟩ : ∃ j : Nat, i = (j : Int) := ⟨i.toNat, by omega⟩
  subst e
  exact atI_nat (by simpa using h2)
theorem mulOk_r {i j : Int} (h : -(2 ^ 64) < j ∧ j < 2 ^ 64) : mulOk i j := .inr h
theorem mulOk_l {i j : Int} (h : -(2 ^ 64) < i ∧ i < 2 ^ 64) : mulOk i j := .inl h
end

/-! ## what a reckoning wants -/
def wp {α : Type} (o : Option (α × Sto)) (Q : α → Sto → Prop) : Prop := ∃ a st, o = some (a, st) ∧ Q a st
def wpI (o : Option (List D × Watch × Sto)) (Q : List D → Watch → Sto → Prop) : Prop := ∃ a w st, o = some (a, w, st) ∧ Q a w st
theorem wp.mono {α : Type} {o : Option (α × Sto)} {Q Q' : α → Sto → Prop} (h : wp o Q) (k : ∀ a st, Q a st → Q' a st) : wp o Q' := by
  obtain ⟨a, st, e, q⟩ := h
  exact ⟨a, st, e, k _ _ q⟩
theorem wp_some {α : Type} {a : α} {st : Sto} {Q : α → Sto → Prop} (h : Q a st) : wp (some (a, st)) Q := ⟨a, st, rfl, h⟩
theorem wp_of {α : Type} {o : Option (α × Sto)} {a : α} {st : Sto} {Q : α → Sto → Prop} (e : o = some (a, st)) (h : Q a st) : wp o Q := ⟨a, st, e, h⟩
theorem wp_bind {α β : Type} {o : Option (α × Sto)} {f : α × Sto → Option (β × Sto)} {Q : β → Sto → Prop} (h : wp o fun a st => wp (f (a, st)) Q) : wp (o.bind f) Q := by
  obtain ⟨a, st, e, b, st2, e2, q⟩ := h
  exact ⟨b, st2, by rw [e]; exact e2, q⟩
theorem wp_bnd {α : Type} {β : Type} {o : Option α} {f : α → Option (β × Sto)} {a : α} {Q : β → Sto → Prop} (e : o = some a) (h : wp (f a) Q) : wp (bnd o f) Q := by
  rw [e]; exact h
theorem wp_if {α : Type} {c : Prop} [Decidable c] {o o' : Option (α × Sto)} {Q : α → Sto → Prop} (hc : c) (h : wp o Q) : wp (if c then o else o') Q := by
  rw [if_pos hc]; exact h
/-- a side condition, then the rest -/
def Sd (p q : Prop) : Prop := p ∧ q
theorem y_sd {p q : Prop} (h : p) (k : q) : Sd p q := ⟨h, k⟩
def seqK (s : FS) (Q : Fl → Sto → Prop) : Fl → Sto → Prop
  | .nx e, st => wp (s e st) Q
  | r, st => Q r st
def loopK (Q : Fl → Sto → Prop) (N : Env → Sto → Prop) : Fl → Sto → Prop
  | .nx e, st => N e st
  | .ct e, st => N e st
  | .bk e, st => Q (.nx e) st
  | .rt d, st => Q (.rt d) st
def runK (Q : D → Sto → Prop) : Fl → Sto → Prop
  | .rt d, st => Q d st
  | .nx _, st => Q .non st
  | _, _ => False
section
variable {env env' : Env} {st : Sto} {fa fb fc fo fi fe fv : FE} {ga gb : FT} {g : FA} {f f' : F2} {fC : FC} {s s' : FS} {QE : D → Sto → Prop} {QA : List D → Sto → Prop} {QT : Bool → Sto → Prop} {QS : Fl → Sto → Prop} {QI : List D → Watch → Sto → Prop}
theorem x_v {i : Nat} {d : D} (e : env[i]? = some (some d)) (h : QE d st) : wp (Ev i env st) QE := ⟨d, st, by unfold Ev; rw [e], h⟩
theorem x_c {d : D} (h : QE d st) : wp (Ec d env st) QE := ⟨d, st, rfl, h⟩
theorem x_2 (h : wp (fa env st) fun x st1 => wp (fb env st1) fun y st2 => wp (f x y st2) QE) : wp (E2 f fa fb env st) QE := wp_bind (h.mono fun _ _ q => wp_bind q)
theorem x_1 {f1 : D → Sto → Option (D × Sto)} (h : wp (fa env st) fun x st1 => wp (f1 x st1) QE) : wp (E1 f1 fa env st) QE := wp_bind h
theorem x_3 (h : wp (fa env st) fun x st1 => wp (fb env st1) fun y st2 => wp (f x y st2) fun r st3 => ∃ b, r = .bl b ∧ if b = true then wp (fc env st3) fun z st4 => wp (f' y z st4) QE else QE (.bl false) st3) : wp (E3 f f' fa fb fc env st) QE := by
  refine wp_bind (h.mono fun _ _ q => wp_bind (q.mono fun _ _ q => wp_bind (q.mono fun r st3 q => ?_)))
  obtain ⟨b, rfl, q⟩ := q
  cases b with
  | true => rw [if_pos rfl] at q; exact wp_bind q
  | false => rw [if_neg Bool.false_ne_true] at q; exact wp_some q
theorem x_nil (h : QA [] st) : wp (Anil env st) QA := ⟨[], st, rfl, h⟩
theorem x_cons (h : wp (fa env st) fun x st1 => wp (g env st1) fun xs st2 => QA (x :: xs) st2) : wp (Acons fa g env st) QA := wp_bind (h.mono fun _ _ q => wp_bind (q.mono fun _ _ q => wp_some q))
theorem x_tup (h : wp (g env st) fun xs st1 => Sd (xs.length ≤ 16777216) (QE (.tup xs) st1)) : wp (Etup g env st) QE := wp_bind (h.mono fun _ _ q => wp_if q.1 (wp_some q.2))
theorem x_lst (h : wp (g env st) fun xs st1 => Sd (xs.length ≤ 16777216) (QE (.lst xs) st1)) : wp (Elst g env st) QE := wp_bind (h.mono fun _ _ q => wp_if q.1 (wp_some q.2))
theorem x_new (h : wp (g env st) fun xs st1 => Sd (xs.length ≤ 16777216) (QE (.ref st1.length) (st1 ++ [.lst xs]))) : wp (Enew g env st) QE := wp_bind (h.mono fun _ _ q => wp_if q.1 (wp_some q.2))
theorem x_call (h : wp (g env st) fun xs st1 => wp (fC xs st1) QE) : wp (EC fC g env st) QE := wp_bind h
theorem x_ar {n : Nat} {ds : List D} (e : ds.length = n) (h : wp (fC ds st) QE) : wp (arN n fC ds st) QE := wp_if e h
theorem x_tb (h : wp (fa env st) fun x st1 => ∃ b, x = .bl b ∧ QT b st1) : wp (Tb fa env st) QT := by
  rw [q_tb]
  refine wp_bind (h.mono fun x st1 q => ?_)
  obtain ⟨b, rfl, q⟩ := q
  exact wp_some q
theorem x_tt (h : wp (fa env st) fun x st1 => ∃ b, truD st1 x = some b ∧ QT b st1) : wp (Tt fa env st) QT := by
  rw [q_tt]
  refine wp_bind (h.mono fun x st1 q => ?_)
  obtain ⟨b, e, q⟩ := q
  exact wp_bnd e (wp_some q)
theorem x_and (h : wp (ga env st) fun b st1 => if b = true then wp (gb env st1) QT else QT false st1) : wp (Tand ga gb env st) QT := wp_bind (h.mono fun b st1 q => by
  cases b with
  | true => rw [if_pos rfl] at q ⊢; exact q
  | false => rw [if_neg Bool.false_ne_true] at q ⊢; exact wp_some q)
theorem x_or (h : wp (ga env st) fun b st1 => if b = true then QT true st1 else wp (gb env st1) QT) : wp (Tor ga gb env st) QT := wp_bind (h.mono fun b st1 q => by
  cases b with
  | true => rw [if_pos rfl] at q ⊢; exact wp_some q
  | false => rw [if_neg Bool.false_ne_true] at q ⊢; exact q)
theorem x_not (h : wp (ga env st) fun b st1 => QT (!b) st1) : wp (Tnot ga env st) QT := wp_bind (h.mono fun b st1 q => wp_some q)
theorem x_yes (h : QT true st) : wp (Tyes env st) QT := wp_some h
theorem x_eand (h : wp (fa env st) fun x st1 => ∃ b, truD st1 x = some b ∧ if b = true then wp (fb env st1) QE else QE x st1) : wp (Eand fa fb env st) QE := wp_bind (h.mono fun x st1 q => by
  obtain ⟨b, e, q⟩ := q
  refine wp_bnd e ?_
  cases b with
  | true => rw [if_pos rfl] at q ⊢; exact q
  | false => rw [if_neg Bool.false_ne_true] at q ⊢; exact wp_some q)
theorem x_eor (h : wp (fa env st) fun x st1 => ∃ b, truD st1 x = some b ∧ if b = true then QE x st1 else wp (fb env st1) QE) : wp (Eor fa fb env st) QE := wp_bind (h.mono fun x st1 q => by
  obtain ⟨b, e, q⟩ := q
  refine wp_bnd e ?_
  cases b with
  | true => rw [if_pos rfl] at q ⊢; exact wp_some q
  | false => rw [if_neg Bool.false_ne_true] at q ⊢; exact q)
theorem x_enot (h : wp (fa env st) fun x st1 => ∃ b, truD st1 x = some b ∧ QE (.bl (!b)) st1) : wp (Enot fa env st) QE := by
  rw [q_enot]
  refine wp_bind (h.mono fun x st1 q => ?_)
  obtain ⟨b, e, q⟩ := q
  exact wp_bnd e (wp_some q)
theorem x_if (h : wp (ga env st) fun b st1 => if b = true then wp (fa env st1) QE else wp (fb env st1) QE) : wp (Eif ga fa fb env st) QE := wp_bind (h.mono fun b st1 q => by
  cases b with
  | true => rw [if_pos rfl] at q ⊢; exact q
  | false => rw [if_neg Bool.false_ne_true] at q ⊢; exact q)
theorem x_snil (h : QS (.nx env) st) : wp (Snil env st) QS := wp_some h
theorem x_seq (h : wp (s env st) (seqK s' QS)) : wp (Sseq s s' env st) QS := wp_bind (h.mono fun r st1 q => by
  cases r with
  | nx e => exact q
  | rt d => exact wp_some q
  | bk e => exact wp_some q
  | ct e => exact wp_some q)
theorem x_seqnx (e : env = env') (h : wp (s env' st) QS) : seqK s QS (.nx env) st := by subst e; exact h
theorem x_seqrt {d : D} (h : QS (.rt d) st) : seqK s QS (.rt d) st := h
theorem x_seqbk (h : QS (.bk env) st) : seqK s QS (.bk env) st := h
theorem x_seqct (h : QS (.ct env) st) : seqK s QS (.ct env) st := h
theorem x_loopnx {N : Env → Sto → Prop} (h : N env st) : loopK QS N (.nx env) st := h
theorem x_loopct {N : Env → Sto → Prop} (h : N env st) : loopK QS N (.ct env) st := h
theorem x_loopbk {N : Env → Sto → Prop} (h : QS (.nx env) st) : loopK QS N (.bk env) st := h
theorem x_looprt {N : Env → Sto → Prop} {d : D} (h : QS (.rt d) st) : loopK QS N (.rt d) st := h
theorem x_runrt {d : D} (h : QE d st) : runK QE (.rt d) st := h
theorem x_runnx (h : QE .non st) : runK QE (.nx env) st := h
theorem x_ret (h : wp (fa env st) fun x st1 => QS (.rt x) st1) : wp (Sret fa env st) QS := wp_bind (h.mono fun _ _ q => wp_some q)
theorem x_retN (h : QS (.rt .non) st) : wp (SretN env st) QS := wp_some h
theorem x_exp (h : wp (fa env st) fun _ st1 => QS (.nx env) st1) : wp (Sexp fa env st) QS := wp_bind (h.mono fun _ _ q => wp_some q)
theorem x_set {i : Nat} (h : wp (fa env st) fun x st1 => QS (.nx (env.set i (some x))) st1) : wp (Sset i fa env st) QS := wp_bind (h.mono fun _ _ q => wp_some q)
theorem x_brk (h : QS (.bk env) st) : wp (Sbrk env st) QS := wp_some h
theorem x_ctn (h : QS (.ct env) st) : wp (Sctn env st) QS := wp_some h
theorem x_sif (h : wp (ga env st) fun b st1 => if b = true then wp (s env st1) QS else wp (s' env st1) QS) : wp (Sif ga s s' env st) QS := wp_bind (h.mono fun b st1 q => by
  cases b with
  | true => rw [if_pos rfl] at q ⊢; exact q
  | false => rw [if_neg Bool.false_ne_true] at q ⊢; exact q)
def wpP (o : Option Sto) (Q : Sto → Prop) : Prop := ∃ st, o = some st ∧ Q st
theorem x_setIx (h : wp (fv env st) fun x st1 => wp (fo env st1) fun o st2 => wp (fi env st2) fun i st3 => wpP (setD o i x st3) fun st4 => QS (.nx env) st4) : wp (SsetIx fo fi fv env st) QS := by
  rw [q_setIx]
  refine wp_bind (h.mono fun x st1 q => wp_bind (q.mono fun o st2 q => wp_bind (q.mono fun i st3 q => ?_)))
  obtain ⟨st4, e, q⟩ := q
  exact wp_bnd e (wp_some q)
theorem x_aug {i : Nat} {d : D} (e : env[i]? = some (some d)) (h : wp (fe env st) fun y st1 => wp (f d y st1) fun z st2 => QS (.nx (env.set i (some z))) st2) : wp (Saug f i fe env st) QS := by
  unfold Saug
  rw [e]
  exact wp_bind (h.mono fun _ _ q => wp_bind (q.mono fun _ _ q => wp_some q))
theorem x_augIx (h : wp (fo env st) fun o st1 => wp (fi env st1) fun i st2 => wp (ixD o i st2) fun x st3 => wp (fe env st3) fun y st4 => wp (f x y st4) fun z st5 => wpP (setD o i z st5) fun st6 => QS (.nx env) st6) : wp (SaugIx f fo fi fe env st) QS := by
  rw [q_augIx]
  refine wp_bind (h.mono fun o st1 q => wp_bind (q.mono fun i st2 q => wp_bind (q.mono fun x st3 q => wp_bind (q.mono fun y st4 q => wp_bind (q.mono fun z st5 q => ?_)))))
  obtain ⟨st6, e, q⟩ := q
  exact wp_bnd e (wp_some q)
theorem x_bind {t : Tg} (h : wp (fa env st) fun x st1 => ∃ e, bindT t x env = some e ∧ QS (.nx e) st1) : wp (Sbind t fa env st) QS := by
  rw [q_bind]
  refine wp_bind (h.mono fun x st1 q => ?_)
  obtain ⟨e, h1, h2⟩ := q
  exact wp_bnd h1 (wp_some h2)
theorem x_run {n : Nat} {ds : List D} (e : ds.map some ++ List.replicate (n - ds.length) none = env) (h : wp (s env st) (runK QE)) : wp (runF n s ds st) QE := by
  rw [q_run, e]
  refine wp_bind (h.mono fun r st1 q => ?_)
  cases r with
  | nx e => exact wp_some q
  | rt d => exact wp_some q
  | bk e => exact q.elim
  | ct e => exact q.elim
theorem x_for {i : FI} {t : Tg} {b : FS} (h : wpI (i env st) fun items w st1 => wp (forL w t b items env st1) QS) : wp (Sfor i t b env st) QS := by
  obtain ⟨a, w, st1, e, q⟩ := h
  rw [q_for, e]
  exact q
theorem x_cmp {i : FI} {t : Tg} {own : List Nat} (h : wpI (i env st) fun items w st1 => Sd (items.length ≤ 16777216) (wp (compL w t ga fe (wipeE env own) items st1) fun ds st2 => QE (.lst ds) st2)) : wp (Ecmp i t ga fe own env st) QE := by
  obtain ⟨a, w, st1, e, hl, q⟩ := h
  rw [q_cmp, e]
  exact wp_if hl (wp_bind (q.mono fun _ _ q => wp_some q))
theorem x_cmpN {i : FI} {t : Tg} {own : List Nat} (h : wpI (i env st) fun items w st1 => Sd (items.length ≤ 16777216) (wp (compL w t ga fe (wipeE env own) items st1) fun ds st2 => QE (.ref st2.length) (st2 ++ [.lst ds]))) : wp (EcmpN i t ga fe own env st) QE := by
  obtain ⟨a, w, st1, e, hl, q⟩ := h
  rw [q_cmpN, e]
  exact wp_if hl (wp_bind (q.mono fun _ _ q => wp_some q))
theorem wpI_bind {α : Type} {o : Option (α × Sto)} {f : α × Sto → Option (List D × Watch × Sto)} (h : wp o fun a st => wpI (f (a, st)) QI) : wpI (o.bind f) QI := by
  obtain ⟨a, st, e, q⟩ := h
  rw [e]
  exact q
def itemsK (QI : List D → Watch → Sto → Prop) : D → Sto → Prop
  | .tup ds, st => QI ds [] st
  | .str s, st => QI (chars s) [] st
  | d, st => ∃ ds, sqD st d = some ds ∧ QI ds (watchOf d ds) st
theorem x_iseq (h : wp (fa env st) (itemsK QI)) : wpI (Iseq fa env st) QI := by
  refine wpI_bind (h.mono fun d st1 q => ?_)
  cases d with
  | tup ds => exact ⟨_, _, _, rfl, q⟩
  | str z => exact ⟨_, _, _, rfl, q⟩
  | _ =>
    obtain ⟨ds, e, q⟩ := q
    exact ⟨_, _, _, by dsimp only; rw [e]; rfl, q⟩
theorem x_itT {ds : List D} (h : QI ds [] st) : itemsK QI (.tup ds) st := h
theorem x_itS {z : PySem.Str} (h : QI (chars z) [] st) : itemsK QI (.str z) st := h
theorem x_itL {ds : List D} (h : QI ds [] st) : itemsK QI (.lst ds) st := ⟨ds, rfl, h⟩
theorem x_itQ {ds : List D} (h : QI ds [] st) : itemsK QI (.sq ds) st := ⟨ds, rfl, h⟩
theorem x_itR {n : Nat} {ds : List D} (e : st[n]? = some (.lst ds)) (h : QI ds [(n, ds)] st) : itemsK QI (.ref n) st := ⟨ds, by simp only [sqD, e], h⟩
theorem x_rng1 (h : wp (g env st) fun xs st1 => ∃ n, xs = [.int n] ∧ Sd (-4611686018427387904 ≤ n ∧ n < 4611686018427387904) (QI (rangeL 0 n.toNat) [] st1)) : wpI (Irng1 g env st) QI := by
  refine wpI_bind (h.mono fun d st1 q => ?_)
  obtain ⟨n, rfl, hb, q⟩ := q
  exact ⟨_, _, _, if_pos hb, q⟩
theorem x_rng2 (h : wp (g env st) fun xs st1 => ∃ lo n, xs = [.int lo, .int n] ∧ Sd (-4611686018427387904 ≤ lo ∧ lo < 4611686018427387904 ∧ -4611686018427387904 ≤ n ∧ n < 4611686018427387904) (QI (rangeL lo (n - lo).toNat) [] st1)) : wpI (Irng2 g env st) QI := by
  refine wpI_bind (h.mono fun d st1 q => ?_)
  obtain ⟨lo, n, rfl, hb, q⟩ := q
  exact ⟨_, _, _, if_pos hb, q⟩
theorem x_rng3 (h : wp (g env st) fun xs st1 => ∃ i j, xs = [.int i, .int j, .int (-1)] ∧ Sd (-4611686018427387904 ≤ i ∧ i < 4611686018427387904 ∧ -4611686018427387904 ≤ j ∧ j < 4611686018427387904) (QI (downL i (i - j).toNat) [] st1)) : wpI (Irng3 g env st) QI := by
  refine wpI_bind (h.mono fun d st1 q => ?_)
  obtain ⟨i, j, rfl, hb, q⟩ := q
  exact ⟨_, _, _, if_pos hb, q⟩
/-- a loop by what holds -/
theorem x_loop {w : Watch} {t : Tg} {b : FS} {items : List D} (I : Nat → Env → Sto → Prop) (h0 : I 0 env st) (hw : ∀ i e s, I i e s → watchOk w s)
    (hs : ∀ i x e s, items[i]? = some x → I i e s → ∃ e1, bindT t x e = some e1 ∧ wp (b e1 s) (loopK QS (I (i + 1)))) (hd : ∀ e s, I items.length e s → QS (.nx e) s) : wp (forL w t b items env st) QS := by
  have key : ∀ (k : Nat) (i : Nat) (e : Env) (s : Sto), k = items.length - i → i ≤ items.length → I i e s → wp (forL w t b (items.drop i) e s) QS := by
    intro k
    induction k with
    | zero =>
      intro i e s hk hi h
      have e1 : i = items.length := by omega
      subst e1
      rw [List.drop_length]
      unfold forL
      exact wp_if (hw _ _ _ h) (wp_some (hd _ _ h))
    | succ k ih =>
      intro i e s hk hi h
      have hlt : i < items.length := by omega
      rw [List.drop_eq_getElem_cons hlt]
      unfold forL
      refine wp_if (hw _ _ _ h) ?_
      obtain ⟨e1, hb, q⟩ := hs i _ e s (List.getElem?_eq_getElem hlt) h
      rw [hb]
      refine wp_bind (q.mono fun r s1 q => ?_)
      cases r with
      | nx e2 => exact ih (i + 1) e2 s1 (by omega) hlt q
      | ct e2 => exact ih (i + 1) e2 s1 (by omega) hlt q
      | bk e2 => exact wp_some q
      | rt d => exact wp_some q
  exact key _ 0 env st rfl (Nat.zero_le _) h0
/-- a comprehension by what holds -/
theorem x_comp {w : Watch} {t : Tg} {items : List D} (I : Nat → List D → Sto → Prop) (h0 : I 0 [] st) (hw : ∀ i a s, I i a s → watchOk w s)
    (hs : ∀ i x a s, items[i]? = some x → I i a s → ∃ e1, bindT t x env = some e1 ∧ wp (ga e1 s) fun c s1 => if c = true then wp (fe e1 s1) fun y s2 => I (i + 1) (a ++ [y]) s2 else I (i + 1) a s1)
    (hd : ∀ a s, I items.length a s → QA a s) : wp (compL w t ga fe env items st) QA := by
  have key : ∀ (k : Nat) (i : Nat) (a : List D) (s : Sto), k = items.length - i → i ≤ items.length → I i a s → wp (compL w t ga fe env (items.drop i) s) fun r s' => QA (a ++ r) s' := by
    intro k
    induction k with
    | zero =>
      intro i a s hk hi h
      have e1 : i = items.length := by omega
      subst e1
      rw [List.drop_length]
      unfold compL
      exact wp_if (hw _ _ _ h) (wp_some (by rw [List.append_nil]; exact hd _ _ h))
    | succ k ih =>
      intro i a s hk hi h
      have hlt : i < items.length := by omega
      rw [List.drop_eq_getElem_cons hlt]
      unfold compL
      refine wp_if (hw _ _ _ h) ?_
      obtain ⟨e1, hb, q⟩ := hs i _ a s (List.getElem?_eq_getElem hlt) h
      rw [hb]
      refine wp_bind (q.mono fun c s1 q => ?_)
      cases c with
      | true =>
        rw [if_pos rfl] at q
        refine wp_bind (q.mono fun y s2 q => wp_bind ((ih (i + 1) _ s2 (by omega) hlt q).mono fun r s3 q => wp_some ?_))
        rw [List.append_assoc] at q
        exact q
      | false =>
        rw [if_neg Bool.false_ne_true] at q
        exact ih (i + 1) _ s1 (by omega) hlt q
  exact (key _ 0 [] st rfl (Nat.zero_le _) h0).mono fun r s q => q
/-- .. whose items leave the store as it is -/
theorem x_map {w : Watch} {t : Tg} {items : List D} (gv : D → D) (hw : watchOk w st) (hs : ∀ x, x ∈ items → ∃ e1, bindT t x env = some e1 ∧ wp (fe e1 st) fun y s2 => y = gv x ∧ s2 = st)
    (hd : QA (items.map gv) st) : wp (compL w t Tyes fe env items st) QA := by
  refine x_comp (fun i a s => a = (items.take i).map gv ∧ s = st) ⟨by simp, rfl⟩ (fun i a s h => by rw [h.2]; exact hw) ?_ ?_
  · rintro i x a s hx ⟨rfl, rfl⟩
    obtain ⟨e1, hb, q⟩ := hs x (List.mem_of_getElem? hx)
    refine ⟨e1, hb, wp_some ?_⟩
    rw [if_pos rfl]
    refine q.mono fun y s2 ⟨h1, h2⟩ => ⟨?_, h2⟩
    rw [h1, List.take_add_one, hx]
    simp
  · rintro a s ⟨rfl, rfl⟩
    rw [List.take_length]
    exact hd
/-- tests -/
theorem y_ite {b : Bool} {A B : Prop} (h1 : b = true → A) (h2 : b = false → B) : if b = true then A else B := by
  cases b with
  | true => rw [if_pos rfl]; exact h1 rfl
  | false => rw [if_neg Bool.false_ne_true]; exact h2 rfl
theorem y_t {A B : Prop} (h : A) : if true = true then A else B := by rw [if_pos rfl]; exact h
theorem y_f {A B : Prop} (h : B) : if false = true then A else B := by rw [if_neg Bool.false_ne_true]; exact h
theorem y_dt {p : Prop} [Decidable p] {A B : Prop} (hp : p) (h : A) : if decide p = true then A else B := by rw [if_pos (decide_eq_true hp)]; exact h
theorem y_df {p : Prop} [Decidable p] {A B : Prop} (hp : ¬ p) (h : B) : if decide p = true then A else B := by rw [if_neg (fun e => hp (of_decide_eq_true e))]; exact h
theorem y_d {p : Prop} [Decidable p] {A B : Prop} (h1 : p → A) (h2 : ¬ p → B) : if decide p = true then A else B := by
  by_cases h : p
  · exact y_dt h (h1 h)
  · exact y_df h (h2 h)
theorem y_not {b : Bool} {A B : Prop} (h : if b = true then B else A) : if (!b) = true then A else B := by
  cases b <;> simpa using h
theorem y_eqt {i j : Int} {A B : Prop} (hp : i = j) (h : A) : if (i == j) = true then A else B := by rw [if_pos (by simp [hp])]; exact h
theorem y_eqf {i j : Int} {A B : Prop} (hp : i ≠ j) (h : B) : if (i == j) = true then A else B := by rw [if_neg (by simp [hp])]; exact h
theorem y_eq {i j : Int} {A B : Prop} (h1 : i = j → A) (h2 : i ≠ j → B) : if (i == j) = true then A else B := by
  by_cases h : i = j
  · exact y_eqt h (h1 h)
  · exact y_eqf h (h2 h)
/-- values -/
theorem z_addI {i j : Int} (h : QE (.int (i + j)) st) : wp (addD (.int i) (.int j) st) QE := wp_some h
theorem z_addS {a b : PySem.Str} (hl : a.length + b.length ≤ 16777216) (h : QE (.str (a ++ b)) st) : wp (addD (.str a) (.str b) st) QE := wp_if hl (wp_some h)
theorem z_addT {a b : List D} (hl : a.length + b.length ≤ 16777216) (h : QE (.tup (a ++ b)) st) : wp (addD (.tup a) (.tup b) st) QE := wp_if hl (wp_some h)
theorem z_sub {i j : Int} (h : QE (.int (i - j)) st) : wp (subD (.int i) (.int j) st) QE := wp_some h
theorem z_mul {i j : Int} (hm : mulOk i j) (h : QE (.int (i * j)) st) : wp (mulD (.int i) (.int j) st) QE := wp_if hm (wp_some h)
theorem z_fdiv {i j : Int} (hm : 0 < j ∧ j < 18446744073709551616) (h : QE (.int (i / j)) st) : wp (fdivD (.int i) (.int j) st) QE := wp_if hm (wp_some h)
theorem z_mod {i j : Int} (hm : 0 < j) (h : QE (.int (i % j)) st) : wp (modD (.int i) (.int j) st) QE := wp_if hm (wp_some h)
theorem z_pow {i j : Int} (hm : 0 ≤ j ∧ j ≤ 1000000 ∧ i.natAbs < 18446744073709551616) (h : QE (.int (i ^ j.toNat)) st) : wp (powD (.int i) (.int j) st) QE := wp_if hm (wp_some h)
theorem z_neg {i : Int} (h : QE (.int (-i)) st) : wp (negD (.int i) st) QE := wp_some h
theorem z_lt {i j : Int} (h : QE (.bl (decide (i < j))) st) : wp (ltD (.int i) (.int j) st) QE := wp_some h
theorem z_le {i j : Int} (h : QE (.bl (decide (i ≤ j))) st) : wp (leD (.int i) (.int j) st) QE := wp_some h
theorem z_gt {i j : Int} (h : QE (.bl (decide (j < i))) st) : wp (gtD (.int i) (.int j) st) QE := wp_some h
theorem z_ge {i j : Int} (h : QE (.bl (decide (j ≤ i))) st) : wp (geD (.int i) (.int j) st) QE := wp_some h
theorem z_is {x : D} (h : QE (.bl (isNon x)) st) : wp (isnD false x .non st) QE := wp_some h
theorem z_isn {x : D} (h : QE (.bl (!isNon x)) st) : wp (isnD true x .non st) QE := wp_some h
theorem z_iadd {i j : Int} (h : QE (.int (i + j)) st) : wp (iaddI (.int i) (.int j) st) QE := wp_some h
theorem z_eqI {i j : Int} (h : QE (.bl (i == j)) st) : wp (eqD false (.int i) (.int j) st) QE := wp_some h
theorem z_neI {i j : Int} (h : QE (.bl (!(i == j))) st) : wp (eqD true (.int i) (.int j) st) QE := wp_some h
theorem z_eqS {i j : PySem.Str} (h : QE (.bl (i == j)) st) : wp (eqD false (.str i) (.str j) st) QE := wp_some h
theorem z_neS {i j : PySem.Str} (h : QE (.bl (!(i == j))) st) : wp (eqD true (.str i) (.str j) st) QE := wp_some h
theorem z_abs {i : Int} (h : QE (.int (if i < 0 then -i else i)) st) : wp (fAbs [.int i] st) QE := wp_some h
theorem z_intI {i : Int} (h : QE (.int i) st) : wp (fInt [.int i] st) QE := wp_some h
theorem z_intB {b : Bool} (h : QE (.int (if b then 1 else 0)) st) : wp (fInt [.bl b] st) QE := wp_some h
theorem z_lenT {ds : List D} (h : QE (.int ds.length) st) : wp (fLen [.tup ds] st) QE := wp_some h
theorem z_lenL {ds : List D} (h : QE (.int ds.length) st) : wp (fLen [.lst ds] st) QE := wp_some h
theorem z_lenQ {ds : List D} (h : QE (.int ds.length) st) : wp (fLen [.sq ds] st) QE := wp_some h
theorem z_lenR {n : Nat} {ds : List D} (e : st[n]? = some (.lst ds)) (h : QE (.int ds.length) st) : wp (fLen [.ref n] st) QE := ⟨_, _, by rw [v_lenR, e]; rfl, h⟩
theorem z_ixT {ds : List D} {i : Int} {d : D} (e : atI ds i = some d) (h : QE d st) : wp (ixD (.tup ds) (.int i) st) QE := ⟨_, _, by rw [v_ixT, e]; rfl, h⟩
theorem z_ixL {ds : List D} {i : Int} {d : D} (e : atI ds i = some d) (h : QE d st) : wp (ixD (.lst ds) (.int i) st) QE := ⟨_, _, by rw [v_ixL, e]; rfl, h⟩
theorem z_ixQ {ds : List D} {i : Int} {d : D} (e : atI ds i = some d) (h : QE d st) : wp (ixD (.sq ds) (.int i) st) QE := ⟨_, _, by rw [v_ixQ, e]; rfl, h⟩
theorem z_ixR {n : Nat} {ds : List D} {i : Int} {d : D} (e0 : st[n]? = some (.lst ds)) (e : atI ds i = some d) (h : QE d st) : wp (ixD (.ref n) (.int i) st) QE := ⟨_, _, by rw [v_ixR, e0]; simp only [bnd_some]; rw [e]; rfl, h⟩
theorem z_ixS {z : PySem.Str} {i : Int} {c : Nat} (hl : z.length ≤ 16777216) (e : atI z.cps.toList i = some c) (h : QE (.str ⟨#[c]⟩) st) : wp (ixD (.str z) (.int i) st) QE := ⟨_, _, by rw [v_ixS, if_pos hl, e]; rfl, h⟩
theorem z_set {n : Nat} {k : Int} {v : D} {es es' : List D} {j : Nat} {st' : Sto} {Q : Sto → Prop} (e0 : st[n]? = some (.lst es)) (e : ixN es.length k = some j) (e2 : es.set j v = es') (e3 : st.set n (.lst es') = st') (h : Q st') : wpP (setD (.ref n) (.int k) v st) Q := ⟨_, by rw [v_set, e0]; simp only [bnd_some]; rw [e, bnd_some, e2, e3], h⟩
theorem set_at {n : Nat} {o x : O} (h : st[n]? = some o) : (st.set n x)[n]? = some x := List.getElem?_set_self (List.getElem?_eq_some_iff.mp h).1
theorem x_emL {T : String} {fm : FM} (hT : T = "list") (h : wp (fo env st) fun o st1 => ∃ n ds, o = .ref n ∧ st1[n]? = some (.lst ds) ∧ wp (g env st1) fun xs st2 => wp (fm (.ref n) xs st2) QE) : wp (EM T fm fo g env st) QE := by
  rw [q_em]
  refine wp_bind (h.mono fun o st1 q => ?_)
  obtain ⟨n, ds, rfl, e, q⟩ := q
  exact wp_if hT (wp_bnd (a := ds) (by simp only [sqD, e]) (wp_bind q))
theorem x_emS {T : String} {fm : FM} (hT : T = "str") (h : wp (fo env st) fun o st1 => ∃ z, o = .str z ∧ wp (g env st1) fun xs st2 => wp (fm (.str z) xs st2) QE) : wp (EM T fm fo g env st) QE := by
  rw [q_em]
  refine wp_bind (h.mono fun o st1 q => ?_)
  obtain ⟨z, rfl, q⟩ := q
  exact wp_if hT (wp_bind q)
theorem z_app {n : Nat} {y : D} {es : List D} {st' : Sto} (e : st[n]? = some (.lst es)) (hl : es.length < 16777216) (e3 : st.set n (.lst (es ++ [y])) = st') (h : QE .non st') : wp (mApp (.ref n) [y] st) QE := ⟨_, _, by rw [v_app, e]; exact if_pos hl, by rw [e3]; exact h⟩
theorem z_isiI {T : String} {i : Int} {b : Bool} (e : kitB "int" T = some b) (h : QE (.bl b) st) : wp (fIsi [.int i, .ty T] st) QE := ⟨_, _, by rw [v_isiI, e]; rfl, h⟩
end

section
variable {env env' : Env} {st : Sto} {QE : D → Sto → Prop} {QS : Fl → Sto → Prop}
theorem x_loopn {N : Env → Sto → Prop} (e : env = env') (h : N env' st) : loopK QS N (.nx env) st := by subst e; exact h
theorem y_tg {t : Tg} {x : D} {P : Env → Prop} (h : bindT t x env = some env') (k : P env') : ∃ e1, bindT t x env = some e1 ∧ P e1 := ⟨_, h, k⟩
theorem z_ord1 {c : Nat} (h : QE (.int (c : Int)) st) : wp (fOrd [.str ⟨#[c]⟩] st) QE := wp_some h
theorem z_inC {c : Nat} {b : PySem.Str} (h : QE (.bl (decide (c ∈ b.cps.toList))) st) : wp (inD false (.str ⟨#[c]⟩) (.str b) st) QE := ⟨_, _, rfl, by
  show QE (.bl (!(Builtin.Str.occurrences b ⟨#[c]⟩ 0 b.length 1).isEmpty)) st
  rw [PySem.StrLaws.found_one b c]; exact h⟩
theorem z_ninC {c : Nat} {b : PySem.Str} (h : QE (.bl (!decide (c ∈ b.cps.toList))) st) : wp (inD true (.str ⟨#[c]⟩) (.str b) st) QE := ⟨_, _, rfl, by
  show QE (.bl (!(!(Builtin.Str.occurrences b ⟨#[c]⟩ 0 b.length 1).isEmpty))) st
  rw [PySem.StrLaws.found_one b c]; exact h⟩
theorem occ_one (z : PySem.Str) (c : Nat) : (!(Builtin.Str.occurrences z ⟨#[c]⟩ 0 z.length 1).isEmpty) = decide (c ∈ z.cps.toList) := PySem.StrLaws.found_one z c
theorem z_find {a b : PySem.Str} (h : QE (.int (Txt.find a b)) st) : wp (mFind (.str a) [.str b] st) QE := wp_some h
theorem z_intS {s : PySem.Str} {n : Int} (e : PySem.intText? s = some n) (hl : s.length ≤ 640) (h : QE (.int n) st) : wp (fInt [.str s] st) QE := ⟨_, _, by simp only [fInt, e, if_pos hl], h⟩
end
/-! things that laws share -/
theorem emod_ok (a : Int) {b : Int} (h : 0 < b) : 0 ≤ a % b ∧ a % b < b := ⟨Int.emod_nonneg _ (by omega), Int.emod_lt_of_pos _ h⟩
theorem script_at (ns : List Int) {p : Int} (h0 : 0 ≤ p) (h1 : p < ((ns.map D.int).length : Nat)) : ∃ c, atI (ns.map D.int) p = some (.int c) := by
  have h2 : p.toNat < ns.length := by
    rw [List.length_map] at h1
    omega
  refine ⟨ns[p.toNat], atI_get h0 ?_⟩
  rw [List.getElem?_map, List.getElem?_eq_getElem h2]
  rfl
theorem take_last {α : Type} {l : List α} {i : Nat} {x : α} (h : l[i]? = some x) : l.take (i + 1) = l.take i ++ [x] := by
  rw [List.take_add_one, h]; rfl
theorem range_at {lo : Int} {n i : Nat} {x : D} (h : (rangeL lo n)[i]? = some x) : i < n ∧ x = .int (lo + (i : Nat)) := by
  unfold rangeL at h
  rw [List.getElem?_map] at h
  obtain ⟨c, h3, h4⟩ := Option.map_eq_some_iff.mp h
  obtain ⟨h5, h6⟩ := List.getElem?_eq_some_iff.mp h3
  rw [List.length_range] at h5
  rw [List.getElem_range] at h6
  exact ⟨h5, by rw [← h4, ← h6]⟩
theorem range_len {lo : Int} {n : Nat} : (rangeL lo n).length = n := by simp [rangeL]
theorem chars_at {z : PySem.Str} {i : Nat} {x : D} (h : (chars z)[i]? = some x) : ∃ c, z.cps.toList[i]? = some c ∧ x = .str ⟨#[c]⟩ := by
  unfold chars at h
  rw [List.getElem?_map] at h
  obtain ⟨c, h3, h4⟩ := Option.map_eq_some_iff.mp h
  exact ⟨c, h3, h4.symm⟩
theorem chars_len {z : PySem.Str} : (chars z).length = z.cps.toList.length := by simp [chars]
theorem noWatch {st : Sto} : watchOk [] st := fun _ h => nomatch h
/-- all but the n-th object are as they were -/
def Oth (n : Nat) (st st' : Sto) : Prop := st'.length = st.length ∧ ∀ m, m ≠ n → st'[m]? = st[m]?
theorem Oth.refl {n : Nat} {st : Sto} : Oth n st st := ⟨rfl, fun _ _ => rfl⟩
theorem Oth.trans {n : Nat} {a b c : Sto} (x : Oth n a b) (y : Oth n b c) : Oth n a c := ⟨y.1.trans x.1, fun m h => (y.2 m h).trans (x.2 m h)⟩
theorem Oth.set {n : Nat} {st : Sto} {o : O} : Oth n st (st.set n o) := ⟨by simp, fun m h => List.getElem?_set_ne (fun e => h e.symm)⟩
theorem str_at {z : PySem.Str} {i : Int} (h0 : 0 ≤ i) (h1 : i < (z.cps.toList.length : Nat)) : ∃ c, atI z.cps.toList i = some c ∧ c ∈ z.cps.toList := by
  have h2 : i.toNat < z.cps.toList.length := by omega
  exact ⟨_, atI_get h0 (List.getElem?_eq_getElem h2), List.getElem_mem h2⟩
/-! ### zip and enumerate of lists and tuples in any mix -/
def SeqB (K : Frag) (t : Bool) (H : Hp) (a : Addr) (xs : List V) : Prop := if t = true then SqT K H a xs else SqL K H a xs
def IterB (t : Bool) (h : Heap) (i a : Addr) (k : Nat) : Prop := if t = true then h.IsTupleIter i a k else h.IsListIter i a k
def SeqH (t : Bool) (h : Heap) (a : Addr) (its : Array Value) : Prop := if t = true then h.IsTuple a its else h.IsList a its
theorem SeqB.items {X : Cx} {pins : List (Addr × Obj)} {σ : L2.St} {H : Hp} {s : Shared} {t : Bool} {a : Addr} {xs : List V} (I : Inv X pins σ H s) (h : SeqB X.K t H a xs) : ∃ its : List Value, Vals xs its ∧ SeqH t s.heap a its.toArray := by
  cases t with
  | true =>
    obtain ⟨its, r, p, _⟩ := I.tuple (show SqT X.K H a xs from h)
    exact ⟨its, r, p⟩
  | false =>
    obtain ⟨its, r, p, _⟩ := I.list (show SqL X.K H a xs from h)
    exact ⟨its, r, p.isList⟩
theorem SeqB.inj {X : Cx} {pins : List (Addr × Obj)} {σ : L2.St} {H : Hp} {s : Shared} {t : Bool} {a : Addr} {xs ys : List V} (I : Inv X pins σ H s) (h : SeqB X.K t H a xs) (h' : SeqB X.K t H a ys) : xs = ys := by
  cases t with
  | true => exact I.tuple_inj (show SqT X.K H a xs from h) h'
  | false => exact I.list_inj (show SqL X.K H a xs from h) h'
theorem SeqH.lt {t : Bool} {h : Heap} {a : Addr} {its : Array Value} (x : SeqH t h a its) : a < h.objs.size := by
  cases t with
  | true => obtain ⟨o, e, _⟩ := (show h.IsTuple a its from x); exact Heap.lt_size e
  | false => obtain ⟨o, e, _⟩ := (show h.IsList a its from x); exact Heap.lt_size e
theorem IterB.obj {t : Bool} {h : Heap} {i a : Addr} {k : Nat} (x : IterB t h i a k) : ∃ o, h.get? i = some o ∧ ∀ v, o.data ≠ .cell v := by
  cases t with
  | true =>
    obtain ⟨o, e, _, d⟩ := (show h.IsTupleIter i a k from x)
    exact ⟨o, e, fun v q => by rw [d] at q; cases q⟩
  | false =>
    obtain ⟨o, e, _, d⟩ := (show h.IsListIter i a k from x)
    exact ⟨o, e, fun v q => by rw [d] at q; cases q⟩
theorem IterB.keep {t : Bool} {h h' : Heap} {i a : Addr} {k : Nat} (x : IterB t h i a k) (e : ∀ o, h.get? i = some o → h'.get? i = some o) : IterB t h' i a k := by
  cases t with
  | true => exact (show h.IsTupleIter i a k from x).at e
  | false => exact (show h.IsListIter i a k from x).at e
/-- what an iterator over such a thing draws -/
theorem drawsB {prog : Program} {w : World} {A : Around} (hh : A.handled = none) (t : Bool) (it l : Addr) (hne : l ≠ it) (items : Array Value) :
    Draws prog w A it [it, l] items.size (fun i v => items[i]? = some v) (fun i h => IterB t h it l i ∧ SeqH t h l items) := by
  cases t with
  | true => exact Draws.tuple hh it l hne items
  | false => exact Draws.list hh it l hne items
def ItZ (K : Frag) (t1 t2 : Bool) (a b : Addr) : It :=
  ⟨fun i H => ∃ (xs ys : List V) (x y : V), SeqB K t1 H a xs ∧ SeqB K t2 H b ys ∧ xs[i]? = some x ∧ ys[i]? = some y,
    fun i H v H' => ∃ T x y, v = .ref T ∧ H T = none ∧ H' = upd H T (.tup [x, y]) ∧ (∀ xs, SeqB K t1 H a xs → xs[i]? = some x) ∧ ∀ ys, SeqB K t2 H b ys → ys[i]? = some y,
    fun i H => ∃ xs ys : List V, SeqB K t1 H a xs ∧ SeqB K t2 H b ys ∧ i ≤ xs.length ∧ i ≤ ys.length ∧ (i = xs.length ∨ i = ys.length)⟩
theorem turnZ {P : Program} {w : World} {K : Frag} {elts : List Expr} {kk : Nat} {tpos : Pos} {t1 t2 : Bool} {a b z TI TO i1 i2 : Addr} (D : ZipSep2 z TI TO i1 i2 [i1, a] [i2, b]) :
    Turn P w K (.Tuple elts kk tpos) (ItZ K t1 t2 a b) [z, TI, TO, i1, i2] z (fun i h => IsZip h z TI TO .none ∧ IsTupOf2 h TI (.ref i1) (.ref i2) ∧ (∃ x y, IsTupOf2 h TO x y) ∧ IterB t1 h i1 a i ∧ IterB t2 h i2 b i) where
  mem := by simp
  obj := fun i h q c hc => by
    obtain ⟨hz, hTI, ⟨x, y, hTO⟩, h1, h2⟩ := q
    simp only [List.mem_cons, List.not_mem_nil, or_false] at hc
    rcases hc with rfl | rfl | rfl | rfl | rfl
    · exact ⟨_, hz, fun v q => nomatch q⟩
    · exact ⟨_, hTI, fun v q => nomatch q⟩
    · exact ⟨_, hTO, fun v q => nomatch q⟩
    · exact h1.obj
    · exact h2.obj
  keep := fun i h h' q k => by
    obtain ⟨hz, hTI, ⟨x, y, hTO⟩, h1, h2⟩ := q
    exact ⟨k z (by simp) _ hz, k TI (by simp) _ hTI, ⟨x, y, k TO (by simp) _ hTO⟩, h1.keep fun o e => k i1 (by simp) o e, h2.keep fun o e => k i2 (by simp) o e⟩
  item := by
    intro X hP hw hK hc i pins s σ H E I hf q hg
    subst hP hw hK
    obtain ⟨hz, hTI, ⟨x0, y0, hTO⟩, h1, h2⟩ := q
    obtain ⟨xs, ys, x, y, hqx, hqy, hx, hy⟩ := hg
    obtain ⟨its, rv, p1⟩ := hqx.items I
    obtain ⟨its2, rv2, p2⟩ := hqy.items I
    obtain ⟨u, hu, ru⟩ := rv.get hx
    obtain ⟨u2, hu2, ru2⟩ := rv2.get hy
    have hzl : z < s.heap.objs.size := Heap.lt_size hz
    have hd : X.A.in1.handled = none := I.ok.hd hc
    have na : a ≠ i1 := fun e => D.sep1_2 (by have := D.Tf1; exact absurd e (fun e2 => by
      obtain ⟨o1, g1, n1⟩ := h1.obj
      subst e2
      cases t1 with
      | true =>
        obtain ⟨o, e, c, n, d⟩ := (show s.heap.IsTuple a its.toArray from p1)
        obtain ⟨o', e', c', d'⟩ := (show s.heap.IsTupleIter a a i from h1)
        rw [e] at e'; cases e'; rw [d] at d'; cases d'
      | false =>
        obtain ⟨o, e, c, n, d⟩ := (show s.heap.IsList a its.toArray from p1)
        obtain ⟨o', e', c', d'⟩ := (show s.heap.IsListIter a a i from h1)
        rw [e] at e'; cases e'; rw [d] at d'; cases d'))
    have nb : b ≠ i2 := fun e => by
      subst e
      cases t2 with
      | true =>
        obtain ⟨o, e, c, n, d⟩ := (show s.heap.IsTuple b its2.toArray from p2)
        obtain ⟨o', e', c', d'⟩ := (show s.heap.IsTupleIter b b i from h2)
        rw [e] at e'; cases e'; rw [d] at d'; cases d'
      | false =>
        obtain ⟨o, e, c, n, d⟩ := (show s.heap.IsList b its2.toArray from p2)
        obtain ⟨o', e', c', d'⟩ := (show s.heap.IsListIter b b i from h2)
        rw [e] at e'; cases e'; rw [d] at d'; cases d'
    have l1 : i < its.toArray.size := by
      have := (List.getElem?_eq_some_iff.mp hu).1
      simpa using this
    have l2 : i < its2.toArray.size := by
      have := (List.getElem?_eq_some_iff.mp hu2).1
      simpa using this
    refine wpAny_pyNext_zipD2_item D (drawsB hd t1 i1 a na its.toArray) (drawsB hd t2 i2 b nb its2.toArray) hz hTI hTO ⟨h1, p1⟩ ⟨h2, p2⟩ l1 l2 fun y1 y2 h' tk e1 e2 z' TO' s1' s2' hT hsz hk => ?_
    have eu : u = y1 := by simpa [hu] using e1
    have eu2 : u2 = y2 := by simpa [hu2] using e2
    subst eu eu2
    refine ⟨_, rfl, wpAny_letOwnedTupleGo_zip (s := { s with heap := h', toks := tk }) z' fun h'' z'' sb => ?_⟩
    have hT2 : IsTupOf2 h'' s.heap.objs.size u u2 := (sb.2 _ (Nat.ne_of_gt hzl)).trans hT
    have new : ObjOk X.prog X.w (upd H s.heap.objs.size (.tup [x, y])) h'' s.heap.objs.size (.tup [x, y]) :=
      ⟨by show 2 ≤ sizeLine; decide, [u, u2], .cons ru (.cons ru2 .nil), ⟨_, hT2, rfl, _, rfl⟩⟩
    have I1 : Inv X pins σ (upd H s.heap.objs.size (.tup [x, y])) { s with heap := h'', toks := tk } :=
      I.turnedNew (t' := tk) (ch := [z, TI, TO, i1, i2]) (fun c o hb q => (sb.2 c (fun q' => hb (by simp [q']))).trans (hk c o (fun q' => hb (by simp [q'])) (fun q' => hb (by simp [q'])) (fun q' => hb (by simp [q'])) (fun q' => hb (by simp [q'])) q)) hf (Nat.le_refl _) new
    refine ⟨.ref s.heap.objs.size, _, I1, rfl, ⟨_, x, y, rfl, I.hok.fresh (Nat.le_refl _), rfl, fun l hl => by rw [hl.inj I hqx]; exact hx, fun l hl => by rw [hl.inj I hqy]; exact hy⟩, ⟨z'', ?_, ⟨u, u2, ?_⟩, ?_, ?_⟩, fun c hcm => ?_⟩
    · exact (sb.2 _ D.TIz).trans (hk _ _ D.TIz D.TITO D.TIi1 D.TIi2 hTI)
    · exact (sb.2 _ D.TOz).trans TO'
    · exact s1'.1.keep fun o q => (sb.2 _ (Ne.symm D.zi1)).trans q
    · exact s2'.1.keep fun o q => (sb.2 _ (Ne.symm D.zi2)).trans q
    · have hlt : c < s.heap.objs.size := by
        simp only [List.mem_cons, List.not_mem_nil, or_false] at hcm
        rcases hcm with rfl | rfl | rfl | rfl | rfl
        · exact hzl
        · exact Heap.lt_size hTI
        · exact Heap.lt_size hTO
        · obtain ⟨_, e1, _⟩ := h1.obj; exact Heap.lt_size e1
        · obtain ⟨_, e2, _⟩ := h2.obj; exact Heap.lt_size e2
      rw [upd_ne (Nat.ne_of_lt hlt)]
      exact (hf c hcm).1
  done := by
    intro X hP hw hK hc i pins s σ H E I hf q hg
    subst hP hw hK
    obtain ⟨hz, hTI, ⟨x0, y0, hTO⟩, h1, h2⟩ := q
    obtain ⟨xs, ys, hqx, hqy, hi1, hi2, hend⟩ := hg
    obtain ⟨its, rv, p1⟩ := hqx.items I
    obtain ⟨its2, rv2, p2⟩ := hqy.items I
    have l1 := rv.length
    have l2 := rv2.length
    have hd : X.A.in1.handled = none := I.ok.hd hc
    have na : a ≠ i1 := fun e => by
      subst e
      cases t1 with
      | true =>
        obtain ⟨o, e, c, n, d⟩ := (show s.heap.IsTuple a its.toArray from p1)
        obtain ⟨o', e', c', d'⟩ := (show s.heap.IsTupleIter a a i from h1)
        rw [e] at e'; cases e'; rw [d] at d'; cases d'
      | false =>
        obtain ⟨o, e, c, n, d⟩ := (show s.heap.IsList a its.toArray from p1)
        obtain ⟨o', e', c', d'⟩ := (show s.heap.IsListIter a a i from h1)
        rw [e] at e'; cases e'; rw [d] at d'; cases d'
    have nb : b ≠ i2 := fun e => by
      subst e
      cases t2 with
      | true =>
        obtain ⟨o, e, c, n, d⟩ := (show s.heap.IsTuple b its2.toArray from p2)
        obtain ⟨o', e', c', d'⟩ := (show s.heap.IsTupleIter b b i from h2)
        rw [e] at e'; cases e'; rw [d] at d'; cases d'
      | false =>
        obtain ⟨o, e, c, n, d⟩ := (show s.heap.IsList b its2.toArray from p2)
        obtain ⟨o', e', c', d'⟩ := (show s.heap.IsListIter b b i from h2)
        rw [e] at e'; cases e'; rw [d] at d'; cases d'
    exact wpAny_pyNext_zipD2_end D (drawsB hd t1 i1 a na its.toArray) (drawsB hd t2 i2 b nb its2.toArray) hz hTI hTO ⟨h1, p1⟩ ⟨h2, p2⟩ (by simp; omega) (by simp; omega) (by simp; omega) fun h' tk hk =>
      ⟨rfl, I.turnedL (t' := tk) (ch := [z, TI, TO, i1, i2]) (fun c o hb q => hk c o (fun q' => hb (by simp [q'])) (fun q' => hb (by simp [q'])) (fun q' => hb (by simp [q'])) (fun q' => hb (by simp [q'])) q) hf⟩
  self := fun A i s Q E q h => wpAny_pyIter_zip q.1 h

def iZ (K : Frag) (ta : TA) : TI := fun σ H R => ta σ H fun vs H1 => ∃ a b t1 t2 xs ys, vs = [.ref a, .ref b] ∧ SeqB K t1 H1 a xs ∧ SeqB K t2 H1 b ys ∧ R (ItZ K t1 t2 a b) H1
def itO (t : Bool) (a : Addr) : Obj := if t = true then { cls := .type "tuple_iterator", data := .fields #[.ref a, .int 0 0] } else { cls := .type "list_iterator", data := .fields #[.ref a, .int 0 0] }
theorem beginsB (t : Bool) (a : Addr) (its : Array Value) : Begins (.ref a) (itO t a) fun h => SeqH t h a its := by
  cases t with
  | true => exact begins_tuple a its
  | false => exact begins_list a its
theorem IterB.of {t : Bool} {h : Heap} {i a : Addr} (e : h.get? i = some (itO t a)) : IterB t h i a 0 := by
  cases t with
  | true => exact ⟨_, e, rfl, rfl⟩
  | false => exact ⟨_, e, rfl, rfl⟩
theorem pi_Z {X : Cx} {e e2 : Expr} {ta : TA} {p pos tpos : Pos} {elts : List Expr} {kk : Nat} (hg : Gl X "zip") (hm : X.mg "zip" = none) (ha : PA X [e, e2] ta)
    (hs : starEach [e, e2] X.env = (false, eval e X.env) :: starEach [e2] X.env := by rfl) (hpl : (backTo pos (starEach [e2] X.env)).any (·.1) = false := by rfl) :
    PI X (.Tuple elts kk tpos) (.Call (.Name "zip" p) [e, e2] [] pos) (iZ X.K ta) := by
  refine ⟨fun pins s σ H R I h => Call_ (ld_blt I hg hm PyProof.Rows.boot_zip (PyProof.Rows.callWith_type1 (thn (ha.run pos pins s σ H _ I h) fun us s1 ⟨vs, H1, I1, r1, q1⟩ => ?_) hs hpl))⟩
  obtain ⟨a, b, t1, t2, xs, ys, rfl, hqx, hqy, q⟩ := q1
  obtain ⟨u, w', rfl, rx, ry⟩ := vals2 r1
  cases rx
  cases ry
  obtain ⟨its, rv, p1⟩ := hqx.items I1
  obtain ⟨its2, rv2, p2⟩ := hqy.items I1
  have la := p1.lt
  have lb := p2.lt
  refine zip_begins2 (beginsB t1 a its.toArray) (beginsB t2 b its2.toArray) p1 p2 fun h' hz hTI hTO g1 g2 hsz hk => wpAny_pyIter_zip hz ?_
  have I2 : Inv X pins σ H1 { s1 with heap := h' } := I1.kept (t' := s1.toks) hk
  refine ⟨s1.heap.objs.size + 4, [s1.heap.objs.size + 4, s1.heap.objs.size + 2, s1.heap.objs.size + 3, s1.heap.objs.size, s1.heap.objs.size + 1], _, _, H1, rfl, I2,
    turnZ (zip_sep2 (N := s1.heap.objs.size) (fp1 := [a]) (fp2 := [b]) (by simpa using la) (by simpa using lb)), ⟨hz, hTI, ⟨_, _, hTO⟩, .of g1, .of g2⟩, fun c hcm => ?_, q⟩
  have hle : s1.heap.objs.size ≤ c := by
    simp only [List.mem_cons, List.not_mem_nil, or_false] at hcm
    rcases hcm with e | e | e | e | e <;> rw [e] <;> first | exact Nat.le_add_right _ _ | exact Nat.le_refl _
  exact I1.fpOk hle (I1.hok.fresh hle)
/-- the items of a list or a tuple, and what must stay for them -/
def anyD (st : Sto) : D → Option (Bool × List D)
  | .tup ds => some (true, ds)
  | d => (sqD st d).map fun ds => (false, ds)
def watchA : D → List D → Watch
  | .ref n, ds => [(n, ds)]
  | _, _ => []
section
variable {K : Frag} {θ : List Addr} {G H : Hp} {st : Sto} {v : V} {d : D} {ds : List D} {t : Bool}
theorem anyD.ok (S : Sim K θ G H st) (r : Rep K θ G v d) (h : anyD st d = some (t, ds)) : ∃ a, v = .ref a ∧ (∃ vs, SeqB K t H a vs ∧ vs.length = ds.length) ∧
    ∀ θ' G' H' st', (∃ l, θ' = θ ++ l) → Gle G G' → Sim K θ' G' H' st' → watchOk (watchOf d ds) st' → ∃ vs, SeqB K t H' a vs ∧ Reps K θ' G' vs ds := by
  have sq : ∀ es, sqD st d = some es → t = false → ds = es → ∃ a, v = .ref a ∧ (∃ vs, SeqB K t H a vs ∧ vs.length = ds.length) ∧
    ∀ θ' G' H' st', (∃ l, θ' = θ ++ l) → Gle G G' → Sim K θ' G' H' st' → watchOk (watchOf d ds) st' → ∃ vs, SeqB K t H' a vs ∧ Reps K θ' G' vs ds := by
    intro es e ht he
    subst ht
    subst he
    obtain ⟨a, vs, rfl, h1, h2⟩ := sqD.ok S r e
    refine ⟨a, rfl, ⟨vs, h1, h2.len⟩, fun θ' G' H' st' p g S' w => ?_⟩
    cases d with
    | ref n =>
      have hw : st'[n]? = some (.lst ds) := w (n, ds) (List.mem_singleton.mpr rfl)
      cases r with
      | ref h3 =>
        obtain ⟨o, h4, h5⟩ := S'.at (pre_at p h3)
        rw [hw] at h4
        cases h4
        obtain ⟨ws, h6, h7⟩ := h5
        exact ⟨ws, SqL.of h6, h7⟩
    | lst es =>
      cases e
      cases r with
      | lst h3 h4 => exact ⟨_, SqL.of (S'.sub _ _ (g _ _ h3)), h4.mono p g _ _⟩
    | sq es =>
      cases e
      cases r with
      | sq h3 h4 => exact ⟨_, S'.l (g.l h3), h4.mono p g _ _⟩
    | _ => cases e
  cases d with
  | tup es =>
    cases h
    cases r with
    | @tup a vs _ h1 h2 => exact ⟨a, rfl, ⟨vs, S.t h1, h2.len⟩, fun θ' G' H' st' p g S' w => ⟨vs, S'.t (g.t h1), h2.mono p g _ _⟩⟩
  | lst es => cases h; exact sq _ rfl rfl rfl
  | sq es => cases h; exact sq _ rfl rfl rfl
  | ref n =>
    obtain ⟨es, h1, h2⟩ := Option.map_eq_some_iff.mp (show (sqD st (.ref n)).map (fun ds => (false, ds)) = some (t, ds) from h)
    cases h2
    exact sq _ h1 rfl rfl
  | non => cases h
  | bl _ => cases h
  | int _ => cases h
  | str _ => cases h
  | adr _ => cases h
  | ty _ => cases h
end
def zipL (a b : List D) : List D := List.zipWith (fun x y => .tup [x, y]) a b
def Izip (g : FA) : FI := fun env st => (g env st).bind fun p => match p.1 with
  | [x, y] => match anyD p.2 x, anyD p.2 y with
    | some (_, a), some (_, b) => some (zipL a b, watchOf x a ++ watchOf y b, p.2)
    | _, _ => none
  | _ => none
theorem watch_app {w w' : Watch} {st : Sto} (h : watchOk (w ++ w') st) : watchOk w st ∧ watchOk w' st := ⟨fun p hp => h p (List.mem_append_left _ hp), fun p hp => h p (List.mem_append_right _ hp)⟩
theorem watch_mk {w w' : Watch} {st : Sto} (h : watchOk w st) (h' : watchOk w' st) : watchOk (w ++ w') st := fun p hp => (List.mem_append.mp hp).elim (h p) (h' p)
theorem i_zip {X : Cx} {e e2 : Expr} {g : FA} {p pos tpos : Pos} {elts : List Expr} {kk : Nat} (hg : Gl X "zip") (hm : X.mg "zip" = none) (ha : PA X [e, e2] (tA X.K g))
    (hs : starEach [e, e2] X.env = (false, eval e X.env) :: starEach [e2] X.env := by rfl) (hpl : (backTo pos (starEach [e2] X.env)).any (·.1) = false := by rfl) :
    PI X (.Tuple elts kk tpos) (.Call (.Name "zip" p) [e, e2] [] pos) (tI X.K (Izip g)) :=
  piImp (pi_Z hg hm ha hs hpl) fun σ H R ⟨θ, G, env, st, items, w, st', S, EN, hf, post⟩ => by
    obtain ⟨⟨x, st1⟩, h1, h2⟩ := Option.bind_eq_some_iff.mp hf
    dsimp only at h2
    split at h2
    · rename_i x1 y1
      split at h2
      · rename_i t1 a t2 b ha hb
        cases h2
        refine tA.go S EN h1 fun θ1 G1 H1 v1 e1 S1 EN1 r1 => ?_
        cases r1 with
        | cons r1 r2 =>
          cases r2 with
          | cons r2 r3 =>
            cases r3
            obtain ⟨pa, rfl, ⟨va, ka, la⟩, qa⟩ := anyD.ok S1 r1 ha
            obtain ⟨pb, rfl, ⟨vb, kb, lb⟩, qb⟩ := anyD.ok S1 r2 hb
            refine ⟨pa, pb, t1, t2, va, vb, rfl, ka, kb, post _ _ _ _ e1 S1 ?_⟩
            have hl : (zipL a b).length = min a.length b.length := by simp [zipL]
            refine ⟨fun H => (∃ vs, SeqB X.K t1 H pa vs ∧ vs.length = a.length) ∧ ∃ vs, SeqB X.K t2 H pb vs ∧ vs.length = b.length,
              fun i H v H' => ∃ T x y, v = .ref T ∧ H T = none ∧ H' = upd H T (.tup [x, y]) ∧ (∀ xs, SeqB X.K t1 H pa xs → xs[i]? = some x) ∧ ∀ ys, SeqB X.K t2 H pb ys → ys[i]? = some y, ⟨?_, ?_, fun i H x H' _ _ q => q⟩, ?_, ?_⟩
            · rintro i H2 hi ⟨⟨us, ku, lu⟩, ⟨ws, kw, lw⟩⟩
              rw [hl] at hi
              exact ⟨us, ws, us[i]'(by omega), ws[i]'(by omega), ku, kw, List.getElem?_eq_getElem (by omega), List.getElem?_eq_getElem (by omega)⟩
            · rintro H2 ⟨⟨us, ku, lu⟩, ⟨ws, kw, lw⟩⟩
              rw [hl]
              exact ⟨us, ws, ku, kw, by omega, by omega, by omega⟩
            · intro θ' G' H' st' p g S' w
              obtain ⟨w1, w2⟩ := watch_app w
              obtain ⟨us, ku, ru⟩ := qa θ' G' H' st' p g S' w1
              obtain ⟨ws, kw, rw'⟩ := qb θ' G' H' st' p g S' w2
              exact ⟨⟨us, ku, ru.len⟩, ⟨ws, kw, rw'.len⟩⟩
            · rintro i x H2 H3 θ' G' st' hi p g S' w ⟨T, x2, y2, rfl, hT, rfl, hx, hy⟩
              obtain ⟨w1, w2⟩ := watch_app w
              obtain ⟨us, ku, ru⟩ := qa θ' G' H2 st' p g S' w1
              obtain ⟨ws, kw, rw'⟩ := qb θ' G' H2 st' p g S' w2
              obtain ⟨d1, e1', r1'⟩ := ru.at' (hx us ku)
              obtain ⟨d2, e2', r2'⟩ := rw'.at' (hy ws kw)
              refine ⟨_, Ext.newG S' hT _, S'.newG hT _, .tup [d1, d2], by simp [zipL, List.getElem?_zipWith, e1', e2'], ?_⟩
              exact .tup (.inl (.inl upd_same)) (.cons (r1'.ext (Ext.newG S' hT _)) (.cons (r2'.ext (Ext.newG S' hT _)) .nil))
      · cases h2
    · cases h2
/-! ### more built-ins -/
section
variable {K : Frag}
def fTup : FC := fun ds st => match ds with
  | [.tup es] => some (.tup es, st)
  | [d] => (sqD st d).map fun es => (.tup es, st)
  | _ => none
theorem s_tupc {X : Cx} : CallS X.K (fun xs H Q => ∃ p ys, xs = [.ref p] ∧ ((SqL X.K H p ys ∧ ∀ l, H l = none → Q (.ref l) (upd H l (.tup ys))) ∨ (SqT X.K H p ys ∧ Q (.ref p) H))) fTup := by
  intro θ G H st vs ds z st' Q S r h post
  unfold fTup at h
  split at h
  · cases h
    cases r with
    | cons r1 r2 =>
      cases r2
      cases r1 with
      | tup h1 h2 => exact ⟨_, _, rfl, .inr ⟨S.t h1, post.same S (.tup h1 h2)⟩⟩
  · obtain ⟨es, h1, h2⟩ := Option.map_eq_some_iff.mp h
    cases h2
    cases r with
    | cons r1 r2 =>
      cases r2
      obtain ⟨a, ws, rfl, h3, h4⟩ := sqD.ok S r1 h1
      exact ⟨_, _, rfl, .inl ⟨h3, fun l hl => post.newT S hl h4⟩⟩
  · cases h
def listItems (st : Sto) : D → Option (List D)
  | .tup es => some es
  | d => sqD st d
def fList : FC := fun ds st => match ds with
  | [d] => (listItems st d).map fun es => (.lst es, st)
  | _ => none
def fListN : FC := fun ds st => match ds with
  | [d] => (listItems st d).map fun es => (.ref st.length, st ++ [.lst es])
  | _ => none
theorem listItems.ok {θ : List Addr} {G H : Hp} {st : Sto} {v : V} {d : D} {es : List D} (S : Sim K θ G H st) (r : Rep K θ G v d) (h : listItems st d = some es) : ∃ p ys, v = .ref p ∧ (SqL K H p ys ∨ SqT K H p ys) ∧ Reps K θ G ys es := by
  have sq : sqD st d = some es → ∃ p ys, v = .ref p ∧ (SqL K H p ys ∨ SqT K H p ys) ∧ Reps K θ G ys es := fun e => by
    obtain ⟨a, ws, rfl, h3, h4⟩ := sqD.ok S r e
    exact ⟨a, ws, rfl, .inl h3, h4⟩
  cases d with
  | tup ds =>
    cases h
    cases r with
    | tup h1 h2 => exact ⟨_, _, rfl, .inr (S.t h1), h2⟩
  | _ => exact sq h
theorem s_list {X : Cx} : CallS X.K (fun xs H Q => ∃ p ys, xs = [.ref p] ∧ (SqL X.K H p ys ∨ SqT X.K H p ys) ∧ ∀ l, H l = none → Q (.ref l) (upd H l (.lst ys))) fList := by
  intro θ G H st vs ds z st' Q S r h post
  unfold fList at h
  split at h
  · obtain ⟨es, h1, h2⟩ := Option.map_eq_some_iff.mp h
    cases h2
    cases r with
    | cons r1 r2 =>
      cases r2
      obtain ⟨p, ys, rfl, h3, h4⟩ := listItems.ok S r1 h1
      exact ⟨p, ys, rfl, h3, fun l hl => post.newL S hl h4⟩
  · cases h
theorem s_listN {X : Cx} : CallS X.K (fun xs H Q => ∃ p ys, xs = [.ref p] ∧ (SqL X.K H p ys ∨ SqT X.K H p ys) ∧ ∀ l, H l = none → Q (.ref l) (upd H l (.lst ys))) fListN := by
  intro θ G H st vs ds z st' Q S r h post
  unfold fListN at h
  split at h
  · obtain ⟨es, h1, h2⟩ := Option.map_eq_some_iff.mp h
    cases h2
    cases r with
    | cons r1 r2 =>
      cases r2
      obtain ⟨p, ys, rfl, h3, h4⟩ := listItems.ok S r1 h1
      exact ⟨p, ys, rfl, h3, fun l hl => post.newM S hl h4⟩
  · cases h
/-- a list of ints -/
def intsD : List D → Option (List Int)
  | [] => some []
  | .int i :: ds => (intsD ds).map (i :: ·)
  | _ => none
theorem intsD.eq : ∀ {ds : List D} {ns : List Int}, intsD ds = some ns → ds = ns.map D.int
  | [], _, h => by cases h; rfl
  | .int i :: ds, _, h => by
    obtain ⟨ms, h1, rfl⟩ := Option.map_eq_some_iff.mp (show (intsD ds).map (i :: ·) = some _ from h)
    rw [intsD.eq h1]
    rfl
  | .non :: _, _, h => by cases h
  | .bl _ :: _, _, h => by cases h
  | .str _ :: _, _, h => by cases h
  | .tup _ :: _, _, h => by cases h
  | .lst _ :: _, _, h => by cases h
  | .sq _ :: _, _, h => by cases h
  | .ref _ :: _, _, h => by cases h
  | .adr _ :: _, _, h => by cases h
  | .ty _ :: _, _, h => by cases h
theorem intsD_map (ns : List Int) : intsD (ns.map D.int) = some ns := by
  induction ns with
  | nil => rfl
  | cons n ns ih => simp [intsD, ih]
def maxL : List Int → Option Int
  | [] => none
  | x :: xs => some (xs.foldl max x)
def minL : List Int → Option Int
  | [] => none
  | x :: xs => some (xs.foldl min x)
theorem foldl_max_mem : ∀ (xs : List Int) (x : Int), xs.foldl max x ∈ x :: xs ∧ ∀ y, y ∈ x :: xs → y ≤ xs.foldl max x
  | [], x => ⟨by simp, fun y hy => by simp at hy; simp [hy]⟩
  | z :: xs, x => by
    obtain ⟨h1, h2⟩ := foldl_max_mem xs (max x z)
    rw [List.foldl_cons]
    refine ⟨?_, fun y hy => ?_⟩
    · rcases List.mem_cons.mp h1 with h | h
      · rw [h]
        by_cases hc : x ≤ z
        · rw [Int.max_eq_right hc]; simp
        · rw [Int.max_eq_left (by omega)]; simp
      · exact List.mem_cons_of_mem _ (List.mem_cons_of_mem _ h)
    · rcases List.mem_cons.mp hy with rfl | hy
      · have := h2 (max y z) (by simp)
        omega
      · rcases List.mem_cons.mp hy with rfl | hy
        · have := h2 (max x y) (by simp)
          omega
        · exact h2 y (List.mem_cons_of_mem _ hy)
theorem foldl_min_mem : ∀ (xs : List Int) (x : Int), xs.foldl min x ∈ x :: xs ∧ ∀ y, y ∈ x :: xs → xs.foldl min x ≤ y
  | [], x => ⟨by simp, fun y hy => by simp at hy; simp [hy]⟩
  | z :: xs, x => by
    obtain ⟨h1, h2⟩ := foldl_min_mem xs (min x z)
    rw [List.foldl_cons]
    refine ⟨?_, fun y hy => ?_⟩
    · rcases List.mem_cons.mp h1 with h | h
      · rw [h]
        by_cases hc : x ≤ z
        · rw [Int.min_eq_left hc]; simp
        · rw [Int.min_eq_right (by omega)]; simp
      · exact List.mem_cons_of_mem _ (List.mem_cons_of_mem _ h)
    · rcases List.mem_cons.mp hy with rfl | hy
      · have := h2 (min y z) (by simp)
        omega
      · rcases List.mem_cons.mp hy with rfl | hy
        · have := h2 (min x y) (by simp)
          omega
        · exact h2 y (List.mem_cons_of_mem _ hy)
theorem max_is {ns : List Int} {m k : Int} (h : maxL ns = some k) (h1 : m ∈ ns) (h2 : ∀ y, y ∈ ns → y ≤ m) : m = k := by
  cases ns with
  | nil => cases h
  | cons x xs =>
    cases h
    obtain ⟨a, b⟩ := foldl_max_mem xs x
    have := h2 _ a
    have := b _ h1
    omega
theorem min_is {ns : List Int} {m k : Int} (h : minL ns = some k) (h1 : m ∈ ns) (h2 : ∀ y, y ∈ ns → m ≤ y) : m = k := by
  cases ns with
  | nil => cases h
  | cons x xs =>
    cases h
    obtain ⟨a, b⟩ := foldl_min_mem xs x
    have := h2 _ a
    have := b _ h1
    omega
def fMax : FC := fun ds st => match ds with
  | [d] => ((sqD st d).bind intsD).bind fun ns => (maxL ns).map fun m => (.int m, st)
  | _ => none
def fMin : FC := fun ds st => match ds with
  | [d] => ((sqD st d).bind intsD).bind fun ns => (minL ns).map fun m => (.int m, st)
  | _ => none
theorem s_max : CallS K (rMax K) fMax := by
  intro θ G H st vs ds z st' Q S r h post
  unfold fMax at h
  split at h
  · obtain ⟨ns, h1, h2⟩ := Option.bind_eq_some_iff.mp h
    obtain ⟨es, h3, h4⟩ := Option.bind_eq_some_iff.mp h1
    obtain ⟨m, h5, h6⟩ := Option.map_eq_some_iff.mp h2
    cases h6
    have h4 := intsD.eq h4
    subst h4
    cases r with
    | cons r1 r2 =>
      cases r2
      obtain ⟨a, ws, rfl, h7, h8⟩ := sqD.ok S r1 h3
      have e := h8.ints
      subst e
      refine ⟨a, ns, rfl, h7, ?_, fun k hk1 hk2 => ?_⟩
      · cases ns with
        | nil => cases h5
        | cons _ _ => simp
      · rw [max_is h5 hk1 hk2]
        exact post.same S (.int _)
  · cases h
theorem s_min : CallS K (rMin K) fMin := by
  intro θ G H st vs ds z st' Q S r h post
  unfold fMin at h
  split at h
  · obtain ⟨ns, h1, h2⟩ := Option.bind_eq_some_iff.mp h
    obtain ⟨es, h3, h4⟩ := Option.bind_eq_some_iff.mp h1
    obtain ⟨m, h5, h6⟩ := Option.map_eq_some_iff.mp h2
    cases h6
    have h4 := intsD.eq h4
    subst h4
    cases r with
    | cons r1 r2 =>
      cases r2
      obtain ⟨a, ws, rfl, h7, h8⟩ := sqD.ok S r1 h3
      have e := h8.ints
      subst e
      refine ⟨a, ns, rfl, h7, ?_, fun k hk1 hk2 => ?_⟩
      · cases ns with
        | nil => cases h5
        | cons _ _ => simp
      · rw [min_is h5 hk1 hk2]
        exact post.same S (.int _)
  · cases h
def fMax2 : FC := fun ds st => match ds with
  | [.int i, .int j] => some (.int (if j > i then j else i), st)
  | _ => none
def fMin2 : FC := fun ds st => match ds with
  | [.int i, .int j] => some (.int (if j < i then j else i), st)
  | _ => none
theorem s_max2 : CallS K (fun xs H Q => ∃ i j, xs = [.int i, .int j] ∧ Q (.int (if j > i then j else i)) H) fMax2 := by
  intro θ G H st vs ds z st' Q S r h post
  unfold fMax2 at h
  split at h
  · cases h
    cases r with
    | cons r1 r2 =>
      cases r2 with
      | cons r2 r3 => cases r1; cases r2; cases r3; exact ⟨_, _, rfl, post.same S (.int _)⟩
  · cases h
theorem s_min2 : CallS K (fun xs H Q => ∃ i j, xs = [.int i, .int j] ∧ Q (.int (if j < i then j else i)) H) fMin2 := by
  intro θ G H st vs ds z st' Q S r h post
  unfold fMin2 at h
  split at h
  · cases h
    cases r with
    | cons r1 r2 =>
      cases r2 with
      | cons r2 r3 => cases r1; cases r2; cases r3; exact ⟨_, _, rfl, post.same S (.int _)⟩
  · cases h
end
section
variable {X : Cx} {e e2 : Expr} {g : FA} {p pos : Pos}
theorem c_tupc (hg : Gl X "tuple") (hm : X.mg "tuple" = none) (ha : PA X [e] (tA X.K g)) (he : starEach [e] X.env = (false, eval e X.env) :: starEach [] X.env := by rfl) : PE X (.Call (.Name "tuple" p) [e] [] pos) (tE X.K (EC fTup g)) := c_ct call_tuple_of s_tupc hg hm (by decide +kernel) ha (by decide) (by decide) he
theorem c_listc (hg : Gl X "list") (hm : X.mg "list" = none) (ha : PA X [e] (tA X.K g)) (he : starEach [e] X.env = (false, eval e X.env) :: starEach [] X.env := by rfl) : PE X (.Call (.Name "list" p) [e] [] pos) (tE X.K (EC fList g)) := c_ct call_list_of s_list hg hm (by decide +kernel) ha (by decide) (by decide) he
theorem c_listN (hg : Gl X "list") (hm : X.mg "list" = none) (ha : PA X [e] (tA X.K g)) (he : starEach [e] X.env = (false, eval e X.env) :: starEach [] X.env := by rfl) : PE X (.Call (.Name "list" p) [e] [] pos) (tE X.K (EC fListN g)) := c_ct call_list_of s_listN hg hm (by decide +kernel) ha (by decide) (by decide) he
theorem c_max1 (hc : X.calm = true) (hg : Gl X "max") (hm : X.mg "max" = none) (ha : PA X [e] (tA X.K g)) (he : starEach [e] X.env = (false, eval e X.env) :: starEach [] X.env := by rfl) : PE X (.Call (.Name "max" p) [e] [] pos) (tE X.K (EC fMax g)) := c_cb (cr_max hc) s_max hg hm (by decide +kernel) ha (by decide) (by decide) he
theorem c_min1 (hc : X.calm = true) (hg : Gl X "min") (hm : X.mg "min" = none) (ha : PA X [e] (tA X.K g)) (he : starEach [e] X.env = (false, eval e X.env) :: starEach [] X.env := by rfl) : PE X (.Call (.Name "min" p) [e] [] pos) (tE X.K (EC fMin g)) := c_cb (cr_min hc) s_min hg hm (by decide +kernel) ha (by decide) (by decide) he
theorem c_max2 (hc : X.calm = true) (hg : Gl X "max") (hm : X.mg "max" = none) (ha : PA X [e, e2] (tA X.K g)) (he : starEach [e, e2] X.env = (false, eval e X.env) :: starEach [e2] X.env := by rfl) (hpl : (backTo pos (starEach [e2] X.env)).any (·.1) = false := by rfl) : PE X (.Call (.Name "max" p) [e, e2] [] pos) (tE X.K (EC fMax2 g)) := c_cb (call_max2 hc) s_max2 hg hm (by decide +kernel) ha (by decide) (by decide) he hpl
theorem c_min2 (hc : X.calm = true) (hg : Gl X "min") (hm : X.mg "min" = none) (ha : PA X [e, e2] (tA X.K g)) (he : starEach [e, e2] X.env = (false, eval e X.env) :: starEach [e2] X.env := by rfl) (hpl : (backTo pos (starEach [e2] X.env)).any (·.1) = false := by rfl) : PE X (.Call (.Name "min" p) [e, e2] [] pos) (tE X.K (EC fMin2 g)) := c_cb (call_min2 hc) s_min2 hg hm (by decide +kernel) ha (by decide) (by decide) he hpl
end

/-! ### sum, max, min of lists and tuples -/
section
variable {prog : Program} {w : World} {A : Around} {E : Value → Shared → Prop} {s : Shared} {l t : Addr} {its : List Value} {ns : List Int} {Q : Value → Shared → Prop} {xs : Array (Int × Tok)}
theorem sum_rawT (hh : A.handled = none) (hl : s.heap.IsTuple l its.toArray) (hi : IntsAre its ns)
    (h : ∀ h' tk t', (∀ b o, s.heap.get? b = some o → h'.get? b = some o) → Q (.int ns.sum t') { s with heap := h', toks := tk }) : wpAny (model prog w) A (call (.builtin "sum") [.ref l]) Q E s := by
  obtain ⟨xs, e⟩ := hi.allInts.items
  have hn : numsOf (intItems xs).toList = ns := by rw [← e]; exact hi.numsOf
  rw [nums_intItems] at hn
  rw [e] at hl
  refine PySem.W.ktm_sumG hh hl fun h' tk t' hk => ?_
  have := h h' tk t' hk
  rw [preSum_eq, List.take_of_length_le (by simp), hn]; exact this
theorem old_keptT {h' : Heap} (hk : ∀ b o, b ∉ [s.heap.objs.size] → (s.heap.push { cls := .type "tuple_iterator", data := .fields #[.ref l, .int 0 0] }).get? b = some o → h'.get? b = some o) :
    ∀ b o, s.heap.get? b = some o → h'.get? b = some o := fun b o e => by
  refine hk b o (fun hm => ?_) (Heap.get?_push_of_some _ e)
  rcases List.mem_cons.mp hm with e1 | hm
  · exact absurd (e1 ▸ Heap.lt_size e) (Nat.lt_irrefl _)
  · cases hm
theorem tup_fp (ht : s.heap.IsTuple t its.toArray) : ∀ b ∈ [s.heap.objs.size, t], b < (s.heap.push { cls := .type "tuple_iterator", data := .fields #[.ref t, .int 0 0] }).objs.size := fun b hb => by
  obtain ⟨o, ho, _⟩ := ht
  rcases List.mem_cons.mp hb with rfl | hb
  · exact Heap.lt_size (Heap.get?_push_size _ rfl)
  · obtain rfl := List.mem_singleton.mp hb
    exact Heap.lt_size (Heap.get?_push_of_some _ ho)
theorem max_rawT (hh : A.handled = none) (hl : s.heap.IsTuple l its.toArray) (hi : IntsAre its ns) (hne : 0 < ns.length)
    (h : ∀ h' tk M t', (∀ b o, s.heap.get? b = some o → h'.get? b = some o) → M ∈ ns → (∀ a, a ∈ ns → a ≤ M) → Q (.int M t') { s with heap := h', toks := tk }) : wpAny (model prog w) A (call (.builtin "max") [.ref l]) Q E s := by
  have hfp := tup_fp hl
  obtain ⟨xs, e⟩ := hi.allInts.items
  have hn : numsOf (intItems xs).toList = ns := by rw [← e]; exact hi.numsOf
  rw [nums_intItems] at hn
  subst hn
  rw [e] at hl
  have hsz : 0 < xs.size := by simpa using hne
  have hne' : l ≠ s.heap.objs.size := by obtain ⟨o, ho, _⟩ := id hl; exact Nat.ne_of_lt (Heap.lt_size ho)
  refine call_max_walk (wpAny_pyIter_tuple hl ?_)
  refine ⟨s.heap.objs.size, _, _, _, _, _, _, rfl, Walks.tuple (A := A.in1) hh s.heap.objs.size l hne' (intItems xs), ⟨⟨_, Heap.get?_push_size _ rfl, rfl, rfl⟩, hl.at fun o e => Heap.get?_push_of_some _ e⟩, hfp, by simpa [intItems] using hsz, CmpOf.ints_gt (numAt xs) (fun _ _ => intItems_at), fun v h' tk hv hk => ?_⟩
  have hv' : (intItems xs)[argBest (fun i j => decide (numAt xs i > numAt xs j)) (xs.size - 1)]? = some v := by simpa [intItems] using hv
  obtain ⟨t, rfl⟩ := intItems_at hv'
  obtain ⟨h1, h2⟩ := argBest_gt (numAt xs) (xs.size - 1)
  refine h h' tk _ t (old_keptT hk) ?_ fun a ha => ?_
  · rw [numAt_eq]; exact PySem.getD_mem (by rw [List.length_map, Array.length_toList]; omega)
  · obtain ⟨j, hj, rfl⟩ := mem_getD ha
    rw [List.length_map, Array.length_toList] at hj
    rw [← numAt_eq]; exact h2 j (by omega)
end
def SqA (K : Frag) (H : Hp) (a : Addr) (xs : List V) : Prop := SqL K H a xs ∨ SqT K H a xs
def rSumA (K : Frag) : List V → Hp → VK → Prop := fun vs H Q => ∃ (a : Addr) (ns : List Int), vs = [V.ref a] ∧ SqA K H a (ns.map V.int) ∧ Q (.int ns.sum) H
def rMaxA (K : Frag) : List V → Hp → VK → Prop := fun vs H Q => ∃ (a : Addr) (ns : List Int), vs = [V.ref a] ∧ SqA K H a (ns.map V.int) ∧ 0 < ns.length ∧ ∀ m, m ∈ ns → (∀ y, y ∈ ns → y ≤ m) → Q (.int m) H
section
variable {X : Cx} {K : Frag}
theorem cr_sumA (hc : X.calm = true) : CallR X (.builtin "sum") (rSumA X.K) := by
  intro pins s σ H vs us Q I r h
  obtain ⟨a, ns, rfl, hs, q⟩ := h
  rcases hs with hs | hs
  · exact cr_sum hc pins s σ H _ us Q I r ⟨a, ns, rfl, hs, q⟩
  · obtain ⟨its, rv, hl, _⟩ := I.tuple hs
    rw [Vals.ref1 r]
    exact sum_rawT (I.ok.hd hc) hl rv.ints fun h' tk t' hk => ⟨.int _, H, I.kept hk, ⟨_, rfl⟩, q⟩
theorem cr_maxA (hc : X.calm = true) : CallR X (.builtin "max") (rMaxA X.K) := by
  intro pins s σ H vs us Q I r h
  obtain ⟨a, ns, rfl, hs, hne, q⟩ := h
  rcases hs with hs | hs
  · exact cr_max hc pins s σ H _ us Q I r ⟨a, ns, rfl, hs, hne, q⟩
  · obtain ⟨its, rv, hl, _⟩ := I.tuple hs
    rw [Vals.ref1 r]
    exact max_rawT (I.ok.hd hc) hl rv.ints hne fun h' tk m t' hk h1 h2 => ⟨.int _, H, I.kept hk, ⟨_, rfl⟩, q m h1 h2⟩
theorem intsA {θ : List Addr} {G H : Hp} {st : Sto} {v : V} {d : D} {ns : List Int} (S : Sim K θ G H st) (r : Rep K θ G v d) (h : (listItems st d).bind intsD = some ns) : ∃ a, v = .ref a ∧ SqA K H a (ns.map V.int) := by
  obtain ⟨es, h3, h4⟩ := Option.bind_eq_some_iff.mp h
  have h4 := intsD.eq h4
  subst h4
  obtain ⟨a, ws, rfl, h7, h8⟩ := listItems.ok S r h3
  have e := h8.ints
  subst e
  exact ⟨a, rfl, h7⟩
def fSum : FC := fun ds st => match ds with
  | [d] => ((listItems st d).bind intsD).map fun ns => (.int ns.sum, st)
  | _ => none
theorem s_sum : CallS K (rSumA K) fSum := by
  intro θ G H st vs ds z st' Q S r h post
  unfold fSum at h
  split at h
  · obtain ⟨ns, h1, h2⟩ := Option.map_eq_some_iff.mp h
    cases h2
    cases r with
    | cons r1 r2 =>
      cases r2
      obtain ⟨a, rfl, h7⟩ := intsA S r1 h1
      exact ⟨a, ns, rfl, h7, post.same S (.int _)⟩
  · cases h
def fMaxA : FC := fun ds st => match ds with
  | [d] => ((listItems st d).bind intsD).bind fun ns => (maxL ns).map fun m => (.int m, st)
  | _ => none
theorem s_maxA : CallS K (rMaxA K) fMaxA := by
  intro θ G H st vs ds z st' Q S r h post
  unfold fMaxA at h
  split at h
  · obtain ⟨ns, h1, h2⟩ := Option.bind_eq_some_iff.mp h
    obtain ⟨m, h5, h6⟩ := Option.map_eq_some_iff.mp h2
    cases h6
    cases r with
    | cons r1 r2 =>
      cases r2
      obtain ⟨a, rfl, h7⟩ := intsA S r1 h1
      refine ⟨a, ns, rfl, h7, ?_, fun k hk1 hk2 => ?_⟩
      · cases ns with
        | nil => cases h5
        | cons _ _ => simp
      · rw [max_is h5 hk1 hk2]
        exact post.same S (.int _)
  · cases h
end
section
variable {X : Cx} {e e2 : Expr} {g : FA} {p pos : Pos}
theorem c_sum (hc : X.calm = true) (hg : Gl X "sum") (hm : X.mg "sum" = none) (ha : PA X [e] (tA X.K g)) (he : starEach [e] X.env = (false, eval e X.env) :: starEach [] X.env := by rfl) : PE X (.Call (.Name "sum" p) [e] [] pos) (tE X.K (EC fSum g)) := c_cb (cr_sumA hc) s_sum hg hm (by decide +kernel) ha (by decide) (by decide) he
theorem c_maxA (hc : X.calm = true) (hg : Gl X "max") (hm : X.mg "max" = none) (ha : PA X [e] (tA X.K g)) (he : starEach [e] X.env = (false, eval e X.env) :: starEach [] X.env := by rfl) : PE X (.Call (.Name "max" p) [e] [] pos) (tE X.K (EC fMaxA g)) := c_cb (cr_maxA hc) s_maxA hg hm (by decide +kernel) ha (by decide) (by decide) he
end
/-! ### index, extend -/
def idxL (p : PyData) : List PyData → Option Nat
  | [] => none
  | q :: qs => if PyData.eqv q p = true then some 0 else (idxL p qs).map (· + 1)
theorem idxL_ok {p : PyData} : ∀ {qs : List PyData} {j : Nat}, idxL p qs = some j → ∃ z, qs[j]? = some z ∧ PyData.eqv z p = true ∧ ∀ (m : Nat) (z' : PyData), m < j → qs[m]? = some z' → PyData.eqv z' p = false
  | [], _, h => by cases h
  | q :: qs, j, h => by
    unfold idxL at h
    split at h
    · rename_i hq
      cases h
      exact ⟨q, rfl, hq, fun m z' hm => absurd hm (Nat.not_lt_zero m)⟩
    · rename_i hq
      obtain ⟨i, h1, rfl⟩ := Option.map_eq_some_iff.mp h
      obtain ⟨z, h2, h3, h4⟩ := idxL_ok h1
      refine ⟨z, h2, h3, fun m z' hm hz => ?_⟩
      cases m with
      | zero => cases hz; exact Bool.eq_false_iff.mpr hq
      | succ m => exact h4 m z' (by omega) hz
def mIndex : FM := fun d ds st => match ds with
  | [y] => match pyD st d, pyD st y with
    | some (.list ps), some p => if SeqAt.shaped (.list ps) = true ∧ SeqAt.shaped p = true then (idxL p ps).map fun j => (.int (j : Nat), st) else none
    | _, _ => none
  | _ => none
theorem s_index {K : Frag} : MtS K (rIndexD K) mIndex := by
  intro θ G H st x d vs ds z st' Q S rx r h post
  unfold mIndex at h
  split at h
  · split at h
    · rename_i ps p h1 h2
      split at h
      · rename_i hs
        obtain ⟨j, h3, h4⟩ := Option.map_eq_some_iff.mp h
        cases h4
        obtain ⟨z, h5, h6, h7⟩ := idxL_ok h3
        cases r with
        | cons r1 r2 =>
          cases r2
          have hd := pyD.ok S rx h1
          obtain ⟨a, rfl⟩ : ∃ a, x = .ref a := by cases hd; exact ⟨_, rfl⟩
          exact ⟨a, _, p, ps, j, z, rfl, rfl, hd, pyD.ok S r1 h2, hs.1, hs.2, h5, h6, h7, post.same S (.int _)⟩
      · cases h
    · cases h
  · cases h
/-! ### slices -/
abbrev FO := Env → Sto → Option (Option Int × Sto)
def Onone : FO := fun _ st => some (none, st)
def Osome (f : FE) : FO := fun env st => (f env st).bind fun p => match p.1 with
  | .int i => some (some i, p.2)
  | _ => none
def cutL {α : Type} (xs : List α) (lo hi : Option Int) : List α := (xs.drop (HT.sIx xs.length 0 lo)).take (HT.sIx xs.length xs.length hi - HT.sIx xs.length 0 lo)
def slD (x : D) (lo hi : Option Int) (st : Sto) : Option (D × Sto) := match x with
  | .tup ds => some (.tup (cutL ds lo hi), st)
  | .str z => if z.length ≤ 16777216 then some (.str (cutS z lo hi), st) else none
  | d => (sqD st d).map fun ds => (.lst (cutL ds lo hi), st)
def Esl (fo : FE) (fl fh : FO) : FE := fun env st => (fo env st).bind fun p => (fl env p.2).bind fun q => (fh env q.2).bind fun r => slD p.1 q.1 r.1 r.2

/-! a slice's own rules -/
def tO (K : Frag) (f : FO) : TO := fun σ H Q => ∃ θ G env st o st', Sim K θ G H st ∧ EnvR K θ G σ env ∧ f env st = some (o, st') ∧ ∀ θ' G' H', Ext θ θ' G G' H H' → Sim K θ' G' H' st' → Q o H'
theorem poImp {X : Cx} {e : Option Expr} {t t' : TO} (h : PO X e t) (i : ∀ σ H Q, t' σ H Q → t σ H Q) : PO X e t' := ⟨fun pins s σ H Q I q => h.run pins s σ H Q I (i _ _ _ q)⟩
theorem o_none {X : Cx} : PO X none (tO X.K Onone) := poImp po_none fun σ H Q ⟨θ, G, env, st, o, st', S, EN, hf, post⟩ => by
  cases hf
  exact post _ _ _ .refl S
theorem o_some {X : Cx} {e : Expr} {f : FE} (h : PE X e (tE X.K f)) : PO X (some e) (tO X.K (Osome f)) := poImp (po_some h) fun σ H Q ⟨θ, G, env, st, o, st', S, EN, hf, post⟩ => by
  obtain ⟨⟨d, st1⟩, h1, h2⟩ := Option.bind_eq_some_iff.mp hf
  dsimp only at h2
  split at h2
  · cases h2
    refine tE.go S EN h1 fun θ1 G1 H1 v1 e1 S1 EN1 r1 => ?_
    cases r1
    exact ⟨_, rfl, post _ _ _ e1 S1⟩
  · cases h2
theorem Reps.cut {K : Frag} {θ : List Addr} {G : Hp} : ∀ {vs : List V} {ds : List D} (a b : Nat), Reps K θ G vs ds → Reps K θ G ((vs.drop a).take b) ((ds.drop a).take b)
  | [], _, a, b, r => by cases r; simp; exact .nil
  | v :: vs, d :: ds, 0, 0, r => by simp; exact .nil
  | v :: vs, d :: ds, 0, b + 1, r => by
    cases r with
    | cons r1 r2 => simpa using Reps.cons r1 (by simpa using Reps.cut 0 b r2)
  | v :: vs, d :: ds, a + 1, b, r => by
    cases r with
    | cons r1 r2 => simpa using Reps.cut a b r2
theorem cut_rep {K : Frag} {θ : List Addr} {G : Hp} {vs : List V} {ds : List D} (lo hi : Option Int) (r : Reps K θ G vs ds) : Reps K θ G (cutV vs lo hi) (cutL ds lo hi) := by
  unfold cutV cutL
  rw [r.len]
  exact r.cut _ _
theorem cutL_all {α : Type} {xs : List α} {lo hi : Option Int} (h1 : HT.sIx xs.length 0 lo = 0) (h2 : HT.sIx xs.length xs.length hi = xs.length) : cutL xs lo hi = xs := by
  unfold cutL
  rw [h1, h2, List.drop_zero, Nat.sub_zero, List.take_length]
def rSlAll (K : Frag) : V → Option Int → Option Int → Hp → VK → Prop := fun x lo hi H Q => (rSlL K x lo hi H Q ∨ rSlA K x lo hi H Q) ∨ rSlS x lo hi H Q
theorem sl_all {X : Cx} : SlR X (rSlAll X.K) := (sl_list.or sl_tupA).or sl_str
theorem c_sl {X : Cx} {e : Expr} {lo hi : Option Expr} {fo : FE} {fl fh : FO} {pos p2 : Pos} (he : PE X e (tE X.K fo)) (hl : PO X lo (tO X.K fl)) (hh : PO X hi (tO X.K fh)) : PE X (.Subscript e (.Slice lo hi none p2) pos) (tE X.K (Esl fo fl fh)) :=
  peImp (pe_slice sl_all he hl hh) fun σ H Q ⟨θ, G, env, st, d, st', S, EN, hf, post⟩ => by
    obtain ⟨⟨x, st1⟩, h1, hf⟩ := Option.bind_eq_some_iff.mp hf
    obtain ⟨⟨a, st2⟩, h2, hf⟩ := Option.bind_eq_some_iff.mp hf
    obtain ⟨⟨b, st3⟩, h3, hf⟩ := Option.bind_eq_some_iff.mp hf
    refine tE.go S EN h1 fun θ1 G1 H1 v1 e1 S1 EN1 r1 => ⟨_, _, _, _, _, _, S1, EN1, h2, fun θ2 G2 H2 e2 S2 => ⟨_, _, _, _, _, _, S2, EN1.ext e2, h3, fun θ3 G3 H3 e3 S3 => ?_⟩⟩
    have r3 := (r1.ext e2).ext e3
    have post' : PostE X.K θ3 G3 H3 st' d Q := fun θ' G' H' v e s r => post _ _ _ _ (((e1.trans S1 e2).trans S2 e3).trans S3 e) s r
    dsimp only at hf r3
    clear h1 r1
    unfold slD at hf
    split at hf
    · cases hf
      cases r3 with
      | @tup p vs ds g1 g2 =>
        refine .inl (.inr ⟨p, vs, rfl, S3.t g1, fun hw => ?_, fun hw q hq => post'.newT S3 hq (cut_rep a b g2)⟩)
        rw [g2.len] at hw
        rw [cutL_all hw.1 hw.2] at post'
        exact post'.same S3 (.tup g1 g2)
    · split at hf
      · rename_i hz
        cases hf
        cases r3
        exact .inr ⟨_, rfl, szl hz, post'.same S3 (.str _)⟩
      · cases hf
    · obtain ⟨ds, h4, h5⟩ := Option.map_eq_some_iff.mp hf
      cases h5
      obtain ⟨p, vs, rfl, h6, h7⟩ := sqD.ok S3 r3 h4
      exact .inl (.inl ⟨p, vs, rfl, h6, fun q hq => post'.newL S3 hq (cut_rep a b h7)⟩)
/-! ### reckoning, more -/
theorem toPys_ints (ns : List Int) : toPys (ns.map D.int) = some (ns.map PyData.int) := by
  induction ns with
  | nil => rfl
  | cons n ns ih =>
    show (toPy (.int n)).bind (fun p => (toPys (ns.map D.int)).map (p :: ·)) = _
    rw [ih]
    rfl
theorem shaped_tints (ns : List Int) : SeqAt.shaped (.tuple (ns.map PyData.int)) = true := by
  simp [SeqAt.shaped, PyData.canLay0, PyData.depth, PySem.W.ke_canLayAll0, PySem.W.ke_depthAll]
theorem eqv_ints : ∀ ns ms : List Int, PyData.eqvAll (ns.map PyData.int) (ms.map PyData.int) = decide (ns = ms)
  | [], [] => by simp [PyData.eqvAll]
  | [], _ :: _ => by simp [PyData.eqvAll]
  | _ :: _, [] => by simp [PyData.eqvAll]
  | n :: r, k :: q => by
    simp only [List.map_cons, PyData.eqvAll, PyData.eqv, eqv_ints r q]
    by_cases h : n = k <;> simp [h]
theorem idxL_ints : ∀ (ns : List Int) (j : Nat) (m : Int), ns[j]? = some m → (∀ i, i < j → ns[i]? ≠ some m) → idxL (.int m) (ns.map PyData.int) = some j
  | [], _, _, h, _ => by cases h
  | n :: ns, 0, m, h, _ => by
    cases h
    simp [idxL, PyData.eqv]
  | n :: ns, j + 1, m, h, hn => by
    have h0 := hn 0 (by omega)
    have e : ¬ (PyData.eqv (.int n) (.int m) = true) := fun q => h0 (by simp [PyData.eqv] at q; simp [q])
    simp only [List.map_cons, idxL]
    rw [if_neg e, idxL_ints ns j m h fun i hi => hn (i + 1) (by omega)]
    rfl
theorem maxL_of {ns : List Int} {m : Int} (h1 : m ∈ ns) (h2 : ∀ y, y ∈ ns → y ≤ m) : maxL ns = some m := by
  cases ns with
  | nil => cases h1
  | cons x xs =>
    have h : maxL (x :: xs) = some (xs.foldl max x) := rfl
    rw [h, max_is h h1 h2]
section
variable {env env' : Env} {st : Sto} {QE : D → Sto → Prop} {QS : Fl → Sto → Prop} {QI : List D → Watch → Sto → Prop} {g : FA} {fo : FE}
theorem any_ref {n : Nat} {ds : List D} (e : st[n]? = some (.lst ds)) : anyD st (.ref n) = some (false, ds) := by simp only [anyD, sqD, e, Option.map_some]
theorem li_ref {n : Nat} {ds : List D} (e : st[n]? = some (.lst ds)) : listItems st (.ref n) = some ds := by simp only [listItems, sqD, e]
def zipK (QI : List D → Watch → Sto → Prop) : List D → Sto → Prop := fun xs st1 => ∃ x y t a t' b, xs = [x, y] ∧ anyD st1 x = some (t, a) ∧ anyD st1 y = some (t', b) ∧ QI (zipL a b) (watchOf x a ++ watchOf y b) st1
theorem x_zip (h : wp (g env st) (zipK QI)) : wpI (Izip g env st) QI := by
  refine wpI_bind (h.mono fun d st1 q => ?_)
  obtain ⟨x, y, t, a, t', b, rfl, e1, e2, q⟩ := q
  exact ⟨_, _, _, by simp only [e1, e2], q⟩
theorem y_zip {x y : D} {t t' : Bool} {a b : List D} (e : anyD st x = some (t, a)) (f : anyD st y = some (t', b)) (h : QI (zipL a b) (watchOf x a ++ watchOf y b) st) : zipK QI [x, y] st := ⟨_, _, _, _, _, _, rfl, e, f, h⟩
theorem y_tbk {b : Bool} {A B : Prop} (e : b = true) (h : A) : if b = true then A else B := by rw [e]; exact h
theorem y_fbk {b : Bool} {A B : Prop} (e : b = false) (h : B) : if b = true then A else B := by rw [e]; exact h
theorem y_nn {d : D} {A B : Prop} (e : isNon d = false) (h : B) : if isNon d = true then A else B := by rw [e]; exact h
theorem y_ny {d : D} {A B : Prop} (e : isNon d = true) (h : A) : if isNon d = true then A else B := by rw [e]; exact h
theorem y_nnn {d : D} {A B : Prop} (e : isNon d = false) (h : A) : if (!isNon d) = true then A else B := by rw [e]; exact h
theorem y_nny {d : D} {A B : Prop} (e : isNon d = true) (h : B) : if (!isNon d) = true then A else B := by rw [e]; exact h
theorem z_tupT {ds : List D} (h : QE (.tup ds) st) : wp (fTup [.tup ds] st) QE := wp_some h
theorem z_tupL {ds : List D} (h : QE (.tup ds) st) : wp (fTup [.lst ds] st) QE := wp_some h
theorem z_tupQ {ds : List D} (h : QE (.tup ds) st) : wp (fTup [.sq ds] st) QE := wp_some h
theorem z_tupR {n : Nat} {ds : List D} (e : st[n]? = some (.lst ds)) (h : QE (.tup ds) st) : wp (fTup [.ref n] st) QE := ⟨_, _, by simp only [fTup, sqD, e, Option.map_some], h⟩
theorem z_lst {d : D} {ds : List D} (e : listItems st d = some ds) (h : QE (.lst ds) st) : wp (fList [d] st) QE := ⟨_, _, by simp only [fList, e, Option.map_some], h⟩
theorem z_lsn {d : D} {ds : List D} (e : listItems st d = some ds) (h : QE (.ref st.length) (st ++ [.lst ds])) : wp (fListN [d] st) QE := ⟨_, _, by simp only [fListN, e, Option.map_some], h⟩
theorem ints_ref {n : Nat} {ns : List Int} (e : st[n]? = some (.lst (ns.map D.int))) : (listItems st (.ref n)).bind intsD = some ns := by rw [li_ref e]; exact intsD_map ns
theorem ints_refD {n : Nat} {ds : List D} {ns : List Int} (e : st[n]? = some (.lst ds)) (f : intsD ds = some ns) : (listItems st (.ref n)).bind intsD = some ns := by rw [li_ref e]; exact f
theorem ints_tup {ns : List Int} : (listItems st (.tup (ns.map D.int))).bind intsD = some ns := intsD_map ns
theorem z_sum {d : D} {ns : List Int} (e : (listItems st d).bind intsD = some ns) (h : QE (.int ns.sum) st) : wp (fSum [d] st) QE := ⟨_, _, by simp only [fSum, e, Option.map_some], h⟩
theorem z_max {d : D} {ns : List Int} {m : Int} (e : (listItems st d).bind intsD = some ns) (e2 : maxL ns = some m) (h : QE (.int m) st) : wp (fMaxA [d] st) QE := ⟨_, _, by simp only [fMaxA, e, e2, Option.bind_some, Option.map_some], h⟩
theorem z_max2 {i j : Int} (h : QE (.int (if j > i then j else i)) st) : wp (fMax2 [.int i, .int j] st) QE := wp_some h
theorem z_min2 {i j : Int} (h : QE (.int (if j < i then j else i)) st) : wp (fMin2 [.int i, .int j] st) QE := wp_some h
theorem z_isi {T n : String} {d : D} {b : Bool} (e : tyN st d = some n) (e2 : kitB n T = some b) (h : QE (.bl b) st) : wp (fIsi [d, .ty T] st) QE := ⟨_, _, by simp only [fIsi, e, e2, Option.map_some], h⟩
theorem z_idxI {n : Nat} {ns : List Int} {m : Int} {j : Nat} (e : st[n]? = some (.lst (ns.map D.int))) (h1 : ns[j]? = some m) (h2 : ∀ i, i < j → ns[i]? ≠ some m) (h : QE (.int (j : Nat)) st) : wp (mIndex (.ref n) [.int m] st) QE := by
  refine ⟨_, _, ?_, h⟩
  have e1 : pyD st (.ref n) = some (.list (ns.map PyData.int)) := by simp only [pyD, e, toPys_ints, Option.map_some]
  have e2 : pyD st (.int m) = some (.int m) := rfl
  have e3 : SeqAt.shaped (.int m) = true := by simp [SeqAt.shaped, PyData.canLay0, PyData.depth]
  simp only [mIndex, e1, e2]
  rw [if_pos ⟨PySem.W.ke_shaped_ints ns, e3⟩, idxL_ints ns j m h1 h2]
  rfl
theorem z_eqTI {ns ms : List Int} (h : QE (.bl (decide (ns = ms))) st) : wp (eqD false (.tup (ns.map D.int)) (.tup (ms.map D.int)) st) QE := by
  refine ⟨_, _, ?_, h⟩
  have e1 : ∀ ns : List Int, pyD st (.tup (ns.map D.int)) = some (.tuple (ns.map PyData.int)) := fun ns => by
    show toPy (.tup (ns.map D.int)) = _
    show (toPys (ns.map D.int)).map PyData.tuple = _
    rw [toPys_ints]
    rfl
  simp only [eqD, e1]
  rw [if_pos ⟨shaped_tints ns, shaped_tints ms⟩]
  simp only [PyData.eqv, eqv_ints, Bool.false_eq_true, if_false]
theorem x_sl {fl fh : FO} (h : wp (fo env st) fun x st1 => wp (fl env st1) fun a st2 => wp (fh env st2) fun b st3 => wp (slD x a b st3) QE) : wp (Esl fo fl fh env st) QE := wp_bind (h.mono fun _ _ q => wp_bind (q.mono fun _ _ q => wp_bind q))
theorem x_on {Q : Option Int → Sto → Prop} (h : Q none st) : wp (Onone env st) Q := wp_some h
theorem x_os {Q : Option Int → Sto → Prop} {f : FE} (h : wp (f env st) fun d st1 => ∃ i, d = .int i ∧ Q (some i) st1) : wp (Osome f env st) Q := wp_bind (h.mono fun d st1 ⟨i, e, q⟩ => by subst e; exact wp_some q)
theorem z_slT {ds : List D} {a b : Option Int} (h : QE (.tup (cutL ds a b)) st) : wp (slD (.tup ds) a b st) QE := wp_some h
theorem z_slL {ds : List D} {a b : Option Int} (h : QE (.lst (cutL ds a b)) st) : wp (slD (.lst ds) a b st) QE := wp_some h
theorem z_slS {z : PySem.Str} {a b : Option Int} (hz : z.length ≤ 16777216) (h : QE (.str (cutS z a b)) st) : wp (slD (.str z) a b st) QE := wp_if hz (wp_some h)
theorem sIx_nn {n : Nat} {i d : Int} (h : 0 ≤ i) : HT.sIx n d.toNat (some i) = min i.toNat n := by
  simp only [HT.sIx]
  rw [if_neg (by omega)]
theorem cut_hi {α : Type} {xs : List α} {i : Int} (h : 0 ≤ i) : cutL xs none (some i) = xs.take i.toNat := by
  unfold cutL
  have e : HT.sIx xs.length 0 none = 0 := rfl
  have e2 : HT.sIx xs.length xs.length (some i) = min i.toNat xs.length := by
    simp only [HT.sIx]
    rw [if_neg (by omega)]
  rw [e, e2, List.drop_zero, Nat.sub_zero, List.take_eq_take_min]
  simp [Nat.min_comm]
end
section
variable {α : Type}
theorem set_map_range (f : Nat → α) (n k : Nat) (x : α) : ((List.range n).map f).set k x = (List.range n).map fun j => if j = k then x else f j := by
  apply List.ext_getElem?
  intro i
  rw [List.getElem?_set]
  simp only [List.length_map, List.length_range, List.getElem?_map]
  by_cases h : k = i
  · subst h
    by_cases h2 : k < n
    · simp [h2]
    · simp [h2]
  · rw [if_neg h]
    by_cases h2 : i < n
    · simp [h2, Ne.symm h]
    · simp [h2]
theorem at_map_range {f : Nat → α} {n : Nat} {i : Int} (h0 : 0 ≤ i) (h1 : i < (n : Nat)) : atI ((List.range n).map f) i = some (f i.toNat) := by
  have h2 : i.toNat < n := by omega
  exact atI_get h0 (by simp [h2])
end

/-! ### lists that are made to change; a list turned round; extend -/
def mulN : F2 := fun x y st => match y with
  | .int k => match lsD st x with
    | some ds => if -(2 ^ 63) ≤ k ∧ k < 2 ^ 63 ∧ ds.length * k.toNat ≤ 16777216 then some (.ref st.length, st ++ [.lst (List.replicate k.toNat ds).flatten]) else none
    | none => none
  | _ => none
theorem s_mulN {K : Frag} : Op2 K (rMulA K) mulN := by
  intro θ G H st x y d e z st' Q S rx ry h post
  unfold mulN at h
  split at h
  · split at h
    · rename_i ds hq
      split at h
      · rename_i hm
        cases h; cases ry
        obtain ⟨a, vs, rfl, h1, h2⟩ := lsD.ok S rx hq
        exact .inr (.inr ⟨_, _, vs, rfl, rfl, h1, hm.1, hm.2.1, by rw [h2.len]; exact szl hm.2.2, fun p hp => post.newM S hp (h2.rep _)⟩)
      · cases h
    · cases h
  · cases h
def addN : F2 := fun x y st => match lsD st x, lsD st y with
  | some a, some b => if a.length + b.length ≤ 16777216 then some (.ref st.length, st ++ [.lst (a ++ b)]) else none
  | _, _ => none
theorem s_addN {K : Frag} : Op2 K (rAddA K) addN := by
  intro θ G H st x y d e z st' Q S rx ry h post
  unfold addN at h
  split at h
  · rename_i a b ha hb
    split at h
    · rename_i hl
      cases h
      obtain ⟨p, vs, rfl, h1, h2⟩ := lsD.ok S rx ha
      obtain ⟨q, ws, rfl, h3, h4⟩ := lsD.ok S ry hb
      exact .inr (.inr (.inr ⟨_, _, _, _, rfl, rfl, h1, h3, by rw [h2.len, h4.len]; exact szl hl, fun p hp => post.newM S hp (h2.append h4)⟩))
    · cases h
  · cases h
def revD (x : D) (st : Sto) : Option (D × Sto) := (sqD st x).map fun ds => (.lst ds.reverse, st)
theorem Reps.rev {K : Frag} {θ : List Addr} {G : Hp} {vs : List V} {ds : List D} (r : Reps K θ G vs ds) : Reps K θ G vs.reverse ds.reverse := by
  induction vs generalizing ds with
  | nil => cases r; exact .nil
  | cons v vs ih =>
    cases r with
    | cons r1 r2 =>
      rw [List.reverse_cons, List.reverse_cons]
      exact (ih r2).append (.cons r1 .nil)
def mExt : FM := fun d ds st => match d, ds with
  | .ref n, [y] => match st[n]?, lsD st y with
    | some (.lst es), some zs => if es.length + zs.length ≤ 16777216 then some (.non, st.set n (.lst (es ++ zs))) else none
    | _, _ => none
  | _, _ => none
theorem s_ext {K : Frag} : MtS K rExtend mExt := by
  intro θ G H st x d vs ds z st' Q S rx r h post
  unfold mExt at h
  split at h
  · split at h
    · rename_i es zs he hz
      split at h
      · rename_i hl
        cases h
        cases rx with
        | ref h1 =>
          obtain ⟨o, h2, h3⟩ := S.at h1
          rw [he] at h2
          cases h2
          obtain ⟨ws, h4, h5⟩ := h3
          cases r with
          | cons r1 r2 =>
            cases r2
            obtain ⟨b, us, rfl, h6, h7⟩ := lsD.ok S r1 hz
            exact ⟨_, b, ws, us, rfl, rfl, h4, h6, by rw [h5.len, h7.len]; exact szl hl, post _ _ _ _ (Ext.set S h1 _) (S.set h1 (h5.append h7)) .non⟩
      · cases h
    · cases h
  · cases h
section
variable {X : Cx} {a b : Expr} {fa fb : FE} {pos : Pos}
theorem c_mulN (ha : PE X a (tE X.K fa)) (hb : PE X b (tE X.K fb)) : PE X (.BinOp a .Mult b pos) (tE X.K (E2 mulN fa fb)) := c_op o_mul s_mulN ha hb
theorem c_addN (ha : PE X a (tE X.K fa)) (hb : PE X b (tE X.K fb)) : PE X (.BinOp a .Add b pos) (tE X.K (E2 addN fa fb)) := c_op o_add s_addN ha hb
theorem c_rev {k : Nat} {p1 p2 p3 : Pos} (ha : PE X a (tE X.K fa)) : PE X (.Subscript a (.Slice none none (some (.UnaryOp .USub (.Constant (.int 1) k p1) p2)) p3) pos) (tE X.K (E1 revD fa)) :=
  peImp (pe_revL ha) fun σ H Q ⟨θ, G, env, st, d, st', S, EN, hf, post⟩ => by
    obtain ⟨⟨x, st1⟩, h1, h2⟩ := Option.bind_eq_some_iff.mp hf
    obtain ⟨ds, h3, h4⟩ := Option.map_eq_some_iff.mp h2
    cases h4
    refine tE.go S EN h1 fun θ1 G1 H1 v1 e1 S1 EN1 r1 => ?_
    obtain ⟨p, vs, rfl, h5, h6⟩ := sqD.ok S1 r1 h3
    exact ⟨p, vs, rfl, h5, fun q hq => PostE.newL (fun θ' G' H' v e s r => post _ _ _ _ (e1.trans S1 e) s r) S1 hq h6.rev⟩
end
section
variable {st : Sto} {QE : D → Sto → Prop}
theorem z_mulN {x : D} {k : Int} {ds : List D} (e : lsD st x = some ds) (h1 : -(2 ^ 63) ≤ k ∧ k < 2 ^ 63 ∧ ds.length * k.toNat ≤ 16777216) (h : QE (.ref st.length) (st ++ [.lst (List.replicate k.toNat ds).flatten])) : wp (mulN x (.int k) st) QE := ⟨_, _, by simp only [mulN, e]; exact if_pos h1, h⟩
theorem z_addL {a b : List D} (hl : a.length + b.length ≤ 16777216) (h : QE (.lst (a ++ b)) st) : wp (addD (.lst a) (.lst b) st) QE := ⟨_, _, by simp only [addD, lsD]; exact if_pos hl, h⟩
theorem z_revR {n : Nat} {ds : List D} (e : st[n]? = some (.lst ds)) (h : QE (.lst ds.reverse) st) : wp (revD (.ref n) st) QE := ⟨_, _, by simp only [revD, sqD, e, Option.map_some], h⟩
theorem z_ext {n : Nat} {y : D} {es zs : List D} {st' : Sto} (e : st[n]? = some (.lst es)) (e2 : lsD st y = some zs) (hl : es.length + zs.length ≤ 16777216) (e3 : st.set n (.lst (es ++ zs)) = st') (h : QE .non st') : wp (mExt (.ref n) [y] st) QE := ⟨_, _, by simp only [mExt, e, e2]; exact if_pos hl, by rw [e3]; exact h⟩
end

/-! ### str of an int; texts in a row -/
def fStr : FC := fun ds st => match ds with
  | [.int i] => if i.natAbs.log2 < 1920 then some (.str (toString i), st) else none
  | _ => none
theorem s_str {K : Frag} : CallS K (fun xs H Q => ∃ i, xs = [.int i] ∧ i.natAbs.log2 < 1920 ∧ Q (.str (toString i)) H) fStr := by
  intro θ G H st vs ds z st' Q S r h post
  unfold fStr at h
  split at h
  · split at h
    · rename_i hl
      cases h
      cases r with
      | cons r1 r2 =>
        cases r2
        cases r1
        exact ⟨_, rfl, hl, post.same S (.str _)⟩
    · cases h
  · cases h
section
variable {X : Cx} {e : Expr} {g : FA} {p pos : Pos}
theorem c_strc (hg : Gl X "str") (hm : X.mg "str" = none) (ha : PA X [e] (tA X.K g)) (he : starEach [e] X.env = (false, eval e X.env) :: starEach [] X.env := by rfl) : PE X (.Call (.Name "str" p) [e] [] pos) (tE X.K (EC fStr g)) := c_ct call_str_int s_str hg hm (by decide +kernel) ha (by decide) (by decide) he
end
theorem small_str : ∀ n : Nat, n < 64 → n.log2 < 1920 ∧ (Str.ofString (toString (n : Int))).length ≤ 3 := by decide +kernel
def strsD : List D → Option (List PySem.Str)
  | [] => some []
  | .str z :: ds => (strsD ds).map (z :: ·)
  | _ => none
theorem strsD.eq : ∀ {ds : List D} {zs : List PySem.Str}, strsD ds = some zs → ds = zs.map D.str
  | [], _, h => by cases h; rfl
  | .str i :: ds, _, h => by
    obtain ⟨ms, h1, rfl⟩ := Option.map_eq_some_iff.mp (show (strsD ds).map (i :: ·) = some _ from h)
    rw [strsD.eq h1]
    rfl
  | .non :: _, _, h => by cases h
  | .bl _ :: _, _, h => by cases h
  | .int _ :: _, _, h => by cases h
  | .tup _ :: _, _, h => by cases h
  | .lst _ :: _, _, h => by cases h
  | .sq _ :: _, _, h => by cases h
  | .ref _ :: _, _, h => by cases h
  | .adr _ :: _, _, h => by cases h
  | .ty _ :: _, _, h => by cases h
section
variable {st : Sto} {QE : D → Sto → Prop}
theorem z_strI {i : Int} (h0 : 0 ≤ i) (h1 : i < 64) (h : ∀ z : PySem.Str, z.length ≤ 3 → QE (.str z) st) : wp (fStr [.int i] st) QE := by
  obtain ⟨n, rfl⟩ : ∃ n : Nat, i = (n : Int) := ⟨i.toNat, by omega⟩
  obtain ⟨a, b⟩ := small_str n (by omega)
  exact ⟨_, _, if_pos a, h _ b⟩
theorem z_eqP {a b c d : Int} (h : QE (.bl (decide ([a, b] = [c, d]))) st) : wp (eqD false (.tup [.int a, .int b]) (.tup [.int c, .int d]) st) QE := z_eqTI (ns := [a, b]) (ms := [c, d]) h
theorem z_slR {n : Nat} {ds : List D} {a b : Option Int} (e : st[n]? = some (.lst ds)) (h : QE (.lst (cutL ds a b)) st) : wp (slD (.ref n) a b st) QE := ⟨_, _, by simp only [slD, sqD, e, Option.map_some], h⟩
end
theorem cut_lo {α : Type} {xs : List α} {i : Int} (h : 0 ≤ i) : cutL xs (some i) none = xs.drop i.toNat := by
  unfold cutL
  have e : HT.sIx xs.length 0 (some i) = min i.toNat xs.length := by
    simp only [HT.sIx]
    rw [if_neg (by omega)]
  have e2 : HT.sIx xs.length xs.length none = xs.length := rfl
  rw [e, e2]
  by_cases hl : i.toNat ≤ xs.length
  · rw [Nat.min_eq_left hl, ← List.length_drop, List.take_length]
  · rw [Nat.min_eq_right (by omega), List.drop_length, List.take_nil, List.drop_eq_nil_of_le (by omega)]
theorem y_tb {b : Bool} {A B : Prop} (e : b = true) (h : A) : if b = true then A else B := by rw [e]; exact h
theorem y_fb {b : Bool} {A B : Prop} (e : b = false) (h : B) : if b = true then A else B := by rw [e]; exact h
/-! ### in -/
theorem toPys_strs (zs : List PySem.Str) : toPys (zs.map D.str) = some (zs.map PyData.str) := by
  induction zs with
  | nil => rfl
  | cons n ns ih =>
    show (toPy (.str n)).bind (fun p => (toPys (ns.map D.str)).map (p :: ·)) = _
    rw [ih]
    rfl
theorem lay_strs : ∀ zs : List PySem.Str, zs.all PyData.strOk = true → PyData.canLayAll0 (zs.map PyData.str) = true ∧ PyData.depthAll (zs.map PyData.str) = 0
  | [], _ => ⟨rfl, rfl⟩
  | z :: zs, h => by
    rw [List.all_cons, Bool.and_eq_true] at h
    simp [PyData.canLayAll0, PyData.canLay0, PyData.depthAll, PyData.depth, lay_strs zs h.2, h.1]
theorem any_ints (m : Int) : ∀ ns : List Int, ((ns.map PyData.int).any fun z => PyData.eqv z (.int m)) = decide (m ∈ ns)
  | [] => by simp
  | n :: ns => by
    rw [List.map_cons, List.any_cons, any_ints m ns]
    by_cases h : n = m
    · subst h; simp [PyData.eqv]
    · have h' : m ≠ n := fun e => h e.symm
      simp [PyData.eqv, h, h']
theorem any_strs (m : PySem.Str) : ∀ ns : List PySem.Str, ((ns.map PyData.str).any fun z => PyData.eqv z (.str m)) = decide (m ∈ ns)
  | [] => by simp
  | n :: ns => by
    rw [List.map_cons, List.any_cons, any_strs m ns]
    by_cases h : n = m
    · subst h; simp [PyData.eqv]
    · have h' : m ≠ n := fun e => h e.symm
      simp [PyData.eqv, h, h']
section
variable {st : Sto} {QE : D → Sto → Prop}
theorem sh_int (m : Int) : SeqAt.shaped (.int m) = true := by simp [SeqAt.shaped, PyData.canLay0, PyData.depth]
theorem sh_str {m : PySem.Str} (h : PyData.strOk m = true) : SeqAt.shaped (.str m) = true := by simp [SeqAt.shaped, PyData.canLay0, PyData.depth, h]
theorem sh_strs {zs : List PySem.Str} (h : zs.all PyData.strOk = true) : SeqAt.shaped (.list (zs.map PyData.str)) = true := by simp [SeqAt.shaped, PyData.canLay0, PyData.depth, lay_strs zs h]
theorem z_inI {m : Int} {ns : List Int} (h : QE (.bl (decide (m ∈ ns))) st) : wp (inD false (.int m) (.lst (ns.map D.int)) st) QE := by
  refine ⟨_, _, ?_, h⟩
  have e1 : pyD st (.int m) = some (.int m) := rfl
  have e2 : (pyD st (.lst (ns.map D.int))).bind seqPy = some (ns.map PyData.int) := by
    show ((toPys (ns.map D.int)).map PyData.list).bind seqPy = _
    rw [toPys_ints]
    rfl
  simp only [inD, e1, e2]
  rw [if_pos ⟨sh_int m, PySem.W.ke_shaped_ints ns⟩, any_ints]
  simp only [Bool.false_eq_true, if_false]
theorem z_inT {m : PySem.Str} {zs : List PySem.Str} (hm : PyData.strOk m = true) (hz : zs.all PyData.strOk = true) (h : QE (.bl (decide (m ∈ zs))) st) : wp (inD false (.str m) (.tup (zs.map D.str)) st) QE := by
  refine ⟨_, _, ?_, h⟩
  have e1 : pyD st (.str m) = some (.str m) := rfl
  have e2 : (pyD st (.tup (zs.map D.str))).bind seqPy = some (zs.map PyData.str) := by
    show ((toPys (zs.map D.str)).map PyData.tuple).bind seqPy = _
    rw [toPys_strs]
    rfl
  simp only [inD, e1, e2]
  rw [if_pos ⟨sh_str hm, sh_strs hz⟩, any_strs]
  simp only [Bool.false_eq_true, if_false]
end
theorem z_inG {st : Sto} {QE : D → Sto → Prop} {m : PySem.Str} {ds : List D} {zs : List PySem.Str} (e : strsD ds = some zs) (hm : PyData.strOk m = true) (hz : zs.all PyData.strOk = true) (h : QE (.bl (decide (m ∈ zs))) st) : wp (inD false (.str m) (.tup ds) st) QE := by
  rw [strsD.eq e]
  exact z_inT hm hz h
theorem down_at {hi : Int} {n i : Nat} {x : D} (h : (downL hi n)[i]? = some x) : i < n ∧ x = .int (hi + (i : Nat) * (-1)) := by
  unfold downL at h
  rw [List.getElem?_map] at h
  obtain ⟨c, h3, h4⟩ := Option.map_eq_some_iff.mp h
  have h5 := List.getElem?_eq_some_iff.mp h3
  obtain ⟨h6, h7⟩ := h5
  rw [List.length_range] at h6
  rw [List.getElem_range] at h7
  subst h7
  exact ⟨h6, h4.symm⟩
theorem down_len {hi : Int} {n : Nat} : (downL hi n).length = n := by simp [downL]
end ML

namespace LW
open PySem L2 ML
def topS (i : Nat) : Stmt := PySem.Challenge.pw_lasttext_k05_shapes_of_a_program.main.body.getD i (.Pass ⟨0, 0, 0, 0⟩)
/-! ### step_shape -/
abbrev s_step_shape : Stmt := topS 1
abbrev N_step_shape : List PySem.Str := ["kind", "found", "numbers", "first"]
theorem sc_step_shape : FnScope N_step_shape ["kind", "found", "numbers"] (defScope s_step_shape) := ⟨rfl, rfl, rfl, by decide +kernel, rfl, by decide +kernel, by decide +kernel⟩
@[reducible] noncomputable def b_step_shape : FS :=
  (Sseq (Sif (Tb (E2 (eqD true) (EC fLen (Acons (Ev 1) Anil)) (Eif (Tb (E2 (inD false) (Ev 0) (Etup (Acons (Ec (.str "add")) (Acons (Ec (.str "sub")) (Acons (Ec (.str "times")) (Acons (Ec (.str "product")) (Acons (Ec (.str "pick")) Anil)))))))) (Ec (.int 2)) (Ec (.int 1)))))
  (Sret (Ec .non))
  Snil)
  (Sseq (Sset 3 (E2 ixD (Ev 1) (Ec (.int 0))))
  (Sseq (Sif (Tb (E2 (inD false) (Ev 0) (Etup (Acons (Ec (.str "add")) (Acons (Ec (.str "sub")) (Acons (Ec (.str "times")) Anil))))))
  (Sret (Eif (Tb (E2 (eqD false) (Ev 3) (E2 ixD (Ev 1) (Ec (.int 1))))) (Ev 3) (Ec .non)))
  Snil)
  (Sseq (Sif (Tb (E2 (eqD false) (Ev 0) (Ec (.str "product"))))
  (Sret (Eif (Tb (E2 (eqD false) (E2 ixD (Ev 3) (Ec (.int 1))) (E2 ixD (E2 ixD (Ev 1) (Ec (.int 1))) (Ec (.int 0))))) (Etup (Acons (E2 ixD (Ev 3) (Ec (.int 0))) (Acons (E2 ixD (E2 ixD (Ev 1) (Ec (.int 1))) (Ec (.int 1))) Anil))) (Ec .non)))
  Snil)
  (Sseq (Sif (Tb (E2 (eqD false) (Ev 0) (Ec (.str "pick"))))
  (Sret (Eif (Tb (E2 (eqD false) (E2 ixD (E2 ixD (Ev 1) (Ec (.int 1))) (Ec (.int 1))) (Ec (.int 1)))) (Etup (Acons (E2 ixD (E2 ixD (Ev 1) (Ec (.int 1))) (Ec (.int 0))) (Acons (E2 ixD (Ev 3) (Ec (.int 1))) Anil))) (Ec .non)))
  Snil)
  (Sseq (Sif (Tb (E2 (eqD false) (Ev 0) (Ec (.str "turn"))))
  (Sret (Etup (Acons (E2 ixD (Ev 3) (Ec (.int 1))) (Acons (E2 ixD (Ev 3) (Ec (.int 0))) Anil))))
  Snil)
  (Sseq (Sif (Tb (E2 (eqD false) (Ev 0) (Ec (.str "total"))))
  (Sret (Etup (Acons (Ec (.int 1)) (Acons (Ec (.int 1)) Anil))))
  Snil)
  (Sseq (Sif (Tb (E2 (eqD false) (Ev 0) (Ec (.str "spread"))))
  (Sret (Eif (Tb (E2 (eqD false) (Ev 3) (Etup (Acons (Ec (.int 1)) (Acons (Ec (.int 1)) Anil))))) (Etup (Acons (E2 ixD (Ev 2) (Ec (.int 0))) (Acons (E2 ixD (Ev 2) (Ec (.int 1))) Anil))) (Ec .non)))
  Snil)
  (Sret (Ev 3))))))))))
noncomputable def m_step_shape : FC := (runF 4 b_step_shape)
/-! ### shapes -/
abbrev s_shapes : Stmt := topS 2
abbrev N_shapes : List PySem.Str := ["program", "params", "inputs", "steps", "_", "found", "name", "kind", "values", "numbers", "rows", "columns", "value"]
theorem sc_shapes : FnScope N_shapes ["program"] (defScope s_shapes) := ⟨rfl, rfl, rfl, by decide +kernel, rfl, by decide +kernel, by decide +kernel⟩
@[reducible] noncomputable def b_shapes : FS :=
  (Sseq (Sbind (.tp [(.nm 1), (.nm 2), (.nm 3), (.nm 4)]) (Ev 0))
  (Sseq (Sset 5 (EcmpN (Iseq (E2 addD (Ev 1) (Ev 2))) (.tp [(.nm 6), (.nm 10), (.nm 11)]) Tyes (Etup (Acons (Ev 10) (Acons (Ev 11) Anil))) [6, 10, 11]))
  (Sseq (Sfor (Iseq (Ev 3)) (.tp [(.nm 6), (.nm 7), (.nm 8), (.nm 9)])
  (Sexp (EM "list" mApp (Ev 5) (Acons (EC (arN 3 m_step_shape) (Acons (Ev 7) (Acons (Ecmp (Iseq (Ev 8)) (.nm 12) Tyes (E2 ixD (Ev 5) (Ev 12)) [12]) (Acons (Ev 9) Anil)))) Anil))))
  (Sret (EC fTup (Acons (Ev 5) Anil))))))
noncomputable def m_shapes : FC := gcF (runF 13 b_shapes)
/-! ### _law_pool -/
abbrev s__law_pool : Stmt := topS 4
abbrev N__law_pool : List PySem.Str := ["_law_script"]
theorem sc__law_pool : FnScope N__law_pool ["_law_script"] (defScope s__law_pool) := ⟨rfl, rfl, rfl, by decide +kernel, rfl, by decide +kernel, by decide +kernel⟩
@[reducible] noncomputable def b__law_pool : FS :=
  (Sret (Enew (Acons (EC fList (Acons (Ev 0) Anil)) (Acons (Ec (.int 0)) (Acons (Ec (.int 0)) (Acons (Ec (.int 0)) (Acons (Ec (.int 0)) Anil)))))))
noncomputable def m__law_pool : FC := (runF 1 b__law_pool)
/-! ### _law_draw -/
abbrev s__law_draw : Stmt := topS 5
abbrev N__law_draw : List PySem.Str := ["_law_pool_here", "_law_many", "_law_found", "_law_cell", "_law_mixed"]
theorem sc__law_draw : FnScope N__law_draw ["_law_pool_here", "_law_many"] (defScope s__law_draw) := ⟨rfl, rfl, rfl, by decide +kernel, rfl, by decide +kernel, by decide +kernel⟩
@[reducible] noncomputable def b__law_draw : FS :=
  (Sseq (Sif (Tb (E2 gtD (E2 ixD (Ev 0) (Ec (.int 2))) (Ec (.int 0))))
  (Sseq (Sset 2 (E2 modD (EC fInt (Acons (E2 ixD (Ev 0) (Ec (.int 2))) Anil)) (Ev 1)))
  (Sseq (SsetIx (Ev 0) (Ec (.int 2)) (E2 fdivD (E2 ixD (Ev 0) (Ec (.int 2))) (Ev 1)))
  (Sret (Ev 2))))
  Snil)
  (Sseq (Sif (Tand (Tb (E2 (eqD false) (E2 modD (EC fInt (Acons (E2 ixD (Ev 0) (Ec (.int 4))) Anil)) (Ec (.int 8))) (Ec (.int 0)))) (Tb (E2 ltD (E2 ixD (Ev 0) (Ec (.int 1))) (EC fLen (Acons (E2 ixD (Ev 0) (Ec (.int 0))) Anil)))))
  (Sseq (Sset 3 (EC fAbs (Acons (E2 ixD (E2 ixD (Ev 0) (Ec (.int 0))) (E2 ixD (Ev 0) (Ec (.int 1)))) Anil)))
  (Sseq (SsetIx (Ev 0) (Ec (.int 1)) (E2 addD (E2 ixD (Ev 0) (Ec (.int 1))) (Ec (.int 1))))
  (Sseq (Sif (Tb (E2 geD (Ev 3) (E2 powD (Ec (.int 10)) (Ec (.int 18)))))
  (Sseq (SsetIx (Ev 0) (Ec (.int 2)) (E2 fdivD (Ev 3) (Ev 1)))
  (Sret (E2 modD (EC fInt (Acons (Ev 3) Anil)) (Ev 1))))
  Snil)
  (SsetIx (Ev 0) (Ec (.int 3)) (Ev 3)))))
  Snil)
  (Sseq (SsetIx (Ev 0) (Ec (.int 4)) (E2 addD (E2 ixD (Ev 0) (Ec (.int 4))) (Ec (.int 1))))
  (Sseq (Sset 4 (E2 modD (EC fInt (Acons (E2 addD (E2 addD (E2 mulD (E2 ixD (Ev 0) (Ec (.int 3))) (Ec (.int 48271))) (E2 mulD (E2 ixD (Ev 0) (Ec (.int 4))) (Ec (.int 69621)))) (Ec (.int 7919))) Anil)) (Ec (.int 2147483647))))
  (Sseq (Sset 4 (E2 modD (EC fInt (Acons (E2 addD (E2 mulD (Ev 4) (Ev 4)) (E2 mulD (E2 ixD (Ev 0) (Ec (.int 4))) (Ec (.int 40692)))) Anil)) (Ec (.int 2147483399))))
  (Sret (E2 modD (EC fInt (Acons (Ev 4) Anil)) (Ev 1))))))))
noncomputable def m__law_draw : FC := (runF 5 b__law_draw)
/-! ### _law_pick -/
abbrev s__law_pick : Stmt := topS 6
abbrev N__law_pick : List PySem.Str := ["_law_pool_here", "_law_rows"]
theorem sc__law_pick : FnScope N__law_pick ["_law_pool_here", "_law_rows"] (defScope s__law_pick) := ⟨rfl, rfl, rfl, by decide +kernel, rfl, by decide +kernel, by decide +kernel⟩
@[reducible] noncomputable def b__law_pick : FS :=
  (Sret (E2 ixD (Ev 1) (EC (arN 2 m__law_draw) (Acons (Ev 0) (Acons (EC fLen (Acons (Ev 1) Anil)) Anil)))))
noncomputable def m__law_pick : FC := (runF 2 b__law_pick)
/-! ### _law_same -/
abbrev s__law_same : Stmt := topS 7
abbrev N__law_same : List PySem.Str := ["_law_actual", "_law_due", "_law_k"]
theorem sc__law_same : FnScope N__law_same ["_law_actual", "_law_due"] (defScope s__law_same) := ⟨rfl, rfl, rfl, by decide +kernel, rfl, by decide +kernel, by decide +kernel⟩
@[reducible] noncomputable def b__law_same (m : FC) : FS :=
  (Sseq (Sif (Tt (EC fIsi (Acons (Ev 1) (Acons (Ec (.ty "tuple")) Anil))))
  (Sseq (Sif (Tor (Tnot (Tt (EC fIsi (Acons (Ev 0) (Acons (Ec (.ty "tuple")) Anil))))) (Tb (E2 (eqD true) (EC fLen (Acons (Ev 0) Anil)) (EC fLen (Acons (Ev 1) Anil)))))
  (Sret (Ec (.bl false)))
  Snil)
  (Sret (E2 (eqD false) (EC fLen (Acons (Ecmp (Irng1 (Acons (EC fLen (Acons (Ev 1) Anil)) Anil)) (.nm 2) (Tnot (Tt (EC (arN 2 m) (Acons (E2 ixD (Ev 0) (Ev 2)) (Acons (E2 ixD (Ev 1) (Ev 2)) Anil))))) (Ev 2) [2]) Anil)) (Ec (.int 0)))))
  Snil)
  (Sseq (Sif (Tb (E2 (isnD false) (Ev 1) (Ec .non)))
  (Sret (E2 (isnD false) (Ev 0) (Ec .non)))
  Snil)
  (Sseq (Sif (Tt (EC fIsi (Acons (Ev 1) (Acons (Ec (.ty "str")) Anil))))
  (Sret (Eand (EC fIsi (Acons (Ev 0) (Acons (Ec (.ty "str")) Anil))) (E2 (eqD false) (Ev 0) (Ev 1))))
  Snil)
  (Sret (Eand (EC fIsi (Acons (Ev 0) (Acons (Ec (.ty "int")) Anil))) (Eand (Enot (EC fIsi (Acons (Ev 0) (Acons (Ec (.ty "bool")) Anil)))) (E2 (eqD false) (Ev 0) (Ev 1))))))))
noncomputable def m__law_same : Nat → FC
  | 0 => fun _ _ => none
  | n + 1 => (runF 3 (b__law_same (m__law_same n)))
/-! ### _law_name -/
abbrev s__law_name : Stmt := topS 8
abbrev N__law_name : List PySem.Str := ["_law_pool_here", "_law_index", "_law_tail"]
theorem sc__law_name : FnScope N__law_name ["_law_pool_here", "_law_index"] (defScope s__law_name) := ⟨rfl, rfl, rfl, by decide +kernel, rfl, by decide +kernel, by decide +kernel⟩
@[reducible] noncomputable def b__law_name : FS :=
  (Sseq (Sset 2 (E2 ixD (Elst (Acons (Ec (.str "")) (Acons (Ec (.str "z")) (Acons (Ec (.str "q1")) (Acons (Ec (.str "loss")) (Acons (Ec (.str "a0b")) Anil)))))) (EC (arN 2 m__law_draw) (Acons (Ev 0) (Acons (Ec (.int 5)) Anil)))))
  (Sret (E2 addD (E2 addD (E2 ixD (Ec (.str "abcdefghijklmnopqrstuvwxyz")) (EC (arN 2 m__law_draw) (Acons (Ev 0) (Acons (Ec (.int 26)) Anil)))) (EC fStr (Acons (Ev 1) Anil))) (Ev 2))))
noncomputable def m__law_name : FC := (runF 3 b__law_name)
/-! ### _law_fits -/
abbrev s__law_fits : Stmt := topS 9
abbrev N__law_fits : List PySem.Str := ["_law_kind", "_law_found", "_law_a", "_law_b"]
theorem sc__law_fits : FnScope N__law_fits ["_law_kind", "_law_found", "_law_a", "_law_b"] (defScope s__law_fits) := ⟨rfl, rfl, rfl, by decide +kernel, rfl, by decide +kernel, by decide +kernel⟩
@[reducible] noncomputable def b__law_fits : FS :=
  (Sseq (Sif (Tb (E2 (inD false) (Ev 0) (Etup (Acons (Ec (.str "add")) (Acons (Ec (.str "sub")) (Acons (Ec (.str "times")) Anil))))))
  (Sret (E2 (eqD false) (E2 ixD (Ev 1) (Ev 2)) (E2 ixD (Ev 1) (Ev 3))))
  Snil)
  (Sseq (Sif (Tb (E2 (eqD false) (Ev 0) (Ec (.str "product"))))
  (Sret (E2 (eqD false) (E2 ixD (E2 ixD (Ev 1) (Ev 2)) (Ec (.int 1))) (E2 ixD (E2 ixD (Ev 1) (Ev 3)) (Ec (.int 0)))))
  Snil)
  (Sret (E2 (eqD false) (E2 ixD (E2 ixD (Ev 1) (Ev 3)) (Ec (.int 1))) (Ec (.int 1))))))
noncomputable def m__law_fits : FC := (runF 4 b__law_fits)
/-! ### _law_step_shape -/
abbrev s__law_step_shape : Stmt := topS 10
abbrev N__law_step_shape : List PySem.Str := ["_law_kind", "_law_found", "_law_values", "_law_numbers", "_law_first"]
theorem sc__law_step_shape : FnScope N__law_step_shape ["_law_kind", "_law_found", "_law_values", "_law_numbers"] (defScope s__law_step_shape) := ⟨rfl, rfl, rfl, by decide +kernel, rfl, by decide +kernel, by decide +kernel⟩
@[reducible] noncomputable def b__law_step_shape : FS :=
  (Sseq (Sset 4 (E2 ixD (Ev 1) (E2 ixD (Ev 2) (Ec (.int 0)))))
  (Sseq (Sif (Tb (E2 (eqD false) (Ev 0) (Ec (.str "product"))))
  (Sret (Etup (Acons (E2 ixD (Ev 4) (Ec (.int 0))) (Acons (E2 ixD (E2 ixD (Ev 1) (E2 ixD (Ev 2) (Ec (.int 1)))) (Ec (.int 1))) Anil))))
  Snil)
  (Sseq (Sif (Tb (E2 (eqD false) (Ev 0) (Ec (.str "pick"))))
  (Sret (Etup (Acons (E2 ixD (E2 ixD (Ev 1) (E2 ixD (Ev 2) (Ec (.int 1)))) (Ec (.int 0))) (Acons (E2 ixD (Ev 4) (Ec (.int 1))) Anil))))
  Snil)
  (Sseq (Sif (Tb (E2 (eqD false) (Ev 0) (Ec (.str "turn"))))
  (Sret (Etup (Acons (E2 ixD (Ev 4) (Ec (.int 1))) (Acons (E2 ixD (Ev 4) (Ec (.int 0))) Anil))))
  Snil)
  (Sseq (Sif (Tb (E2 (eqD false) (Ev 0) (Ec (.str "total"))))
  (Sret (Etup (Acons (Ec (.int 1)) (Acons (Ec (.int 1)) Anil))))
  Snil)
  (Sseq (Sif (Tb (E2 (eqD false) (Ev 0) (Ec (.str "spread"))))
  (Sret (Ev 3))
  Snil)
  (Sret (Ev 4))))))))
noncomputable def m__law_step_shape : FC := (runF 5 b__law_step_shape)
/-! ### _law_step -/
abbrev s__law_step : Stmt := topS 11
abbrev N__law_step : List PySem.Str := ["_law_pool_here", "_law_found", "_law_own", "_law_leaves", "_law_kinds", "_law_kind", "_law_last", "_law_pairs", "_law_a", "_law_low", "_law_high", "_law_cells", "_law_value", "_law_b"]
theorem sc__law_step : FnScope N__law_step ["_law_pool_here", "_law_found", "_law_own", "_law_leaves"] (defScope s__law_step) := ⟨rfl, rfl, rfl, by decide +kernel, rfl, by decide +kernel, by decide +kernel⟩
@[reducible] noncomputable def b__law_step : FS :=
  (Sseq (Sset 4 (Elst (Acons (Ec (.str "add")) (Acons (Ec (.str "sub")) (Acons (Ec (.str "times")) (Acons (Ec (.str "product")) (Acons (Ec (.str "product")) (Acons (Ec (.str "turn")) (Acons (Ec (.str "positive")) (Acons (Ec (.str "total")) (Acons (Ec (.str "spread")) (Acons (Ec (.str "stretch")) (Acons (Ec (.str "pick")) Anil)))))))))))))
  (Sseq (Sset 5 (EC (arN 2 m__law_pick) (Acons (Ev 0) (Acons (Ev 4) Anil))))
  (Sseq (Sset 6 (EC fLen (Acons (Ev 1) Anil)))
  (Sseq (Sif (Tb (E2 (inD false) (Ev 5) (Etup (Acons (Ec (.str "add")) (Acons (Ec (.str "sub")) (Acons (Ec (.str "times")) (Acons (Ec (.str "product")) (Acons (Ec (.str "pick")) Anil))))))))
  (Sseq (Sset 7 (Enew Anil))
  (Sseq (Sfor (Irng1 (Acons (Ev 6) Anil)) (.nm 8)
  (Sseq (Sset 9 (Eif (Tb (E2 (eqD false) (Ev 5) (Ec (.str "pick")))) (Ev 2) (Ec (.int 0))))
  (Sseq (Sset 10 (Eif (Tb (E2 (eqD false) (Ev 5) (Ec (.str "pick")))) (Ev 3) (Ev 6)))
  (Sexp (EM "list" mExt (Ev 7) (Acons (Ecmp (Irng2 (Acons (Ev 9) (Acons (Ev 10) Anil))) (.nm 13) (Tt (EC (arN 4 m__law_fits) (Acons (Ev 5) (Acons (Ev 1) (Acons (Ev 8) (Acons (Ev 13) Anil)))))) (Etup (Acons (Ev 8) (Acons (Ev 13) Anil))) [13]) Anil))))))
  (Sseq (Sif (Tb (E2 gtD (EC fLen (Acons (Ev 7) Anil)) (Ec (.int 0))))
  (Sret (Etup (Acons (Ev 5) (Acons (EC (arN 2 m__law_pick) (Acons (Ev 0) (Acons (Esl (Ev 7) (Osome (E2 fdivD (EC fLen (Acons (Ev 7) Anil)) (Ec (.int 3)))) Onone) Anil))) (Acons (Etup Anil) Anil)))))
  Snil)
  (Sset 5 (Ec (.str "positive"))))))
  Snil)
  (Sseq (Sif (Tb (E2 (eqD false) (Ev 5) (Ec (.str "spread"))))
  (Sseq (Sset 11 (Ecmp (Irng1 (Acons (Ev 6) Anil)) (.nm 8) (Tb (E2 (eqD false) (E2 ixD (Ev 1) (Ev 8)) (Etup (Acons (Ec (.int 1)) (Acons (Ec (.int 1)) Anil))))) (Ev 8) [8]))
  (Sseq (Sif (Tb (E2 gtD (EC fLen (Acons (Ev 11) Anil)) (Ec (.int 0))))
  (Sret (Etup (Acons (Ev 5) (Acons (Etup (Acons (EC (arN 2 m__law_pick) (Acons (Ev 0) (Acons (Ev 11) Anil))) Anil)) (Acons (Etup (Acons (E2 addD (Ec (.int 1)) (EC (arN 2 m__law_draw) (Acons (Ev 0) (Acons (Ec (.int 6)) Anil)))) (Acons (E2 addD (Ec (.int 1)) (EC (arN 2 m__law_draw) (Acons (Ev 0) (Acons (Ec (.int 6)) Anil)))) Anil))) Anil)))))
  Snil)
  (Sset 5 (Ec (.str "total")))))
  Snil)
  (Sseq (Sset 12 (E2 subD (E2 subD (Ev 6) (Ec (.int 1))) (EC (arN 2 m__law_draw) (Acons (Ev 0) (Acons (EC fMin2 (Acons (Ev 6) (Acons (Ec (.int 4)) Anil))) Anil)))))
  (Sseq (Sif (Tb (E2 (eqD false) (Ev 5) (Ec (.str "stretch"))))
  (Sret (Etup (Acons (Ev 5) (Acons (Etup (Acons (Ev 12) Anil)) (Acons (Etup (Acons (EC (arN 2 m__law_pick) (Acons (Ev 0) (Acons (Elst (Acons (E1 negD (Ec (.int 1000))) (Acons (E1 negD (Ec (.int 1))) (Acons (Ec (.int 0)) (Acons (Ec (.int 2)) (Acons (Ec (.int 1000)) (Acons (E2 subD (EC (arN 2 m__law_draw) (Acons (Ev 0) (Acons (Ec (.int 2001)) Anil))) (Ec (.int 1000))) Anil))))))) Anil))) Anil)) Anil)))))
  Snil)
  (Sret (Etup (Acons (Ev 5) (Acons (Etup (Acons (Ev 12) Anil)) (Acons (Etup Anil) Anil))))))))))))
@[reducible] noncomputable def t__law_step_1 : FS := (Sseq (Sset 5 (EC (arN 2 m__law_pick) (Acons (Ev 0) (Acons (Ev 4) Anil))))
  (Sseq (Sset 6 (EC fLen (Acons (Ev 1) Anil)))
  (Sseq (Sif (Tb (E2 (inD false) (Ev 5) (Etup (Acons (Ec (.str "add")) (Acons (Ec (.str "sub")) (Acons (Ec (.str "times")) (Acons (Ec (.str "product")) (Acons (Ec (.str "pick")) Anil))))))))
  (Sseq (Sset 7 (Enew Anil))
  (Sseq (Sfor (Irng1 (Acons (Ev 6) Anil)) (.nm 8)
  (Sseq (Sset 9 (Eif (Tb (E2 (eqD false) (Ev 5) (Ec (.str "pick")))) (Ev 2) (Ec (.int 0))))
  (Sseq (Sset 10 (Eif (Tb (E2 (eqD false) (Ev 5) (Ec (.str "pick")))) (Ev 3) (Ev 6)))
  (Sexp (EM "list" mExt (Ev 7) (Acons (Ecmp (Irng2 (Acons (Ev 9) (Acons (Ev 10) Anil))) (.nm 13) (Tt (EC (arN 4 m__law_fits) (Acons (Ev 5) (Acons (Ev 1) (Acons (Ev 8) (Acons (Ev 13) Anil)))))) (Etup (Acons (Ev 8) (Acons (Ev 13) Anil))) [13]) Anil))))))
  (Sseq (Sif (Tb (E2 gtD (EC fLen (Acons (Ev 7) Anil)) (Ec (.int 0))))
  (Sret (Etup (Acons (Ev 5) (Acons (EC (arN 2 m__law_pick) (Acons (Ev 0) (Acons (Esl (Ev 7) (Osome (E2 fdivD (EC fLen (Acons (Ev 7) Anil)) (Ec (.int 3)))) Onone) Anil))) (Acons (Etup Anil) Anil)))))
  Snil)
  (Sset 5 (Ec (.str "positive"))))))
  Snil)
  (Sseq (Sif (Tb (E2 (eqD false) (Ev 5) (Ec (.str "spread"))))
  (Sseq (Sset 11 (Ecmp (Irng1 (Acons (Ev 6) Anil)) (.nm 8) (Tb (E2 (eqD false) (E2 ixD (Ev 1) (Ev 8)) (Etup (Acons (Ec (.int 1)) (Acons (Ec (.int 1)) Anil))))) (Ev 8) [8]))
  (Sseq (Sif (Tb (E2 gtD (EC fLen (Acons (Ev 11) Anil)) (Ec (.int 0))))
  (Sret (Etup (Acons (Ev 5) (Acons (Etup (Acons (EC (arN 2 m__law_pick) (Acons (Ev 0) (Acons (Ev 11) Anil))) Anil)) (Acons (Etup (Acons (E2 addD (Ec (.int 1)) (EC (arN 2 m__law_draw) (Acons (Ev 0) (Acons (Ec (.int 6)) Anil)))) (Acons (E2 addD (Ec (.int 1)) (EC (arN 2 m__law_draw) (Acons (Ev 0) (Acons (Ec (.int 6)) Anil)))) Anil))) Anil)))))
  Snil)
  (Sset 5 (Ec (.str "total")))))
  Snil)
  (Sseq (Sset 12 (E2 subD (E2 subD (Ev 6) (Ec (.int 1))) (EC (arN 2 m__law_draw) (Acons (Ev 0) (Acons (EC fMin2 (Acons (Ev 6) (Acons (Ec (.int 4)) Anil))) Anil)))))
  (Sseq (Sif (Tb (E2 (eqD false) (Ev 5) (Ec (.str "stretch"))))
  (Sret (Etup (Acons (Ev 5) (Acons (Etup (Acons (Ev 12) Anil)) (Acons (Etup (Acons (EC (arN 2 m__law_pick) (Acons (Ev 0) (Acons (Elst (Acons (E1 negD (Ec (.int 1000))) (Acons (E1 negD (Ec (.int 1))) (Acons (Ec (.int 0)) (Acons (Ec (.int 2)) (Acons (Ec (.int 1000)) (Acons (E2 subD (EC (arN 2 m__law_draw) (Acons (Ev 0) (Acons (Ec (.int 2001)) Anil))) (Ec (.int 1000))) Anil))))))) Anil))) Anil)) Anil)))))
  Snil)
  (Sret (Etup (Acons (Ev 5) (Acons (Etup (Acons (Ev 12) Anil)) (Acons (Etup Anil) Anil)))))))))))
@[reducible] noncomputable def t__law_step_2 : FS := (Sseq (Sset 6 (EC fLen (Acons (Ev 1) Anil)))
  (Sseq (Sif (Tb (E2 (inD false) (Ev 5) (Etup (Acons (Ec (.str "add")) (Acons (Ec (.str "sub")) (Acons (Ec (.str "times")) (Acons (Ec (.str "product")) (Acons (Ec (.str "pick")) Anil))))))))
  (Sseq (Sset 7 (Enew Anil))
  (Sseq (Sfor (Irng1 (Acons (Ev 6) Anil)) (.nm 8)
  (Sseq (Sset 9 (Eif (Tb (E2 (eqD false) (Ev 5) (Ec (.str "pick")))) (Ev 2) (Ec (.int 0))))
  (Sseq (Sset 10 (Eif (Tb (E2 (eqD false) (Ev 5) (Ec (.str "pick")))) (Ev 3) (Ev 6)))
  (Sexp (EM "list" mExt (Ev 7) (Acons (Ecmp (Irng2 (Acons (Ev 9) (Acons (Ev 10) Anil))) (.nm 13) (Tt (EC (arN 4 m__law_fits) (Acons (Ev 5) (Acons (Ev 1) (Acons (Ev 8) (Acons (Ev 13) Anil)))))) (Etup (Acons (Ev 8) (Acons (Ev 13) Anil))) [13]) Anil))))))
  (Sseq (Sif (Tb (E2 gtD (EC fLen (Acons (Ev 7) Anil)) (Ec (.int 0))))
  (Sret (Etup (Acons (Ev 5) (Acons (EC (arN 2 m__law_pick) (Acons (Ev 0) (Acons (Esl (Ev 7) (Osome (E2 fdivD (EC fLen (Acons (Ev 7) Anil)) (Ec (.int 3)))) Onone) Anil))) (Acons (Etup Anil) Anil)))))
  Snil)
  (Sset 5 (Ec (.str "positive"))))))
  Snil)
  (Sseq (Sif (Tb (E2 (eqD false) (Ev 5) (Ec (.str "spread"))))
  (Sseq (Sset 11 (Ecmp (Irng1 (Acons (Ev 6) Anil)) (.nm 8) (Tb (E2 (eqD false) (E2 ixD (Ev 1) (Ev 8)) (Etup (Acons (Ec (.int 1)) (Acons (Ec (.int 1)) Anil))))) (Ev 8) [8]))
  (Sseq (Sif (Tb (E2 gtD (EC fLen (Acons (Ev 11) Anil)) (Ec (.int 0))))
  (Sret (Etup (Acons (Ev 5) (Acons (Etup (Acons (EC (arN 2 m__law_pick) (Acons (Ev 0) (Acons (Ev 11) Anil))) Anil)) (Acons (Etup (Acons (E2 addD (Ec (.int 1)) (EC (arN 2 m__law_draw) (Acons (Ev 0) (Acons (Ec (.int 6)) Anil)))) (Acons (E2 addD (Ec (.int 1)) (EC (arN 2 m__law_draw) (Acons (Ev 0) (Acons (Ec (.int 6)) Anil)))) Anil))) Anil)))))
  Snil)
  (Sset 5 (Ec (.str "total")))))
  Snil)
  (Sseq (Sset 12 (E2 subD (E2 subD (Ev 6) (Ec (.int 1))) (EC (arN 2 m__law_draw) (Acons (Ev 0) (Acons (EC fMin2 (Acons (Ev 6) (Acons (Ec (.int 4)) Anil))) Anil)))))
  (Sseq (Sif (Tb (E2 (eqD false) (Ev 5) (Ec (.str "stretch"))))
  (Sret (Etup (Acons (Ev 5) (Acons (Etup (Acons (Ev 12) Anil)) (Acons (Etup (Acons (EC (arN 2 m__law_pick) (Acons (Ev 0) (Acons (Elst (Acons (E1 negD (Ec (.int 1000))) (Acons (E1 negD (Ec (.int 1))) (Acons (Ec (.int 0)) (Acons (Ec (.int 2)) (Acons (Ec (.int 1000)) (Acons (E2 subD (EC (arN 2 m__law_draw) (Acons (Ev 0) (Acons (Ec (.int 2001)) Anil))) (Ec (.int 1000))) Anil))))))) Anil))) Anil)) Anil)))))
  Snil)
  (Sret (Etup (Acons (Ev 5) (Acons (Etup (Acons (Ev 12) Anil)) (Acons (Etup Anil) Anil))))))))))
@[reducible] noncomputable def t__law_step_3 : FS := (Sseq (Sif (Tb (E2 (inD false) (Ev 5) (Etup (Acons (Ec (.str "add")) (Acons (Ec (.str "sub")) (Acons (Ec (.str "times")) (Acons (Ec (.str "product")) (Acons (Ec (.str "pick")) Anil))))))))
  (Sseq (Sset 7 (Enew Anil))
  (Sseq (Sfor (Irng1 (Acons (Ev 6) Anil)) (.nm 8)
  (Sseq (Sset 9 (Eif (Tb (E2 (eqD false) (Ev 5) (Ec (.str "pick")))) (Ev 2) (Ec (.int 0))))
  (Sseq (Sset 10 (Eif (Tb (E2 (eqD false) (Ev 5) (Ec (.str "pick")))) (Ev 3) (Ev 6)))
  (Sexp (EM "list" mExt (Ev 7) (Acons (Ecmp (Irng2 (Acons (Ev 9) (Acons (Ev 10) Anil))) (.nm 13) (Tt (EC (arN 4 m__law_fits) (Acons (Ev 5) (Acons (Ev 1) (Acons (Ev 8) (Acons (Ev 13) Anil)))))) (Etup (Acons (Ev 8) (Acons (Ev 13) Anil))) [13]) Anil))))))
  (Sseq (Sif (Tb (E2 gtD (EC fLen (Acons (Ev 7) Anil)) (Ec (.int 0))))
  (Sret (Etup (Acons (Ev 5) (Acons (EC (arN 2 m__law_pick) (Acons (Ev 0) (Acons (Esl (Ev 7) (Osome (E2 fdivD (EC fLen (Acons (Ev 7) Anil)) (Ec (.int 3)))) Onone) Anil))) (Acons (Etup Anil) Anil)))))
  Snil)
  (Sset 5 (Ec (.str "positive"))))))
  Snil)
  (Sseq (Sif (Tb (E2 (eqD false) (Ev 5) (Ec (.str "spread"))))
  (Sseq (Sset 11 (Ecmp (Irng1 (Acons (Ev 6) Anil)) (.nm 8) (Tb (E2 (eqD false) (E2 ixD (Ev 1) (Ev 8)) (Etup (Acons (Ec (.int 1)) (Acons (Ec (.int 1)) Anil))))) (Ev 8) [8]))
  (Sseq (Sif (Tb (E2 gtD (EC fLen (Acons (Ev 11) Anil)) (Ec (.int 0))))
  (Sret (Etup (Acons (Ev 5) (Acons (Etup (Acons (EC (arN 2 m__law_pick) (Acons (Ev 0) (Acons (Ev 11) Anil))) Anil)) (Acons (Etup (Acons (E2 addD (Ec (.int 1)) (EC (arN 2 m__law_draw) (Acons (Ev 0) (Acons (Ec (.int 6)) Anil)))) (Acons (E2 addD (Ec (.int 1)) (EC (arN 2 m__law_draw) (Acons (Ev 0) (Acons (Ec (.int 6)) Anil)))) Anil))) Anil)))))
  Snil)
  (Sset 5 (Ec (.str "total")))))
  Snil)
  (Sseq (Sset 12 (E2 subD (E2 subD (Ev 6) (Ec (.int 1))) (EC (arN 2 m__law_draw) (Acons (Ev 0) (Acons (EC fMin2 (Acons (Ev 6) (Acons (Ec (.int 4)) Anil))) Anil)))))
  (Sseq (Sif (Tb (E2 (eqD false) (Ev 5) (Ec (.str "stretch"))))
  (Sret (Etup (Acons (Ev 5) (Acons (Etup (Acons (Ev 12) Anil)) (Acons (Etup (Acons (EC (arN 2 m__law_pick) (Acons (Ev 0) (Acons (Elst (Acons (E1 negD (Ec (.int 1000))) (Acons (E1 negD (Ec (.int 1))) (Acons (Ec (.int 0)) (Acons (Ec (.int 2)) (Acons (Ec (.int 1000)) (Acons (E2 subD (EC (arN 2 m__law_draw) (Acons (Ev 0) (Acons (Ec (.int 2001)) Anil))) (Ec (.int 1000))) Anil))))))) Anil))) Anil)) Anil)))))
  Snil)
  (Sret (Etup (Acons (Ev 5) (Acons (Etup (Acons (Ev 12) Anil)) (Acons (Etup Anil) Anil)))))))))
@[reducible] noncomputable def t__law_step_4 : FS := (Sseq (Sif (Tb (E2 (eqD false) (Ev 5) (Ec (.str "spread"))))
  (Sseq (Sset 11 (Ecmp (Irng1 (Acons (Ev 6) Anil)) (.nm 8) (Tb (E2 (eqD false) (E2 ixD (Ev 1) (Ev 8)) (Etup (Acons (Ec (.int 1)) (Acons (Ec (.int 1)) Anil))))) (Ev 8) [8]))
  (Sseq (Sif (Tb (E2 gtD (EC fLen (Acons (Ev 11) Anil)) (Ec (.int 0))))
  (Sret (Etup (Acons (Ev 5) (Acons (Etup (Acons (EC (arN 2 m__law_pick) (Acons (Ev 0) (Acons (Ev 11) Anil))) Anil)) (Acons (Etup (Acons (E2 addD (Ec (.int 1)) (EC (arN 2 m__law_draw) (Acons (Ev 0) (Acons (Ec (.int 6)) Anil)))) (Acons (E2 addD (Ec (.int 1)) (EC (arN 2 m__law_draw) (Acons (Ev 0) (Acons (Ec (.int 6)) Anil)))) Anil))) Anil)))))
  Snil)
  (Sset 5 (Ec (.str "total")))))
  Snil)
  (Sseq (Sset 12 (E2 subD (E2 subD (Ev 6) (Ec (.int 1))) (EC (arN 2 m__law_draw) (Acons (Ev 0) (Acons (EC fMin2 (Acons (Ev 6) (Acons (Ec (.int 4)) Anil))) Anil)))))
  (Sseq (Sif (Tb (E2 (eqD false) (Ev 5) (Ec (.str "stretch"))))
  (Sret (Etup (Acons (Ev 5) (Acons (Etup (Acons (Ev 12) Anil)) (Acons (Etup (Acons (EC (arN 2 m__law_pick) (Acons (Ev 0) (Acons (Elst (Acons (E1 negD (Ec (.int 1000))) (Acons (E1 negD (Ec (.int 1))) (Acons (Ec (.int 0)) (Acons (Ec (.int 2)) (Acons (Ec (.int 1000)) (Acons (E2 subD (EC (arN 2 m__law_draw) (Acons (Ev 0) (Acons (Ec (.int 2001)) Anil))) (Ec (.int 1000))) Anil))))))) Anil))) Anil)) Anil)))))
  Snil)
  (Sret (Etup (Acons (Ev 5) (Acons (Etup (Acons (Ev 12) Anil)) (Acons (Etup Anil) Anil))))))))
@[reducible] noncomputable def t__law_step_5 : FS := (Sseq (Sset 12 (E2 subD (E2 subD (Ev 6) (Ec (.int 1))) (EC (arN 2 m__law_draw) (Acons (Ev 0) (Acons (EC fMin2 (Acons (Ev 6) (Acons (Ec (.int 4)) Anil))) Anil)))))
  (Sseq (Sif (Tb (E2 (eqD false) (Ev 5) (Ec (.str "stretch"))))
  (Sret (Etup (Acons (Ev 5) (Acons (Etup (Acons (Ev 12) Anil)) (Acons (Etup (Acons (EC (arN 2 m__law_pick) (Acons (Ev 0) (Acons (Elst (Acons (E1 negD (Ec (.int 1000))) (Acons (E1 negD (Ec (.int 1))) (Acons (Ec (.int 0)) (Acons (Ec (.int 2)) (Acons (Ec (.int 1000)) (Acons (E2 subD (EC (arN 2 m__law_draw) (Acons (Ev 0) (Acons (Ec (.int 2001)) Anil))) (Ec (.int 1000))) Anil))))))) Anil))) Anil)) Anil)))))
  Snil)
  (Sret (Etup (Acons (Ev 5) (Acons (Etup (Acons (Ev 12) Anil)) (Acons (Etup Anil) Anil)))))))
@[reducible] noncomputable def t__law_step_6 : FS := (Sseq (Sif (Tb (E2 (eqD false) (Ev 5) (Ec (.str "stretch"))))
  (Sret (Etup (Acons (Ev 5) (Acons (Etup (Acons (Ev 12) Anil)) (Acons (Etup (Acons (EC (arN 2 m__law_pick) (Acons (Ev 0) (Acons (Elst (Acons (E1 negD (Ec (.int 1000))) (Acons (E1 negD (Ec (.int 1))) (Acons (Ec (.int 0)) (Acons (Ec (.int 2)) (Acons (Ec (.int 1000)) (Acons (E2 subD (EC (arN 2 m__law_draw) (Acons (Ev 0) (Acons (Ec (.int 2001)) Anil))) (Ec (.int 1000))) Anil))))))) Anil))) Anil)) Anil)))))
  Snil)
  (Sret (Etup (Acons (Ev 5) (Acons (Etup (Acons (Ev 12) Anil)) (Acons (Etup Anil) Anil))))))
@[reducible] noncomputable def t__law_step_7 : FS := (Sret (Etup (Acons (Ev 5) (Acons (Etup (Acons (Ev 12) Anil)) (Acons (Etup Anil) Anil)))))
@[reducible] noncomputable def i3__law_step : FS := (Sseq (Sset 7 (Enew Anil))
  (Sseq (Sfor (Irng1 (Acons (Ev 6) Anil)) (.nm 8)
  (Sseq (Sset 9 (Eif (Tb (E2 (eqD false) (Ev 5) (Ec (.str "pick")))) (Ev 2) (Ec (.int 0))))
  (Sseq (Sset 10 (Eif (Tb (E2 (eqD false) (Ev 5) (Ec (.str "pick")))) (Ev 3) (Ev 6)))
  (Sexp (EM "list" mExt (Ev 7) (Acons (Ecmp (Irng2 (Acons (Ev 9) (Acons (Ev 10) Anil))) (.nm 13) (Tt (EC (arN 4 m__law_fits) (Acons (Ev 5) (Acons (Ev 1) (Acons (Ev 8) (Acons (Ev 13) Anil)))))) (Etup (Acons (Ev 8) (Acons (Ev 13) Anil))) [13]) Anil))))))
  (Sseq (Sif (Tb (E2 gtD (EC fLen (Acons (Ev 7) Anil)) (Ec (.int 0))))
  (Sret (Etup (Acons (Ev 5) (Acons (EC (arN 2 m__law_pick) (Acons (Ev 0) (Acons (Esl (Ev 7) (Osome (E2 fdivD (EC fLen (Acons (Ev 7) Anil)) (Ec (.int 3)))) Onone) Anil))) (Acons (Etup Anil) Anil)))))
  Snil)
  (Sset 5 (Ec (.str "positive"))))))
@[reducible] noncomputable def i4__law_step : FS := (Sseq (Sset 11 (Ecmp (Irng1 (Acons (Ev 6) Anil)) (.nm 8) (Tb (E2 (eqD false) (E2 ixD (Ev 1) (Ev 8)) (Etup (Acons (Ec (.int 1)) (Acons (Ec (.int 1)) Anil))))) (Ev 8) [8]))
  (Sseq (Sif (Tb (E2 gtD (EC fLen (Acons (Ev 11) Anil)) (Ec (.int 0))))
  (Sret (Etup (Acons (Ev 5) (Acons (Etup (Acons (EC (arN 2 m__law_pick) (Acons (Ev 0) (Acons (Ev 11) Anil))) Anil)) (Acons (Etup (Acons (E2 addD (Ec (.int 1)) (EC (arN 2 m__law_draw) (Acons (Ev 0) (Acons (Ec (.int 6)) Anil)))) (Acons (E2 addD (Ec (.int 1)) (EC (arN 2 m__law_draw) (Acons (Ev 0) (Acons (Ec (.int 6)) Anil)))) Anil))) Anil)))))
  Snil)
  (Sset 5 (Ec (.str "total")))))
@[reducible] noncomputable def i6__law_step : FS := (Sret (Etup (Acons (Ev 5) (Acons (Etup (Acons (Ev 12) Anil)) (Acons (Etup (Acons (EC (arN 2 m__law_pick) (Acons (Ev 0) (Acons (Elst (Acons (E1 negD (Ec (.int 1000))) (Acons (E1 negD (Ec (.int 1))) (Acons (Ec (.int 0)) (Acons (Ec (.int 2)) (Acons (Ec (.int 1000)) (Acons (E2 subD (EC (arN 2 m__law_draw) (Acons (Ev 0) (Acons (Ec (.int 2001)) Anil))) (Ec (.int 1000))) Anil))))))) Anil))) Anil)) Anil)))))
@[reducible] noncomputable def u0__law_step_1 : FS := (Sseq (Sset 10 (Eif (Tb (E2 (eqD false) (Ev 5) (Ec (.str "pick")))) (Ev 3) (Ev 6)))
  (Sexp (EM "list" mExt (Ev 7) (Acons (Ecmp (Irng2 (Acons (Ev 9) (Acons (Ev 10) Anil))) (.nm 13) (Tt (EC (arN 4 m__law_fits) (Acons (Ev 5) (Acons (Ev 1) (Acons (Ev 8) (Acons (Ev 13) Anil)))))) (Etup (Acons (Ev 8) (Acons (Ev 13) Anil))) [13]) Anil))))
@[reducible] noncomputable def u0__law_step_2 : FS := (Sexp (EM "list" mExt (Ev 7) (Acons (Ecmp (Irng2 (Acons (Ev 9) (Acons (Ev 10) Anil))) (.nm 13) (Tt (EC (arN 4 m__law_fits) (Acons (Ev 5) (Acons (Ev 1) (Acons (Ev 8) (Acons (Ev 13) Anil)))))) (Etup (Acons (Ev 8) (Acons (Ev 13) Anil))) [13]) Anil)))
noncomputable def m__law_step : FC := (runF 14 b__law_step)
/-! ### _law_program -/
abbrev s__law_program : Stmt := topS 12
abbrev N__law_program : List PySem.Str := ["_law_pool_here", "_law_most", "_law_sizes", "_law_own", "_law_leaves", "_law_values", "_law_k", "_law_columns", "_law_found", "_law_steps", "_law_kind", "_law_operands", "_law_numbers", "_law_cells", "_law_loss", "_law_value"]
theorem sc__law_program : FnScope N__law_program ["_law_pool_here", "_law_most"] (defScope s__law_program) := ⟨rfl, rfl, rfl, by decide +kernel, rfl, by decide +kernel, by decide +kernel⟩
@[reducible] noncomputable def b__law_program : FS :=
  (Sseq (Sset 2 (Elst (Acons (Ec (.int 1)) (Acons (E2 addD (Ec (.int 1)) (EC (arN 2 m__law_draw) (Acons (Ev 0) (Acons (Ec (.int 6)) Anil)))) (Acons (E2 addD (Ec (.int 1)) (EC (arN 2 m__law_draw) (Acons (Ev 0) (Acons (Ec (.int 6)) Anil)))) Anil)))))
  (Sseq (Sset 3 (E2 addD (Ec (.int 1)) (EC (arN 2 m__law_draw) (Acons (Ev 0) (Acons (Ec (.int 3)) Anil)))))
  (Sseq (Sif (Tb (E2 (eqD false) (EC (arN 2 m__law_draw) (Acons (Ev 0) (Acons (Ec (.int 8)) Anil))) (Ec (.int 0))))
  (Sset 3 (E2 addD (Ec (.int 1)) (EC (arN 2 m__law_draw) (Acons (Ev 0) (Acons (Ec (.int 6)) Anil)))))
  Snil)
  (Sseq (Sset 4 (E2 addD (Ev 3) (EC (arN 2 m__law_draw) (Acons (Ev 0) (Acons (Ec (.int 5)) Anil)))))
  (Sseq (Sset 5 (Enew Anil))
  (Sseq (Sfor (Irng1 (Acons (Ev 4) Anil)) (.nm 6)
  (Sseq (Sset 7 (EC (arN 2 m__law_pick) (Acons (Ev 0) (Acons (Ev 2) Anil))))
  (Sseq (Sif (Tand (Tb (E2 geD (Ev 6) (Ev 3))) (Tb (E2 (eqD false) (EC (arN 2 m__law_draw) (Acons (Ev 0) (Acons (Ec (.int 2)) Anil))) (Ec (.int 0)))))
  (Sset 7 (Ec (.int 1)))
  Snil)
  (Sexp (EM "list" mApp (Ev 5) (Acons (Etup (Acons (EC (arN 2 m__law_name) (Acons (Ev 0) (Acons (Ev 6) Anil))) (Acons (EC (arN 2 m__law_pick) (Acons (Ev 0) (Acons (Ev 2) Anil))) (Acons (Ev 7) Anil)))) Anil))))))
  (Sseq (Sset 8 (EcmpN (Iseq (Ev 5)) (.nm 15) Tyes (Esl (Ev 15) (Osome (Ec (.int 1))) Onone) [15]))
  (Sseq (Sset 9 (Enew Anil))
  (Sseq (Sfor (Irng1 (Acons (EC (arN 2 m__law_draw) (Acons (Ev 0) (Acons (E2 addD (EC fMin2 (Acons (Ev 1) (Acons (E2 subD (Ec (.int 22)) (Ev 4)) Anil))) (Ec (.int 1))) Anil))) Anil)) (.nm 6)
  (Sseq (Sbind (.tp [(.nm 10), (.nm 11), (.nm 12)]) (EC (arN 4 m__law_step) (Acons (Ev 0) (Acons (Ev 8) (Acons (Ev 3) (Acons (Ev 4) Anil))))))
  (Sseq (Sexp (EM "list" mApp (Ev 9) (Acons (Etup (Acons (EC (arN 2 m__law_name) (Acons (Ev 0) (Acons (E2 addD (Ev 4) (Ev 6)) Anil))) (Acons (Ev 10) (Acons (Ev 11) (Acons (Ev 12) Anil))))) Anil)))
  (Sexp (EM "list" mApp (Ev 8) (Acons (EC (arN 4 m__law_step_shape) (Acons (Ev 10) (Acons (Ev 8) (Acons (Ev 11) (Acons (Ev 12) Anil))))) Anil))))))
  (Sseq (Sset 13 (Ecmp (Irng1 (Acons (EC fLen (Acons (Ev 8) Anil)) Anil)) (.nm 6) (Tb (E2 (eqD false) (E2 ixD (Ev 8) (Ev 6)) (Etup (Acons (Ec (.int 1)) (Acons (Ec (.int 1)) Anil))))) (Ev 6) [6]))
  (Sseq (Sif (Tor (Tb (E2 (eqD false) (EC fLen (Acons (Ev 13) Anil)) (Ec (.int 0)))) (Tb (E2 gtD (EC (arN 2 m__law_draw) (Acons (Ev 0) (Acons (Ec (.int 3)) Anil))) (Ec (.int 0)))))
  (Sseq (Sexp (EM "list" mApp (Ev 9) (Acons (Etup (Acons (EC (arN 2 m__law_name) (Acons (Ev 0) (Acons (EC fLen (Acons (Ev 8) Anil)) Anil))) (Acons (Ec (.str "total")) (Acons (Etup (Acons (E2 subD (EC fLen (Acons (Ev 8) Anil)) (Ec (.int 1))) Anil)) (Acons (Etup Anil) Anil))))) Anil)))
  (Sseq (Sexp (EM "list" mApp (Ev 8) (Acons (Etup (Acons (Ec (.int 1)) (Acons (Ec (.int 1)) Anil))) Anil)))
  (Sset 13 (Elst (Acons (E2 subD (EC fLen (Acons (Ev 8) Anil)) (Ec (.int 1))) Anil)))))
  Snil)
  (Sseq (Sset 14 (E2 ixD (Ev 13) (E2 subD (EC fLen (Acons (Ev 13) Anil)) (Ec (.int 1)))))
  (Sseq (Sif (Tb (E2 (eqD false) (EC (arN 2 m__law_draw) (Acons (Ev 0) (Acons (Ec (.int 6)) Anil))) (Ec (.int 0))))
  (Sset 14 (EC (arN 2 m__law_pick) (Acons (Ev 0) (Acons (Ev 13) Anil))))
  Snil)
  (Sret (Etup (Acons (EC fTup (Acons (Esl (Ev 5) Onone (Osome (Ev 3))) Anil)) (Acons (EC fTup (Acons (Esl (Ev 5) (Osome (Ev 3)) Onone) Anil)) (Acons (EC fTup (Acons (Ev 9) Anil)) (Acons (Ev 14) Anil)))))))))))))))))))
@[reducible] noncomputable def t__law_program_1 : FS := (Sseq (Sset 3 (E2 addD (Ec (.int 1)) (EC (arN 2 m__law_draw) (Acons (Ev 0) (Acons (Ec (.int 3)) Anil)))))
  (Sseq (Sif (Tb (E2 (eqD false) (EC (arN 2 m__law_draw) (Acons (Ev 0) (Acons (Ec (.int 8)) Anil))) (Ec (.int 0))))
  (Sset 3 (E2 addD (Ec (.int 1)) (EC (arN 2 m__law_draw) (Acons (Ev 0) (Acons (Ec (.int 6)) Anil)))))
  Snil)
  (Sseq (Sset 4 (E2 addD (Ev 3) (EC (arN 2 m__law_draw) (Acons (Ev 0) (Acons (Ec (.int 5)) Anil)))))
  (Sseq (Sset 5 (Enew Anil))
  (Sseq (Sfor (Irng1 (Acons (Ev 4) Anil)) (.nm 6)
  (Sseq (Sset 7 (EC (arN 2 m__law_pick) (Acons (Ev 0) (Acons (Ev 2) Anil))))
  (Sseq (Sif (Tand (Tb (E2 geD (Ev 6) (Ev 3))) (Tb (E2 (eqD false) (EC (arN 2 m__law_draw) (Acons (Ev 0) (Acons (Ec (.int 2)) Anil))) (Ec (.int 0)))))
  (Sset 7 (Ec (.int 1)))
  Snil)
  (Sexp (EM "list" mApp (Ev 5) (Acons (Etup (Acons (EC (arN 2 m__law_name) (Acons (Ev 0) (Acons (Ev 6) Anil))) (Acons (EC (arN 2 m__law_pick) (Acons (Ev 0) (Acons (Ev 2) Anil))) (Acons (Ev 7) Anil)))) Anil))))))
  (Sseq (Sset 8 (EcmpN (Iseq (Ev 5)) (.nm 15) Tyes (Esl (Ev 15) (Osome (Ec (.int 1))) Onone) [15]))
  (Sseq (Sset 9 (Enew Anil))
  (Sseq (Sfor (Irng1 (Acons (EC (arN 2 m__law_draw) (Acons (Ev 0) (Acons (E2 addD (EC fMin2 (Acons (Ev 1) (Acons (E2 subD (Ec (.int 22)) (Ev 4)) Anil))) (Ec (.int 1))) Anil))) Anil)) (.nm 6)
  (Sseq (Sbind (.tp [(.nm 10), (.nm 11), (.nm 12)]) (EC (arN 4 m__law_step) (Acons (Ev 0) (Acons (Ev 8) (Acons (Ev 3) (Acons (Ev 4) Anil))))))
  (Sseq (Sexp (EM "list" mApp (Ev 9) (Acons (Etup (Acons (EC (arN 2 m__law_name) (Acons (Ev 0) (Acons (E2 addD (Ev 4) (Ev 6)) Anil))) (Acons (Ev 10) (Acons (Ev 11) (Acons (Ev 12) Anil))))) Anil)))
  (Sexp (EM "list" mApp (Ev 8) (Acons (EC (arN 4 m__law_step_shape) (Acons (Ev 10) (Acons (Ev 8) (Acons (Ev 11) (Acons (Ev 12) Anil))))) Anil))))))
  (Sseq (Sset 13 (Ecmp (Irng1 (Acons (EC fLen (Acons (Ev 8) Anil)) Anil)) (.nm 6) (Tb (E2 (eqD false) (E2 ixD (Ev 8) (Ev 6)) (Etup (Acons (Ec (.int 1)) (Acons (Ec (.int 1)) Anil))))) (Ev 6) [6]))
  (Sseq (Sif (Tor (Tb (E2 (eqD false) (EC fLen (Acons (Ev 13) Anil)) (Ec (.int 0)))) (Tb (E2 gtD (EC (arN 2 m__law_draw) (Acons (Ev 0) (Acons (Ec (.int 3)) Anil))) (Ec (.int 0)))))
  (Sseq (Sexp (EM "list" mApp (Ev 9) (Acons (Etup (Acons (EC (arN 2 m__law_name) (Acons (Ev 0) (Acons (EC fLen (Acons (Ev 8) Anil)) Anil))) (Acons (Ec (.str "total")) (Acons (Etup (Acons (E2 subD (EC fLen (Acons (Ev 8) Anil)) (Ec (.int 1))) Anil)) (Acons (Etup Anil) Anil))))) Anil)))
  (Sseq (Sexp (EM "list" mApp (Ev 8) (Acons (Etup (Acons (Ec (.int 1)) (Acons (Ec (.int 1)) Anil))) Anil)))
  (Sset 13 (Elst (Acons (E2 subD (EC fLen (Acons (Ev 8) Anil)) (Ec (.int 1))) Anil)))))
  Snil)
  (Sseq (Sset 14 (E2 ixD (Ev 13) (E2 subD (EC fLen (Acons (Ev 13) Anil)) (Ec (.int 1)))))
  (Sseq (Sif (Tb (E2 (eqD false) (EC (arN 2 m__law_draw) (Acons (Ev 0) (Acons (Ec (.int 6)) Anil))) (Ec (.int 0))))
  (Sset 14 (EC (arN 2 m__law_pick) (Acons (Ev 0) (Acons (Ev 13) Anil))))
  Snil)
  (Sret (Etup (Acons (EC fTup (Acons (Esl (Ev 5) Onone (Osome (Ev 3))) Anil)) (Acons (EC fTup (Acons (Esl (Ev 5) (Osome (Ev 3)) Onone) Anil)) (Acons (EC fTup (Acons (Ev 9) Anil)) (Acons (Ev 14) Anil))))))))))))))))))
@[reducible] noncomputable def t__law_program_2 : FS := (Sseq (Sif (Tb (E2 (eqD false) (EC (arN 2 m__law_draw) (Acons (Ev 0) (Acons (Ec (.int 8)) Anil))) (Ec (.int 0))))
  (Sset 3 (E2 addD (Ec (.int 1)) (EC (arN 2 m__law_draw) (Acons (Ev 0) (Acons (Ec (.int 6)) Anil)))))
  Snil)
  (Sseq (Sset 4 (E2 addD (Ev 3) (EC (arN 2 m__law_draw) (Acons (Ev 0) (Acons (Ec (.int 5)) Anil)))))
  (Sseq (Sset 5 (Enew Anil))
  (Sseq (Sfor (Irng1 (Acons (Ev 4) Anil)) (.nm 6)
  (Sseq (Sset 7 (EC (arN 2 m__law_pick) (Acons (Ev 0) (Acons (Ev 2) Anil))))
  (Sseq (Sif (Tand (Tb (E2 geD (Ev 6) (Ev 3))) (Tb (E2 (eqD false) (EC (arN 2 m__law_draw) (Acons (Ev 0) (Acons (Ec (.int 2)) Anil))) (Ec (.int 0)))))
  (Sset 7 (Ec (.int 1)))
  Snil)
  (Sexp (EM "list" mApp (Ev 5) (Acons (Etup (Acons (EC (arN 2 m__law_name) (Acons (Ev 0) (Acons (Ev 6) Anil))) (Acons (EC (arN 2 m__law_pick) (Acons (Ev 0) (Acons (Ev 2) Anil))) (Acons (Ev 7) Anil)))) Anil))))))
  (Sseq (Sset 8 (EcmpN (Iseq (Ev 5)) (.nm 15) Tyes (Esl (Ev 15) (Osome (Ec (.int 1))) Onone) [15]))
  (Sseq (Sset 9 (Enew Anil))
  (Sseq (Sfor (Irng1 (Acons (EC (arN 2 m__law_draw) (Acons (Ev 0) (Acons (E2 addD (EC fMin2 (Acons (Ev 1) (Acons (E2 subD (Ec (.int 22)) (Ev 4)) Anil))) (Ec (.int 1))) Anil))) Anil)) (.nm 6)
  (Sseq (Sbind (.tp [(.nm 10), (.nm 11), (.nm 12)]) (EC (arN 4 m__law_step) (Acons (Ev 0) (Acons (Ev 8) (Acons (Ev 3) (Acons (Ev 4) Anil))))))
  (Sseq (Sexp (EM "list" mApp (Ev 9) (Acons (Etup (Acons (EC (arN 2 m__law_name) (Acons (Ev 0) (Acons (E2 addD (Ev 4) (Ev 6)) Anil))) (Acons (Ev 10) (Acons (Ev 11) (Acons (Ev 12) Anil))))) Anil)))
  (Sexp (EM "list" mApp (Ev 8) (Acons (EC (arN 4 m__law_step_shape) (Acons (Ev 10) (Acons (Ev 8) (Acons (Ev 11) (Acons (Ev 12) Anil))))) Anil))))))
  (Sseq (Sset 13 (Ecmp (Irng1 (Acons (EC fLen (Acons (Ev 8) Anil)) Anil)) (.nm 6) (Tb (E2 (eqD false) (E2 ixD (Ev 8) (Ev 6)) (Etup (Acons (Ec (.int 1)) (Acons (Ec (.int 1)) Anil))))) (Ev 6) [6]))
  (Sseq (Sif (Tor (Tb (E2 (eqD false) (EC fLen (Acons (Ev 13) Anil)) (Ec (.int 0)))) (Tb (E2 gtD (EC (arN 2 m__law_draw) (Acons (Ev 0) (Acons (Ec (.int 3)) Anil))) (Ec (.int 0)))))
  (Sseq (Sexp (EM "list" mApp (Ev 9) (Acons (Etup (Acons (EC (arN 2 m__law_name) (Acons (Ev 0) (Acons (EC fLen (Acons (Ev 8) Anil)) Anil))) (Acons (Ec (.str "total")) (Acons (Etup (Acons (E2 subD (EC fLen (Acons (Ev 8) Anil)) (Ec (.int 1))) Anil)) (Acons (Etup Anil) Anil))))) Anil)))
  (Sseq (Sexp (EM "list" mApp (Ev 8) (Acons (Etup (Acons (Ec (.int 1)) (Acons (Ec (.int 1)) Anil))) Anil)))
  (Sset 13 (Elst (Acons (E2 subD (EC fLen (Acons (Ev 8) Anil)) (Ec (.int 1))) Anil)))))
  Snil)
  (Sseq (Sset 14 (E2 ixD (Ev 13) (E2 subD (EC fLen (Acons (Ev 13) Anil)) (Ec (.int 1)))))
  (Sseq (Sif (Tb (E2 (eqD false) (EC (arN 2 m__law_draw) (Acons (Ev 0) (Acons (Ec (.int 6)) Anil))) (Ec (.int 0))))
  (Sset 14 (EC (arN 2 m__law_pick) (Acons (Ev 0) (Acons (Ev 13) Anil))))
  Snil)
  (Sret (Etup (Acons (EC fTup (Acons (Esl (Ev 5) Onone (Osome (Ev 3))) Anil)) (Acons (EC fTup (Acons (Esl (Ev 5) (Osome (Ev 3)) Onone) Anil)) (Acons (EC fTup (Acons (Ev 9) Anil)) (Acons (Ev 14) Anil)))))))))))))))))
@[reducible] noncomputable def t__law_program_3 : FS := (Sseq (Sset 4 (E2 addD (Ev 3) (EC (arN 2 m__law_draw) (Acons (Ev 0) (Acons (Ec (.int 5)) Anil)))))
  (Sseq (Sset 5 (Enew Anil))
  (Sseq (Sfor (Irng1 (Acons (Ev 4) Anil)) (.nm 6)
  (Sseq (Sset 7 (EC (arN 2 m__law_pick) (Acons (Ev 0) (Acons (Ev 2) Anil))))
  (Sseq (Sif (Tand (Tb (E2 geD (Ev 6) (Ev 3))) (Tb (E2 (eqD false) (EC (arN 2 m__law_draw) (Acons (Ev 0) (Acons (Ec (.int 2)) Anil))) (Ec (.int 0)))))
  (Sset 7 (Ec (.int 1)))
  Snil)
  (Sexp (EM "list" mApp (Ev 5) (Acons (Etup (Acons (EC (arN 2 m__law_name) (Acons (Ev 0) (Acons (Ev 6) Anil))) (Acons (EC (arN 2 m__law_pick) (Acons (Ev 0) (Acons (Ev 2) Anil))) (Acons (Ev 7) Anil)))) Anil))))))
  (Sseq (Sset 8 (EcmpN (Iseq (Ev 5)) (.nm 15) Tyes (Esl (Ev 15) (Osome (Ec (.int 1))) Onone) [15]))
  (Sseq (Sset 9 (Enew Anil))
  (Sseq (Sfor (Irng1 (Acons (EC (arN 2 m__law_draw) (Acons (Ev 0) (Acons (E2 addD (EC fMin2 (Acons (Ev 1) (Acons (E2 subD (Ec (.int 22)) (Ev 4)) Anil))) (Ec (.int 1))) Anil))) Anil)) (.nm 6)
  (Sseq (Sbind (.tp [(.nm 10), (.nm 11), (.nm 12)]) (EC (arN 4 m__law_step) (Acons (Ev 0) (Acons (Ev 8) (Acons (Ev 3) (Acons (Ev 4) Anil))))))
  (Sseq (Sexp (EM "list" mApp (Ev 9) (Acons (Etup (Acons (EC (arN 2 m__law_name) (Acons (Ev 0) (Acons (E2 addD (Ev 4) (Ev 6)) Anil))) (Acons (Ev 10) (Acons (Ev 11) (Acons (Ev 12) Anil))))) Anil)))
  (Sexp (EM "list" mApp (Ev 8) (Acons (EC (arN 4 m__law_step_shape) (Acons (Ev 10) (Acons (Ev 8) (Acons (Ev 11) (Acons (Ev 12) Anil))))) Anil))))))
  (Sseq (Sset 13 (Ecmp (Irng1 (Acons (EC fLen (Acons (Ev 8) Anil)) Anil)) (.nm 6) (Tb (E2 (eqD false) (E2 ixD (Ev 8) (Ev 6)) (Etup (Acons (Ec (.int 1)) (Acons (Ec (.int 1)) Anil))))) (Ev 6) [6]))
  (Sseq (Sif (Tor (Tb (E2 (eqD false) (EC fLen (Acons (Ev 13) Anil)) (Ec (.int 0)))) (Tb (E2 gtD (EC (arN 2 m__law_draw) (Acons (Ev 0) (Acons (Ec (.int 3)) Anil))) (Ec (.int 0)))))
  (Sseq (Sexp (EM "list" mApp (Ev 9) (Acons (Etup (Acons (EC (arN 2 m__law_name) (Acons (Ev 0) (Acons (EC fLen (Acons (Ev 8) Anil)) Anil))) (Acons (Ec (.str "total")) (Acons (Etup (Acons (E2 subD (EC fLen (Acons (Ev 8) Anil)) (Ec (.int 1))) Anil)) (Acons (Etup Anil) Anil))))) Anil)))
  (Sseq (Sexp (EM "list" mApp (Ev 8) (Acons (Etup (Acons (Ec (.int 1)) (Acons (Ec (.int 1)) Anil))) Anil)))
  (Sset 13 (Elst (Acons (E2 subD (EC fLen (Acons (Ev 8) Anil)) (Ec (.int 1))) Anil)))))
  Snil)
  (Sseq (Sset 14 (E2 ixD (Ev 13) (E2 subD (EC fLen (Acons (Ev 13) Anil)) (Ec (.int 1)))))
  (Sseq (Sif (Tb (E2 (eqD false) (EC (arN 2 m__law_draw) (Acons (Ev 0) (Acons (Ec (.int 6)) Anil))) (Ec (.int 0))))
  (Sset 14 (EC (arN 2 m__law_pick) (Acons (Ev 0) (Acons (Ev 13) Anil))))
  Snil)
  (Sret (Etup (Acons (EC fTup (Acons (Esl (Ev 5) Onone (Osome (Ev 3))) Anil)) (Acons (EC fTup (Acons (Esl (Ev 5) (Osome (Ev 3)) Onone) Anil)) (Acons (EC fTup (Acons (Ev 9) Anil)) (Acons (Ev 14) Anil))))))))))))))))
@[reducible] noncomputable def t__law_program_4 : FS := (Sseq (Sset 5 (Enew Anil))
  (Sseq (Sfor (Irng1 (Acons (Ev 4) Anil)) (.nm 6)
  (Sseq (Sset 7 (EC (arN 2 m__law_pick) (Acons (Ev 0) (Acons (Ev 2) Anil))))
  (Sseq (Sif (Tand (Tb (E2 geD (Ev 6) (Ev 3))) (Tb (E2 (eqD false) (EC (arN 2 m__law_draw) (Acons (Ev 0) (Acons (Ec (.int 2)) Anil))) (Ec (.int 0)))))
  (Sset 7 (Ec (.int 1)))
  Snil)
  (Sexp (EM "list" mApp (Ev 5) (Acons (Etup (Acons (EC (arN 2 m__law_name) (Acons (Ev 0) (Acons (Ev 6) Anil))) (Acons (EC (arN 2 m__law_pick) (Acons (Ev 0) (Acons (Ev 2) Anil))) (Acons (Ev 7) Anil)))) Anil))))))
  (Sseq (Sset 8 (EcmpN (Iseq (Ev 5)) (.nm 15) Tyes (Esl (Ev 15) (Osome (Ec (.int 1))) Onone) [15]))
  (Sseq (Sset 9 (Enew Anil))
  (Sseq (Sfor (Irng1 (Acons (EC (arN 2 m__law_draw) (Acons (Ev 0) (Acons (E2 addD (EC fMin2 (Acons (Ev 1) (Acons (E2 subD (Ec (.int 22)) (Ev 4)) Anil))) (Ec (.int 1))) Anil))) Anil)) (.nm 6)
  (Sseq (Sbind (.tp [(.nm 10), (.nm 11), (.nm 12)]) (EC (arN 4 m__law_step) (Acons (Ev 0) (Acons (Ev 8) (Acons (Ev 3) (Acons (Ev 4) Anil))))))
  (Sseq (Sexp (EM "list" mApp (Ev 9) (Acons (Etup (Acons (EC (arN 2 m__law_name) (Acons (Ev 0) (Acons (E2 addD (Ev 4) (Ev 6)) Anil))) (Acons (Ev 10) (Acons (Ev 11) (Acons (Ev 12) Anil))))) Anil)))
  (Sexp (EM "list" mApp (Ev 8) (Acons (EC (arN 4 m__law_step_shape) (Acons (Ev 10) (Acons (Ev 8) (Acons (Ev 11) (Acons (Ev 12) Anil))))) Anil))))))
  (Sseq (Sset 13 (Ecmp (Irng1 (Acons (EC fLen (Acons (Ev 8) Anil)) Anil)) (.nm 6) (Tb (E2 (eqD false) (E2 ixD (Ev 8) (Ev 6)) (Etup (Acons (Ec (.int 1)) (Acons (Ec (.int 1)) Anil))))) (Ev 6) [6]))
  (Sseq (Sif (Tor (Tb (E2 (eqD false) (EC fLen (Acons (Ev 13) Anil)) (Ec (.int 0)))) (Tb (E2 gtD (EC (arN 2 m__law_draw) (Acons (Ev 0) (Acons (Ec (.int 3)) Anil))) (Ec (.int 0)))))
  (Sseq (Sexp (EM "list" mApp (Ev 9) (Acons (Etup (Acons (EC (arN 2 m__law_name) (Acons (Ev 0) (Acons (EC fLen (Acons (Ev 8) Anil)) Anil))) (Acons (Ec (.str "total")) (Acons (Etup (Acons (E2 subD (EC fLen (Acons (Ev 8) Anil)) (Ec (.int 1))) Anil)) (Acons (Etup Anil) Anil))))) Anil)))
  (Sseq (Sexp (EM "list" mApp (Ev 8) (Acons (Etup (Acons (Ec (.int 1)) (Acons (Ec (.int 1)) Anil))) Anil)))
  (Sset 13 (Elst (Acons (E2 subD (EC fLen (Acons (Ev 8) Anil)) (Ec (.int 1))) Anil)))))
  Snil)
  (Sseq (Sset 14 (E2 ixD (Ev 13) (E2 subD (EC fLen (Acons (Ev 13) Anil)) (Ec (.int 1)))))
  (Sseq (Sif (Tb (E2 (eqD false) (EC (arN 2 m__law_draw) (Acons (Ev 0) (Acons (Ec (.int 6)) Anil))) (Ec (.int 0))))
  (Sset 14 (EC (arN 2 m__law_pick) (Acons (Ev 0) (Acons (Ev 13) Anil))))
  Snil)
  (Sret (Etup (Acons (EC fTup (Acons (Esl (Ev 5) Onone (Osome (Ev 3))) Anil)) (Acons (EC fTup (Acons (Esl (Ev 5) (Osome (Ev 3)) Onone) Anil)) (Acons (EC fTup (Acons (Ev 9) Anil)) (Acons (Ev 14) Anil)))))))))))))))
@[reducible] noncomputable def t__law_program_5 : FS := (Sseq (Sfor (Irng1 (Acons (Ev 4) Anil)) (.nm 6)
  (Sseq (Sset 7 (EC (arN 2 m__law_pick) (Acons (Ev 0) (Acons (Ev 2) Anil))))
  (Sseq (Sif (Tand (Tb (E2 geD (Ev 6) (Ev 3))) (Tb (E2 (eqD false) (EC (arN 2 m__law_draw) (Acons (Ev 0) (Acons (Ec (.int 2)) Anil))) (Ec (.int 0)))))
  (Sset 7 (Ec (.int 1)))
  Snil)
  (Sexp (EM "list" mApp (Ev 5) (Acons (Etup (Acons (EC (arN 2 m__law_name) (Acons (Ev 0) (Acons (Ev 6) Anil))) (Acons (EC (arN 2 m__law_pick) (Acons (Ev 0) (Acons (Ev 2) Anil))) (Acons (Ev 7) Anil)))) Anil))))))
  (Sseq (Sset 8 (EcmpN (Iseq (Ev 5)) (.nm 15) Tyes (Esl (Ev 15) (Osome (Ec (.int 1))) Onone) [15]))
  (Sseq (Sset 9 (Enew Anil))
  (Sseq (Sfor (Irng1 (Acons (EC (arN 2 m__law_draw) (Acons (Ev 0) (Acons (E2 addD (EC fMin2 (Acons (Ev 1) (Acons (E2 subD (Ec (.int 22)) (Ev 4)) Anil))) (Ec (.int 1))) Anil))) Anil)) (.nm 6)
  (Sseq (Sbind (.tp [(.nm 10), (.nm 11), (.nm 12)]) (EC (arN 4 m__law_step) (Acons (Ev 0) (Acons (Ev 8) (Acons (Ev 3) (Acons (Ev 4) Anil))))))
  (Sseq (Sexp (EM "list" mApp (Ev 9) (Acons (Etup (Acons (EC (arN 2 m__law_name) (Acons (Ev 0) (Acons (E2 addD (Ev 4) (Ev 6)) Anil))) (Acons (Ev 10) (Acons (Ev 11) (Acons (Ev 12) Anil))))) Anil)))
  (Sexp (EM "list" mApp (Ev 8) (Acons (EC (arN 4 m__law_step_shape) (Acons (Ev 10) (Acons (Ev 8) (Acons (Ev 11) (Acons (Ev 12) Anil))))) Anil))))))
  (Sseq (Sset 13 (Ecmp (Irng1 (Acons (EC fLen (Acons (Ev 8) Anil)) Anil)) (.nm 6) (Tb (E2 (eqD false) (E2 ixD (Ev 8) (Ev 6)) (Etup (Acons (Ec (.int 1)) (Acons (Ec (.int 1)) Anil))))) (Ev 6) [6]))
  (Sseq (Sif (Tor (Tb (E2 (eqD false) (EC fLen (Acons (Ev 13) Anil)) (Ec (.int 0)))) (Tb (E2 gtD (EC (arN 2 m__law_draw) (Acons (Ev 0) (Acons (Ec (.int 3)) Anil))) (Ec (.int 0)))))
  (Sseq (Sexp (EM "list" mApp (Ev 9) (Acons (Etup (Acons (EC (arN 2 m__law_name) (Acons (Ev 0) (Acons (EC fLen (Acons (Ev 8) Anil)) Anil))) (Acons (Ec (.str "total")) (Acons (Etup (Acons (E2 subD (EC fLen (Acons (Ev 8) Anil)) (Ec (.int 1))) Anil)) (Acons (Etup Anil) Anil))))) Anil)))
  (Sseq (Sexp (EM "list" mApp (Ev 8) (Acons (Etup (Acons (Ec (.int 1)) (Acons (Ec (.int 1)) Anil))) Anil)))
  (Sset 13 (Elst (Acons (E2 subD (EC fLen (Acons (Ev 8) Anil)) (Ec (.int 1))) Anil)))))
  Snil)
  (Sseq (Sset 14 (E2 ixD (Ev 13) (E2 subD (EC fLen (Acons (Ev 13) Anil)) (Ec (.int 1)))))
  (Sseq (Sif (Tb (E2 (eqD false) (EC (arN 2 m__law_draw) (Acons (Ev 0) (Acons (Ec (.int 6)) Anil))) (Ec (.int 0))))
  (Sset 14 (EC (arN 2 m__law_pick) (Acons (Ev 0) (Acons (Ev 13) Anil))))
  Snil)
  (Sret (Etup (Acons (EC fTup (Acons (Esl (Ev 5) Onone (Osome (Ev 3))) Anil)) (Acons (EC fTup (Acons (Esl (Ev 5) (Osome (Ev 3)) Onone) Anil)) (Acons (EC fTup (Acons (Ev 9) Anil)) (Acons (Ev 14) Anil))))))))))))))
@[reducible] noncomputable def t__law_program_6 : FS := (Sseq (Sset 8 (EcmpN (Iseq (Ev 5)) (.nm 15) Tyes (Esl (Ev 15) (Osome (Ec (.int 1))) Onone) [15]))
  (Sseq (Sset 9 (Enew Anil))
  (Sseq (Sfor (Irng1 (Acons (EC (arN 2 m__law_draw) (Acons (Ev 0) (Acons (E2 addD (EC fMin2 (Acons (Ev 1) (Acons (E2 subD (Ec (.int 22)) (Ev 4)) Anil))) (Ec (.int 1))) Anil))) Anil)) (.nm 6)
  (Sseq (Sbind (.tp [(.nm 10), (.nm 11), (.nm 12)]) (EC (arN 4 m__law_step) (Acons (Ev 0) (Acons (Ev 8) (Acons (Ev 3) (Acons (Ev 4) Anil))))))
  (Sseq (Sexp (EM "list" mApp (Ev 9) (Acons (Etup (Acons (EC (arN 2 m__law_name) (Acons (Ev 0) (Acons (E2 addD (Ev 4) (Ev 6)) Anil))) (Acons (Ev 10) (Acons (Ev 11) (Acons (Ev 12) Anil))))) Anil)))
  (Sexp (EM "list" mApp (Ev 8) (Acons (EC (arN 4 m__law_step_shape) (Acons (Ev 10) (Acons (Ev 8) (Acons (Ev 11) (Acons (Ev 12) Anil))))) Anil))))))
  (Sseq (Sset 13 (Ecmp (Irng1 (Acons (EC fLen (Acons (Ev 8) Anil)) Anil)) (.nm 6) (Tb (E2 (eqD false) (E2 ixD (Ev 8) (Ev 6)) (Etup (Acons (Ec (.int 1)) (Acons (Ec (.int 1)) Anil))))) (Ev 6) [6]))
  (Sseq (Sif (Tor (Tb (E2 (eqD false) (EC fLen (Acons (Ev 13) Anil)) (Ec (.int 0)))) (Tb (E2 gtD (EC (arN 2 m__law_draw) (Acons (Ev 0) (Acons (Ec (.int 3)) Anil))) (Ec (.int 0)))))
  (Sseq (Sexp (EM "list" mApp (Ev 9) (Acons (Etup (Acons (EC (arN 2 m__law_name) (Acons (Ev 0) (Acons (EC fLen (Acons (Ev 8) Anil)) Anil))) (Acons (Ec (.str "total")) (Acons (Etup (Acons (E2 subD (EC fLen (Acons (Ev 8) Anil)) (Ec (.int 1))) Anil)) (Acons (Etup Anil) Anil))))) Anil)))
  (Sseq (Sexp (EM "list" mApp (Ev 8) (Acons (Etup (Acons (Ec (.int 1)) (Acons (Ec (.int 1)) Anil))) Anil)))
  (Sset 13 (Elst (Acons (E2 subD (EC fLen (Acons (Ev 8) Anil)) (Ec (.int 1))) Anil)))))
  Snil)
  (Sseq (Sset 14 (E2 ixD (Ev 13) (E2 subD (EC fLen (Acons (Ev 13) Anil)) (Ec (.int 1)))))
  (Sseq (Sif (Tb (E2 (eqD false) (EC (arN 2 m__law_draw) (Acons (Ev 0) (Acons (Ec (.int 6)) Anil))) (Ec (.int 0))))
  (Sset 14 (EC (arN 2 m__law_pick) (Acons (Ev 0) (Acons (Ev 13) Anil))))
  Snil)
  (Sret (Etup (Acons (EC fTup (Acons (Esl (Ev 5) Onone (Osome (Ev 3))) Anil)) (Acons (EC fTup (Acons (Esl (Ev 5) (Osome (Ev 3)) Onone) Anil)) (Acons (EC fTup (Acons (Ev 9) Anil)) (Acons (Ev 14) Anil)))))))))))))
@[reducible] noncomputable def t__law_program_7 : FS := (Sseq (Sset 9 (Enew Anil))
  (Sseq (Sfor (Irng1 (Acons (EC (arN 2 m__law_draw) (Acons (Ev 0) (Acons (E2 addD (EC fMin2 (Acons (Ev 1) (Acons (E2 subD (Ec (.int 22)) (Ev 4)) Anil))) (Ec (.int 1))) Anil))) Anil)) (.nm 6)
  (Sseq (Sbind (.tp [(.nm 10), (.nm 11), (.nm 12)]) (EC (arN 4 m__law_step) (Acons (Ev 0) (Acons (Ev 8) (Acons (Ev 3) (Acons (Ev 4) Anil))))))
  (Sseq (Sexp (EM "list" mApp (Ev 9) (Acons (Etup (Acons (EC (arN 2 m__law_name) (Acons (Ev 0) (Acons (E2 addD (Ev 4) (Ev 6)) Anil))) (Acons (Ev 10) (Acons (Ev 11) (Acons (Ev 12) Anil))))) Anil)))
  (Sexp (EM "list" mApp (Ev 8) (Acons (EC (arN 4 m__law_step_shape) (Acons (Ev 10) (Acons (Ev 8) (Acons (Ev 11) (Acons (Ev 12) Anil))))) Anil))))))
  (Sseq (Sset 13 (Ecmp (Irng1 (Acons (EC fLen (Acons (Ev 8) Anil)) Anil)) (.nm 6) (Tb (E2 (eqD false) (E2 ixD (Ev 8) (Ev 6)) (Etup (Acons (Ec (.int 1)) (Acons (Ec (.int 1)) Anil))))) (Ev 6) [6]))
  (Sseq (Sif (Tor (Tb (E2 (eqD false) (EC fLen (Acons (Ev 13) Anil)) (Ec (.int 0)))) (Tb (E2 gtD (EC (arN 2 m__law_draw) (Acons (Ev 0) (Acons (Ec (.int 3)) Anil))) (Ec (.int 0)))))
  (Sseq (Sexp (EM "list" mApp (Ev 9) (Acons (Etup (Acons (EC (arN 2 m__law_name) (Acons (Ev 0) (Acons (EC fLen (Acons (Ev 8) Anil)) Anil))) (Acons (Ec (.str "total")) (Acons (Etup (Acons (E2 subD (EC fLen (Acons (Ev 8) Anil)) (Ec (.int 1))) Anil)) (Acons (Etup Anil) Anil))))) Anil)))
  (Sseq (Sexp (EM "list" mApp (Ev 8) (Acons (Etup (Acons (Ec (.int 1)) (Acons (Ec (.int 1)) Anil))) Anil)))
  (Sset 13 (Elst (Acons (E2 subD (EC fLen (Acons (Ev 8) Anil)) (Ec (.int 1))) Anil)))))
  Snil)
  (Sseq (Sset 14 (E2 ixD (Ev 13) (E2 subD (EC fLen (Acons (Ev 13) Anil)) (Ec (.int 1)))))
  (Sseq (Sif (Tb (E2 (eqD false) (EC (arN 2 m__law_draw) (Acons (Ev 0) (Acons (Ec (.int 6)) Anil))) (Ec (.int 0))))
  (Sset 14 (EC (arN 2 m__law_pick) (Acons (Ev 0) (Acons (Ev 13) Anil))))
  Snil)
  (Sret (Etup (Acons (EC fTup (Acons (Esl (Ev 5) Onone (Osome (Ev 3))) Anil)) (Acons (EC fTup (Acons (Esl (Ev 5) (Osome (Ev 3)) Onone) Anil)) (Acons (EC fTup (Acons (Ev 9) Anil)) (Acons (Ev 14) Anil))))))))))))
@[reducible] noncomputable def t__law_program_8 : FS := (Sseq (Sfor (Irng1 (Acons (EC (arN 2 m__law_draw) (Acons (Ev 0) (Acons (E2 addD (EC fMin2 (Acons (Ev 1) (Acons (E2 subD (Ec (.int 22)) (Ev 4)) Anil))) (Ec (.int 1))) Anil))) Anil)) (.nm 6)
  (Sseq (Sbind (.tp [(.nm 10), (.nm 11), (.nm 12)]) (EC (arN 4 m__law_step) (Acons (Ev 0) (Acons (Ev 8) (Acons (Ev 3) (Acons (Ev 4) Anil))))))
  (Sseq (Sexp (EM "list" mApp (Ev 9) (Acons (Etup (Acons (EC (arN 2 m__law_name) (Acons (Ev 0) (Acons (E2 addD (Ev 4) (Ev 6)) Anil))) (Acons (Ev 10) (Acons (Ev 11) (Acons (Ev 12) Anil))))) Anil)))
  (Sexp (EM "list" mApp (Ev 8) (Acons (EC (arN 4 m__law_step_shape) (Acons (Ev 10) (Acons (Ev 8) (Acons (Ev 11) (Acons (Ev 12) Anil))))) Anil))))))
  (Sseq (Sset 13 (Ecmp (Irng1 (Acons (EC fLen (Acons (Ev 8) Anil)) Anil)) (.nm 6) (Tb (E2 (eqD false) (E2 ixD (Ev 8) (Ev 6)) (Etup (Acons (Ec (.int 1)) (Acons (Ec (.int 1)) Anil))))) (Ev 6) [6]))
  (Sseq (Sif (Tor (Tb (E2 (eqD false) (EC fLen (Acons (Ev 13) Anil)) (Ec (.int 0)))) (Tb (E2 gtD (EC (arN 2 m__law_draw) (Acons (Ev 0) (Acons (Ec (.int 3)) Anil))) (Ec (.int 0)))))
  (Sseq (Sexp (EM "list" mApp (Ev 9) (Acons (Etup (Acons (EC (arN 2 m__law_name) (Acons (Ev 0) (Acons (EC fLen (Acons (Ev 8) Anil)) Anil))) (Acons (Ec (.str "total")) (Acons (Etup (Acons (E2 subD (EC fLen (Acons (Ev 8) Anil)) (Ec (.int 1))) Anil)) (Acons (Etup Anil) Anil))))) Anil)))
  (Sseq (Sexp (EM "list" mApp (Ev 8) (Acons (Etup (Acons (Ec (.int 1)) (Acons (Ec (.int 1)) Anil))) Anil)))
  (Sset 13 (Elst (Acons (E2 subD (EC fLen (Acons (Ev 8) Anil)) (Ec (.int 1))) Anil)))))
  Snil)
  (Sseq (Sset 14 (E2 ixD (Ev 13) (E2 subD (EC fLen (Acons (Ev 13) Anil)) (Ec (.int 1)))))
  (Sseq (Sif (Tb (E2 (eqD false) (EC (arN 2 m__law_draw) (Acons (Ev 0) (Acons (Ec (.int 6)) Anil))) (Ec (.int 0))))
  (Sset 14 (EC (arN 2 m__law_pick) (Acons (Ev 0) (Acons (Ev 13) Anil))))
  Snil)
  (Sret (Etup (Acons (EC fTup (Acons (Esl (Ev 5) Onone (Osome (Ev 3))) Anil)) (Acons (EC fTup (Acons (Esl (Ev 5) (Osome (Ev 3)) Onone) Anil)) (Acons (EC fTup (Acons (Ev 9) Anil)) (Acons (Ev 14) Anil)))))))))))
@[reducible] noncomputable def t__law_program_9 : FS := (Sseq (Sset 13 (Ecmp (Irng1 (Acons (EC fLen (Acons (Ev 8) Anil)) Anil)) (.nm 6) (Tb (E2 (eqD false) (E2 ixD (Ev 8) (Ev 6)) (Etup (Acons (Ec (.int 1)) (Acons (Ec (.int 1)) Anil))))) (Ev 6) [6]))
  (Sseq (Sif (Tor (Tb (E2 (eqD false) (EC fLen (Acons (Ev 13) Anil)) (Ec (.int 0)))) (Tb (E2 gtD (EC (arN 2 m__law_draw) (Acons (Ev 0) (Acons (Ec (.int 3)) Anil))) (Ec (.int 0)))))
  (Sseq (Sexp (EM "list" mApp (Ev 9) (Acons (Etup (Acons (EC (arN 2 m__law_name) (Acons (Ev 0) (Acons (EC fLen (Acons (Ev 8) Anil)) Anil))) (Acons (Ec (.str "total")) (Acons (Etup (Acons (E2 subD (EC fLen (Acons (Ev 8) Anil)) (Ec (.int 1))) Anil)) (Acons (Etup Anil) Anil))))) Anil)))
  (Sseq (Sexp (EM "list" mApp (Ev 8) (Acons (Etup (Acons (Ec (.int 1)) (Acons (Ec (.int 1)) Anil))) Anil)))
  (Sset 13 (Elst (Acons (E2 subD (EC fLen (Acons (Ev 8) Anil)) (Ec (.int 1))) Anil)))))
  Snil)
  (Sseq (Sset 14 (E2 ixD (Ev 13) (E2 subD (EC fLen (Acons (Ev 13) Anil)) (Ec (.int 1)))))
  (Sseq (Sif (Tb (E2 (eqD false) (EC (arN 2 m__law_draw) (Acons (Ev 0) (Acons (Ec (.int 6)) Anil))) (Ec (.int 0))))
  (Sset 14 (EC (arN 2 m__law_pick) (Acons (Ev 0) (Acons (Ev 13) Anil))))
  Snil)
  (Sret (Etup (Acons (EC fTup (Acons (Esl (Ev 5) Onone (Osome (Ev 3))) Anil)) (Acons (EC fTup (Acons (Esl (Ev 5) (Osome (Ev 3)) Onone) Anil)) (Acons (EC fTup (Acons (Ev 9) Anil)) (Acons (Ev 14) Anil))))))))))
@[reducible] noncomputable def t__law_program_10 : FS := (Sseq (Sif (Tor (Tb (E2 (eqD false) (EC fLen (Acons (Ev 13) Anil)) (Ec (.int 0)))) (Tb (E2 gtD (EC (arN 2 m__law_draw) (Acons (Ev 0) (Acons (Ec (.int 3)) Anil))) (Ec (.int 0)))))
  (Sseq (Sexp (EM "list" mApp (Ev 9) (Acons (Etup (Acons (EC (arN 2 m__law_name) (Acons (Ev 0) (Acons (EC fLen (Acons (Ev 8) Anil)) Anil))) (Acons (Ec (.str "total")) (Acons (Etup (Acons (E2 subD (EC fLen (Acons (Ev 8) Anil)) (Ec (.int 1))) Anil)) (Acons (Etup Anil) Anil))))) Anil)))
  (Sseq (Sexp (EM "list" mApp (Ev 8) (Acons (Etup (Acons (Ec (.int 1)) (Acons (Ec (.int 1)) Anil))) Anil)))
  (Sset 13 (Elst (Acons (E2 subD (EC fLen (Acons (Ev 8) Anil)) (Ec (.int 1))) Anil)))))
  Snil)
  (Sseq (Sset 14 (E2 ixD (Ev 13) (E2 subD (EC fLen (Acons (Ev 13) Anil)) (Ec (.int 1)))))
  (Sseq (Sif (Tb (E2 (eqD false) (EC (arN 2 m__law_draw) (Acons (Ev 0) (Acons (Ec (.int 6)) Anil))) (Ec (.int 0))))
  (Sset 14 (EC (arN 2 m__law_pick) (Acons (Ev 0) (Acons (Ev 13) Anil))))
  Snil)
  (Sret (Etup (Acons (EC fTup (Acons (Esl (Ev 5) Onone (Osome (Ev 3))) Anil)) (Acons (EC fTup (Acons (Esl (Ev 5) (Osome (Ev 3)) Onone) Anil)) (Acons (EC fTup (Acons (Ev 9) Anil)) (Acons (Ev 14) Anil)))))))))
@[reducible] noncomputable def t__law_program_11 : FS := (Sseq (Sset 14 (E2 ixD (Ev 13) (E2 subD (EC fLen (Acons (Ev 13) Anil)) (Ec (.int 1)))))
  (Sseq (Sif (Tb (E2 (eqD false) (EC (arN 2 m__law_draw) (Acons (Ev 0) (Acons (Ec (.int 6)) Anil))) (Ec (.int 0))))
  (Sset 14 (EC (arN 2 m__law_pick) (Acons (Ev 0) (Acons (Ev 13) Anil))))
  Snil)
  (Sret (Etup (Acons (EC fTup (Acons (Esl (Ev 5) Onone (Osome (Ev 3))) Anil)) (Acons (EC fTup (Acons (Esl (Ev 5) (Osome (Ev 3)) Onone) Anil)) (Acons (EC fTup (Acons (Ev 9) Anil)) (Acons (Ev 14) Anil))))))))
@[reducible] noncomputable def t__law_program_12 : FS := (Sseq (Sif (Tb (E2 (eqD false) (EC (arN 2 m__law_draw) (Acons (Ev 0) (Acons (Ec (.int 6)) Anil))) (Ec (.int 0))))
  (Sset 14 (EC (arN 2 m__law_pick) (Acons (Ev 0) (Acons (Ev 13) Anil))))
  Snil)
  (Sret (Etup (Acons (EC fTup (Acons (Esl (Ev 5) Onone (Osome (Ev 3))) Anil)) (Acons (EC fTup (Acons (Esl (Ev 5) (Osome (Ev 3)) Onone) Anil)) (Acons (EC fTup (Acons (Ev 9) Anil)) (Acons (Ev 14) Anil)))))))
@[reducible] noncomputable def t__law_program_13 : FS := (Sret (Etup (Acons (EC fTup (Acons (Esl (Ev 5) Onone (Osome (Ev 3))) Anil)) (Acons (EC fTup (Acons (Esl (Ev 5) (Osome (Ev 3)) Onone) Anil)) (Acons (EC fTup (Acons (Ev 9) Anil)) (Acons (Ev 14) Anil))))))
@[reducible] noncomputable def i2__law_program : FS := (Sset 3 (E2 addD (Ec (.int 1)) (EC (arN 2 m__law_draw) (Acons (Ev 0) (Acons (Ec (.int 6)) Anil)))))
@[reducible] noncomputable def i10__law_program : FS := (Sseq (Sexp (EM "list" mApp (Ev 9) (Acons (Etup (Acons (EC (arN 2 m__law_name) (Acons (Ev 0) (Acons (EC fLen (Acons (Ev 8) Anil)) Anil))) (Acons (Ec (.str "total")) (Acons (Etup (Acons (E2 subD (EC fLen (Acons (Ev 8) Anil)) (Ec (.int 1))) Anil)) (Acons (Etup Anil) Anil))))) Anil)))
  (Sseq (Sexp (EM "list" mApp (Ev 8) (Acons (Etup (Acons (Ec (.int 1)) (Acons (Ec (.int 1)) Anil))) Anil)))
  (Sset 13 (Elst (Acons (E2 subD (EC fLen (Acons (Ev 8) Anil)) (Ec (.int 1))) Anil)))))
@[reducible] noncomputable def i12__law_program : FS := (Sset 14 (EC (arN 2 m__law_pick) (Acons (Ev 0) (Acons (Ev 13) Anil))))
@[reducible] noncomputable def u0__law_program_1 : FS := (Sseq (Sif (Tand (Tb (E2 geD (Ev 6) (Ev 3))) (Tb (E2 (eqD false) (EC (arN 2 m__law_draw) (Acons (Ev 0) (Acons (Ec (.int 2)) Anil))) (Ec (.int 0)))))
  (Sset 7 (Ec (.int 1)))
  Snil)
  (Sexp (EM "list" mApp (Ev 5) (Acons (Etup (Acons (EC (arN 2 m__law_name) (Acons (Ev 0) (Acons (Ev 6) Anil))) (Acons (EC (arN 2 m__law_pick) (Acons (Ev 0) (Acons (Ev 2) Anil))) (Acons (Ev 7) Anil)))) Anil))))
@[reducible] noncomputable def u0__law_program_2 : FS := (Sexp (EM "list" mApp (Ev 5) (Acons (Etup (Acons (EC (arN 2 m__law_name) (Acons (Ev 0) (Acons (Ev 6) Anil))) (Acons (EC (arN 2 m__law_pick) (Acons (Ev 0) (Acons (Ev 2) Anil))) (Acons (Ev 7) Anil)))) Anil)))
@[reducible] noncomputable def u1__law_program_1 : FS := (Sseq (Sexp (EM "list" mApp (Ev 9) (Acons (Etup (Acons (EC (arN 2 m__law_name) (Acons (Ev 0) (Acons (E2 addD (Ev 4) (Ev 6)) Anil))) (Acons (Ev 10) (Acons (Ev 11) (Acons (Ev 12) Anil))))) Anil)))
  (Sexp (EM "list" mApp (Ev 8) (Acons (EC (arN 4 m__law_step_shape) (Acons (Ev 10) (Acons (Ev 8) (Acons (Ev 11) (Acons (Ev 12) Anil))))) Anil))))
@[reducible] noncomputable def u1__law_program_2 : FS := (Sexp (EM "list" mApp (Ev 8) (Acons (EC (arN 4 m__law_step_shape) (Acons (Ev 10) (Acons (Ev 8) (Acons (Ev 11) (Acons (Ev 12) Anil))))) Anil)))
noncomputable def m__law_program : FC := (runF 16 b__law_program)
/-! ### _law_shapes -/
abbrev s__law_shapes : Stmt := topS 13
abbrev N__law_shapes : List PySem.Str := ["_law_program_here", "_law_found", "_law_step_here", "_law_value"]
theorem sc__law_shapes : FnScope N__law_shapes ["_law_program_here"] (defScope s__law_shapes) := ⟨rfl, rfl, rfl, by decide +kernel, rfl, by decide +kernel, by decide +kernel⟩
@[reducible] noncomputable def b__law_shapes : FS :=
  (Sseq (Sset 1 (EcmpN (Iseq (E2 addD (E2 ixD (Ev 0) (Ec (.int 0))) (E2 ixD (Ev 0) (Ec (.int 1))))) (.nm 3) Tyes (Esl (Ev 3) (Osome (Ec (.int 1))) Onone) [3]))
  (Sseq (Sfor (Iseq (E2 ixD (Ev 0) (Ec (.int 2)))) (.nm 2)
  (Sexp (EM "list" mApp (Ev 1) (Acons (EC (arN 4 m__law_step_shape) (Acons (E2 ixD (Ev 2) (Ec (.int 1))) (Acons (Ev 1) (Acons (E2 ixD (Ev 2) (Ec (.int 2))) (Acons (E2 ixD (Ev 2) (Ec (.int 3))) Anil))))) Anil))))
  (Sret (Ev 1))))
noncomputable def m__law_shapes : FC := (runF 4 b__law_shapes)
/-! ### law -/
abbrev s_law : Stmt := topS 14
abbrev N_law : List PySem.Str := ["_law_script", "_law_pool_here", "_law_program_here"]
theorem sc_law : FnScope N_law ["_law_script"] (defScope s_law) := ⟨rfl, rfl, rfl, by decide +kernel, rfl, by decide +kernel, by decide +kernel⟩
@[reducible] noncomputable def b_law : FS :=
  (Sseq (Sset 1 (EC (arN 1 m__law_pool) (Acons (Ev 0) Anil)))
  (Sseq (Sset 2 (EC (arN 2 m__law_program) (Acons (Ev 1) (Acons (EC (arN 2 m__law_pick) (Acons (Ev 1) (Acons (Elst (Acons (Ec (.int 4)) (Acons (Ec (.int 12)) (Acons (Ec (.int 22)) Anil)))) Anil))) Anil))))
  (Sret (EC (arN 2 (m__law_same 8)) (Acons (EC (arN 1 m_shapes) (Acons (Ev 2) Anil)) (Acons (EC fTup (Acons (EC (arN 1 m__law_shapes) (Acons (Ev 2) Anil)) Anil)) Anil))))))
noncomputable def m_law : FC := (runF 3 b_law)
local macro_rules | `(tactic| walk_at "ml1") => `(tactic| first | with_reducible refine x_2 ?_ | with_reducible refine x_c ?_ | ((with_reducible refine' x_v ?e ?_); (case e => exact rfl)) | with_reducible refine x_cons ?_ | with_reducible refine x_nil ?_ | with_reducible refine x_call ?_ | with_reducible refine x_seq ?_ | with_reducible refine x_set ?_ | with_reducible refine x_ret ?_ | with_reducible refine x_sif ?_ | with_reducible refine x_tb ?_ | with_reducible refine x_1 ?_ | with_reducible refine x_3 ?_ | with_reducible refine z_addI ?_ | with_reducible refine z_sub ?_ | with_reducible refine z_lt ?_ | with_reducible refine z_le ?_ | with_reducible refine z_gt ?_ | with_reducible refine z_ge ?_ | with_reducible refine z_intI ?_ | with_reducible refine z_abs ?_ | with_reducible refine z_eqI ?_ | with_reducible refine z_neI ?_ | with_reducible refine z_eqS ?_ | with_reducible refine z_neS ?_ | with_reducible refine z_neg ?_ | with_reducible refine z_is ?_ | with_reducible refine z_isn ?_ | with_reducible refine z_iadd ?_ | with_reducible refine z_lenT ?_ | with_reducible refine z_lenL ?_ | with_reducible refine z_lenQ ?_ | with_reducible refine x_exp ?_ | with_reducible refine x_retN ?_ | with_reducible refine x_snil ?_ | with_reducible refine x_seqrt ?_ | with_reducible refine x_seqbk ?_ | with_reducible refine x_seqct ?_ | with_reducible refine x_loopct ?_ | with_reducible refine x_loopbk ?_ | with_reducible refine x_looprt ?_ | with_reducible refine x_runrt ?_ | with_reducible refine x_runnx ?_ | with_reducible refine x_setIx ?_ | with_reducible refine x_augIx ?_ | with_reducible refine x_and ?_ | with_reducible refine x_or ?_ | with_reducible refine x_not ?_ | with_reducible refine x_yes ?_ | with_reducible refine x_if ?_ | with_reducible refine x_bind ?_ | with_reducible refine x_for ?_ | with_reducible refine x_iseq ?_ | with_reducible refine x_itT ?_ | with_reducible refine x_itS ?_ | with_reducible refine x_itL ?_ | with_reducible refine x_itQ ?_ | with_reducible refine x_rng1 ?_ | with_reducible refine x_rng2 ?_ | with_reducible refine x_rng3 ?_ | ((with_reducible refine' y_sd ?e ?_); (case e => (first | assumption | omega | decide | (simp; done) | (simp; omega) | (simp [rangeL]; omega)))) | (refine ⟨_, (rfl : truD _ _ = some _), ?_⟩) | with_reducible refine x_brk ?_ | with_reducible refine x_emL rfl ?_ | with_reducible refine x_emS rfl ?_ | ((with_reducible refine' ⟨_, _, rfl, ?e, ?_⟩); (case e => (first | assumption | exact set_at (by assumption) | exact rfl))) | with_reducible refine z_inC ?_ | with_reducible refine z_ninC ?_ | with_reducible refine z_ord1 ?_ | with_reducible refine z_find ?_ | ((with_reducible refine' y_tg ?e ?_); (case e => (simp only [bindT, bindTs, Option.bind_some, List.set_cons_zero, List.set_cons_succ]; exact rfl))) | with_reducible refine x_ctn ?_ | with_reducible refine y_t ?_ | with_reducible refine y_f ?_ | with_reducible refine y_not ?_ | with_reducible refine x_tt ?_ | with_reducible refine x_eand ?_ | with_reducible refine x_eor ?_ | with_reducible refine x_enot ?_ | with_reducible refine z_intB ?_ | with_reducible refine x_cmp ?_ | with_reducible refine x_cmpN ?_ | ((with_reducible refine' x_ar ?e ?_); (case e => exact rfl)) | ((with_reducible refine' x_seqnx ?e ?_); (case e => (first | (simp only [Int.reduceToNat, Int.toNat_zero, Int.toNat_one, List.set_cons_zero, List.set_cons_succ]; exact rfl) | exact rfl))) | ((with_reducible refine' x_loopn ?e ?_); (case e => (first | (simp only [Int.reduceToNat, Int.toNat_zero, Int.toNat_one, List.set_cons_zero, List.set_cons_succ]; exact rfl) | exact rfl))) | ((with_reducible refine' z_mod ?p ?_); (case p => (first | assumption | omega | decide))) | ((with_reducible refine' z_fdiv ?p ?_); (case p => (first | assumption | omega | decide))) | ((with_reducible refine' z_pow ?p ?_); (case p => (first | assumption | omega | decide))) | ((with_reducible refine' z_mul ?p ?_); (case p => (first | (refine mulOk_r ?_; constructor <;> omega) | (refine mulOk_l ?_; constructor <;> omega)))) | ((with_reducible refine' z_ixR ?e ?f ?_); (case e => (first | assumption | exact set_at (by assumption) | exact rfl)); (case f => (first | exact rfl | assumption))) | ((with_reducible refine' z_ixT ?f ?_); (case f => (first | exact rfl | assumption))) | ((with_reducible refine' z_ixL ?f ?_); (case f => (first | exact rfl | assumption))) | ((with_reducible refine' z_ixQ ?f ?_); (case f => (first | exact rfl | assumption))) | ((with_reducible refine' z_lenR ?e ?_); (case e => (first | assumption | exact set_at (by assumption) | exact rfl))) | ((with_reducible refine' x_itR ?e ?_); (case e => (first | assumption | exact set_at (by assumption) | exact rfl))) | ((with_reducible refine' z_set ?e ?f ?g ?h ?_); (case e => (first | assumption | exact set_at (by assumption) | exact rfl)); (case f => exact rfl); (case g => (first | (simp only [Int.reduceToNat, Int.toNat_zero, Int.toNat_one, List.set_cons_zero, List.set_cons_succ]; exact rfl) | exact rfl)); (case h => (first | (simp only [List.set_set]; exact rfl) | exact rfl))) | ((with_reducible refine' z_app ?e ?f ?h ?_); (case e => (first | assumption | exact set_at (by assumption) | exact rfl)); (case f => (first | omega | (simp; done))); (case h => (first | (simp only [List.set_set]; exact rfl) | exact rfl))) | with_reducible refine x_tup ?_ | with_reducible refine x_lst ?_ | with_reducible refine x_new ?_ | ((with_reducible refine' x_aug ?e ?_); (case e => exact rfl)) | ((with_reducible refine' z_addS ?p ?_); (case p => (first | assumption | omega | decide))) | ((with_reducible refine' z_isiI ?p ?_); (case p => (first | exact kit_ii | exact kit_ib))) | ((with_reducible refine' y_dt ?p ?_); (case p => (first | assumption | omega | decide))) | ((with_reducible refine' y_df ?p ?_); (case p => (first | assumption | omega | decide))) | ((with_reducible refine' y_eqt ?p ?_); (case p => (first | assumption | omega | decide))) | ((with_reducible refine' y_eqf ?p ?_); (case p => (first | assumption | omega | decide))) | with_reducible refine x_zip ?_ | ((with_reducible refine' z_inG ?e ?h ?z ?_); (case e => exact rfl); (case h => (first | assumption | decide +kernel)); (case z => decide +kernel)) | ((with_reducible refine' y_eqt ?p ?_); (case p => (simp; done))) | with_reducible refine z_eqP ?_ | ((with_reducible refine' y_tbk ?p ?_); (case p => decide +kernel)) | ((with_reducible refine' y_fbk ?p ?_); (case p => decide +kernel)) | ((with_reducible refine' z_revR ?e ?_); (case e => assumption)) | ((with_reducible refine' z_addL ?e ?_); (case e => (first | assumption | omega | (simp; omega)))) | ((with_reducible refine' y_nn ?e ?_); (case e => exact rfl)) | ((with_reducible refine' y_ny ?e ?_); (case e => exact rfl)) | ((with_reducible refine' y_nnn ?e ?_); (case e => exact rfl)) | ((with_reducible refine' y_nny ?e ?_); (case e => exact rfl)) | ((with_reducible refine' y_zip ?e ?f ?_); (case e => (first | exact rfl | exact any_ref (by assumption))); (case f => (first | exact rfl | exact any_ref (by assumption)))) | with_reducible refine z_tupT ?_ | with_reducible refine z_tupL ?_ | with_reducible refine z_tupQ ?_ | ((with_reducible refine' z_tupR ?e ?_); (case e => (first | assumption | exact set_at (by assumption)))) | ((with_reducible refine' z_lst ?e ?_); (case e => (first | exact rfl | exact li_ref (by assumption)))) | ((with_reducible refine' z_lsn ?e ?_); (case e => (first | exact rfl | exact li_ref (by assumption)))) | ((with_reducible refine' z_sum ?e ?_); (case e => (first | exact ints_tup | exact ints_ref (by assumption)))) | ((with_reducible refine' z_max ?e ?f ?_); (case e => (first | exact ints_tup | exact ints_ref (by assumption))); (case f => assumption)) | with_reducible refine z_max2 ?_ | with_reducible refine z_min2 ?_ | with_reducible refine z_eqTI ?_ | with_reducible refine x_sl ?_ | with_reducible refine x_on ?_ | with_reducible refine x_os ?_ | with_reducible refine z_slT ?_ | with_reducible refine z_slL ?_ | ((with_reducible refine' z_isi ?e ?f ?_); (case e => (first | exact rfl | (simp only [tyN]; done))); (case f => (first | exact kit_ii | exact kit_ib | exact kit_tt | exact kit_it | exact kit_st | exact kit_si | exact kit_ss | exact kit_lt | exact kit_ls))) | (with_reducible refine' ⟨_, rfl, ?_⟩) | (with_reducible refine ⟨_, _, (rfl : [D.int _, D.int _] = [D.int _, D.int _]), ?_⟩) | (with_reducible refine ⟨_, _, (rfl : [D.int _, D.int _, D.int _] = [D.int _, D.int _, D.int _]), ?_⟩))
local macro_rules | `(tactic| walk_at "ml") => `(tactic| repeat walk_at "ml1")
local macro_rules | `(tactic| walk_at "run") => `(tactic| (refine' x_run ?e ?_; case e => (simp only [List.map_cons, List.map_nil, List.length_cons, List.length_nil, Nat.reduceAdd, Nat.reduceSub, List.replicate_succ, List.replicate_zero, List.cons_append, List.nil_append]; exact rfl)))

/-! ### stores -/
def Pre (st s : Sto) : Prop := ∃ g, s = st ++ g
theorem Pre.refl {st : Sto} : Pre st st := ⟨[], by simp⟩
theorem Pre.app {st s l : Sto} (h : Pre st s) : Pre st (s ++ l) := by
  obtain ⟨g, rfl⟩ := h
  exact ⟨g ++ l, by simp⟩
theorem Pre.set {st s : Sto} {a : Nat} {x : O} (h : Pre st s) (ha : st.length ≤ a) : Pre st (s.set a x) := by
  obtain ⟨g, rfl⟩ := h
  exact ⟨g.set (a - st.length) x, by rw [List.set_append_right _ _ ha]⟩
theorem Pre.le {st s : Sto} (h : Pre st s) : st.length ≤ s.length := by
  obtain ⟨g, rfl⟩ := h
  simp
theorem at_app {s l : Sto} {a : Nat} {o : O} (h : s[a]? = some o) : (s ++ l)[a]? = some o := by
  have e := (List.getElem?_eq_some_iff.mp h).1
  rw [List.getElem?_append_left e]
  exact h
theorem at_new {s : Sto} {o : O} : (s ++ [o])[s.length]? = some o := by rw [List.getElem?_append_right (Nat.le_refl _), Nat.sub_self]; rfl
theorem at_ne {s : Sto} {a b : Nat} {o x : O} (h : s[a]? = some o) (n : b ≠ a) : (s.set b x)[a]? = some o := by rw [List.getElem?_set_ne n]; exact h
theorem at_lt {s : Sto} {a : Nat} {o : O} (h : s[a]? = some o) : a < s.length := (List.getElem?_eq_some_iff.mp h).1
theorem blw_ints {n : Nat} (ns : List Int) : D.blw n (.tup (ns.map D.int)) := by
  show belows n (ns.map D.int)
  induction ns with
  | nil => trivial
  | cons x ns ih => exact ⟨trivial, ih⟩
theorem wp_gc {m : FC} {ds : List D} {st : Sto} {Q : D → Sto → Prop} (h : wp (m ds st) fun d s => Pre st s ∧ d.blw st.length ∧ Q d st) : wp (gcF m ds st) Q := by
  obtain ⟨d, s, e, ⟨g, rfl⟩, b, q⟩ := h
  exact ⟨d, st, gcF.of e b, q⟩

/-! ### the pool -/
def poolE (ns : List Int) (p q r z : Int) : O := .lst [.lst (ns.map D.int), .int p, .int q, .int r, .int z]
def PoolE (ns : List Int) (st : Sto) (n : Nat) : Prop := ∃ p q r z, 0 ≤ p ∧ 0 ≤ q ∧ 0 ≤ r ∧ 0 ≤ z ∧ st[n]? = some (poolE ns p q r z)
theorem draw {st : Sto} {n : Nat} {ns : List Int} {many : Int} {Q : D → Sto → Prop} (P : PoolE ns st n) (hm : 0 < many) (hm2 : many < 4294967296)
    (k : ∀ v st', 0 ≤ v → v < many → PoolE ns st' n → Oth n st st' → Q (.int v) st') : wp (m__law_draw [.ref n, .int many] st) Q := by
  obtain ⟨p, q, r, z, hp, hq, hr, hz, hst⟩ := P
  unfold poolE at hst
  have tail : ∀ (o2 o3 : Option D) (p' r' : Int) (s : Sto), 0 ≤ p' → 0 ≤ r' → Oth n st s → s[n]? = some (.lst [.lst (ns.map D.int), .int p', .int q, .int r', .int z]) →
    wp ((Sseq (SsetIx (Ev 0) (Ec (.int 4)) (E2 addD (E2 ixD (Ev 0) (Ec (.int 4))) (Ec (.int 1))))
  (Sseq (Sset 4 (E2 modD (EC fInt (Acons (E2 addD (E2 addD (E2 mulD (E2 ixD (Ev 0) (Ec (.int 3))) (Ec (.int 48271))) (E2 mulD (E2 ixD (Ev 0) (Ec (.int 4))) (Ec (.int 69621)))) (Ec (.int 7919))) Anil)) (Ec (.int 2147483647))))
  (Sseq (Sset 4 (E2 modD (EC fInt (Acons (E2 addD (E2 mulD (Ev 4) (Ev 4)) (E2 mulD (E2 ixD (Ev 0) (Ec (.int 4))) (Ec (.int 40692)))) Anil)) (Ec (.int 2147483399))))
  (Sret (E2 modD (EC fInt (Acons (Ev 4) Anil)) (Ev 1)))))) [some (.ref n), some (.int many), o2, o3, none] s) (runK Q) := by
    intro o2 o3 p' r' s hp' hr' os hs
    walk_at "ml"
    have e1 := emod_ok (r' * 48271 + (z + 1) * 69621 + 7919) (b := 2147483647) (by decide)
    walk_at "ml"
    have e2 := emod_ok ((r' * 48271 + (z + 1) * 69621 + 7919) % 2147483647 * ((r' * 48271 + (z + 1) * 69621 + 7919) % 2147483647) + (z + 1) * 40692) (b := 2147483399) (by decide)
    have e := emod_ok (((r' * 48271 + (z + 1) * 69621 + 7919) % 2147483647 * ((r' * 48271 + (z + 1) * 69621 + 7919) % 2147483647) + (z + 1) * 40692) % 2147483399) hm
    exact k _ _ e.1 e.2 ⟨p', q, r', z + 1, hp', hq, hr', by omega, set_at hs⟩ (os.trans .set)
  walk_at "run"
  walk_at "ml"
  refine y_d (fun h1 => ?_) (fun h1 => ?_)
  · walk_at "ml"
    have e := emod_ok q hm
    exact k _ _ e.1 e.2 ⟨p, q / many, r, z, hp, Int.ediv_nonneg hq (by omega), hr, hz, set_at hst⟩ .set
  · walk_at "ml"
    refine y_eq (fun h8 => ?_) (fun h8 => ?_)
    · walk_at "ml"
      refine y_d (fun h2 => ?_) (fun h2 => ?_)
      · obtain ⟨c, hc⟩ := script_at ns hp h2
        walk_at "ml"
        generalize hd : (if c < 0 then -c else c) = d
        have hd0 : 0 ≤ d := by
          rw [← hd]
          split <;> omega
        refine y_d (fun h3 => ?_) (fun h3 => ?_)
        · walk_at "ml"
          have e := emod_ok d hm
          exact k _ _ e.1 e.2 ⟨p + 1, d / many, r, z, by omega, Int.ediv_nonneg hd0 (by omega), hr, hz, set_at hst⟩ .set
        · repeat (first | with_reducible refine tail _ _ (p + 1) d _ ?_ ?_ ?_ ?_ | walk_at "ml1")
          · omega
          · exact hd0
          · exact Oth.set
          · exact set_at hst
      · repeat (first | with_reducible refine tail _ _ p r _ ?_ ?_ ?_ ?_ | walk_at "ml1")
        · exact hp
        · exact hr
        · exact Oth.refl
        · exact hst
    · repeat (first | with_reducible refine tail _ _ p r _ ?_ ?_ ?_ ?_ | walk_at "ml1")
      · exact hp
      · exact hr
      · exact Oth.refl
      · exact hst
theorem pick {st : Sto} {n : Nat} {ns : List Int} {rows : List D} {Q : D → Sto → Prop} (P : PoolE ns st n) (h0 : 0 < rows.length) (h1 : rows.length < 4294967296)
    (k : ∀ x st', x ∈ rows → PoolE ns st' n → Oth n st st' → Q x st') : wp (m__law_pick [.ref n, .lst rows] st) Q := by
  walk_at "run"
  walk_at "ml"
  refine draw P (by omega) (by omega) fun v st' v0 v1 P1 o1 => ?_
  refine z_ixL (atI_ok v0 (by omega)) ?_
  walk_at "ml"
  exact k _ _ (List.getElem_mem _) P1 o1
theorem PoolE.app {ns : List Int} {st l : Sto} {n : Nat} (P : PoolE ns st n) : PoolE ns (st ++ l) n := by
  obtain ⟨p, q, r, z, h1, h2, h3, h4, h5⟩ := P
  exact ⟨p, q, r, z, h1, h2, h3, h4, by
    rw [List.getElem?_append_left (List.getElem?_eq_some_iff.mp h5).1]; exact h5⟩
theorem PoolE.set {ns : List Int} {st : Sto} {n m : Nat} {o : O} (P : PoolE ns st n) (h : m ≠ n) : PoolE ns (st.set m o) n := by
  obtain ⟨p, q, r, z, h1, h2, h3, h4, h5⟩ := P
  exact ⟨p, q, r, z, h1, h2, h3, h4, by rw [List.getElem?_set_ne h]; exact h5⟩
theorem PoolE.lt {ns : List Int} {st : Sto} {n : Nat} (P : PoolE ns st n) : n < st.length := by
  obtain ⟨p, q, r, z, h1, h2, h3, h4, h5⟩ := P
  exact (List.getElem?_eq_some_iff.mp h5).1
theorem pool_ok {st : Sto} {ns : List Int} {Q : D → Sto → Prop} (k : PoolE ns (st ++ [poolE ns 0 0 0 0]) st.length → Q (.ref st.length) (st ++ [poolE ns 0 0 0 0])) : wp (m__law_pool [.sq (ns.map D.int)] st) Q := by
  walk_at "run"
  walk_at "ml"
  exact k ⟨0, 0, 0, 0, by decide, by decide, by decide, by decide, by rw [List.getElem?_append_right (Nat.le_refl _), Nat.sub_self]; rfl⟩
/-! ### sameness -/
theorem same_int {st : Sto} {n : Nat} {i : Int} {Q : D → Sto → Prop} (k : Q (.bl true) st) : wp (m__law_same (n + 1) [.int i, .int i] st) Q := by
  walk_at "run"
  walk_at "ml"
  rw [beq_self_eq_true]
  exact k
theorem same_none {st : Sto} {n : Nat} {Q : D → Sto → Prop} (k : Q (.bl true) st) : wp (m__law_same (n + 1) [.non, .non] st) Q := by
  walk_at "run"
  walk_at "ml"
  exact k
theorem same_str {st : Sto} {n : Nat} {i : PySem.Str} {Q : D → Sto → Prop} (k : Q (.bl true) st) : wp (m__law_same (n + 1) [.str i, .str i] st) Q := by
  walk_at "run"
  walk_at "ml"
  rw [beq_self_eq_true]
  exact k
/-- alike, if the parts are -/
theorem same_tup {st : Sto} {n : Nat} {ds : List D} {Q : D → Sto → Prop} (hl : ds.length ≤ 1000) (hd : ∀ d, d ∈ ds → ∀ Q' : D → Sto → Prop, Q' (.bl true) st → wp (m__law_same n [d, d] st) Q') (k : Q (.bl true) st) : wp (m__law_same (n + 1) [.tup ds, .tup ds] st) Q := by
  walk_at "run"
  walk_at "ml"
  refine x_comp (fun i a s => a = [] ∧ s = st) ⟨rfl, rfl⟩ (fun _ _ _ _ => noWatch) ?_ ?_
  · rintro i x a s hx ⟨rfl, rfl⟩
    obtain ⟨hi, rfl⟩ := range_at hx
    rw [Int.toNat_natCast] at hi
    have hat : atI ds (0 + (i : Int)) = some ds[i] := by
      rw [Int.zero_add]
      exact atI_get (by omega) (by simp [hi])
    walk_at "ml"
    refine hd _ (List.getElem_mem _) _ ?_
    walk_at "ml"
    exact ⟨rfl, rfl⟩
  · rintro a s ⟨rfl, rfl⟩
    walk_at "ml"
    exact k
theorem same_ints {st : Sto} {n : Nat} {is : List Int} {Q : D → Sto → Prop} (hl : is.length ≤ 1000) (k : Q (.bl true) st) : wp (m__law_same (n + 2) [.tup (is.map D.int), .tup (is.map D.int)] st) Q :=
  same_tup (by rw [List.length_map]; exact hl) (fun d hd Q' h => by
    obtain ⟨i, _, rfl⟩ := List.mem_map.mp hd
    exact same_int h) k

/-! ### shapes and steps -/
abbrev Sh := Int × Int
abbrev sD (s : Sh) : D := .tup [.int s.1, .int s.2]
def sh (F : List Sh) (a : Int) : Sh := F.getD a.toNat (0, 0)
def okI (F : List Sh) (a : Int) : Prop := 0 ≤ a ∧ a < (F.length : Nat)
theorem sh_at {F : List Sh} {a : Int} (h : okI F a) : atI (F.map sD) a = some (sD (sh F a)) := by
  have h2 : a.toNat < F.length := by have := h.1; have := h.2; omega
  refine atI_get h.1 ?_
  simp [sh, h2]
inductive Step (F : List Sh) : PySem.Str → List Int → List Int → Sh → Prop where
  | same (k : PySem.Str) (a b : Int) : (k = "add" ∨ k = "sub" ∨ k = "times") → okI F a → okI F b → sh F a = sh F b → Step F k [a, b] [] (sh F a)
  | prod (a b : Int) : okI F a → okI F b → (sh F a).2 = (sh F b).1 → Step F "product" [a, b] [] ((sh F a).1, (sh F b).2)
  | pick (a b : Int) : okI F a → okI F b → (sh F b).2 = 1 → Step F "pick" [a, b] [] ((sh F b).1, (sh F a).2)
  | turn (a : Int) : okI F a → Step F "turn" [a] [] ((sh F a).2, (sh F a).1)
  | total (a : Int) : okI F a → Step F "total" [a] [] (1, 1)
  | spread (a x y : Int) : okI F a → sh F a = (1, 1) → Step F "spread" [a] [x, y] (x, y)
  | keep (k : PySem.Str) (a : Int) (ns : List Int) : (k = "positive" ∨ k = "stretch") → okI F a → Step F k [a] ns (sh F a)
theorem Step.ok {F : List Sh} {k : PySem.Str} {ops nums : List Int} {r : Sh} (h : Step F k ops nums r) : ∀ a, a ∈ ops → okI F a := by
  intro c hc
  cases h <;> simp at hc <;> (first | (rcases hc with rfl | rfl <;> assumption) | (subst hc; assumption))
theorem Step.few {F : List Sh} {k : PySem.Str} {ops nums : List Int} {r : Sh} (h : Step F k ops nums r) : ops.length ≤ 2 := by
  cases h <;> simp
theorem stepshape_ok {F : List Sh} {k : PySem.Str} {ops nums : List Int} {r : Sh} {st : Sto} {Q : D → Sto → Prop} (h : Step F k ops nums r) (kk : Q (sD r) st) :
    wp (m_step_shape [.str k, .lst (ops.map fun a => sD (sh F a)), .tup (nums.map D.int)] st) Q := by
  cases h with
  | same k a b hk ha hb e =>
    show wp (m_step_shape [.str k, .lst [sD (sh F a), sD (sh F b)], .tup []] st) Q
    have e' : [(sh F a).1, (sh F a).2] = [(sh F b).1, (sh F b).2] := by rw [e]
    rcases hk with rfl | rfl | rfl
    all_goals
      walk_at "run"
      walk_at "ml"
      exact kk
  | prod a b ha hb e =>
    show wp (m_step_shape [.str "product", .lst [sD (sh F a), sD (sh F b)], .tup []] st) Q
    walk_at "run"
    walk_at "ml"
    exact kk
  | pick a b ha hb e =>
    show wp (m_step_shape [.str "pick", .lst [sD (sh F a), sD (sh F b)], .tup []] st) Q
    walk_at "run"
    walk_at "ml"
    exact kk
  | turn a ha =>
    show wp (m_step_shape [.str "turn", .lst [sD (sh F a)], .tup []] st) Q
    walk_at "run"
    walk_at "ml"
    exact kk
  | total a ha =>
    show wp (m_step_shape [.str "total", .lst [sD (sh F a)], .tup []] st) Q
    walk_at "run"
    walk_at "ml"
    exact kk
  | spread a x y ha e =>
    show wp (m_step_shape [.str "spread", .lst [sD (sh F a)], .tup [.int x, .int y]] st) Q
    have e' : [(sh F a).1, (sh F a).2] = [1, 1] := by rw [e]
    walk_at "run"
    walk_at "ml"
    exact kk
  | keep k a ns hk ha =>
    show wp (m_step_shape [.str k, .lst [sD (sh F a)], .tup (nums.map D.int)] st) Q
    rcases hk with rfl | rfl
    all_goals
      walk_at "run"
      walk_at "ml"
      exact kk
theorem lstep_ok {F : List Sh} {k : PySem.Str} {ops nums : List Int} {r : Sh} {st : Sto} {f : Nat} {Q : D → Sto → Prop} (h : Step F k ops nums r) (hf : st[f]? = some (.lst (F.map sD))) (kk : Q (sD r) st) :
    wp (m__law_step_shape [.str k, .ref f, .tup (ops.map D.int), .tup (nums.map D.int)] st) Q := by
  cases h with
  | same k a b hk ha hb e =>
    show wp (m__law_step_shape [.str k, .ref f, .tup [.int a, .int b], .tup []] st) Q
    have ha' := sh_at ha
    have hb' := sh_at hb
    rcases hk with rfl | rfl | rfl
    all_goals
      walk_at "run"
      walk_at "ml"
      exact kk
  | prod a b ha hb e =>
    show wp (m__law_step_shape [.str "product", .ref f, .tup [.int a, .int b], .tup []] st) Q
    have ha' := sh_at ha
    have hb' := sh_at hb
    walk_at "run"
    walk_at "ml"
    exact kk
  | pick a b ha hb e =>
    show wp (m__law_step_shape [.str "pick", .ref f, .tup [.int a, .int b], .tup []] st) Q
    have ha' := sh_at ha
    have hb' := sh_at hb
    walk_at "run"
    walk_at "ml"
    exact kk
  | turn a ha =>
    show wp (m__law_step_shape [.str "turn", .ref f, .tup [.int a], .tup []] st) Q
    have ha' := sh_at ha
    walk_at "run"
    walk_at "ml"
    exact kk
  | total a ha =>
    show wp (m__law_step_shape [.str "total", .ref f, .tup [.int a], .tup []] st) Q
    have ha' := sh_at ha
    walk_at "run"
    walk_at "ml"
    exact kk
  | spread a x y ha e =>
    show wp (m__law_step_shape [.str "spread", .ref f, .tup [.int a], .tup [.int x, .int y]] st) Q
    have ha' := sh_at ha
    walk_at "run"
    walk_at "ml"
    exact kk
  | keep k a ns hk ha =>
    show wp (m__law_step_shape [.str k, .ref f, .tup [.int a], .tup (nums.map D.int)] st) Q
    have ha' := sh_at ha
    rcases hk with rfl | rfl
    all_goals
      walk_at "run"
      walk_at "ml"
      exact kk
/-! ### leaves, steps, programs -/
abbrev Lf := PySem.Str × Sh
abbrev leafD (x : Lf) : D := .tup [.str x.1, .int x.2.1, .int x.2.2]
abbrev St := PySem.Str × PySem.Str × List Int × List Int
abbrev stD (s : St) : D := .tup [.str s.1, .str s.2.1, .tup (s.2.2.1.map D.int), .tup (s.2.2.2.map D.int)]
def Good (Ls : List Lf) (F : List Sh) (S : List St) : Prop := F.length = Ls.length + S.length ∧ F.take Ls.length = Ls.map (·.2) ∧
  ∀ i s, S[i]? = some s → ∃ r, F[Ls.length + i]? = some r ∧ Step (F.take (Ls.length + i)) s.2.1 s.2.2.1 s.2.2.2 r
theorem Good.new (Ls : List Lf) : Good Ls (Ls.map (·.2)) [] := ⟨by simp, by rw [← List.length_map (f := fun x : Lf => x.2), List.take_length], fun i s h => by simp at h⟩
theorem Good.snoc {Ls : List Lf} {F : List Sh} {S : List St} {s : St} {r : Sh} (G : Good Ls F S) (h : Step F s.2.1 s.2.2.1 s.2.2.2 r) : Good Ls (F ++ [r]) (S ++ [s]) := by
  obtain ⟨h1, h2, h3⟩ := G
  refine ⟨by simp [h1]; omega, by rw [List.take_append_of_le_length (by omega)]; exact h2, fun i x hx => ?_⟩
  by_cases hi : i < S.length
  · rw [List.getElem?_append_left hi] at hx
    obtain ⟨r2, h4, h5⟩ := h3 i x hx
    refine ⟨r2, by rw [List.getElem?_append_left (by omega)]; exact h4, ?_⟩
    rw [List.take_append_of_le_length (by omega)]
    exact h5
  · have hl := (List.getElem?_eq_some_iff.mp hx).1
    rw [List.length_append, List.length_singleton] at hl
    have e : i = S.length := by omega
    subst e
    rw [List.getElem?_append_right (Nat.le_refl _), Nat.sub_self] at hx
    cases hx
    refine ⟨r, by rw [← h1, List.getElem?_append_right (Nat.le_refl _), Nat.sub_self]; rfl, ?_⟩
    rw [← h1, List.take_append_of_le_length (Nat.le_refl _), List.take_length]
    exact h
theorem shapes_ok {P1 P2 : List Lf} {F : List Sh} {S : List St} {loss : D} {st : Sto} {Q : D → Sto → Prop} (G : Good (P1 ++ P2) F S) (hl : (P1 ++ P2).length ≤ 20) (hF : F.length ≤ 60) (k : Q (.tup (F.map sD)) st) :
    wp (m_shapes [.tup [.tup (P1.map leafD), .tup (P2.map leafD), .tup (S.map stD), loss]] st) Q := by
  obtain ⟨g1, g2, g3⟩ := G
  rw [List.length_append] at hl
  refine wp_gc ?_
  walk_at "run"
  walk_at "ml"
  refine z_addT (by simp; omega) ?_
  rw [← List.map_append]
  generalize hL : P1 ++ P2 = Ls at g1 g2 g3
  have hLl : Ls.length ≤ 20 := by rw [← hL, List.length_append]; exact hl
  walk_at "ml"
  try refine y_sd (by rw [List.length_map]; omega) ?_
  refine x_map (fun d => match d with | .tup [_, x, y] => .tup [x, y] | _ => .non) noWatch (fun x hx => ?_) ?_
  · obtain ⟨z, _, rfl⟩ := List.mem_map.mp hx
    walk_at "ml"
    exact ⟨rfl, rfl⟩
  have e0 : ((Ls.map leafD).map fun d => match d with | .tup [_, x, y] => D.tup [x, y] | _ => D.non) = (F.take (Ls.length + 0)).map sD := by
    rw [Nat.add_zero, g2, List.map_map, List.map_map]
    rfl
  rw [e0]
  walk_at "ml"
  refine x_loop (fun i e s => i ≤ S.length ∧ ∃ o6 o7 o8 o9, e = [some (.tup [.tup (P1.map leafD), .tup (P2.map leafD), .tup (S.map stD), loss]), some (.tup (P1.map leafD)), some (.tup (P2.map leafD)), some (.tup (S.map stD)), some loss, some (.ref st.length), o6, o7, o8, o9, none, none, none] ∧
    Pre st s ∧ s[st.length]? = some (.lst ((F.take (Ls.length + i)).map sD))) ?_ (fun _ _ _ _ => noWatch) ?_ ?_
  · exact ⟨Nat.zero_le _, _, _, _, _, rfl, Pre.refl.app, at_new⟩
  · rintro i x e s hx ⟨hi, o6, o7, o8, o9, rfl, pr, hs⟩
    rw [List.getElem?_map] at hx
    obtain ⟨q, hq, rfl⟩ := Option.map_eq_some_iff.mp hx
    obtain ⟨r, hr, hst⟩ := g3 i q hq
    have hil := (List.getElem?_eq_some_iff.mp hq).1
    have hfew := hst.few
    walk_at "ml"
    try refine y_sd (by rw [List.length_map]; omega) ?_
    refine x_map (fun d => match d with | .int a => sD (sh (F.take (Ls.length + i)) a) | _ => .non) noWatch (fun x hx => ?_) ?_
    · obtain ⟨a, ha, rfl⟩ := List.mem_map.mp hx
      have ha' := sh_at (hst.ok a ha)
      walk_at "ml"
      exact ⟨rfl, rfl⟩
    have e1 : ((q.2.2.1.map D.int).map fun d => match d with | .int a => sD (sh (F.take (Ls.length + i)) a) | _ => .non) = q.2.2.1.map fun a => sD (sh (F.take (Ls.length + i)) a) := by
      rw [List.map_map]
      rfl
    rw [e1]
    walk_at "ml"
    refine stepshape_ok hst ?_
    walk_at "ml"
    refine z_app hs (by rw [List.length_map, List.length_take]; omega) rfl ?_
    walk_at "ml"
    refine ⟨by omega, _, _, _, _, rfl, pr.set (Nat.le_refl _), ?_⟩
    rw [set_at hs, ← Nat.add_assoc, take_last hr, List.map_append]
    rfl
  · rintro e s ⟨hi, o6, o7, o8, o9, rfl, pr, hs⟩
    rw [List.length_map, ← g1, List.take_length] at hs
    walk_at "ml"
    refine ⟨pr, ?_, k⟩
    show belows _ _
    generalize F = xs
    induction xs with
    | nil => trivial
    | cons x xs ih => exact ⟨⟨trivial, trivial, trivial⟩, ih⟩
theorem lshapes_ok {P1 P2 : List Lf} {F : List Sh} {S : List St} {loss : D} {st : Sto} {Q : D → Sto → Prop} (G : Good (P1 ++ P2) F S) (hl : (P1 ++ P2).length ≤ 20) (hF : F.length ≤ 60) (k : ∀ f st', st'[f]? = some (.lst (F.map sD)) → Q (.ref f) st') :
    wp (m__law_shapes [.tup [.tup (P1.map leafD), .tup (P2.map leafD), .tup (S.map stD), loss]] st) Q := by
  obtain ⟨g1, g2, g3⟩ := G
  rw [List.length_append] at hl
  walk_at "run"
  walk_at "ml"
  refine z_addT (by simp; omega) ?_
  rw [← List.map_append]
  generalize hL : P1 ++ P2 = Ls at g1 g2 g3
  have hLl : Ls.length ≤ 20 := by rw [← hL, List.length_append]; exact hl
  walk_at "ml"
  try refine y_sd (by rw [List.length_map]; omega) ?_
  refine x_map (fun d => match d with | .tup [_, x, y] => .tup [x, y] | _ => .non) noWatch (fun x hx => ?_) ?_
  · obtain ⟨z, _, rfl⟩ := List.mem_map.mp hx
    walk_at "ml"
    exact ⟨rfl, rfl⟩
  have e0 : ((Ls.map leafD).map fun d => match d with | .tup [_, x, y] => D.tup [x, y] | _ => D.non) = (F.take (Ls.length + 0)).map sD := by
    rw [Nat.add_zero, g2, List.map_map, List.map_map]
    rfl
  rw [e0]
  walk_at "ml"
  refine x_loop (fun i e s => i ≤ S.length ∧ ∃ o2, e = [some (.tup [.tup (P1.map leafD), .tup (P2.map leafD), .tup (S.map stD), loss]), some (.ref st.length), o2, none] ∧
    s[st.length]? = some (.lst ((F.take (Ls.length + i)).map sD))) ?_ (fun _ _ _ _ => noWatch) ?_ ?_
  · exact ⟨Nat.zero_le _, _, rfl, at_new⟩
  · rintro i x e s hx ⟨hi, o2, rfl, hs⟩
    rw [List.getElem?_map] at hx
    obtain ⟨q, hq, rfl⟩ := Option.map_eq_some_iff.mp hx
    obtain ⟨r, hr, hst⟩ := g3 i q hq
    have hil := (List.getElem?_eq_some_iff.mp hq).1
    walk_at "ml"
    refine lstep_ok hst hs ?_
    walk_at "ml"
    refine z_app hs (by rw [List.length_map, List.length_take]; omega) rfl ?_
    walk_at "ml"
    refine ⟨by omega, _, rfl, ?_⟩
    rw [set_at hs, ← Nat.add_assoc, take_last hr, List.map_append]
    rfl
  · rintro e s ⟨hi, o2, rfl, hs⟩
    rw [List.length_map, ← g1, List.take_length] at hs
    walk_at "ml"
    exact k _ _ hs
/-! ### the store around the pool -/
def Kp (n : Nat) (st st' : Sto) : Prop := st.length ≤ st'.length ∧ ∀ m o, m ≠ n → st[m]? = some o → st'[m]? = some o
theorem Kp.refl {n : Nat} {st : Sto} : Kp n st st := ⟨Nat.le_refl _, fun _ _ _ h => h⟩
theorem Kp.oth {n : Nat} {a b c : Sto} (x : Kp n a b) (y : Oth n b c) : Kp n a c := ⟨by have := x.1; have := y.1; omega, fun m o h e => (y.2 m h).trans (x.2 m o h e)⟩
theorem Kp.trans {n : Nat} {a b c : Sto} (x : Kp n a b) (y : Kp n b c) : Kp n a c := ⟨Nat.le_trans x.1 y.1, fun m o h e => y.2 m o h (x.2 m o h e)⟩
theorem Kp.app {n : Nat} {a b l : Sto} (x : Kp n a b) : Kp n a (b ++ l) := ⟨by rw [List.length_append]; have := x.1; omega, fun m o h e => at_app (x.2 m o h e)⟩
theorem Kp.set {n m : Nat} {a b : Sto} {o : O} (x : Kp n a b) (h : a.length ≤ m) : Kp n a (b.set m o) := ⟨by rw [List.length_set]; exact x.1, fun m2 o2 h2 e => at_ne (x.2 m2 o2 h2 e) (by have := at_lt e; omega)⟩
def Fit (z : PySem.Str) (F : List Sh) (a b : Int) : Prop := okI F a ∧ okI F b ∧ (((z = "add" ∨ z = "sub" ∨ z = "times") ∧ sh F a = sh F b) ∨ (z = "product" ∧ (sh F a).2 = (sh F b).1) ∨ (z = "pick" ∧ (sh F b).2 = 1))
theorem Fit.step {z : PySem.Str} {F : List Sh} {a b : Int} (h : Fit z F a b) : ∃ r, Step F z [a, b] [] r := by
  obtain ⟨ha, hb, ⟨hk, e⟩ | ⟨rfl, e⟩ | ⟨rfl, e⟩⟩ := h
  · exact ⟨_, .same z a b hk ha hb e⟩
  · exact ⟨_, .prod a b ha hb e⟩
  · exact ⟨_, .pick a b ha hb e⟩
theorem fits_ok {z : PySem.Str} {F : List Sh} {a b : Int} {st : Sto} {f : Nat} {Q : D → Sto → Prop} (hz : z = "add" ∨ z = "sub" ∨ z = "times" ∨ z = "product" ∨ z = "pick") (ha : okI F a) (hb : okI F b) (hf : st[f]? = some (.lst (F.map sD)))
    (k : ∀ v : Bool, (v = true → Fit z F a b) → Q (.bl v) st) : wp (m__law_fits [.str z, .ref f, .int a, .int b] st) Q := by
  have ha' := sh_at ha
  have hb' := sh_at hb
  rcases hz with rfl | rfl | rfl | rfl | rfl
  · walk_at "run"
    walk_at "ml"
    exact k _ fun h => ⟨ha, hb, .inl ⟨.inl rfl, by have h := of_decide_eq_true h; simp at h; exact Prod.ext h.1 h.2⟩⟩
  · walk_at "run"
    walk_at "ml"
    exact k _ fun h => ⟨ha, hb, .inl ⟨.inr (.inl rfl), by have h := of_decide_eq_true h; simp at h; exact Prod.ext h.1 h.2⟩⟩
  · walk_at "run"
    walk_at "ml"
    exact k _ fun h => ⟨ha, hb, .inl ⟨.inr (.inr rfl), by have h := of_decide_eq_true h; simp at h; exact Prod.ext h.1 h.2⟩⟩
  · walk_at "run"
    walk_at "ml"
    exact k _ fun h => ⟨ha, hb, .inr (.inl ⟨rfl, by simpa using h⟩)⟩
  · walk_at "run"
    walk_at "ml"
    exact k _ fun h => ⟨ha, hb, .inr (.inr ⟨rfl, by simpa using h⟩)⟩

theorem step_ok {st : Sto} {n f : Nat} {ns : List Int} {F : List Sh} {own lv : Int} {Q : D → Sto → Prop} (P : PoolE ns st n) (hf : st[f]? = some (.lst (F.map sD))) (hnf : f ≠ n) (hF : 1 ≤ F.length ∧ F.length ≤ 40) (ho : 0 ≤ own ∧ own ≤ lv ∧ lv ≤ (F.length : Nat))
    (k : ∀ kd ops nums r st', Step F kd ops nums r → PoolE ns st' n → Kp n st st' → Q (.tup [.str kd, .tup (ops.map D.int), .tup (nums.map D.int)]) st') : wp (m__law_step [.ref n, .ref f, .int own, .int lv] st) Q := by
  have hlen : (F.map sD).length = F.length := List.length_map _
  have tail2 : ∀ (kd : PySem.Str) (K o7 o8 o9 o10 o11 : Option D) (s : Sto), (kd = "turn" ∨ kd = "positive" ∨ kd = "total" ∨ kd = "stretch") → PoolE ns s n → Kp n st s →
      wp (t__law_step_5 [some (.ref n), some (.ref f), some (.int own), some (.int lv), K, some (.str kd), some (.int ((F.map sD).length : Nat)), o7, o8, o9, o10, o11, none, none] s) (runK Q) := by
    intro kd K o7 o8 o9 o10 o11 s hk P1 q1
    walk_at "ml"
    refine draw P1 (by split <;> omega) (by split <;> omega) fun v s2 v0 v1 P2 o2 => ?_
    have hv : okI F ((F.map sD).length - 1 - v) := by
      revert v1
      split <;> (intro v1; constructor <;> omega)
    have q2 := q1.oth o2
    rcases hk with rfl | rfl | rfl | rfl
    · walk_at "ml"
      exact k _ [_] [] _ _ (.turn _ hv) P2 q2
    · walk_at "ml"
      exact k _ [_] [] _ _ (.keep _ _ [] (.inl rfl) hv) P2 q2
    · walk_at "ml"
      exact k _ [_] [] _ _ (.total _ hv) P2 q2
    · walk_at "ml"
      refine draw P2 (by decide) (by decide) fun v2 s3 v20 v21 P3 o3 => ?_
      walk_at "ml"
      refine pick P3 (by simp) (by simp) fun x s4 hx P4 o4 => ?_
      obtain ⟨c, rfl⟩ : ∃ c, x = .int c := by
        simp only [List.mem_cons, List.not_mem_nil, or_false] at hx
        rcases hx with rfl | rfl | rfl | rfl | rfl | rfl <;> exact ⟨_, rfl⟩
      walk_at "ml"
      exact k _ [_] [c] _ _ (.keep _ _ [c] (.inr rfl) hv) P4 ((q2.oth o3).oth o4)
  have tail1 : ∀ (kd : PySem.Str) (K o7 o8 o9 o10 : Option D) (s : Sto), (kd = "turn" ∨ kd = "positive" ∨ kd = "total" ∨ kd = "stretch" ∨ kd = "spread") → PoolE ns s n → Kp n st s →
      wp (t__law_step_4 [some (.ref n), some (.ref f), some (.int own), some (.int lv), K, some (.str kd), some (.int ((F.map sD).length : Nat)), o7, o8, o9, o10, none, none, none] s) (runK Q) := by
    intro kd K o7 o8 o9 o10 s hk P1 q1
    have hfs := q1.2 f _ hnf hf
    rcases hk with rfl | rfl | rfl | rfl | rfl
    · repeat (first | with_reducible refine tail2 _ _ _ _ _ _ _ _ (.inl rfl) P1 q1 | walk_at "ml1")
    · repeat (first | with_reducible refine tail2 _ _ _ _ _ _ _ _ (.inr (.inl rfl)) P1 q1 | walk_at "ml1")
    · repeat (first | with_reducible refine tail2 _ _ _ _ _ _ _ _ (.inr (.inr (.inl rfl))) P1 q1 | walk_at "ml1")
    · repeat (first | with_reducible refine tail2 _ _ _ _ _ _ _ _ (.inr (.inr (.inr rfl))) P1 q1 | walk_at "ml1")
    · walk_at "ml"
      try refine y_sd (by rw [range_len]; omega) ?_
      refine x_comp (fun i a s2 => s2 = s ∧ ∃ us : List Int, a = us.map D.int ∧ us.length ≤ i ∧ ∀ u, u ∈ us → okI F u ∧ sh F u = (1, 1)) ⟨rfl, [], rfl, Nat.le_refl _, fun u h => (by cases h)⟩ (fun _ _ _ _ => noWatch) ?_ ?_
      · rintro i x a s2 hx ⟨rfl, us, rfl, hul, huv⟩
        obtain ⟨hi, rfl⟩ := range_at hx
        have hk : okI F (0 + (i : Int)) := by constructor <;> omega
        have hat := sh_at hk
        walk_at "ml"
        refine y_d (fun h => ?_) (fun h => ?_)
        · walk_at "ml"
          refine ⟨rfl, us ++ [0 + (i : Int)], by simp, by simp; omega, fun u hu => ?_⟩
          rcases List.mem_append.mp hu with hu | hu
          · exact huv u hu
          · rw [List.mem_singleton.mp hu]
            simp at h
            exact ⟨hk, Prod.ext (by simpa using h.1) (by simpa using h.2)⟩
        · exact ⟨rfl, us, rfl, by omega, huv⟩
      · rintro a s2 ⟨rfl, us, rfl, hul, huv⟩
        rw [range_len] at hul
        walk_at "ml"
        refine y_d (fun h => ?_) (fun h => ?_)
        · walk_at "ml"
          refine pick P1 (by omega) (by rw [List.length_map]; rw [hlen] at hul; omega) fun x s4 hx P4 o4 => ?_
          obtain ⟨u, hu, rfl⟩ := List.mem_map.mp hx
          obtain ⟨hu1, hu2⟩ := huv u hu
          walk_at "ml"
          refine draw P4 (by decide) (by decide) fun v2 s5 v20 v21 P5 o5 => ?_
          walk_at "ml"
          refine draw P5 (by decide) (by decide) fun v3 s6 v30 v31 P6 o6 => ?_
          walk_at "ml"
          exact k _ [u] [1 + v2, 1 + v3] _ _ (.spread u _ _ hu1 hu2) P6 (((q1.oth o4).oth o5).oth o6)
        · repeat (first | with_reducible refine tail2 _ _ _ _ _ _ _ _ (.inr (.inr (.inl rfl))) P1 q1 | walk_at "ml1")
  walk_at "run"
  walk_at "ml"
  refine pick P (by decide) (by decide) fun kd s1 hk P1 o1 => ?_
  have q1 : Kp n st s1 := Kp.refl.oth o1
  have hfs1 := q1.2 f _ hnf hf
  obtain ⟨z, rfl, hz⟩ : ∃ z, kd = .str z ∧ ((z = "add" ∨ z = "sub" ∨ z = "times" ∨ z = "product" ∨ z = "pick") ∨ (z = "turn" ∨ z = "positive" ∨ z = "total" ∨ z = "stretch" ∨ z = "spread")) := by
    simp only [List.mem_cons, List.not_mem_nil, or_false] at hk
    rcases hk with rfl | rfl | rfl | rfl | rfl | rfl | rfl | rfl | rfl | rfl | rfl <;> exact ⟨_, rfl, by simp⟩
  rcases hz with hz | hz
  · have hok : PyData.strOk z = true := by rcases hz with rfl | rfl | rfl | rfl | rfl <;> decide +kernel
    have hmem : z ∈ (["add", "sub", "times", "product", "pick"] : List PySem.Str) := by rcases hz with rfl | rfl | rfl | rfl | rfl <;> simp
    walk_at "ml"
    have hp1 := q1.1
    have hfl := at_lt hfs1
    have hnl := P1.lt
    have hpn : s1.length ≠ n := by omega
    have body : ∀ (low high : Int) (i : Nat) (o8 o9 o10 : Option D) (s : Sto) (ps : List Sh) (QS : Fl → Sto → Prop), 0 ≤ low → low ≤ 40 → 0 ≤ high → high ≤ (F.length : Nat) → i < F.length → ps.length ≤ i * 40 → (∀ x, x ∈ ps → Fit z F x.1 x.2) → PoolE ns s n → Kp n st s → s[s1.length]? = some (.lst (ps.map sD)) →
        (∀ (ps' : List Sh) (s' : Sto), ps'.length ≤ (i + 1) * 40 → (∀ x, x ∈ ps' → Fit z F x.1 x.2) → PoolE ns s' n → Kp n st s' → s'[s1.length]? = some (.lst (ps'.map sD)) → QS (.nx [some (.ref n), some (.ref f), some (.int own), some (.int lv), o8, some (.str z), some (.int ((F.map sD).length : Nat)), some (.ref s1.length), some (.int (0 + (i : Int))), some (.int low), some (.int high), none, none, none]) s') →
        wp (u0__law_step_2 [some (.ref n), some (.ref f), some (.int own), some (.int lv), o8, some (.str z), some (.int ((F.map sD).length : Nat)), some (.ref s1.length), some (.int (0 + (i : Int))), some (.int low), some (.int high), none, none, none] s) QS := by
      intro low high i o8 o9 o10 s ps QS l0 l1 h0 h1 hi hpl hpf P2 q2 hs kk
      have hfs2 := q2.2 f _ hnf hf
      have hka : okI F (0 + (i : Int)) := by constructor <;> omega
      walk_at "ml"
      try refine y_sd (by rw [range_len]; omega) ?_
      refine x_comp (fun j a s2 => s2 = s ∧ ∃ us : List Sh, a = us.map sD ∧ us.length ≤ j ∧ ∀ x, x ∈ us → Fit z F x.1 x.2) ⟨rfl, [], rfl, Nat.le_refl _, fun u h => (by cases h)⟩ (fun _ _ _ _ => noWatch) ?_ ?_
      · rintro j x a s2 hx ⟨rfl, us, rfl, hul, huv⟩
        obtain ⟨hj, rfl⟩ := range_at hx
        have hkb : okI F (low + (j : Int)) := by constructor <;> omega
        walk_at "ml"
        refine fits_ok hz hka hkb hfs2 fun v hv => ?_
        walk_at "ml"
        cases v with
        | true =>
          walk_at "ml"
          refine ⟨rfl, us ++ [(0 + (i : Int), low + (j : Int))], by simp, by simp; omega, fun u hu => ?_⟩
          rcases List.mem_append.mp hu with hu | hu
          · exact huv u hu
          · rw [List.mem_singleton.mp hu]
            exact hv rfl
        | false =>
          walk_at "ml"
          exact ⟨rfl, us, rfl, by omega, huv⟩
      · rintro a s2 ⟨rfl, us, rfl, hul, huv⟩
        rw [range_len] at hul
        walk_at "ml"
        refine z_ext hs rfl (by rw [List.length_map, List.length_map]; omega) rfl ?_
        walk_at "ml"
        refine kk (ps ++ us) _ (by rw [List.length_append]; omega) (fun x hx => ?_) (P2.set hpn) (q2.set hp1) (by rw [set_at hs, List.map_append])
        rcases List.mem_append.mp hx with hx | hx
        · exact hpf x hx
        · exact huv x hx
    refine x_loop (fun i e s => i ≤ F.length ∧ ∃ (ps : List Sh) (o8 o9 o10 K : Option D), e = [some (.ref n), some (.ref f), some (.int own), some (.int lv), K, some (.str z), some (.int ((F.map sD).length : Nat)), some (.ref s1.length), o8, o9, o10, none, none, none] ∧
      ps.length ≤ i * 40 ∧ (∀ x, x ∈ ps → Fit z F x.1 x.2) ∧ PoolE ns s n ∧ Kp n st s ∧ s[s1.length]? = some (.lst (ps.map sD))) ?_ (fun _ _ _ _ => noWatch) ?_ ?_
    · exact ⟨Nat.zero_le _, [], _, _, _, _, rfl, Nat.le_refl _, fun x h => (by cases h), P1.app, q1.app, at_new⟩
    · rintro i x e s hx ⟨hi, ps, o8, o9, o10, K, rfl, hpl, hpf, P2, q2, hs⟩
      obtain ⟨hi2, rfl⟩ := range_at hx
      rw [hlen, Int.toNat_natCast] at hi2
      by_cases hzp : z = "pick"
      · have hb : (z == ("pick" : PySem.Str)) = true := by simpa using hzp
        walk_at "ml"
        refine y_tb hb ?_
        walk_at "ml"
        refine y_tb hb ?_
        repeat (first | with_reducible refine body _ _ i _ none none s ps _ ?_ ?_ ?_ ?_ hi2 hpl hpf P2 q2 hs ?_ | walk_at "ml1")
        · omega
        · omega
        · omega
        · omega
        · intro ps' s' h1 h2 h3 h4 h5
          walk_at "ml"
          exact ⟨by omega, ps', _, _, _, _, rfl, h1, h2, h3, h4, h5⟩
      · have hb : (z == ("pick" : PySem.Str)) = false := by simpa using hzp
        walk_at "ml"
        refine y_fb hb ?_
        walk_at "ml"
        refine y_fb hb ?_
        repeat (first | with_reducible refine body _ _ i _ none none s ps _ ?_ ?_ ?_ ?_ hi2 hpl hpf P2 q2 hs ?_ | walk_at "ml1")
        · omega
        · omega
        · omega
        · omega
        · intro ps' s' h1 h2 h3 h4 h5
          walk_at "ml"
          exact ⟨by omega, ps', _, _, _, _, rfl, h1, h2, h3, h4, h5⟩
    · rintro e s ⟨hi, ps, o8, o9, o10, K, rfl, hpl, hpf, P2, q2, hs⟩
      rw [range_len, hlen, Int.toNat_natCast] at hpl
      walk_at "ml"
      refine y_d (fun h => ?_) (fun h => ?_)
      · rw [List.length_map] at h
        walk_at "ml"
        refine z_slR hs ?_
        rw [List.length_map, cut_lo (by omega), ← List.map_drop]
        walk_at "ml"
        refine pick P2 (by simp only [List.length_map, List.length_drop]; omega) (by simp only [List.length_map, List.length_drop]; omega) fun x s4 hx P4 o4 => ?_
        obtain ⟨u, hu, rfl⟩ := List.mem_map.mp hx
        obtain ⟨r, hr⟩ := (hpf u (List.mem_of_mem_drop hu)).step
        walk_at "ml"
        exact k _ [u.1, u.2] [] _ _ hr P4 (q2.oth o4)
      · repeat (first | with_reducible refine tail1 _ _ _ _ _ _ _ (.inr (.inl rfl)) P2 q2 | walk_at "ml1")
  · rcases hz with rfl | rfl | rfl | rfl | rfl
    · repeat (first | with_reducible refine tail1 _ _ _ _ _ _ _ (.inl rfl) P1 q1 | walk_at "ml1")
    · repeat (first | with_reducible refine tail1 _ _ _ _ _ _ _ (.inr (.inl rfl)) P1 q1 | walk_at "ml1")
    · repeat (first | with_reducible refine tail1 _ _ _ _ _ _ _ (.inr (.inr (.inl rfl))) P1 q1 | walk_at "ml1")
    · repeat (first | with_reducible refine tail1 _ _ _ _ _ _ _ (.inr (.inr (.inr (.inl rfl)))) P1 q1 | walk_at "ml1")
    · repeat (first | with_reducible refine tail1 _ _ _ _ _ _ _ (.inr (.inr (.inr (.inr rfl)))) P1 q1 | walk_at "ml1")

abbrev LETS : PySem.Str := "abcdefghijklmnopqrstuvwxyz"
theorem lets_len : LETS.cps.toList.length = 26 := by decide +kernel
theorem lets_sz : LETS.length ≤ 16777216 := by decide +kernel
theorem name_ok {st : Sto} {n : Nat} {ns : List Int} {i : Int} {Q : D → Sto → Prop} (P : PoolE ns st n) (h0 : 0 ≤ i) (h1 : i < 64) (k : ∀ z st', PoolE ns st' n → Oth n st st' → Q (.str z) st') : wp (m__law_name [.ref n, .int i] st) Q := by
  walk_at "run"
  walk_at "ml"
  refine draw P (by decide) (by decide) fun v st1 v0 v1 P1 o1 => ?_
  have hv : v = 0 ∨ v = 1 ∨ v = 2 ∨ v = 3 ∨ v = 4 := by omega
  have hs : ∀ z : PySem.Str, z = "" ∨ z = "z" ∨ z = "q1" ∨ z = "loss" ∨ z = "a0b" → z.length ≤ 8 := by
    rintro z (rfl | rfl | rfl | rfl | rfl) <;> decide +kernel
  have fin : ∀ (z : PySem.Str) (QQ : D → Sto → Prop), z.length ≤ 8 → (∀ z st', PoolE ns st' n → Oth n st st' → QQ (.str z) st') → wp ((E2 addD (E2 addD (E2 ixD (Ec (.str "abcdefghijklmnopqrstuvwxyz")) (EC (arN 2 m__law_draw) (Acons (Ev 0) (Acons (Ec (.int 26)) Anil)))) (EC fStr (Acons (Ev 1) Anil))) (Ev 2)) [some (.ref n), some (.int i), some (.str z)] st1) QQ := by
    intro z QQ hz kk
    walk_at "ml"
    refine draw P1 (by decide) (by decide) fun v2 st2 v20 v21 P2 o2 => ?_
    obtain ⟨c, hc, hcl⟩ := str_at (z := LETS) v20 (by rw [lets_len]; omega)
    refine z_ixS lets_sz hc ?_
    walk_at "ml"
    refine z_strI h0 h1 fun y hy => ?_
    refine z_addS (by have : (⟨#[c]⟩ : PySem.Str).length = 1 := rfl; omega) ?_
    walk_at "ml"
    refine z_addS (by rw [PySem.Str.length_append]; have : (⟨#[c]⟩ : PySem.Str).length = 1 := rfl; omega) ?_
    exact kk _ _ P2 (o1.trans o2)
  rcases hv with rfl | rfl | rfl | rfl | rfl
  all_goals
    repeat (first | with_reducible refine fin _ _ (hs _ (by simp)) ?_ | walk_at "ml1")
    intro z2 s2 P2 q2
    walk_at "ml"
    exact k z2 s2 P2 q2
theorem program_ok {st : Sto} {n : Nat} {ns : List Int} {most : Int} {Q : D → Sto → Prop} (P : PoolE ns st n) (hm : 1 ≤ most ∧ most ≤ 22)
    (k : ∀ (P1 P2 : List Lf) (F : List Sh) (S : List St) (loss : D) st', Good (P1 ++ P2) F S → (P1 ++ P2).length ≤ 20 → F.length ≤ 60 → Q (.tup [.tup (P1.map leafD), .tup (P2.map leafD), .tup (S.map stD), loss]) st') :
    wp (m__law_program [.ref n, .int most] st) Q := by
  walk_at "run"
  walk_at "ml"
  refine draw P (by decide) (by decide) fun x1 st1 x10 x11 P1 o1 => ?_
  walk_at "ml"
  refine draw P1 (by decide) (by decide) fun x2 st2 x20 x21 P2 o2 => ?_
  walk_at "ml"
  have sz : ∀ x, x ∈ [D.int 1, D.int (1 + x1), D.int (1 + x2)] → ∃ c, x = .int c := by
    intro x hx
    simp only [List.mem_cons, List.not_mem_nil, or_false] at hx
    rcases hx with rfl | rfl | rfl <;> exact ⟨_, rfl⟩
  have main : ∀ (own : Int) (s : Sto), 1 ≤ own → own ≤ 6 → PoolE ns s n → wp (t__law_program_3 [some (.ref n), some (.int most), some (.lst [.int 1, .int (1 + x1), .int (1 + x2)]), some (.int own), none, none, none, none, none, none, none, none, none, none, none, none] s) (runK Q) := by
    intro own s w0 w1 P3
    walk_at "ml"
    refine draw P3 (by decide) (by decide) fun v s1 v0 v1 P4 o4 => ?_
    have hn1 := P4.lt
    generalize hlv : own + v = lv
    walk_at "ml"
    rw [hlv]
    have hV : s1.length ≠ n := by omega
    refine x_loop (fun i e s => i ≤ lv.toNat ∧ ∃ (Ls : List Lf) (o6 o7 : Option D), e = [some (.ref n), some (.int most), some (.lst [.int 1, .int (1 + x1), .int (1 + x2)]), some (.int own), some (.int lv), some (.ref s1.length), o6, o7, none, none, none, none, none, none, none, none] ∧ Ls.length = i ∧ PoolE ns s n ∧ s[s1.length]? = some (.lst (Ls.map leafD))) ?_ (fun _ _ _ _ => noWatch) ?_ ?_
    · exact ⟨Nat.zero_le _, [], _, _, rfl, rfl, P4.app, at_new⟩
    · rintro i x e s hx ⟨hi, Ls, o6, o7, rfl, hL, P5, hs⟩
      obtain ⟨hi2, rfl⟩ := range_at hx
      have fin : ∀ (c : Int) (s : Sto) (QS : Fl → Sto → Prop), PoolE ns s n → s[s1.length]? = some (.lst (Ls.map leafD)) → (∀ (y : Lf) s', PoolE ns s' n → s'[s1.length]? = some (.lst ((Ls ++ [y]).map leafD)) → QS (.nx [some (.ref n), some (.int most), some (.lst [.int 1, .int (1 + x1), .int (1 + x2)]), some (.int own), some (.int lv), some (.ref s1.length), some (.int (0 + (i : Int))), some (.int c), none, none, none, none, none, none, none, none]) s') →
          wp (u0__law_program_2 [some (.ref n), some (.int most), some (.lst [.int 1, .int (1 + x1), .int (1 + x2)]), some (.int own), some (.int lv), some (.ref s1.length), some (.int (0 + (i : Int))), some (.int c), none, none, none, none, none, none, none, none] s) QS := by
        intro c s QS P6 hs6 kk
        walk_at "ml"
        refine name_ok P6 (by omega) (by omega) fun z s7 P7 o7 => ?_
        have hs7 := (o7.2 _ hV).trans hs6
        walk_at "ml"
        refine pick P7 (by simp) (by simp) fun x s8 hx P8 o8 => ?_
        obtain ⟨c2, rfl⟩ := sz x hx
        have hs8 := (o8.2 _ hV).trans hs7
        walk_at "ml"
        refine z_app hs8 (by rw [List.length_map]; omega) rfl ?_
        walk_at "ml"
        exact kk (z, c2, c) _ (P8.set hV) (by rw [set_at hs8, List.map_append]; rfl)
      walk_at "ml"
      refine pick P5 (by simp) (by simp) fun x s2 hx P6 o6 => ?_
      obtain ⟨c, rfl⟩ := sz x hx
      have hs2 := (o6.2 _ hV).trans hs
      walk_at "ml"
      refine y_d (fun h => ?_) (fun h => ?_)
      · walk_at "ml"
        refine draw P6 (by decide) (by decide) fun v3 s3 v30 v31 P7 o7 => ?_
        have hs3 := (o7.2 _ hV).trans hs2
        walk_at "ml"
        refine y_eq (fun h => ?_) (fun h => ?_)
        · repeat (first | with_reducible refine fin _ _ _ P7 hs3 ?_ | walk_at "ml1")
          intro y s' P8 h8
          walk_at "ml"
          exact ⟨by omega, _, _, _, rfl, by simp [hL], P8, h8⟩
        · repeat (first | with_reducible refine fin _ _ _ P7 hs3 ?_ | walk_at "ml1")
          intro y s' P8 h8
          walk_at "ml"
          exact ⟨by omega, _, _, _, rfl, by simp [hL], P8, h8⟩
      · repeat (first | with_reducible refine fin _ _ _ P6 hs2 ?_ | walk_at "ml1")
        intro y s' P8 h8
        walk_at "ml"
        exact ⟨by omega, _, _, _, rfl, by simp [hL], P8, h8⟩
    · rintro e s2 ⟨hi, Ls, o6, o7, rfl, hL, P5, hs⟩
      rw [range_len] at hL
      walk_at "ml"
      try refine y_sd (by rw [List.length_map]; omega) ?_
      have hwat : watchOk [(s1.length, Ls.map leafD)] s2 := by
        intro p hp
        have e : p = (s1.length, Ls.map leafD) := by simpa using hp
        subst e
        exact hs
      refine x_map (fun d => match d with | .tup [_, x, y] => .tup [x, y] | _ => .non) hwat (fun x hx => ?_) ?_
      · obtain ⟨z, _, rfl⟩ := List.mem_map.mp hx
        walk_at "ml"
        exact ⟨rfl, rfl⟩
      have e0 : ((Ls.map leafD).map fun d => match d with | .tup [_, x, y] => D.tup [x, y] | _ => D.non) = (Ls.map (·.2)).map sD := by
        rw [List.map_map, List.map_map]
        rfl
      rw [e0]
      have hsl := at_lt hs
      have hnl := P5.lt
      have g1 : (s2 ++ [O.lst ((Ls.map (·.2)).map sD)])[s1.length]? = some (.lst (Ls.map leafD)) := at_app hs
      have g2 : (s2 ++ [O.lst ((Ls.map (·.2)).map sD)])[s2.length]? = some (.lst ((Ls.map (·.2)).map sD)) := at_new
      have P6 : PoolE ns (s2 ++ [O.lst ((Ls.map (·.2)).map sD)]) n := P5.app
      have hlen : (s2 ++ [O.lst ((Ls.map (·.2)).map sD)]).length = s2.length + 1 := by simp
      generalize s2 ++ [O.lst ((Ls.map (·.2)).map sD)] = s3 at g1 g2 P6 hlen
      generalize s2.length = Fd at g2 hlen hsl hnl
      walk_at "ml"
      have g3 : (s3 ++ [O.lst []])[s1.length]? = some (.lst (Ls.map leafD)) := at_app g1
      have g4 : (s3 ++ [O.lst []])[Fd]? = some (.lst ((Ls.map (·.2)).map sD)) := at_app g2
      have g5 : (s3 ++ [O.lst []])[s3.length]? = some (.lst (([] : List St).map stD)) := at_new
      have P7 : PoolE ns (s3 ++ [O.lst []]) n := P6.app
      generalize s3 ++ [O.lst []] = s4 at g3 g4 g5 P7
      generalize s3.length = T at hlen g5
      generalize s1.length = V at *
      have nFn : Fd ≠ n := by omega
      have nTn : T ≠ n := by omega
      have nFT : Fd ≠ T := by omega
      have nVF : V ≠ Fd := by omega
      have nVT : V ≠ T := by omega
      refine draw P7 (by split <;> omega) (by split <;> omega) fun c s5 c0 c1 P8 o8 => ?_
      have hc : c ≤ 22 := by
        revert c1
        split <;> (intro c1; omega)
      have g6 := (o8.2 _ hV).trans g3
      have g7 := (o8.2 _ nFn).trans g4
      have g8 := (o8.2 _ nTn).trans g5
      have final : ∀ (S : List St) (F : List Sh) (loss : D) (o6 o7 o10 o11 o12 o13 : Option D) (s : Sto), Good Ls F S → F.length ≤ 60 → s[V]? = some (.lst (Ls.map leafD)) → s[T]? = some (.lst (S.map stD)) →
          wp (t__law_program_13 [some (.ref n), some (.int most), some (.lst [.int 1, .int (1 + x1), .int (1 + x2)]), some (.int own), some (.int lv), some (.ref V), o6, o7, some (.ref Fd), some (.ref T), o10, o11, o12, o13, some loss, none] s) (runK Q) := by
        intro S F loss o6 o7 o10 o11 o12 o13 s G hF a1 a2
        walk_at "ml"
        refine z_slR a1 ?_
        rw [cut_hi (by omega), ← List.map_take]
        walk_at "ml"
        refine z_slR a1 ?_
        rw [cut_lo (by omega), ← List.map_drop]
        walk_at "ml"
        exact k _ _ F S loss s (by rw [List.take_append_drop]; exact G) (by rw [List.take_append_drop]; omega) hF
      have last : ∀ (S : List St) (F : List Sh) (us : List Int) (o6 o7 o10 o11 o12 o14 : Option D) (s : Sto), Good Ls F S → F.length ≤ 60 → 0 < us.length → us.length ≤ 60 → PoolE ns s n → s[V]? = some (.lst (Ls.map leafD)) → s[T]? = some (.lst (S.map stD)) →
          wp (t__law_program_11 [some (.ref n), some (.int most), some (.lst [.int 1, .int (1 + x1), .int (1 + x2)]), some (.int own), some (.int lv), some (.ref V), o6, o7, some (.ref Fd), some (.ref T), o10, o11, o12, some (.lst (us.map D.int)), o14, none] s) (runK Q) := by
        intro S F us o6 o7 o10 o11 o12 o14 s G hF u0 u1 PP a1 a2
        walk_at "ml"
        refine z_ixL (atI_ok (by rw [List.length_map]; omega) (by rw [List.length_map]; omega)) ?_
        walk_at "ml"
        refine draw PP (by decide) (by decide) fun v3 s3 v30 v31 P9 o9 => ?_
        have b1 := (o9.2 _ hV).trans a1
        have b2 := (o9.2 _ nTn).trans a2
        walk_at "ml"
        refine y_eq (fun h => ?_) (fun h => ?_)
        · walk_at "ml"
          refine pick P9 (by rw [List.length_map]; omega) (by rw [List.length_map]; omega) fun x s4 hx P10 o10 => ?_
          have b3 := (o10.2 _ hV).trans b1
          have b4 := (o10.2 _ nTn).trans b2
          repeat (first | with_reducible refine final S F _ _ _ _ _ _ _ _ G hF b3 b4 | walk_at "ml1")
        · repeat (first | with_reducible refine final S F _ _ _ _ _ _ _ _ G hF b1 b2 | walk_at "ml1")
      walk_at "ml"
      refine x_loop (fun i e s => i ≤ c.toNat ∧ ∃ (S : List St) (F : List Sh) (o6 o10 o11 o12 : Option D), e = [some (.ref n), some (.int most), some (.lst [.int 1, .int (1 + x1), .int (1 + x2)]), some (.int own), some (.int lv), some (.ref V), o6, o7, some (.ref Fd), some (.ref T), o10, o11, o12, none, none, none] ∧ S.length = i ∧ Good Ls F S ∧ PoolE ns s n ∧
        s[V]? = some (.lst (Ls.map leafD)) ∧ s[Fd]? = some (.lst (F.map sD)) ∧ s[T]? = some (.lst (S.map stD))) ?_ (fun _ _ _ _ => noWatch) ?_ ?_
      · exact ⟨Nat.zero_le _, [], Ls.map (·.2), _, _, _, _, rfl, rfl, .new Ls, P8, g6, g7, g8⟩
      · rintro i x e s hx ⟨hi, S, F, o6, o10, o11, o12, rfl, hS, G, PP, a1, a2, a3⟩
        obtain ⟨hi2, rfl⟩ := range_at hx
        have hFl := G.1
        walk_at "ml"
        refine step_ok PP a2 nFn (by omega) (by omega) fun kd ops nums r s6 hst P9 q9 => ?_
        have b1 := q9.2 _ _ hV a1
        have b2 := q9.2 _ _ nFn a2
        have b3 := q9.2 _ _ nTn a3
        walk_at "ml"
        refine name_ok P9 (by omega) (by omega) fun z s7 P10 o10 => ?_
        have c1 := (o10.2 _ hV).trans b1
        have c2 := (o10.2 _ nFn).trans b2
        have c3 := (o10.2 _ nTn).trans b3
        walk_at "ml"
        refine z_app c3 (by rw [List.length_map]; omega) rfl ?_
        have d1 := at_ne (b := T) (x := O.lst (S.map stD ++ [D.tup [.str z, .str kd, .tup (ops.map D.int), .tup (nums.map D.int)]])) c1 (Ne.symm nVT)
        have d2 := at_ne (b := T) (x := O.lst (S.map stD ++ [D.tup [.str z, .str kd, .tup (ops.map D.int), .tup (nums.map D.int)]])) c2 (Ne.symm nFT)
        have d3 := set_at (x := O.lst (S.map stD ++ [D.tup [.str z, .str kd, .tup (ops.map D.int), .tup (nums.map D.int)]])) c3
        have P11 := P10.set (o := O.lst (S.map stD ++ [D.tup [.str z, .str kd, .tup (ops.map D.int), .tup (nums.map D.int)]])) nTn
        walk_at "ml"
        refine lstep_ok hst d2 ?_
        walk_at "ml"
        refine z_app d2 (by rw [List.length_map]; omega) rfl ?_
        walk_at "ml"
        refine ⟨by omega, S ++ [(z, kd, ops, nums)], F ++ [r], _, _, _, _, rfl, by simp [hS], G.snoc hst, P11.set nFn, at_ne d1 (Ne.symm nVF), by rw [set_at d2, List.map_append]; rfl, ?_⟩
        rw [List.getElem?_set_ne nFT, d3, List.map_append]
        rfl
      · rintro e s ⟨hi, S, F, o6, o10, o11, o12, rfl, hS, G, PP, a1, a2, a3⟩
        rw [range_len] at hS
        have hFl := G.1
        have hFm : (F.map sD).length = F.length := List.length_map _
        walk_at "ml"
        try refine y_sd (by rw [range_len]; omega) ?_
        refine x_comp (fun i a s2 => s2 = s ∧ ∃ us : List Int, a = us.map D.int ∧ us.length ≤ i) ⟨rfl, [], rfl, Nat.le_refl _⟩ (fun _ _ _ _ => noWatch) ?_ ?_
        · rintro i x a s2 hx ⟨rfl, us, rfl, hul⟩
          obtain ⟨hi, rfl⟩ := range_at hx
          have hk : okI F (0 + (i : Int)) := by constructor <;> omega
          have hat := sh_at hk
          walk_at "ml"
          refine y_d (fun h => ?_) (fun h => ?_)
          · walk_at "ml"
            exact ⟨rfl, us ++ [0 + (i : Int)], by simp, by simp; omega⟩
          · exact ⟨rfl, us, rfl, by omega⟩
        · rintro a s2 ⟨rfl, us, rfl, hul⟩
          rw [range_len] at hul
          have add : ∀ (o6 o10 o11 o12 o13 : Option D) (s : Sto) (QS : Fl → Sto → Prop), PoolE ns s n → s[V]? = some (.lst (Ls.map leafD)) → s[Fd]? = some (.lst (F.map sD)) → s[T]? = some (.lst (S.map stD)) →
              (∀ (S : List St) (F : List Sh) (us : List Int) s, Good Ls F S → F.length ≤ 60 → 0 < us.length → us.length ≤ 60 → PoolE ns s n → s[V]? = some (.lst (Ls.map leafD)) → s[T]? = some (.lst (S.map stD)) → QS (.nx [some (.ref n), some (.int most), some (.lst [.int 1, .int (1 + x1), .int (1 + x2)]), some (.int own), some (.int lv), some (.ref V), o6, o7, some (.ref Fd), some (.ref T), o10, o11, o12, some (.lst (us.map D.int)), none, none]) s) →
              wp (i10__law_program [some (.ref n), some (.int most), some (.lst [.int 1, .int (1 + x1), .int (1 + x2)]), some (.int own), some (.int lv), some (.ref V), o6, o7, some (.ref Fd), some (.ref T), o10, o11, o12, o13, none, none] s) QS := by
            intro o6 o10 o11 o12 o13 s QS PP a1 a2 a3 kk
            walk_at "ml"
            refine name_ok PP (by omega) (by omega) fun z s7 P10 o10 => ?_
            have c1 := (o10.2 _ hV).trans a1
            have c2 := (o10.2 _ nFn).trans a2
            have c3 := (o10.2 _ nTn).trans a3
            walk_at "ml"
            refine z_app c3 (by rw [List.length_map]; omega) rfl ?_
            have d1 := at_ne (b := T) (x := O.lst (S.map stD ++ [D.tup [.str z, .str "total", .tup [.int (((F.map sD).length : Nat) - 1)], .tup []]])) c1 (Ne.symm nVT)
            have d2 := at_ne (b := T) (x := O.lst (S.map stD ++ [D.tup [.str z, .str "total", .tup [.int (((F.map sD).length : Nat) - 1)], .tup []]])) c2 (Ne.symm nFT)
            have d3 := set_at (x := O.lst (S.map stD ++ [D.tup [.str z, .str "total", .tup [.int (((F.map sD).length : Nat) - 1)], .tup []]])) c3
            have P11 := P10.set (o := O.lst (S.map stD ++ [D.tup [.str z, .str "total", .tup [.int (((F.map sD).length : Nat) - 1)], .tup []]])) nTn
            walk_at "ml"
            refine kk (S ++ [((z, "total", [(((F.map sD).length : Nat) : Int) - 1], []) : St)]) (F ++ [(1, 1)]) [(((F.map sD ++ [D.tup [.int 1, .int 1]]).length : Nat) : Int) - 1] _ (G.snoc (.total _ ⟨by omega, by omega⟩)) (by rw [List.length_append, List.length_singleton]; omega) (by simp) (by simp) (P11.set nFn) (at_ne d1 (Ne.symm nVF)) ?_
            rw [List.getElem?_set_ne nFT, d3, List.map_append]
            rfl
          walk_at "ml"
          refine y_eq (fun h => ?_) (fun h => ?_)
          · repeat (first | with_reducible refine add _ _ _ _ _ _ _ PP a1 a2 a3 ?_ | walk_at "ml1")
            intro S2 F2 us2 s3 k1 k2 k3 k4 k5 k6 k7
            repeat (first | with_reducible refine last S2 F2 us2 _ _ _ _ _ _ _ k1 k2 k3 k4 k5 k6 k7 | walk_at "ml1")
          · rw [List.length_map] at h
            walk_at "ml"
            refine draw PP (by decide) (by decide) fun v3 s3 v30 v31 P9 o9 => ?_
            have b1 := (o9.2 _ hV).trans a1
            have b2 := (o9.2 _ nFn).trans a2
            have b3 := (o9.2 _ nTn).trans a3
            walk_at "ml"
            refine y_d (fun h => ?_) (fun h => ?_)
            · repeat (first | with_reducible refine add _ _ _ _ _ _ _ P9 b1 b2 b3 ?_ | walk_at "ml1")
              intro S2 F2 us2 s3 k1 k2 k3 k4 k5 k6 k7
              repeat (first | with_reducible refine last S2 F2 us2 _ _ _ _ _ _ _ k1 k2 k3 k4 k5 k6 k7 | walk_at "ml1")
            · repeat (first | with_reducible refine last S F us _ _ _ _ _ _ _ G (by omega) (by omega) (by omega) P9 b1 b3 | walk_at "ml1")
  refine draw P2 (by decide) (by decide) fun x3 st3 x30 x31 P3 o3 => ?_
  walk_at "ml"
  refine draw P3 (by decide) (by decide) fun x4 st4 x40 x41 P4 o4 => ?_
  walk_at "ml"
  refine y_eq (fun h => ?_) (fun h => ?_)
  · walk_at "ml"
    refine draw P4 (by decide) (by decide) fun x5 st5 x50 x51 P5 o5 => ?_
    repeat (first | with_reducible refine main _ _ ?_ ?_ P5 | walk_at "ml1")
    all_goals omega
  · repeat (first | with_reducible refine main _ _ ?_ ?_ P4 | walk_at "ml1")
    all_goals omega
theorem law_true (ns : List Int) (hn : ns.length ≤ 63) : ∃ st, m_law [.sq (ns.map D.int)] [] = some (.bl true, st) := by
  have h : wp (m_law [.sq (ns.map D.int)] []) fun d _ => d = .bl true := by
    walk_at "run"
    walk_at "ml"
    refine pool_ok fun P0 => ?_
    walk_at "ml"
    refine pick P0 (by decide) (by decide) fun x st1 hx P1 o1 => ?_
    obtain ⟨m, rfl, hm⟩ : ∃ m, x = .int m ∧ 1 ≤ m ∧ m ≤ 22 := by
      simp only [List.mem_cons, List.not_mem_nil, or_false] at hx
      rcases hx with rfl | rfl | rfl <;> exact ⟨_, rfl, by decide, by decide⟩
    walk_at "ml"
    refine program_ok P1 hm fun A1 A2 F S loss st2 G hl hF => ?_
    walk_at "ml"
    refine shapes_ok G hl hF ?_
    walk_at "ml"
    refine lshapes_ok G hl hF fun f st3 hf => ?_
    walk_at "ml"
    refine same_tup (n := 7) (by rw [List.length_map]; omega) (fun d hd Q' kk => ?_) ?_
    · obtain ⟨s, _, rfl⟩ := List.mem_map.mp hd
      exact same_ints (n := 5) (is := [s.1, s.2]) (by simp) kk
    · walk_at "ml"
      rfl
  obtain ⟨d, st, e, rfl⟩ := h
  exact ⟨st, e⟩

structure TX (K : Frag) (mg : PySem.Str → Option Value) (f_step_shape f_shapes f__law_pool f__law_draw f__law_pick f__law_same f__law_name f__law_fits f__law_step_shape f__law_step f__law_program f__law_shapes f_law : Addr) (d_step_shape d_shapes d__law_pool d__law_draw d__law_pick d__law_same d__law_name d__law_fits d__law_step_shape d__law_step d__law_program d__law_shapes d_law : FuncData) : Prop where
  F_step_shape : Fun K "step_shape" "step_shape" s_step_shape f_step_shape d_step_shape
  g_step_shape : mg "step_shape" = some (.ref f_step_shape)
  b_step_shape : Binds K d_step_shape ["kind", "found", "numbers"] []
  F_shapes : Fun K "shapes" "shapes" s_shapes f_shapes d_shapes
  g_shapes : mg "shapes" = some (.ref f_shapes)
  b_shapes : Binds K d_shapes ["program"] []
  F__law_pool : Fun K "_law_pool" "_law_pool" s__law_pool f__law_pool d__law_pool
  g__law_pool : mg "_law_pool" = some (.ref f__law_pool)
  b__law_pool : Binds K d__law_pool ["_law_script"] []
  F__law_draw : Fun K "_law_draw" "_law_draw" s__law_draw f__law_draw d__law_draw
  g__law_draw : mg "_law_draw" = some (.ref f__law_draw)
  b__law_draw : Binds K d__law_draw ["_law_pool_here", "_law_many"] []
  F__law_pick : Fun K "_law_pick" "_law_pick" s__law_pick f__law_pick d__law_pick
  g__law_pick : mg "_law_pick" = some (.ref f__law_pick)
  b__law_pick : Binds K d__law_pick ["_law_pool_here", "_law_rows"] []
  F__law_same : Fun K "_law_same" "_law_same" s__law_same f__law_same d__law_same
  g__law_same : mg "_law_same" = some (.ref f__law_same)
  b__law_same : Binds K d__law_same ["_law_actual", "_law_due"] []
  F__law_name : Fun K "_law_name" "_law_name" s__law_name f__law_name d__law_name
  g__law_name : mg "_law_name" = some (.ref f__law_name)
  b__law_name : Binds K d__law_name ["_law_pool_here", "_law_index"] []
  F__law_fits : Fun K "_law_fits" "_law_fits" s__law_fits f__law_fits d__law_fits
  g__law_fits : mg "_law_fits" = some (.ref f__law_fits)
  b__law_fits : Binds K d__law_fits ["_law_kind", "_law_found", "_law_a", "_law_b"] []
  F__law_step_shape : Fun K "_law_step_shape" "_law_step_shape" s__law_step_shape f__law_step_shape d__law_step_shape
  g__law_step_shape : mg "_law_step_shape" = some (.ref f__law_step_shape)
  b__law_step_shape : Binds K d__law_step_shape ["_law_kind", "_law_found", "_law_values", "_law_numbers"] []
  F__law_step : Fun K "_law_step" "_law_step" s__law_step f__law_step d__law_step
  g__law_step : mg "_law_step" = some (.ref f__law_step)
  b__law_step : Binds K d__law_step ["_law_pool_here", "_law_found", "_law_own", "_law_leaves"] []
  F__law_program : Fun K "_law_program" "_law_program" s__law_program f__law_program d__law_program
  g__law_program : mg "_law_program" = some (.ref f__law_program)
  b__law_program : Binds K d__law_program ["_law_pool_here", "_law_most"] []
  F__law_shapes : Fun K "_law_shapes" "_law_shapes" s__law_shapes f__law_shapes d__law_shapes
  g__law_shapes : mg "_law_shapes" = some (.ref f__law_shapes)
  b__law_shapes : Binds K d__law_shapes ["_law_program_here"] []
  F_law : Fun K "law" "law" s_law f_law d_law
  g_law : mg "law" = some (.ref f_law)
  b_law : Binds K d_law ["_law_script"] []
  n_abs : mg "abs" = none
  n_bool : mg "bool" = none
  n_int : mg "int" = none
  n_isinstance : mg "isinstance" = none
  n_len : mg "len" = none
  n_list : mg "list" = none
  n_min : mg "min" = none
  n_range : mg "range" = none
  n_str : mg "str" = none
  n_tuple : mg "tuple" = none
section
variable {P : Program} {w : World} {K : Frag} {mg : PySem.Str → Option Value} {base : Heap} {f_step_shape f_shapes f__law_pool f__law_draw f__law_pick f__law_same f__law_name f__law_fits f__law_step_shape f__law_step f__law_program f__law_shapes f_law : Addr} {d_step_shape d_shapes d__law_pool d__law_draw d__law_pick d__law_same d__law_name d__law_fits d__law_step_shape d__law_step d__law_program d__law_shapes d_law : FuncData}
theorem ok_step_shape (T : TX K mg f_step_shape f_shapes f__law_pool f__law_draw f__law_pick f__law_same f__law_name f__law_fits f__law_step_shape f__law_step f__law_program f__law_shapes f_law d_step_shape d_shapes d__law_pool d__law_draw d__law_pick d__law_same d__law_name d__law_fits d__law_step_shape d__law_step d__law_program d__law_shapes d_law) : FnOk P w K mg base CX0 1 f_step_shape d_step_shape ["kind", "found", "numbers"] (spF K 3 m_step_shape) := by
  refine (fn_ok (k := 0) T.F_step_shape sc_step_shape fun cdv A outer s H E hr => ?_)
  exact (k_cons (k_if (t_ne hr (c_len rfl T.n_len (a_cons (c_v 1) a_nil)) (c_if (t_in hr (c_v 0) (c_tup (a_cons c_str (a_cons c_str (a_cons c_str (a_cons c_str (a_cons c_str a_nil))))))) c_int c_int))
    (k_one (k_ret c_non))
    k_nil)
    (k_cons (k_set (i := 3) sc_step_shape.nd (c_ix (c_v 1) c_int))
    (k_cons (k_if (t_in hr (c_v 0) (c_tup (a_cons c_str (a_cons c_str (a_cons c_str a_nil)))))
    (k_one (k_ret (c_if (t_eq hr (c_v 3) (c_ix (c_v 1) c_int)) (c_v 3) c_non)))
    k_nil)
    (k_cons (k_if (t_eq hr (c_v 0) c_str)
    (k_one (k_ret (c_if (t_eq hr (c_ix (c_v 3) c_int) (c_ix (c_ix (c_v 1) c_int) c_int)) (c_tup (a_cons (c_ix (c_v 3) c_int) (a_cons (c_ix (c_ix (c_v 1) c_int) c_int) a_nil))) c_non)))
    k_nil)
    (k_cons (k_if (t_eq hr (c_v 0) c_str)
    (k_one (k_ret (c_if (t_eq hr (c_ix (c_ix (c_v 1) c_int) c_int) c_int) (c_tup (a_cons (c_ix (c_ix (c_v 1) c_int) c_int) (a_cons (c_ix (c_v 3) c_int) a_nil))) c_non)))
    k_nil)
    (k_cons (k_if (t_eq hr (c_v 0) c_str)
    (k_one (k_ret (c_tup (a_cons (c_ix (c_v 3) c_int) (a_cons (c_ix (c_v 3) c_int) a_nil)))))
    k_nil)
    (k_cons (k_if (t_eq hr (c_v 0) c_str)
    (k_one (k_ret (c_tup (a_cons c_int (a_cons c_int a_nil)))))
    k_nil)
    (k_cons (k_if (t_eq hr (c_v 0) c_str)
    (k_one (k_ret (c_if (t_eq hr (c_v 3) (c_tup (a_cons c_int (a_cons c_int a_nil)))) (c_tup (a_cons (c_ix (c_v 2) c_int) (a_cons (c_ix (c_v 2) c_int) a_nil))) c_non)))
    k_nil)
    (k_one (k_ret (c_v 3)))))))))))
theorem ok_shapes (T : TX K mg f_step_shape f_shapes f__law_pool f__law_draw f__law_pick f__law_same f__law_name f__law_fits f__law_step_shape f__law_step f__law_program f__law_shapes f_law d_step_shape d_shapes d__law_pool d__law_draw d__law_pick d__law_same d__law_name d__law_fits d__law_step_shape d__law_step d__law_program d__law_shapes d_law) : FnOk P w K mg base CX0 2 f_shapes d_shapes ["program"] (spF K 1 m_shapes) := by
  refine sp_gc (fn_ok (k := 1) T.F_shapes sc_shapes fun cdv A outer s H E hr => ?_)
  exact (k_cons (k_bind (c_v 0) (g_tp (g_cons (g_nm (i := 1) sc_shapes.nd) (g_cons (g_nm (i := 2) sc_shapes.nd) (g_cons (g_nm (i := 3) sc_shapes.nd) (g_cons (g_nm (i := 4) sc_shapes.nd) g_nil))))))
    (k_cons (k_set (i := 5) sc_shapes.nd (c_cmpN (own := [("name", 6), ("rows", 10), ("columns", 11)]) rfl sc_shapes.nd (i_seq (c_add (c_v 1) (c_v 2))) (blkOk_by (own := [("name", 6), ("rows", 10), ("columns", 11)]) (N := N_shapes) (sc := defScope s_shapes) (by decide +kernel)) rfl (fun _ _ _ _ _ => (g_tp (g_cons (g_nm (i := 6) sc_shapes.nd) (g_cons (g_nm (i := 10) sc_shapes.nd) (g_cons (g_nm (i := 11) sc_shapes.nd) g_nil))))) (fun _ _ _ _ _ => l_nil) (fun _ _ _ _ _ => (c_tup (a_cons (c_v 10) (a_cons (c_v 11) a_nil))))))
    (k_cons (k_for PassesOwn.never rfl (i_seq (c_v 3)) (g_tp (g_cons (g_nm (i := 6) sc_shapes.nd) (g_cons (g_nm (i := 7) sc_shapes.nd) (g_cons (g_nm (i := 8) sc_shapes.nd) (g_cons (g_nm (i := 9) sc_shapes.nd) g_nil)))))
    (k_one (k_exp (c_bm PySem.F.plainAttrs_list PySem.F.slot_list_append PySem.F.type_list_append mt_append s_app (c_v 5) (a_cons (c_call (ok_step_shape T) (hr.mono (by decide)) rfl T.g_step_shape T.F_step_shape.kp T.b_step_shape (a_cons (c_v 7) (a_cons (c_cmp_ (own := [("value", 12)]) rfl sc_shapes.nd (i_seq (c_v 8)) (blkOk_by (own := [("value", 12)]) (N := N_shapes) (sc := defScope s_shapes) (by decide +kernel)) rfl (fun _ _ _ _ _ => (g_nm (i := 12) sc_shapes.nd)) (fun _ _ _ _ _ => l_nil) (fun _ _ _ _ _ => (c_ix (c_v 5) (c_v 12)))) (a_cons (c_v 9) a_nil)))) a_nil)))))
    (k_one (k_ret (c_tupc rfl T.n_tuple (a_cons (c_v 5) a_nil)))))))
theorem ok__law_pool (T : TX K mg f_step_shape f_shapes f__law_pool f__law_draw f__law_pick f__law_same f__law_name f__law_fits f__law_step_shape f__law_step f__law_program f__law_shapes f_law d_step_shape d_shapes d__law_pool d__law_draw d__law_pick d__law_same d__law_name d__law_fits d__law_step_shape d__law_step d__law_program d__law_shapes d_law) : FnOk P w K mg base CX0 1 f__law_pool d__law_pool ["_law_script"] (spF K 1 m__law_pool) := by
  refine (fn_ok (k := 0) T.F__law_pool sc__law_pool fun cdv A outer s H E hr => ?_)
  exact (k_one (k_ret (c_new (a_cons (c_listc rfl T.n_list (a_cons (c_v 0) a_nil)) (a_cons c_int (a_cons c_int (a_cons c_int (a_cons c_int a_nil))))))))
theorem ok__law_draw (T : TX K mg f_step_shape f_shapes f__law_pool f__law_draw f__law_pick f__law_same f__law_name f__law_fits f__law_step_shape f__law_step f__law_program f__law_shapes f_law d_step_shape d_shapes d__law_pool d__law_draw d__law_pick d__law_same d__law_name d__law_fits d__law_step_shape d__law_step d__law_program d__law_shapes d_law) : FnOk P w K mg base CX0 1 f__law_draw d__law_draw ["_law_pool_here", "_law_many"] (spF K 2 m__law_draw) := by
  refine (fn_ok (k := 0) T.F__law_draw sc__law_draw fun cdv A outer s H E hr => ?_)
  exact (k_cons (k_if (t_gt (c_ix (c_v 0) c_int) c_int)
    (k_cons (k_set (i := 2) sc__law_draw.nd (c_mod (c_intc rfl T.n_int (a_cons (c_ix (c_v 0) c_int) a_nil)) (c_v 1)))
    (k_cons (k_setIx (c_fdiv (c_ix (c_v 0) c_int) (c_v 1)) (c_v 0) c_int)
    (k_one (k_ret (c_v 2)))))
    k_nil)
    (k_cons (k_if (PW.pt (w_and (t_eq hr (c_mod (c_intc rfl T.n_int (a_cons (c_ix (c_v 0) c_int) a_nil)) c_int) c_int) (w_and1 (t_lt (c_ix (c_v 0) c_int) (c_len rfl T.n_len (a_cons (c_ix (c_v 0) c_int) a_nil))))))
    (k_cons (k_set (i := 3) sc__law_draw.nd (c_abs rfl T.n_abs (a_cons (c_ix (c_ix (c_v 0) c_int) (c_ix (c_v 0) c_int)) a_nil)))
    (k_cons (k_setIx (c_add (c_ix (c_v 0) c_int) c_int) (c_v 0) c_int)
    (k_cons (k_if (t_ge (c_v 3) (c_pow c_int c_int))
    (k_cons (k_setIx (c_fdiv (c_v 3) (c_v 1)) (c_v 0) c_int)
    (k_one (k_ret (c_mod (c_intc rfl T.n_int (a_cons (c_v 3) a_nil)) (c_v 1)))))
    k_nil)
    (k_one (k_setIx (c_v 3) (c_v 0) c_int)))))
    k_nil)
    (k_cons (k_setIx (c_add (c_ix (c_v 0) c_int) c_int) (c_v 0) c_int)
    (k_cons (k_set (i := 4) sc__law_draw.nd (c_mod (c_intc rfl T.n_int (a_cons (c_add (c_add (c_mul (c_ix (c_v 0) c_int) c_int) (c_mul (c_ix (c_v 0) c_int) c_int)) c_int) a_nil)) c_int))
    (k_cons (k_set (i := 4) sc__law_draw.nd (c_mod (c_intc rfl T.n_int (a_cons (c_add (c_mul (c_v 4) (c_v 4)) (c_mul (c_ix (c_v 0) c_int) c_int)) a_nil)) c_int))
    (k_one (k_ret (c_mod (c_intc rfl T.n_int (a_cons (c_v 4) a_nil)) (c_v 1)))))))))
theorem ok__law_pick (T : TX K mg f_step_shape f_shapes f__law_pool f__law_draw f__law_pick f__law_same f__law_name f__law_fits f__law_step_shape f__law_step f__law_program f__law_shapes f_law d_step_shape d_shapes d__law_pool d__law_draw d__law_pick d__law_same d__law_name d__law_fits d__law_step_shape d__law_step d__law_program d__law_shapes d_law) : FnOk P w K mg base CX0 2 f__law_pick d__law_pick ["_law_pool_here", "_law_rows"] (spF K 2 m__law_pick) := by
  refine (fn_ok (k := 1) T.F__law_pick sc__law_pick fun cdv A outer s H E hr => ?_)
  exact (k_one (k_ret (c_ix (c_v 1) (c_call (ok__law_draw T) (hr.mono (by decide)) rfl T.g__law_draw T.F__law_draw.kp T.b__law_draw (a_cons (c_v 0) (a_cons (c_len rfl T.n_len (a_cons (c_v 1) a_nil)) a_nil))))))
theorem ok__law_same (T : TX K mg f_step_shape f_shapes f__law_pool f__law_draw f__law_pick f__law_same f__law_name f__law_fits f__law_step_shape f__law_step f__law_program f__law_shapes f_law d_step_shape d_shapes d__law_pool d__law_draw d__law_pick d__law_same d__law_name d__law_fits d__law_step_shape d__law_step d__law_program d__law_shapes d_law) : ∀ n : Nat, FnOk P w K mg base CX0 (n + 0) f__law_same d__law_same ["_law_actual", "_law_due"] (spF K 2 (m__law_same n))
  | 0 => ⟨fun vs H Q E h => h.1, fun A outer s H args us vs Q E hr he hb hv hs => by
    obtain ⟨_, _, _, _, _, _, _, _, _, hf, _⟩ := hs
    cases hf⟩
  | n + 1 => by
    have IH := ok__law_same T n
    show FnOk P w K mg base CX0 ((n + 0) + 1) _ _ _ _
    refine (fn_ok (k := n + 0) T.F__law_same sc__law_same fun cdv A outer s H E hr => ?_)
    exact (k_cons (k_if (t_tru (c_isi rfl T.n_isinstance (a_cons (c_v 1) (a_cons (c_bty rfl T.n_tuple (by decide +kernel)) a_nil))))
    (k_cons (k_if (PW.pt (w_or (t_not (t_tru (c_isi rfl T.n_isinstance (a_cons (c_v 0) (a_cons (c_bty rfl T.n_tuple (by decide +kernel)) a_nil))))) (w_or1 (t_ne hr (c_len rfl T.n_len (a_cons (c_v 0) a_nil)) (c_len rfl T.n_len (a_cons (c_v 1) a_nil))))))
    (k_one (k_ret c_bl))
    k_nil)
    (k_one (k_ret (c_eq hr (c_len rfl T.n_len (a_cons (c_cmp_ (own := [("_law_k", 2)]) rfl sc__law_same.nd (i_rng1 rfl T.n_range (a_cons (c_len rfl T.n_len (a_cons (c_v 1) a_nil)) a_nil)) (blkOk_by (own := [("_law_k", 2)]) (N := N__law_same) (sc := defScope s__law_same) (by decide +kernel)) rfl (fun _ _ _ _ _ => (g_nm (i := 2) sc__law_same.nd)) (fun _ _ _ _ _ => (l_one (t_not (t_tru (c_call IH (hr.mono (by omega)) rfl T.g__law_same T.F__law_same.kp T.b__law_same (a_cons (c_ix (c_v 0) (c_v 2)) (a_cons (c_ix (c_v 1) (c_v 2)) a_nil))))))) (fun _ _ _ _ _ => (c_v 2))) a_nil)) c_int))))
    k_nil)
    (k_cons (k_if (t_isN (c_v 1) c_non)
    (k_one (k_ret (c_isN (c_v 0) c_non)))
    k_nil)
    (k_cons (k_if (t_tru (c_isi rfl T.n_isinstance (a_cons (c_v 1) (a_cons (c_bty rfl T.n_str (by decide +kernel)) a_nil))))
    (k_one (k_ret (c_and (c_isi rfl T.n_isinstance (a_cons (c_v 0) (a_cons (c_bty rfl T.n_str (by decide +kernel)) a_nil))) (c_one (c_eq hr (c_v 0) (c_v 1))))))
    k_nil)
    (k_one (k_ret (c_and (c_isi rfl T.n_isinstance (a_cons (c_v 0) (a_cons (c_bty rfl T.n_int (by decide +kernel)) a_nil))) (c_and (c_not (c_isi rfl T.n_isinstance (a_cons (c_v 0) (a_cons (c_bty rfl T.n_bool (by decide +kernel)) a_nil)))) (c_one (c_eq hr (c_v 0) (c_v 1))))))))))
theorem ok__law_name (T : TX K mg f_step_shape f_shapes f__law_pool f__law_draw f__law_pick f__law_same f__law_name f__law_fits f__law_step_shape f__law_step f__law_program f__law_shapes f_law d_step_shape d_shapes d__law_pool d__law_draw d__law_pick d__law_same d__law_name d__law_fits d__law_step_shape d__law_step d__law_program d__law_shapes d_law) : FnOk P w K mg base CX0 2 f__law_name d__law_name ["_law_pool_here", "_law_index"] (spF K 2 m__law_name) := by
  refine (fn_ok (k := 1) T.F__law_name sc__law_name fun cdv A outer s H E hr => ?_)
  exact (k_cons (k_set (i := 2) sc__law_name.nd (c_ix (c_lst (a_cons c_str (a_cons c_str (a_cons c_str (a_cons c_str (a_cons c_str a_nil)))))) (c_call (ok__law_draw T) (hr.mono (by decide)) rfl T.g__law_draw T.F__law_draw.kp T.b__law_draw (a_cons (c_v 0) (a_cons c_int a_nil)))))
    (k_one (k_ret (c_add (c_add (c_ix c_str (c_call (ok__law_draw T) (hr.mono (by decide)) rfl T.g__law_draw T.F__law_draw.kp T.b__law_draw (a_cons (c_v 0) (a_cons c_int a_nil)))) (c_strc rfl T.n_str (a_cons (c_v 1) a_nil))) (c_v 2)))))
theorem ok__law_fits (T : TX K mg f_step_shape f_shapes f__law_pool f__law_draw f__law_pick f__law_same f__law_name f__law_fits f__law_step_shape f__law_step f__law_program f__law_shapes f_law d_step_shape d_shapes d__law_pool d__law_draw d__law_pick d__law_same d__law_name d__law_fits d__law_step_shape d__law_step d__law_program d__law_shapes d_law) : FnOk P w K mg base CX0 1 f__law_fits d__law_fits ["_law_kind", "_law_found", "_law_a", "_law_b"] (spF K 4 m__law_fits) := by
  refine (fn_ok (k := 0) T.F__law_fits sc__law_fits fun cdv A outer s H E hr => ?_)
  exact (k_cons (k_if (t_in hr (c_v 0) (c_tup (a_cons c_str (a_cons c_str (a_cons c_str a_nil)))))
    (k_one (k_ret (c_eq hr (c_ix (c_v 1) (c_v 2)) (c_ix (c_v 1) (c_v 3)))))
    k_nil)
    (k_cons (k_if (t_eq hr (c_v 0) c_str)
    (k_one (k_ret (c_eq hr (c_ix (c_ix (c_v 1) (c_v 2)) c_int) (c_ix (c_ix (c_v 1) (c_v 3)) c_int))))
    k_nil)
    (k_one (k_ret (c_eq hr (c_ix (c_ix (c_v 1) (c_v 3)) c_int) c_int)))))
theorem ok__law_step_shape (T : TX K mg f_step_shape f_shapes f__law_pool f__law_draw f__law_pick f__law_same f__law_name f__law_fits f__law_step_shape f__law_step f__law_program f__law_shapes f_law d_step_shape d_shapes d__law_pool d__law_draw d__law_pick d__law_same d__law_name d__law_fits d__law_step_shape d__law_step d__law_program d__law_shapes d_law) : FnOk P w K mg base CX0 1 f__law_step_shape d__law_step_shape ["_law_kind", "_law_found", "_law_values", "_law_numbers"] (spF K 4 m__law_step_shape) := by
  refine (fn_ok (k := 0) T.F__law_step_shape sc__law_step_shape fun cdv A outer s H E hr => ?_)
  exact (k_cons (k_set (i := 4) sc__law_step_shape.nd (c_ix (c_v 1) (c_ix (c_v 2) c_int)))
    (k_cons (k_if (t_eq hr (c_v 0) c_str)
    (k_one (k_ret (c_tup (a_cons (c_ix (c_v 4) c_int) (a_cons (c_ix (c_ix (c_v 1) (c_ix (c_v 2) c_int)) c_int) a_nil)))))
    k_nil)
    (k_cons (k_if (t_eq hr (c_v 0) c_str)
    (k_one (k_ret (c_tup (a_cons (c_ix (c_ix (c_v 1) (c_ix (c_v 2) c_int)) c_int) (a_cons (c_ix (c_v 4) c_int) a_nil)))))
    k_nil)
    (k_cons (k_if (t_eq hr (c_v 0) c_str)
    (k_one (k_ret (c_tup (a_cons (c_ix (c_v 4) c_int) (a_cons (c_ix (c_v 4) c_int) a_nil)))))
    k_nil)
    (k_cons (k_if (t_eq hr (c_v 0) c_str)
    (k_one (k_ret (c_tup (a_cons c_int (a_cons c_int a_nil)))))
    k_nil)
    (k_cons (k_if (t_eq hr (c_v 0) c_str)
    (k_one (k_ret (c_v 3)))
    k_nil)
    (k_one (k_ret (c_v 4)))))))))
theorem ok__law_step (T : TX K mg f_step_shape f_shapes f__law_pool f__law_draw f__law_pick f__law_same f__law_name f__law_fits f__law_step_shape f__law_step f__law_program f__law_shapes f_law d_step_shape d_shapes d__law_pool d__law_draw d__law_pick d__law_same d__law_name d__law_fits d__law_step_shape d__law_step d__law_program d__law_shapes d_law) : FnOk P w K mg base CX0 3 f__law_step d__law_step ["_law_pool_here", "_law_found", "_law_own", "_law_leaves"] (spF K 4 m__law_step) := by
  refine (fn_ok (k := 2) T.F__law_step sc__law_step fun cdv A outer s H E hr => ?_)
  exact (k_cons (k_set (i := 4) sc__law_step.nd (c_lst (a_cons c_str (a_cons c_str (a_cons c_str (a_cons c_str (a_cons c_str (a_cons c_str (a_cons c_str (a_cons c_str (a_cons c_str (a_cons c_str (a_cons c_str a_nil)))))))))))))
    (k_cons (k_set (i := 5) sc__law_step.nd (c_call (ok__law_pick T) (hr.mono (by decide)) rfl T.g__law_pick T.F__law_pick.kp T.b__law_pick (a_cons (c_v 0) (a_cons (c_v 4) a_nil))))
    (k_cons (k_set (i := 6) sc__law_step.nd (c_len rfl T.n_len (a_cons (c_v 1) a_nil)))
    (k_cons (k_if (t_in hr (c_v 5) (c_tup (a_cons c_str (a_cons c_str (a_cons c_str (a_cons c_str (a_cons c_str a_nil)))))))
    (k_cons (k_set (i := 7) sc__law_step.nd (c_new a_nil))
    (k_cons (k_for PassesOwn.never rfl (i_rng1 rfl T.n_range (a_cons (c_v 6) a_nil)) (g_nm (i := 8) sc__law_step.nd)
    (k_cons (k_set (i := 9) sc__law_step.nd (c_if (t_eq hr (c_v 5) c_str) (c_v 2) c_int))
    (k_cons (k_set (i := 10) sc__law_step.nd (c_if (t_eq hr (c_v 5) c_str) (c_v 3) (c_v 6)))
    (k_one (k_exp (c_bm PySem.F.plainAttrs_list PySem.F.slot_list_extend PySem.F.type_list_extend mt_extend s_ext (c_v 7) (a_cons (c_cmp_ (own := [("_law_b", 13)]) rfl sc__law_step.nd (i_rng2 rfl T.n_range (a_cons (c_v 9) (a_cons (c_v 10) a_nil))) (blkOk_by (own := [("_law_b", 13)]) (N := N__law_step) (sc := defScope s__law_step) (by decide +kernel)) rfl (fun _ _ _ _ _ => (g_nm (i := 13) sc__law_step.nd)) (fun _ _ _ _ _ => (l_one (t_tru (c_call (ok__law_fits T) (hr.mono (by decide)) rfl T.g__law_fits T.F__law_fits.kp T.b__law_fits (a_cons (c_v 5) (a_cons (c_v 1) (a_cons (c_v 8) (a_cons (c_v 13) a_nil)))))))) (fun _ _ _ _ _ => (c_tup (a_cons (c_v 8) (a_cons (c_v 13) a_nil))))) a_nil)))))))
    (k_cons (k_if (t_gt (c_len rfl T.n_len (a_cons (c_v 7) a_nil)) c_int)
    (k_one (k_ret (c_tup (a_cons (c_v 5) (a_cons (c_call (ok__law_pick T) (hr.mono (by decide)) rfl T.g__law_pick T.F__law_pick.kp T.b__law_pick (a_cons (c_v 0) (a_cons (c_sl (c_v 7) (o_some (c_fdiv (c_len rfl T.n_len (a_cons (c_v 7) a_nil)) c_int)) o_none) a_nil))) (a_cons (c_tup a_nil) a_nil))))))
    k_nil)
    (k_one (k_set (i := 5) sc__law_step.nd c_str)))))
    k_nil)
    (k_cons (k_if (t_eq hr (c_v 5) c_str)
    (k_cons (k_setC (i := 11) (own := [("_law_a", 8)]) rfl sc__law_step.nd (fun _ _ _ h => goCmp (by decide) h) (i_rng1 rfl T.n_range (a_cons (c_v 6) a_nil)) (blkOk_by (own := [("_law_a", 8)]) (N := N__law_step) (sc := defScope s__law_step) (by decide +kernel)) (fun _ _ _ _ _ => (g_nm (i := 8) sc__law_step.nd)) (fun _ _ _ _ _ => (l_one (t_eq hr (c_ix (c_v 1) (c_v 8)) (c_tup (a_cons c_int (a_cons c_int a_nil)))))) (fun _ _ _ _ _ => (c_v 8)) (sw_true rfl rfl rfl (by decide +kernel)))
    (k_cons (k_if (t_gt (c_len rfl T.n_len (a_cons (c_v 11) a_nil)) c_int)
    (k_one (k_ret (c_tup (a_cons (c_v 5) (a_cons (c_tup (a_cons (c_call (ok__law_pick T) (hr.mono (by decide)) rfl T.g__law_pick T.F__law_pick.kp T.b__law_pick (a_cons (c_v 0) (a_cons (c_v 11) a_nil))) a_nil)) (a_cons (c_tup (a_cons (c_add c_int (c_call (ok__law_draw T) (hr.mono (by decide)) rfl T.g__law_draw T.F__law_draw.kp T.b__law_draw (a_cons (c_v 0) (a_cons c_int a_nil)))) (a_cons (c_add c_int (c_call (ok__law_draw T) (hr.mono (by decide)) rfl T.g__law_draw T.F__law_draw.kp T.b__law_draw (a_cons (c_v 0) (a_cons c_int a_nil)))) a_nil))) a_nil))))))
    k_nil)
    (k_one (k_set (i := 5) sc__law_step.nd c_str))))
    k_nil)
    (k_cons (k_set (i := 12) sc__law_step.nd (c_sub (c_sub (c_v 6) c_int) (c_call (ok__law_draw T) (hr.mono (by decide)) rfl T.g__law_draw T.F__law_draw.kp T.b__law_draw (a_cons (c_v 0) (a_cons (c_min2 rfl rfl T.n_min (a_cons (c_v 6) (a_cons c_int a_nil))) a_nil)))))
    (k_cons (k_if (t_eq hr (c_v 5) c_str)
    (k_one (k_ret (c_tup (a_cons (c_v 5) (a_cons (c_tup (a_cons (c_v 12) a_nil)) (a_cons (c_tup (a_cons (c_call (ok__law_pick T) (hr.mono (by decide)) rfl T.g__law_pick T.F__law_pick.kp T.b__law_pick (a_cons (c_v 0) (a_cons (c_lst (a_cons (c_neg c_int) (a_cons (c_neg c_int) (a_cons c_int (a_cons c_int (a_cons c_int (a_cons (c_sub (c_call (ok__law_draw T) (hr.mono (by decide)) rfl T.g__law_draw T.F__law_draw.kp T.b__law_draw (a_cons (c_v 0) (a_cons c_int a_nil))) c_int) a_nil))))))) a_nil))) a_nil)) a_nil))))))
    k_nil)
    (k_one (k_ret (c_tup (a_cons (c_v 5) (a_cons (c_tup (a_cons (c_v 12) a_nil)) (a_cons (c_tup a_nil) a_nil)))))))))))))
theorem ok__law_program (T : TX K mg f_step_shape f_shapes f__law_pool f__law_draw f__law_pick f__law_same f__law_name f__law_fits f__law_step_shape f__law_step f__law_program f__law_shapes f_law d_step_shape d_shapes d__law_pool d__law_draw d__law_pick d__law_same d__law_name d__law_fits d__law_step_shape d__law_step d__law_program d__law_shapes d_law) : FnOk P w K mg base CX0 4 f__law_program d__law_program ["_law_pool_here", "_law_most"] (spF K 2 m__law_program) := by
  refine (fn_ok (k := 3) T.F__law_program sc__law_program fun cdv A outer s H E hr => ?_)
  exact (k_cons (k_set (i := 2) sc__law_program.nd (c_lst (a_cons c_int (a_cons (c_add c_int (c_call (ok__law_draw T) (hr.mono (by decide)) rfl T.g__law_draw T.F__law_draw.kp T.b__law_draw (a_cons (c_v 0) (a_cons c_int a_nil)))) (a_cons (c_add c_int (c_call (ok__law_draw T) (hr.mono (by decide)) rfl T.g__law_draw T.F__law_draw.kp T.b__law_draw (a_cons (c_v 0) (a_cons c_int a_nil)))) a_nil)))))
    (k_cons (k_set (i := 3) sc__law_program.nd (c_add c_int (c_call (ok__law_draw T) (hr.mono (by decide)) rfl T.g__law_draw T.F__law_draw.kp T.b__law_draw (a_cons (c_v 0) (a_cons c_int a_nil)))))
    (k_cons (k_if (t_eq hr (c_call (ok__law_draw T) (hr.mono (by decide)) rfl T.g__law_draw T.F__law_draw.kp T.b__law_draw (a_cons (c_v 0) (a_cons c_int a_nil))) c_int)
    (k_one (k_set (i := 3) sc__law_program.nd (c_add c_int (c_call (ok__law_draw T) (hr.mono (by decide)) rfl T.g__law_draw T.F__law_draw.kp T.b__law_draw (a_cons (c_v 0) (a_cons c_int a_nil))))))
    k_nil)
    (k_cons (k_set (i := 4) sc__law_program.nd (c_add (c_v 3) (c_call (ok__law_draw T) (hr.mono (by decide)) rfl T.g__law_draw T.F__law_draw.kp T.b__law_draw (a_cons (c_v 0) (a_cons c_int a_nil)))))
    (k_cons (k_set (i := 5) sc__law_program.nd (c_new a_nil))
    (k_cons (k_for PassesOwn.never rfl (i_rng1 rfl T.n_range (a_cons (c_v 4) a_nil)) (g_nm (i := 6) sc__law_program.nd)
    (k_cons (k_set (i := 7) sc__law_program.nd (c_call (ok__law_pick T) (hr.mono (by decide)) rfl T.g__law_pick T.F__law_pick.kp T.b__law_pick (a_cons (c_v 0) (a_cons (c_v 2) a_nil))))
    (k_cons (k_if (PW.pt (w_and (t_ge (c_v 6) (c_v 3)) (w_and1 (t_eq hr (c_call (ok__law_draw T) (hr.mono (by decide)) rfl T.g__law_draw T.F__law_draw.kp T.b__law_draw (a_cons (c_v 0) (a_cons c_int a_nil))) c_int))))
    (k_one (k_set (i := 7) sc__law_program.nd c_int))
    k_nil)
    (k_one (k_exp (c_bm PySem.F.plainAttrs_list PySem.F.slot_list_append PySem.F.type_list_append mt_append s_app (c_v 5) (a_cons (c_tup (a_cons (c_call (ok__law_name T) (hr.mono (by decide)) rfl T.g__law_name T.F__law_name.kp T.b__law_name (a_cons (c_v 0) (a_cons (c_v 6) a_nil))) (a_cons (c_call (ok__law_pick T) (hr.mono (by decide)) rfl T.g__law_pick T.F__law_pick.kp T.b__law_pick (a_cons (c_v 0) (a_cons (c_v 2) a_nil))) (a_cons (c_v 7) a_nil)))) a_nil)))))))
    (k_cons (k_set (i := 8) sc__law_program.nd (c_cmpN (own := [("_law_value", 15)]) rfl sc__law_program.nd (i_seq (c_v 5)) (blkOk_by (own := [("_law_value", 15)]) (N := N__law_program) (sc := defScope s__law_program) (by decide +kernel)) rfl (fun _ _ _ _ _ => (g_nm (i := 15) sc__law_program.nd)) (fun _ _ _ _ _ => l_nil) (fun _ _ _ _ _ => (c_sl (c_v 15) (o_some c_int) o_none))))
    (k_cons (k_set (i := 9) sc__law_program.nd (c_new a_nil))
    (k_cons (k_for PassesOwn.never rfl (i_rng1 rfl T.n_range (a_cons (c_call (ok__law_draw T) (hr.mono (by decide)) rfl T.g__law_draw T.F__law_draw.kp T.b__law_draw (a_cons (c_v 0) (a_cons (c_add (c_min2 rfl rfl T.n_min (a_cons (c_v 1) (a_cons (c_sub c_int (c_v 4)) a_nil))) c_int) a_nil))) a_nil)) (g_nm (i := 6) sc__law_program.nd)
    (k_cons (k_bind (c_call (ok__law_step T) (hr.mono (by decide)) rfl T.g__law_step T.F__law_step.kp T.b__law_step (a_cons (c_v 0) (a_cons (c_v 8) (a_cons (c_v 3) (a_cons (c_v 4) a_nil))))) (g_tp (g_cons (g_nm (i := 10) sc__law_program.nd) (g_cons (g_nm (i := 11) sc__law_program.nd) (g_cons (g_nm (i := 12) sc__law_program.nd) g_nil)))))
    (k_cons (k_exp (c_bm PySem.F.plainAttrs_list PySem.F.slot_list_append PySem.F.type_list_append mt_append s_app (c_v 9) (a_cons (c_tup (a_cons (c_call (ok__law_name T) (hr.mono (by decide)) rfl T.g__law_name T.F__law_name.kp T.b__law_name (a_cons (c_v 0) (a_cons (c_add (c_v 4) (c_v 6)) a_nil))) (a_cons (c_v 10) (a_cons (c_v 11) (a_cons (c_v 12) a_nil))))) a_nil)))
    (k_one (k_exp (c_bm PySem.F.plainAttrs_list PySem.F.slot_list_append PySem.F.type_list_append mt_append s_app (c_v 8) (a_cons (c_call (ok__law_step_shape T) (hr.mono (by decide)) rfl T.g__law_step_shape T.F__law_step_shape.kp T.b__law_step_shape (a_cons (c_v 10) (a_cons (c_v 8) (a_cons (c_v 11) (a_cons (c_v 12) a_nil))))) a_nil)))))))
    (k_cons (k_setC (i := 13) (own := [("_law_k", 6)]) rfl sc__law_program.nd (fun _ _ _ h => goCmp (by decide) h) (i_rng1 rfl T.n_range (a_cons (c_len rfl T.n_len (a_cons (c_v 8) a_nil)) a_nil)) (blkOk_by (own := [("_law_k", 6)]) (N := N__law_program) (sc := defScope s__law_program) (by decide +kernel)) (fun _ _ _ _ _ => (g_nm (i := 6) sc__law_program.nd)) (fun _ _ _ _ _ => (l_one (t_eq hr (c_ix (c_v 8) (c_v 6)) (c_tup (a_cons c_int (a_cons c_int a_nil)))))) (fun _ _ _ _ _ => (c_v 6)) (sw_true rfl rfl rfl (by decide +kernel)))
    (k_cons (k_if (PW.pt (w_or (t_eq hr (c_len rfl T.n_len (a_cons (c_v 13) a_nil)) c_int) (w_or1 (t_gt (c_call (ok__law_draw T) (hr.mono (by decide)) rfl T.g__law_draw T.F__law_draw.kp T.b__law_draw (a_cons (c_v 0) (a_cons c_int a_nil))) c_int))))
    (k_cons (k_exp (c_bm PySem.F.plainAttrs_list PySem.F.slot_list_append PySem.F.type_list_append mt_append s_app (c_v 9) (a_cons (c_tup (a_cons (c_call (ok__law_name T) (hr.mono (by decide)) rfl T.g__law_name T.F__law_name.kp T.b__law_name (a_cons (c_v 0) (a_cons (c_len rfl T.n_len (a_cons (c_v 8) a_nil)) a_nil))) (a_cons c_str (a_cons (c_tup (a_cons (c_sub (c_len rfl T.n_len (a_cons (c_v 8) a_nil)) c_int) a_nil)) (a_cons (c_tup a_nil) a_nil))))) a_nil)))
    (k_cons (k_exp (c_bm PySem.F.plainAttrs_list PySem.F.slot_list_append PySem.F.type_list_append mt_append s_app (c_v 8) (a_cons (c_tup (a_cons c_int (a_cons c_int a_nil))) a_nil)))
    (k_one (k_set (i := 13) sc__law_program.nd (c_lst (a_cons (c_sub (c_len rfl T.n_len (a_cons (c_v 8) a_nil)) c_int) a_nil))))))
    k_nil)
    (k_cons (k_set (i := 14) sc__law_program.nd (c_ix (c_v 13) (c_sub (c_len rfl T.n_len (a_cons (c_v 13) a_nil)) c_int)))
    (k_cons (k_if (t_eq hr (c_call (ok__law_draw T) (hr.mono (by decide)) rfl T.g__law_draw T.F__law_draw.kp T.b__law_draw (a_cons (c_v 0) (a_cons c_int a_nil))) c_int)
    (k_one (k_set (i := 14) sc__law_program.nd (c_call (ok__law_pick T) (hr.mono (by decide)) rfl T.g__law_pick T.F__law_pick.kp T.b__law_pick (a_cons (c_v 0) (a_cons (c_v 13) a_nil)))))
    k_nil)
    (k_one (k_ret (c_tup (a_cons (c_tupc rfl T.n_tuple (a_cons (c_sl (c_v 5) o_none (o_some (c_v 3))) a_nil)) (a_cons (c_tupc rfl T.n_tuple (a_cons (c_sl (c_v 5) (o_some (c_v 3)) o_none) a_nil)) (a_cons (c_tupc rfl T.n_tuple (a_cons (c_v 9) a_nil)) (a_cons (c_v 14) a_nil))))))))))))))))))))
theorem ok__law_shapes (T : TX K mg f_step_shape f_shapes f__law_pool f__law_draw f__law_pick f__law_same f__law_name f__law_fits f__law_step_shape f__law_step f__law_program f__law_shapes f_law d_step_shape d_shapes d__law_pool d__law_draw d__law_pick d__law_same d__law_name d__law_fits d__law_step_shape d__law_step d__law_program d__law_shapes d_law) : FnOk P w K mg base CX0 2 f__law_shapes d__law_shapes ["_law_program_here"] (spF K 1 m__law_shapes) := by
  refine (fn_ok (k := 1) T.F__law_shapes sc__law_shapes fun cdv A outer s H E hr => ?_)
  exact (k_cons (k_setC (i := 1) (own := [("_law_value", 3)]) rfl sc__law_shapes.nd (fun _ _ _ h => goCmpN (by decide) h) (i_seq (c_add (c_ix (c_v 0) c_int) (c_ix (c_v 0) c_int))) (blkOk_by (own := [("_law_value", 3)]) (N := N__law_shapes) (sc := defScope s__law_shapes) (by decide +kernel)) (fun _ _ _ _ _ => (g_nm (i := 3) sc__law_shapes.nd)) (fun _ _ _ _ _ => l_nil) (fun _ _ _ _ _ => (c_sl (c_v 3) (o_some c_int) o_none)) (sw_true rfl rfl rfl (by decide +kernel)))
    (k_cons (k_for PassesOwn.never rfl (i_seq (c_ix (c_v 0) c_int)) (g_nm (i := 2) sc__law_shapes.nd)
    (k_one (k_exp (c_bm PySem.F.plainAttrs_list PySem.F.slot_list_append PySem.F.type_list_append mt_append s_app (c_v 1) (a_cons (c_call (ok__law_step_shape T) (hr.mono (by decide)) rfl T.g__law_step_shape T.F__law_step_shape.kp T.b__law_step_shape (a_cons (c_ix (c_v 2) c_int) (a_cons (c_v 1) (a_cons (c_ix (c_v 2) c_int) (a_cons (c_ix (c_v 2) c_int) a_nil))))) a_nil)))))
    (k_one (k_ret (c_v 1)))))
theorem ok_law (T : TX K mg f_step_shape f_shapes f__law_pool f__law_draw f__law_pick f__law_same f__law_name f__law_fits f__law_step_shape f__law_step f__law_program f__law_shapes f_law d_step_shape d_shapes d__law_pool d__law_draw d__law_pick d__law_same d__law_name d__law_fits d__law_step_shape d__law_step d__law_program d__law_shapes d_law) : FnOk P w K mg base CX0 9 f_law d_law ["_law_script"] (spF K 1 m_law) := by
  refine (fn_ok (k := 8) T.F_law sc_law fun cdv A outer s H E hr => ?_)
  exact (k_cons (k_set (i := 1) sc_law.nd (c_call (ok__law_pool T) (hr.mono (by decide)) rfl T.g__law_pool T.F__law_pool.kp T.b__law_pool (a_cons (c_v 0) a_nil)))
    (k_cons (k_set (i := 2) sc_law.nd (c_call (ok__law_program T) (hr.mono (by decide)) rfl T.g__law_program T.F__law_program.kp T.b__law_program (a_cons (c_v 1) (a_cons (c_call (ok__law_pick T) (hr.mono (by decide)) rfl T.g__law_pick T.F__law_pick.kp T.b__law_pick (a_cons (c_v 1) (a_cons (c_lst (a_cons c_int (a_cons c_int (a_cons c_int a_nil)))) a_nil))) a_nil))))
    (k_one (k_ret (c_call (ok__law_same T 8) (hr.mono (by decide)) rfl T.g__law_same T.F__law_same.kp T.b__law_same (a_cons (c_call (ok_shapes T) (hr.mono (by decide)) rfl T.g_shapes T.F_shapes.kp T.b_shapes (a_cons (c_v 2) a_nil)) (a_cons (c_tupc rfl T.n_tuple (a_cons (c_call (ok__law_shapes T) (hr.mono (by decide)) rfl T.g__law_shapes T.F__law_shapes.kp T.b__law_shapes (a_cons (c_v 2) a_nil)) a_nil)) a_nil)))))))
end
theorem all_mk {l : PySem.W.OpenLaw} {w : World} {K : Frag} {h : Heap} {mg : PySem.Str → Option Value} {fa f_step_shape f_shapes f__law_pool f__law_draw f__law_pick f__law_same f__law_name f__law_fits f__law_step_shape f__law_step f__law_program f__law_shapes f_law : Addr} (X : K.In h) (G : h.Ns mainGlobals mg) (hfa : mg "law" = some (.ref fa))
    {od0 an0 od1 an1 od2 an2 od3 an3 od4 an4 od5 an5 od6 an6 od7 an7 od8 an8 od9 an9 od10 an10 od11 an11 od12 an12 : Option Addr} {sl0 sl1 sl2 sl3 sl4 sl5 sl6 sl7 sl8 sl9 sl10 sl11 sl12 : Array (Option Value)} {oc0 kV0 dc0 pm0 cd0 ct0 oc1 kV1 dc1 pm1 cd1 ct1 oc2 kV2 dc2 pm2 cd2 ct2 oc3 kV3 dc3 pm3 cd3 ct3 oc4 kV4 dc4 pm4 cd4 ct4 oc5 kV5 dc5 pm5 cd5 ct5 oc6 kV6 dc6 pm6 cd6 ct6 oc7 kV7 dc7 pm7 cd7 ct7 oc8 kV8 dc8 pm8 cd8 ct8 oc9 kV9 dc9 pm9 cd9 ct9 oc10 kV10 dc10 pm10 cd10 ct10 oc11 kV11 dc11 pm11 cd11 ct11 oc12 kV12 dc12 pm12 cd12 ct12 : Value}
    (a0 : PySem.W.nsIn K mainGlobals "step_shape" = some (some (.ref f_step_shape))) (l0 : K.lookup f_step_shape = some ⟨oc0, od0, .func (PySem.W.fnOf "step_shape" "step_shape" (defArgs s_step_shape) (defBody s_step_shape) (defScope s_step_shape) .none kV0 dc0 pm0 an0 cd0 ct0), sl0⟩) (c0 : PySem.W.codeIn K cd0 "step_shape" = true) (k0 : PySem.W.keepIn K (.ref f_step_shape) = true)
    (a1 : PySem.W.nsIn K mainGlobals "shapes" = some (some (.ref f_shapes))) (l1 : K.lookup f_shapes = some ⟨oc1, od1, .func (PySem.W.fnOf "shapes" "shapes" (defArgs s_shapes) (defBody s_shapes) (defScope s_shapes) .none kV1 dc1 pm1 an1 cd1 ct1), sl1⟩) (c1 : PySem.W.codeIn K cd1 "shapes" = true) (k1 : PySem.W.keepIn K (.ref f_shapes) = true)
    (a2 : PySem.W.nsIn K mainGlobals "_law_pool" = some (some (.ref f__law_pool))) (l2 : K.lookup f__law_pool = some ⟨oc2, od2, .func (PySem.W.fnOf "_law_pool" "_law_pool" (defArgs s__law_pool) (defBody s__law_pool) (defScope s__law_pool) .none kV2 dc2 pm2 an2 cd2 ct2), sl2⟩) (c2 : PySem.W.codeIn K cd2 "_law_pool" = true) (k2 : PySem.W.keepIn K (.ref f__law_pool) = true)
    (a3 : PySem.W.nsIn K mainGlobals "_law_draw" = some (some (.ref f__law_draw))) (l3 : K.lookup f__law_draw = some ⟨oc3, od3, .func (PySem.W.fnOf "_law_draw" "_law_draw" (defArgs s__law_draw) (defBody s__law_draw) (defScope s__law_draw) .none kV3 dc3 pm3 an3 cd3 ct3), sl3⟩) (c3 : PySem.W.codeIn K cd3 "_law_draw" = true) (k3 : PySem.W.keepIn K (.ref f__law_draw) = true)
    (a4 : PySem.W.nsIn K mainGlobals "_law_pick" = some (some (.ref f__law_pick))) (l4 : K.lookup f__law_pick = some ⟨oc4, od4, .func (PySem.W.fnOf "_law_pick" "_law_pick" (defArgs s__law_pick) (defBody s__law_pick) (defScope s__law_pick) .none kV4 dc4 pm4 an4 cd4 ct4), sl4⟩) (c4 : PySem.W.codeIn K cd4 "_law_pick" = true) (k4 : PySem.W.keepIn K (.ref f__law_pick) = true)
    (a5 : PySem.W.nsIn K mainGlobals "_law_same" = some (some (.ref f__law_same))) (l5 : K.lookup f__law_same = some ⟨oc5, od5, .func (PySem.W.fnOf "_law_same" "_law_same" (defArgs s__law_same) (defBody s__law_same) (defScope s__law_same) .none kV5 dc5 pm5 an5 cd5 ct5), sl5⟩) (c5 : PySem.W.codeIn K cd5 "_law_same" = true) (k5 : PySem.W.keepIn K (.ref f__law_same) = true)
    (a6 : PySem.W.nsIn K mainGlobals "_law_name" = some (some (.ref f__law_name))) (l6 : K.lookup f__law_name = some ⟨oc6, od6, .func (PySem.W.fnOf "_law_name" "_law_name" (defArgs s__law_name) (defBody s__law_name) (defScope s__law_name) .none kV6 dc6 pm6 an6 cd6 ct6), sl6⟩) (c6 : PySem.W.codeIn K cd6 "_law_name" = true) (k6 : PySem.W.keepIn K (.ref f__law_name) = true)
    (a7 : PySem.W.nsIn K mainGlobals "_law_fits" = some (some (.ref f__law_fits))) (l7 : K.lookup f__law_fits = some ⟨oc7, od7, .func (PySem.W.fnOf "_law_fits" "_law_fits" (defArgs s__law_fits) (defBody s__law_fits) (defScope s__law_fits) .none kV7 dc7 pm7 an7 cd7 ct7), sl7⟩) (c7 : PySem.W.codeIn K cd7 "_law_fits" = true) (k7 : PySem.W.keepIn K (.ref f__law_fits) = true)
    (a8 : PySem.W.nsIn K mainGlobals "_law_step_shape" = some (some (.ref f__law_step_shape))) (l8 : K.lookup f__law_step_shape = some ⟨oc8, od8, .func (PySem.W.fnOf "_law_step_shape" "_law_step_shape" (defArgs s__law_step_shape) (defBody s__law_step_shape) (defScope s__law_step_shape) .none kV8 dc8 pm8 an8 cd8 ct8), sl8⟩) (c8 : PySem.W.codeIn K cd8 "_law_step_shape" = true) (k8 : PySem.W.keepIn K (.ref f__law_step_shape) = true)
    (a9 : PySem.W.nsIn K mainGlobals "_law_step" = some (some (.ref f__law_step))) (l9 : K.lookup f__law_step = some ⟨oc9, od9, .func (PySem.W.fnOf "_law_step" "_law_step" (defArgs s__law_step) (defBody s__law_step) (defScope s__law_step) .none kV9 dc9 pm9 an9 cd9 ct9), sl9⟩) (c9 : PySem.W.codeIn K cd9 "_law_step" = true) (k9 : PySem.W.keepIn K (.ref f__law_step) = true)
    (a10 : PySem.W.nsIn K mainGlobals "_law_program" = some (some (.ref f__law_program))) (l10 : K.lookup f__law_program = some ⟨oc10, od10, .func (PySem.W.fnOf "_law_program" "_law_program" (defArgs s__law_program) (defBody s__law_program) (defScope s__law_program) .none kV10 dc10 pm10 an10 cd10 ct10), sl10⟩) (c10 : PySem.W.codeIn K cd10 "_law_program" = true) (k10 : PySem.W.keepIn K (.ref f__law_program) = true)
    (a11 : PySem.W.nsIn K mainGlobals "_law_shapes" = some (some (.ref f__law_shapes))) (l11 : K.lookup f__law_shapes = some ⟨oc11, od11, .func (PySem.W.fnOf "_law_shapes" "_law_shapes" (defArgs s__law_shapes) (defBody s__law_shapes) (defScope s__law_shapes) .none kV11 dc11 pm11 an11 cd11 ct11), sl11⟩) (c11 : PySem.W.codeIn K cd11 "_law_shapes" = true) (k11 : PySem.W.keepIn K (.ref f__law_shapes) = true)
    (a12 : PySem.W.nsIn K mainGlobals "law" = some (some (.ref f_law))) (l12 : K.lookup f_law = some ⟨oc12, od12, .func (PySem.W.fnOf "law" "law" (defArgs s_law) (defBody s_law) (defScope s_law) .none kV12 dc12 pm12 an12 cd12 ct12), sl12⟩) (c12 : PySem.W.codeIn K cd12 "law" = true) (k12 : PySem.W.keepIn K (.ref f_law) = true)
    (z_abs : PySem.W.nsIn K mainGlobals "abs" = some none)
    (z_bool : PySem.W.nsIn K mainGlobals "bool" = some none)
    (z_int : PySem.W.nsIn K mainGlobals "int" = some none)
    (z_isinstance : PySem.W.nsIn K mainGlobals "isinstance" = some none)
    (z_len : PySem.W.nsIn K mainGlobals "len" = some none)
    (z_list : PySem.W.nsIn K mainGlobals "list" = some none)
    (z_min : PySem.W.nsIn K mainGlobals "min" = some none)
    (z_range : PySem.W.nsIn K mainGlobals "range" = some none)
    (z_str : PySem.W.nsIn K mainGlobals "str" = some none)
    (z_tuple : PySem.W.nsIn K mainGlobals "tuple" = some none)
    : ∃ fd : FuncData, (∀ (s : Shared) (v : Value), BindsTo s fd ⟨[v], []⟩ [("_law_script", v)]) ∧ ∀ base : Heap, K.In base → base.Ns mainGlobals mg → FnOk l.prog w K mg base CX0 9 fa fd ["_law_script"] (spLaw K) := by
  have e := hfa.symm.trans (PySem.W.mg_of X G a12)
  cases e
  have F0 := fun_mk (st := s_step_shape) l0 c0 k0
  have b0 := F0.binds (ps := ["kind", "found", "numbers"]) fun _ _ _ _ _ _ us hl => match us, hl with | [_, _, _], _ => rfl
  have F1 := fun_mk (st := s_shapes) l1 c1 k1
  have b1 := F1.binds (ps := ["program"]) fun _ _ _ _ _ _ us hl => match us, hl with | [_], _ => rfl
  have F2 := fun_mk (st := s__law_pool) l2 c2 k2
  have b2 := F2.binds (ps := ["_law_script"]) fun _ _ _ _ _ _ us hl => match us, hl with | [_], _ => rfl
  have F3 := fun_mk (st := s__law_draw) l3 c3 k3
  have b3 := F3.binds (ps := ["_law_pool_here", "_law_many"]) fun _ _ _ _ _ _ us hl => match us, hl with | [_, _], _ => rfl
  have F4 := fun_mk (st := s__law_pick) l4 c4 k4
  have b4 := F4.binds (ps := ["_law_pool_here", "_law_rows"]) fun _ _ _ _ _ _ us hl => match us, hl with | [_, _], _ => rfl
  have F5 := fun_mk (st := s__law_same) l5 c5 k5
  have b5 := F5.binds (ps := ["_law_actual", "_law_due"]) fun _ _ _ _ _ _ us hl => match us, hl with | [_, _], _ => rfl
  have F6 := fun_mk (st := s__law_name) l6 c6 k6
  have b6 := F6.binds (ps := ["_law_pool_here", "_law_index"]) fun _ _ _ _ _ _ us hl => match us, hl with | [_, _], _ => rfl
  have F7 := fun_mk (st := s__law_fits) l7 c7 k7
  have b7 := F7.binds (ps := ["_law_kind", "_law_found", "_law_a", "_law_b"]) fun _ _ _ _ _ _ us hl => match us, hl with | [_, _, _, _], _ => rfl
  have F8 := fun_mk (st := s__law_step_shape) l8 c8 k8
  have b8 := F8.binds (ps := ["_law_kind", "_law_found", "_law_values", "_law_numbers"]) fun _ _ _ _ _ _ us hl => match us, hl with | [_, _, _, _], _ => rfl
  have F9 := fun_mk (st := s__law_step) l9 c9 k9
  have b9 := F9.binds (ps := ["_law_pool_here", "_law_found", "_law_own", "_law_leaves"]) fun _ _ _ _ _ _ us hl => match us, hl with | [_, _, _, _], _ => rfl
  have F10 := fun_mk (st := s__law_program) l10 c10 k10
  have b10 := F10.binds (ps := ["_law_pool_here", "_law_most"]) fun _ _ _ _ _ _ us hl => match us, hl with | [_, _], _ => rfl
  have F11 := fun_mk (st := s__law_shapes) l11 c11 k11
  have b11 := F11.binds (ps := ["_law_program_here"]) fun _ _ _ _ _ _ us hl => match us, hl with | [_], _ => rfl
  have F12 := fun_mk (st := s_law) l12 c12 k12
  have b12 := F12.binds (ps := ["_law_script"]) fun _ _ _ _ _ _ us hl => match us, hl with | [_], _ => rfl
  have T : TX K mg _ _ _ _ _ _ _ _ _ _ _ _ _ _ _ _ _ _ _ _ _ _ _ _ _ _ := ⟨F0, PySem.W.mg_of X G a0, b0, F1, PySem.W.mg_of X G a1, b1, F2, PySem.W.mg_of X G a2, b2, F3, PySem.W.mg_of X G a3, b3, F4, PySem.W.mg_of X G a4, b4, F5, PySem.W.mg_of X G a5, b5, F6, PySem.W.mg_of X G a6, b6, F7, PySem.W.mg_of X G a7, b7, F8, PySem.W.mg_of X G a8, b8, F9, PySem.W.mg_of X G a9, b9, F10, PySem.W.mg_of X G a10, b10, F11, PySem.W.mg_of X G a11, b11, F12, PySem.W.mg_of X G a12, b12, PySem.W.mg_none_of X G z_abs, PySem.W.mg_none_of X G z_bool, PySem.W.mg_none_of X G z_int, PySem.W.mg_none_of X G z_isinstance, PySem.W.mg_none_of X G z_len, PySem.W.mg_none_of X G z_list, PySem.W.mg_none_of X G z_min, PySem.W.mg_none_of X G z_range, PySem.W.mg_none_of X G z_str, PySem.W.mg_none_of X G z_tuple⟩
  exact ⟨_, fun s v => .of_eq rfl, fun base _ _ => law_of (ok_law T) law_true⟩
end LW
open PySem PySem.W PyProof.Rows
set_option maxRecDepth 100000 in
set_option maxHeartbeats 0 in
theorem PySem.Challenge.cw_lasttext_k05_shapes_of_a_program_holds : PySem.Challenge.rw_lasttext_k05_shapes_of_a_program.Holds := by
  w_on; o_law; k_head; (case hw => w_witness2)
  k_fill
  refine L2.walk_ofK (l := PySem.Challenge.rw_lasttext_k05_shapes_of_a_program) (n := 63) (k := 9) (x := "_law_script") (CX := L2.CX0) (sp := ML.spLaw) rfl (by decide) rfl ⟨rfl, by decide, by decide⟩ (fun w h Y => PySem.W.kIn_of Y) ?F (fun _ _ a ns hl _ hS => ⟨a, ns, rfl, hS, hl, fun _ => rfl⟩) (fun _ _ _ _ h => h)
  case F =>
    intro w mg fa h KX G hmg
    refine' LW.all_mk KX G hmg ?a0 ?l0 ?c0 ?k0 ?a1 ?l1 ?c1 ?k1 ?a2 ?l2 ?c2 ?k2 ?a3 ?l3 ?c3 ?k3 ?a4 ?l4 ?c4 ?k4 ?a5 ?l5 ?c5 ?k5 ?a6 ?l6 ?c6 ?k6 ?a7 ?l7 ?c7 ?k7 ?a8 ?l8 ?c8 ?k8 ?a9 ?l9 ?c9 ?k9 ?a10 ?l10 ?c10 ?k10 ?a11 ?l11 ?c11 ?k11 ?a12 ?l12 ?c12 ?k12 ?z_abs ?z_bool ?z_int ?z_isinstance ?z_len ?z_list ?z_min ?z_range ?z_str ?z_tuple
    (case a0 => k_is)
    (case l0 => k_is)
    (case c0 => k_is)
    (case k0 => k_is)
    (case a1 => k_is)
    (case l1 => k_is)
    (case c1 => k_is)
    (case k1 => k_is)
    (case a2 => k_is)
    (case l2 => k_is)
    (case c2 => k_is)
    (case k2 => k_is)
    (case a3 => k_is)
    (case l3 => k_is)
    (case c3 => k_is)
    (case k3 => k_is)
    (case a4 => k_is)
    (case l4 => k_is)
    (case c4 => k_is)
    (case k4 => k_is)
    (case a5 => k_is)
    (case l5 => k_is)
    (case c5 => k_is)
    (case k5 => k_is)
    (case a6 => k_is)
    (case l6 => k_is)
    (case c6 => k_is)
    (case k6 => k_is)
    (case a7 => k_is)
    (case l7 => k_is)
    (case c7 => k_is)
    (case k7 => k_is)
    (case a8 => k_is)
    (case l8 => k_is)
    (case c8 => k_is)
    (case k8 => k_is)
    (case a9 => k_is)
    (case l9 => k_is)
    (case c9 => k_is)
    (case k9 => k_is)
    (case a10 => k_is)
    (case l10 => k_is)
    (case c10 => k_is)
    (case k10 => k_is)
    (case a11 => k_is)
    (case l11 => k_is)
    (case c11 => k_is)
    (case k11 => k_is)
    (case a12 => k_is)
    (case l12 => k_is)
    (case c12 => k_is)
    (case k12 => k_is)
    (case z_abs => k_is)
    (case z_bool => k_is)
    (case z_int => k_is)
    (case z_isinstance => k_is)
    (case z_len => k_is)
    (case z_list => k_is)
    (case z_min => k_is)
    (case z_range => k_is)
    (case z_str => k_is)
    (case z_tuple => k_is)
