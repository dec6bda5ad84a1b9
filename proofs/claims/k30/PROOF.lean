import PyProof.Rows.All
import Wide.All
import OpenK.AllK
import Wide.FinOn
import HandS.ForMost
import HandS.Walk
import HandS.Wide
import HandS.Flow
import HandS.IsInst
import HandS.TupAny
import HandS.TupMul
import HandS.Conv
import HandS.Zip
import HandS.Deep
import KE.GoesEnum
import KE.KTupSum
import HandS.Codes
import HandS.Style
import HandS.CallLocal
import HandS.More
import HandS.TupMul
import PySem.Challenge.RW_lasttext_k30_tree_sums
set_option Elab.async false
set_option linter.all false
set_option maxRecDepth 100000
set_option maxHeartbeats 4000000
namespace L2
open PySem PySem.Spec PyProof.Rows
theorem tuple_mul1 (l : Addr) (items : Array Value) (n : Nat) (dd : Option Addr) (sl : Array (Option Value)) (u : Tok) :
    Meets (Builtin.«tuple.__mul__» ⟨[.ref l, .int 1 u], []⟩) (fun _ R s => s.heap.get? l = some { cls := .type "tuple", dict := dd, data := .seq items n, slots := sl } ∧
      R (.ok (.ret (Value.ref l))) s) :=
  .of_wp fun prog w A R s h => by
    obtain ⟨hp, g, d, tk, os⟩ := s
    obtain ⟨hl, h⟩ := h
    have f1 := AutoSeq1.idx_int
    have c0 : (decide ((1 : Int) < -(2 ^ 63)) || decide ((1 : Int) ≥ 2 ^ 63)) = false := by decide
    have c1 : (items.isEmpty || (1 : Int) == 1) = true := by simp
    wp_walk using wpAny_loadPart' hl
    repeat (first
      | (refine wpAny_ite_false (decide_eq_false (by rw [c0]; exact Bool.false_ne_true)) ?_; wp_walk using wpAny_loadPart' hl)
      | (refine wpAny_ite_true (decide_eq_true c1) ?_; wp_walk using wpAny_loadPart' hl))
    exact ⟨_, rfl, h⟩
def rRepT1 (K : PySem.W.Frag) : R2 := fun x y H Q => ∃ l xs, x = .ref l ∧ y = .int 1 ∧ SqT K H l xs ∧ Q (.ref l) H
theorem op_repT1 {X : Cx} : OpR X (binaryOp .Mult) (rRepT1 X.K) := by
  intro pins s σ H x y v u Q I rx ry h
  obtain ⟨l, xs, rfl, rfl, hT, q⟩ := h
  cases rx
  obtain ⟨t, rfl⟩ := ry
  obtain ⟨its, r, ⟨⟨cls, dd, data, sl⟩, ho, hc, n, hd⟩, hs⟩ := I.tuple hT
  simp only at hc hd
  subst hc hd
  exact wpAny_binaryOp_repeat_ref (T := "tuple") (U := "int") (by decide) ⟨_, ho, rfl⟩ (fun s' => typeIs_int s' 1 t) noFill_tuple_mul F.fills_int_mul F.slot_int_rmul repeat_tuple F.slot_int_index.lookup
    (call_meets F.slot_int_rmul (typeIs_int s 1 t) F.entry_int_rmul (F.args_int_rmul_2 _ _) (int_rmul_tuple 1 t l its.toArray n dd sl)
      ⟨ho, rfl, ⟨_, ho, rfl⟩, call_meets F.slot_tuple_mul ⟨_, ho, rfl⟩ F.entry_tuple_mul (F.args_tuple_mul_2 _ _) (tuple_mul1 l its.toArray n dd sl t) ⟨ho, ⟨.ref l, H, I, rfl, q⟩⟩⟩)
end L2
namespace ML
open PySem PySem.Spec PyProof.Rows L2

/-! ## data, the store, what stands for what -/
inductive D where
  | non | bl (b : Bool) | int (i : Int) | str (s : PySem.Str) | tup (ds : List D) | lst (ds : List D) | sq (ds : List D) | ref (n : Nat) | adr (n : PySem.Str) | ty (n : String)
inductive O where
  | lst (ds : List D)
abbrev Env := List (Option D)
abbrev Sto := List O
abbrev Frag := PySem.W.Frag
mutual
inductive Rep (K : Frag) (θ : List Addr) (G : Hp) : V → D → Prop
  | non : Rep K θ G .non .non
  | bl (b : Bool) : Rep K θ G (.bl b) (.bl b)
  | int (i : Int) : Rep K θ G (.int i) (.int i)
  | str (x : PySem.Str) : Rep K θ G (.str x) (.str x)
  | tup {a : Addr} {vs : List V} {ds : List D} : SqT K G a vs → Reps K θ G vs ds → Rep K θ G (.ref a) (.tup ds)
  | lst {a : Addr} {vs : List V} {ds : List D} : G a = some (.lst vs) → Reps K θ G vs ds → Rep K θ G (.ref a) (.lst ds)
  | sq {a : Addr} {vs : List V} {ds : List D} : SqL K G a vs → Reps K θ G vs ds → Rep K θ G (.ref a) (.sq ds)
  | ref {n : Nat} {a : Addr} : θ[n]? = some a → Rep K θ G (.ref a) (.ref n)
  | adr {a : Addr} {n : PySem.Str} : PySem.W.nsIn K PySem.mainGlobals n = some (some (.ref a)) → Rep K θ G (.ref a) (.adr n)
  | ty (n : String) : Rep K θ G (.ty n) (.ty n)
inductive Reps (K : Frag) (θ : List Addr) (G : Hp) : List V → List D → Prop
  | nil : Reps K θ G [] []
  | cons {v : V} {vs : List V} {d : D} {ds : List D} : Rep K θ G v d → Reps K θ G vs ds → Reps K θ G (v :: vs) (d :: ds)
end
def Gle (G G' : Hp) : Prop := ∀ a o, G a = some o → G' a = some o
theorem Gle.rd {G G' : Hp} (g : Gle G G') {a : Addr} {u : HO} (h : Rd G a u) : Rd G' a u := by
  rcases h with h | ⟨o, h⟩
  · exact .inl (g _ _ h)
  · exact .inr ⟨o, g _ _ h⟩
theorem Gle.t {K : Frag} {G G' : Hp} (g : Gle G G') {a : Addr} {vs : List V} (h : SqT K G a vs) : SqT K G' a vs := by
  rcases h with h | h
  · exact .inl (g.rd h)
  · exact .inr h
theorem Gle.l {K : Frag} {G G' : Hp} (g : Gle G G') {a : Addr} {vs : List V} (h : SqL K G a vs) : SqL K G' a vs := by
  rcases h with h | h
  · exact .inl (g.rd h)
  · exact .inr h
theorem pre_at {θ θ' : List Addr} (p : ∃ l, θ' = θ ++ l) {n : Nat} {a : Addr} (h : θ[n]? = some a) : θ'[n]? = some a := by
  obtain ⟨l, rfl⟩ := p
  obtain ⟨hn, _⟩ := List.getElem?_eq_some_iff.mp h
  rw [List.getElem?_append_left hn]
  exact h
section
variable {K : Frag} {θ θ' : List Addr} {G G' : Hp}
mutual
theorem Rep.mono (p : ∃ l, θ' = θ ++ l) (g : Gle G G') : ∀ (d : D) (v : V), Rep K θ G v d → Rep K θ' G' v d
  | .non, _, h => by cases h; exact .non
  | .bl b, _, h => by cases h; exact .bl b
  | .int i, _, h => by cases h; exact .int i
  | .str x, _, h => by cases h; exact .str x
  | .tup ds, _, h => by
    cases h with
    | tup h1 h2 => exact .tup (g.t h1) (Reps.mono p g ds _ h2)
  | .lst ds, _, h => by
    cases h with
    | lst h1 h2 => exact .lst (g _ _ h1) (Reps.mono p g ds _ h2)
  | .sq ds, _, h => by
    cases h with
    | sq h1 h2 => exact .sq (g.l h1) (Reps.mono p g ds _ h2)
  | .ref n, _, h => by
    cases h with
    | ref h1 => exact .ref (pre_at p h1)
  | .adr _, _, h => by cases h with | adr e => exact .adr e
  | .ty n, _, h => by cases h; exact .ty n
theorem Reps.mono (p : ∃ l, θ' = θ ++ l) (g : Gle G G') : ∀ (ds : List D) (vs : List V), Reps K θ G vs ds → Reps K θ' G' vs ds
  | [], _, h => by cases h; exact .nil
  | d :: ds, _, h => by
    cases h with
    | cons h1 h2 => exact .cons (Rep.mono p g d _ h1) (Reps.mono p g ds _ h2)
end
theorem Reps.len {vs : List V} {ds : List D} (h : Reps K θ G vs ds) : vs.length = ds.length := by
  induction ds generalizing vs with
  | nil => cases h; rfl
  | cons d ds ih =>
    cases h with
    | cons h1 h2 => simp [ih h2]
theorem Reps.at {vs : List V} {ds : List D} (h : Reps K θ G vs ds) {i : Nat} {d : D} (e : ds[i]? = some d) : ∃ v, vs[i]? = some v ∧ Rep K θ G v d := by
  induction ds generalizing vs i with
  | nil => simp at e
  | cons x ds ih =>
    cases h with
    | cons h1 h2 =>
      cases i with
      | zero =>
        simp at e
        subst e
        exact ⟨_, rfl, h1⟩
      | succ i => simpa using ih h2 (i := i) (by simpa using e)
theorem Reps.at' {vs : List V} {ds : List D} (h : Reps K θ G vs ds) {i : Nat} {v : V} (e : vs[i]? = some v) : ∃ d, ds[i]? = some d ∧ Rep K θ G v d := by
  induction ds generalizing vs i with
  | nil => cases h; simp at e
  | cons x ds ih =>
    cases h with
    | cons h1 h2 =>
      cases i with
      | zero =>
        simp at e
        subst e
        exact ⟨_, rfl, h1⟩
      | succ i => simpa using ih h2 (i := i) (by simpa using e)
theorem Reps.append {vs ws : List V} {ds es : List D} (h : Reps K θ G vs ds) (h' : Reps K θ G ws es) : Reps K θ G (vs ++ ws) (ds ++ es) := by
  induction ds generalizing vs with
  | nil => cases h; exact h'
  | cons x ds ih =>
    cases h with
    | cons h1 h2 => exact .cons h1 (ih h2)
theorem Reps.set {vs : List V} {ds : List D} (h : Reps K θ G vs ds) {v : V} {d : D} (r : Rep K θ G v d) (i : Nat) : Reps K θ G (vs.set i v) (ds.set i d) := by
  induction ds generalizing vs i with
  | nil => cases h; exact .nil
  | cons x ds ih =>
    cases h with
    | cons h1 h2 =>
      cases i with
      | zero => exact .cons r h2
      | succ i => exact .cons h1 (ih h2 i)
theorem Reps.take {vs : List V} {ds : List D} (h : Reps K θ G vs ds) (i : Nat) : Reps K θ G (vs.take i) (ds.take i) := by
  induction ds generalizing vs i with
  | nil => cases h; simp; exact .nil
  | cons x ds ih =>
    cases h with
    | cons h1 h2 =>
      cases i with
      | zero => exact .nil
      | succ i => exact .cons h1 (ih h2 i)
theorem Reps.drop {vs : List V} {ds : List D} (h : Reps K θ G vs ds) (i : Nat) : Reps K θ G (vs.drop i) (ds.drop i) := by
  induction ds generalizing vs i with
  | nil => cases h; simp; exact .nil
  | cons x ds ih =>
    cases h with
    | cons h1 h2 =>
      cases i with
      | zero => exact .cons h1 h2
      | succ i => exact ih h2 i
theorem Reps.ints {vs : List V} {ns : List Int} (h : Reps K θ G vs (ns.map D.int)) : vs = ns.map V.int := by
  induction ns generalizing vs with
  | nil => cases h; rfl
  | cons n ns ih =>
    cases h with
    | cons h1 h2 =>
      cases h1
      rw [ih h2]
      rfl
theorem Reps.of_ints (ns : List Int) : Reps K θ G (ns.map V.int) (ns.map D.int) := by
  induction ns with
  | nil => exact .nil
  | cons n ns ih => exact .cons (.int n) ih
end
/-- an object of the store stands at a -/
def OR (K : Frag) (θ : List Addr) (G H : Hp) (a : Addr) : O → Prop
  | .lst ds => ∃ vs, H a = some (.lst vs) ∧ Reps K θ G vs ds
structure Sim (K : Frag) (θ : List Addr) (G H : Hp) (st : Sto) : Prop where
  sub : Gle G H
  len : θ.length = st.length
  nd : θ.Nodup
  off : ∀ a, a ∈ θ → G a = none
  obj : ∀ (i : Nat) a o, θ[i]? = some a → st[i]? = some o → OR K θ G H a o
structure Ext (θ θ' : List Addr) (G G' H H' : Hp) : Prop where
  pre : ∃ l, θ' = θ ++ l
  im : Gle G G'
  fr : ∀ a o, H a = some o → a ∉ θ → H' a = some o
  nθ : ∀ a, a ∈ θ' → a ∉ θ → H a = none
  nG : ∀ a o, G' a = some o → G a = none → H a = none
def EnvR (K : Frag) (θ : List Addr) (G : Hp) (σ : L2.St) (env : Env) : Prop :=
  σ.length = env.length ∧ ∀ (i : Nat) d, env[i]? = some (some d) → ∃ v, σ[i]? = some (some v) ∧ Rep K θ G v d
section
variable {K : Frag} {θ θ' θ1 θ2 : List Addr} {G G' G1 G2 H H' H1 H2 : Hp} {st st1 st2 : Sto} {σ : L2.St} {env : Env} {v w : V} {d e : D} {a p : Addr}
theorem Ext.refl : Ext θ θ G G H H := ⟨⟨[], by simp⟩, fun _ _ h => h, fun _ _ h _ => h, fun _ h n => absurd h n, fun _ _ h n => by rw [h] at n; cases n⟩
theorem OR.there {o : O} (h : OR K θ G H a o) : ∃ u, H a = some u := by
  cases o with
  | lst ds => obtain ⟨vs, h, _⟩ := h; exact ⟨_, h⟩
theorem Sim.at (S : Sim K θ G H st) {i : Nat} (h : θ[i]? = some a) : ∃ o, st[i]? = some o ∧ OR K θ G H a o := by
  obtain ⟨hi, _⟩ := List.getElem?_eq_some_iff.mp h
  have hi' : i < st.length := by rw [← S.len]; exact hi
  exact ⟨st[i], List.getElem?_eq_getElem hi', S.obj i a _ h (List.getElem?_eq_getElem hi')⟩
theorem Sim.there (S : Sim K θ G H st) (h : a ∈ θ) : ∃ u, H a = some u := by
  obtain ⟨i, hi⟩ := List.mem_iff_getElem?.mp h
  obtain ⟨o, _, r⟩ := S.at hi
  exact r.there
theorem Ext.trans (e1 : Ext θ θ1 G G1 H H1) (S : Sim K θ1 G1 H1 st1) (e2 : Ext θ1 θ2 G1 G2 H1 H2) : Ext θ θ2 G G2 H H2 := by
  obtain ⟨l1, p1⟩ := e1.pre
  obtain ⟨l2, p2⟩ := e2.pre
  have back : ∀ a, H1 a = none → H a = none := fun a h => by
    cases q : H a with
    | none => rfl
    | some o =>
      by_cases m : a ∈ θ
      · obtain ⟨u, hu⟩ := S.there (a := a) (by rw [p1]; exact List.mem_append_left _ m)
        rw [hu] at h
        cases h
      · rw [e1.fr a o q m] at h
        cases h
  refine ⟨⟨l1 ++ l2, by rw [p2, p1, List.append_assoc]⟩, fun a o h => e2.im a o (e1.im a o h), fun a o h n => ?_, fun a h n => ?_, fun a o h n => ?_⟩
  · refine e2.fr a o (e1.fr a o h n) fun m => ?_
    have := e1.nθ a m n
    rw [h] at this
    cases this
  · by_cases m : a ∈ θ1
    · exact e1.nθ a m n
    · exact back a (e2.nθ a h m)
  · cases q : G1 a with
    | some u => exact e1.nG a u q n
    | none => exact back a (e2.nG a o h q)
theorem Rep.ext (r : Rep K θ G v d) (x : Ext θ θ' G G' H H') : Rep K θ' G' v d := r.mono x.pre x.im _ _
theorem Reps.ext {vs : List V} {ds : List D} (r : Reps K θ G vs ds) (x : Ext θ θ' G G' H H') : Reps K θ' G' vs ds := r.mono x.pre x.im _ _
theorem EnvR.ext (r : EnvR K θ G σ env) (x : Ext θ θ' G G' H H') : EnvR K θ' G' σ env := ⟨r.1, fun i d h => by
  obtain ⟨v, h1, h2⟩ := r.2 i d h
  exact ⟨v, h1, h2.ext x⟩⟩
theorem EnvR.set (r : EnvR K θ G σ env) (h : Rep K θ G v d) (i : Nat) : EnvR K θ G (σ.set i (some v)) (env.set i (some d)) := by
  refine ⟨by simp [r.1], fun j e he => ?_⟩
  by_cases hj : i = j
  · subst hj
    obtain ⟨hl, _⟩ := List.getElem?_eq_some_iff.mp he
    rw [List.length_set] at hl
    rw [List.getElem?_set_self hl] at he
    cases he
    exact ⟨v, List.getElem?_set_self (by rw [r.1]; exact hl), h⟩
  · rw [List.getElem?_set_ne hj] at he
    obtain ⟨w, h1, h2⟩ := r.2 j e he
    exact ⟨w, by rw [List.getElem?_set_ne hj]; exact h1, h2⟩
theorem OR.mono {o : O} (h : OR K θ G H a o) (p : ∃ l, θ' = θ ++ l) (g : Gle G G') (e : H' a = H a) : OR K θ' G' H' a o := by
  cases o with
  | lst ds => obtain ⟨vs, h, r⟩ := h; exact ⟨vs, by rw [e]; exact h, r.mono p g _ _⟩
theorem Sim.ne (S : Sim K θ G H st) (h : H p = none) (m : a ∈ θ) : a ≠ p := fun z => by
  obtain ⟨u, hu⟩ := S.there m
  rw [z, h] at hu
  cases hu
theorem Sim.gnone (S : Sim K θ G H st) (h : H p = none) : G p = none := by
  cases q : G p with
  | none => rfl
  | some o => rw [S.sub p o q] at h; cases h
/-- a new object that never changes -/
theorem Sim.newG (S : Sim K θ G H st) (h : H p = none) (o : HO) : Sim K θ (upd G p o) (upd H p o) st where
  sub := fun a u e => by
    by_cases z : a = p
    · subst z; rw [upd_same] at e ⊢; exact e
    · rw [upd_ne z] at e ⊢; exact S.sub a u e
  len := S.len
  nd := S.nd
  off := fun a m => by rw [upd_ne (S.ne h m)]; exact S.off a m
  obj := fun i a u e1 e2 => (S.obj i a u e1 e2).mono ⟨[], by simp⟩ (fun b x e => by
    have z : b ≠ p := fun z => by rw [z, S.gnone h] at e; cases e
    rw [upd_ne z]; exact e) (upd_ne (S.ne h (List.mem_of_getElem? e1)))
theorem Ext.newG (S : Sim K θ G H st) (h : H p = none) (o : HO) : Ext θ θ G (upd G p o) H (upd H p o) where
  pre := ⟨[], by simp⟩
  im := fun b x e => by
    have z : b ≠ p := fun z => by rw [z, S.gnone h] at e; cases e
    rw [upd_ne z]; exact e
  fr := fun a u e _ => by
    have z : a ≠ p := fun z => by rw [z, h] at e; cases e
    rw [upd_ne z]; exact e
  nθ := fun a m n => absurd m n
  nG := fun a u e n => by
    by_cases z : a = p
    · rw [z]; exact h
    · rw [upd_ne z, n] at e; cases e
/-- a new list that may change -/
theorem Sim.newM (S : Sim K θ G H st) (h : H p = none) {vs : List V} {ds : List D} (r : Reps K θ G vs ds) : Sim K (θ ++ [p]) G (upd H p (.lst vs)) (st ++ [.lst ds]) where
  sub := fun a u e => by
    have z : a ≠ p := fun z => by rw [z, S.gnone h] at e; cases e
    rw [upd_ne z]; exact S.sub a u e
  len := by simp [S.len]
  nd := by
    rw [List.nodup_append]
    refine ⟨S.nd, by simp, fun a ha b hb => ?_⟩
    rw [List.mem_singleton] at hb
    subst hb
    exact S.ne h ha
  off := fun a m => by
    rcases List.mem_append.mp m with m | m
    · exact S.off a m
    · rw [List.mem_singleton] at m
      subst m
      exact S.gnone h
  obj := fun i a o e1 e2 => by
    by_cases hi : i < θ.length
    · rw [List.getElem?_append_left hi] at e1
      rw [List.getElem?_append_left (by rw [← S.len]; exact hi)] at e2
      exact (S.obj i a o e1 e2).mono ⟨_, rfl⟩ (fun _ _ e => e) (upd_ne (S.ne h (List.mem_of_getElem? e1)))
    · have hi2 : i = θ.length := by
        obtain ⟨hl, _⟩ := List.getElem?_eq_some_iff.mp e1
        simp at hl
        omega
      subst hi2
      rw [List.getElem?_append_right (Nat.le_refl _)] at e1
      rw [List.getElem?_append_right (by rw [S.len]; exact Nat.le_refl _), S.len] at e2
      simp at e1 e2
      subst e1
      subst e2
      exact ⟨vs, upd_same, r.mono ⟨_, rfl⟩ (fun _ _ e => e) _ _⟩
theorem Ext.newM (S : Sim K θ G H st) (h : H p = none) (o : HO) : Ext θ (θ ++ [p]) G G H (upd H p o) where
  pre := ⟨[p], rfl⟩
  im := fun _ _ e => e
  fr := fun a u e _ => by
    have z : a ≠ p := fun z => by rw [z, h] at e; cases e
    rw [upd_ne z]; exact e
  nθ := fun a m n => by
    rcases List.mem_append.mp m with m | m
    · exact absurd m n
    · rw [List.mem_singleton] at m
      rw [m]
      exact h
  nG := fun a u e n => by rw [n] at e; cases e
/-- a list of the store changes -/
theorem Sim.set (S : Sim K θ G H st) {n : Nat} (ha : θ[n]? = some a) {vs : List V} {ds : List D} (r : Reps K θ G vs ds) : Sim K θ G (upd H a (.lst vs)) (st.set n (.lst ds)) where
  sub := fun b u e => by
    have z : b ≠ a := fun z => by
      have := S.off a (List.mem_of_getElem? ha)
      rw [z, this] at e
      cases e
    rw [upd_ne z]; exact S.sub b u e
  len := by simp [S.len]
  nd := S.nd
  off := S.off
  obj := fun i b o e1 e2 => by
    by_cases hi : n = i
    · subst hi
      rw [ha] at e1
      cases e1
      obtain ⟨hl, _⟩ := List.getElem?_eq_some_iff.mp e2
      rw [List.length_set] at hl
      rw [List.getElem?_set_self hl] at e2
      cases e2
      exact ⟨vs, upd_same, r⟩
    · rw [List.getElem?_set_ne hi] at e2
      have z : b ≠ a := fun z => by
        subst z
        obtain ⟨l1, q1⟩ := List.getElem?_eq_some_iff.mp ha
        obtain ⟨l2, q2⟩ := List.getElem?_eq_some_iff.mp e1
        exact hi ((List.getElem_inj S.nd).mp (q1.trans q2.symm))
      exact (S.obj i b o e1 e2).mono ⟨[], by simp⟩ (fun _ _ e => e) (upd_ne z)
theorem Ext.set (S : Sim K θ G H st) {n : Nat} (ha : θ[n]? = some a) (o : HO) : Ext θ θ G G H (upd H a o) where
  pre := ⟨[], by simp⟩
  im := fun _ _ e => e
  fr := fun b u e m => by
    have z : b ≠ a := fun z => m (by rw [z]; exact List.mem_of_getElem? ha)
    rw [upd_ne z]; exact e
  nθ := fun a m n => absurd m n
  nG := fun a u e n => by rw [n] at e; cases e
end

/-! ## readings by functions -/
def PostE (K : Frag) (θ : List Addr) (G H : Hp) (st' : Sto) (d : D) (Q : VK) : Prop :=
  ∀ θ' G' H' v, Ext θ θ' G G' H H' → Sim K θ' G' H' st' → Rep K θ' G' v d → Q v H'
abbrev FE := Env → Sto → Option (D × Sto)
abbrev FA := Env → Sto → Option (List D × Sto)
abbrev FT := Env → Sto → Option (Bool × Sto)
def tE (K : Frag) (f : FE) : TE := fun σ H Q => ∃ θ G env st d st', Sim K θ G H st ∧ EnvR K θ G σ env ∧ f env st = some (d, st') ∧ PostE K θ G H st' d Q
def tA (K : Frag) (f : FA) : TA := fun σ H Q => ∃ θ G env st ds st', Sim K θ G H st ∧ EnvR K θ G σ env ∧ f env st = some (ds, st') ∧
  ∀ θ' G' H' vs, Ext θ θ' G G' H H' → Sim K θ' G' H' st' → Reps K θ' G' vs ds → Q vs H'
def tT (K : Frag) (f : FT) : TT := fun σ H Q => ∃ θ G env st b st', Sim K θ G H st ∧ EnvR K θ G σ env ∧ f env st = some (b, st') ∧
  ∀ θ' G' H', Ext θ θ' G G' H H' → Sim K θ' G' H' st' → Q b H'
section
variable {X : Cx}
theorem peImp {e : Expr} {t t' : TE} (h : PE X e t) (i : ∀ σ H Q, t' σ H Q → t σ H Q) : PE X e t' := ⟨fun pins s σ H Q I q => h.run pins s σ H Q I (i _ _ _ q)⟩
theorem ptImp {e : Expr} {t t' : TT} (h : PT X e t) (i : ∀ σ H Q, t' σ H Q → t σ H Q) : PT X e t' := ⟨fun pins s σ H Q I q => h.run pins s σ H Q I (i _ _ _ q)⟩
theorem pwImp {e : Expr} {t t' : TT} (h : PW X e t) (i : ∀ σ H Q, t' σ H Q → t σ H Q) : PW X e t' := ⟨fun wh pins s σ H Q I q => h.run wh pins s σ H Q I (i _ _ _ q)⟩
theorem paImp {e : List Expr} {t t' : TA} (h : PA X e t) (i : ∀ σ H Q, t' σ H Q → t σ H Q) : PA X e t' := ⟨fun pos pins s σ H Q I q => h.run pos pins s σ H Q I (i _ _ _ q)⟩
theorem psImp {e : Stmt} {t t' : TS} (h : PS X e t) (i : ∀ D σ H, t' D σ H → t D σ H) : PS X e t' := ⟨fun pins s σ H D I q => h.run pins s σ H D I (i _ _ _ q)⟩
theorem pssImp {e : List Stmt} {t t' : TS} (h : PSs X e t) (i : ∀ D σ H, t' D σ H → t D σ H) : PSs X e t' := ⟨fun pins s σ H D I q => h.run pins s σ H D I (i _ _ _ q)⟩
end
section
variable {K : Frag} {θ : List Addr} {G H : Hp} {st st1 : Sto} {σ : L2.St} {env : Env} {x : D} {f : FE} {Q : VK}
theorem tE.go (S : Sim K θ G H st) (EN : EnvR K θ G σ env) (hf : f env st = some (x, st1))
    (k : ∀ θ1 G1 H1 v1, Ext θ θ1 G G1 H H1 → Sim K θ1 G1 H1 st1 → EnvR K θ1 G1 σ env → Rep K θ1 G1 v1 x → Q v1 H1) : tE K f σ H Q :=
  ⟨θ, G, env, st, x, st1, S, EN, hf, fun θ' G' H' v e s r => k θ' G' H' v e s (EN.ext e) r⟩
theorem tA.go {xs : List D} {f : FA} {Q : List V → Hp → Prop} (S : Sim K θ G H st) (EN : EnvR K θ G σ env) (hf : f env st = some (xs, st1))
    (k : ∀ θ1 G1 H1 v1, Ext θ θ1 G G1 H H1 → Sim K θ1 G1 H1 st1 → EnvR K θ1 G1 σ env → Reps K θ1 G1 v1 xs → Q v1 H1) : tA K f σ H Q :=
  ⟨θ, G, env, st, xs, st1, S, EN, hf, fun θ' G' H' v e s r => k θ' G' H' v e s (EN.ext e) r⟩
theorem tT.go {b : Bool} {f : FT} {Q : Bool → Hp → Prop} (S : Sim K θ G H st) (EN : EnvR K θ G σ env) (hf : f env st = some (b, st1))
    (k : ∀ θ1 G1 H1, Ext θ θ1 G G1 H H1 → Sim K θ1 G1 H1 st1 → EnvR K θ1 G1 σ env → Q b H1) : tT K f σ H Q :=
  ⟨θ, G, env, st, b, st1, S, EN, hf, fun θ' G' H' e s => k θ' G' H' e s (EN.ext e)⟩
end

/-! ### names, constants -/
def Ev (i : Nat) : FE := fun env st => match env[i]? with | some (some d) => some (d, st) | _ => none
def Ec (d : D) : FE := fun _ st => some (d, st)
section
variable {X : Cx} {pos : Pos}
theorem c_v (i : Nat) {x : PySem.Str} {pos : Pos} (hN : X.N[i]? = some x := by rfl) (hv : Vis X.env.scope x := by first | exact Or.inl rfl | exact Or.inr (Or.inl rfl) | exact Or.inr (Or.inr rfl)) (hd : (x == ("__debug__" : PySem.Str)) = false := by decide)
    (hcd : (x == ("__classdict__" : PySem.Str)) = false := by decide) : PE X (.Name x pos) (tE X.K (Ev i)) := by
  refine peImp (pe_var hN hv hd hcd) fun σ H Q ⟨θ, G, env, st, d, st', S, EN, hf, post⟩ => ?_
  unfold Ev at hf
  split at hf
  · rename_i d' he
    cases hf
    obtain ⟨v, h1, h2⟩ := EN.2 i _ he
    exact ⟨v, h1, post θ G H v .refl S h2⟩
  · cases hf
theorem c_const {e : Expr} {v : V} {d : D} (h : PE X e (tC v)) (r : ∀ θ G, Rep X.K θ G v d) : PE X e (tE X.K (Ec d)) := by
  refine peImp h fun σ H Q ⟨θ, G, env, st, d, st', S, EN, hf, post⟩ => ?_
  cases hf
  exact post θ G H v .refl S (r θ G)
theorem c_int {i j pos} : PE X (.Constant (.int i) j pos) (tE X.K (Ec (.int i))) := c_const pe_int fun _ _ => .int i
theorem c_bl {b j pos} : PE X (.Constant (.bool b) j pos) (tE X.K (Ec (.bl b))) := c_const pe_bl fun _ _ => .bl b
theorem c_non {j pos} : PE X (.Constant .none j pos) (tE X.K (Ec .non)) := c_const pe_non fun _ _ => .non
theorem c_str {x j pos} : PE X (.Constant (.str x) j pos) (tE X.K (Ec (.str x))) := c_const pe_str fun _ _ => .str x
theorem c_gint {x : PySem.Str} {i : Int} {t : Tok} (hg : Gl X x) (hm : X.mg x = some (.int i t)) (hd : (x == ("__debug__" : PySem.Str)) = false := by decide) : PE X (.Name x pos) (tE X.K (Ec (.int i))) :=
  c_const (pe_glob hg hm (v := .int i) ⟨t, rfl⟩ hd) fun _ _ => .int i
theorem c_gstr {x : PySem.Str} {i : PySem.Str} {t : Tok} (hg : Gl X x) (hm : X.mg x = some (.str i t)) (hd : (x == ("__debug__" : PySem.Str)) = false := by decide) : PE X (.Name x pos) (tE X.K (Ec (.str i))) :=
  c_const (pe_glob hg hm (v := .str i) ⟨t, rfl⟩ hd) fun _ _ => .str i
end

/-! ### operators by values -/
abbrev F2 := D → D → Sto → Option (D × Sto)
def E2 (f : F2) (fa fb : FE) : FE := fun env st => (fa env st).bind fun p => (fb env p.2).bind fun q => f p.1 q.1 q.2
def Op2 (K : Frag) (r : R2) (f : F2) : Prop := ∀ θ G H st x y d e z st' Q, Sim K θ G H st → Rep K θ G x d → Rep K θ G y e → f d e st = some (z, st') → PostE K θ G H st' z Q → r x y H Q
theorem bind2 {α β γ : Type} {o : Option α} {f : α → Option β} {z : β} (h : o.bind f = some z) : ∃ a, o = some a ∧ f a = some z := by
  cases o with
  | none => cases h
  | some a => exact ⟨a, rfl, h⟩
section
variable {X : Cx} {a b : Expr} {fa fb : FE} {pos : Pos} {f : F2} {r : R2}
theorem go2 (hf : Op2 X.K r f) {σ : L2.St} {H : Hp} {Q : VK} (h : tE X.K (E2 f fa fb) σ H Q) : tOp r (tE X.K fa) (tE X.K fb) σ H Q := by
  obtain ⟨θ, G, env, st, d, st', S, EN, he, post⟩ := h
  obtain ⟨⟨x, st1⟩, h1, he⟩ := Option.bind_eq_some_iff.mp he
  obtain ⟨⟨y, st2⟩, h2, he⟩ := Option.bind_eq_some_iff.mp he
  refine tE.go S EN h1 fun θ1 G1 H1 v1 e1 S1 EN1 r1 => tE.go S1 EN1 h2 fun θ2 G2 H2 v2 e2 S2 EN2 r2 => ?_
  exact hf _ _ _ _ _ _ _ _ _ _ _ S2 (r1.ext e2) r2 he fun θ3 G3 H3 v e3 S3 r3 => post _ _ _ _ ((e1.trans S1 e2).trans S2 e3) S3 r3
theorem c_op {op : Operator} (ho : OpR X (binaryOp op) r) (hf : Op2 X.K r f) (ha : PE X a (tE X.K fa)) (hb : PE X b (tE X.K fb)) : PE X (.BinOp a op b pos) (tE X.K (E2 f fa fb)) :=
  peImp (pe_op ho ha hb) fun _ _ _ h => go2 hf h
theorem c_cmp {op : CmpOp} (ho : OpR X (compareOp op) r) (hf : Op2 X.K r f) (ha : PE X a (tE X.K fa)) (hb : PE X b (tE X.K fb)) (hm : behindInMarks op b = false) : PE X (.Compare a [op] [b] pos) (tE X.K (E2 f fa fb)) :=
  peImp (pe_cmpR ho ha hb hm) fun _ _ _ h => go2 hf h
/-- a test of a bool -/
def Tb (f : FE) : FT := fun env st => match f env st with | some (.bl b, st') => some (b, st') | _ => none
theorem goT {t : TE} (h : ∀ σ H Q, tE X.K (E2 f fa fb) σ H Q → t σ H Q) {σ : L2.St} {H : Hp} {Q : Bool → Hp → Prop} (q : tT X.K (Tb (E2 f fa fb)) σ H Q) : tTest t σ H Q := by
  obtain ⟨θ, G, env, st, d, st', S, EN, he, post⟩ := q
  unfold Tb at he
  split at he
  · rename_i b st2 he2
    cases he
    refine h _ _ _ (tE.go S EN he2 fun θ1 G1 H1 v1 e1 S1 EN1 r1 => ?_)
    cases r1
    exact ⟨_, rfl, post _ _ _ e1 S1⟩
  · cases he
theorem t_cmp {op : CmpOp} (ho : OpR X (compareOp op) r) (hf : Op2 X.K r f) (ha : PE X a (tE X.K fa)) (hb : PE X b (tE X.K fb)) (hm : behindInMarks op b = false) : PT X (.Compare a [op] [b] pos) (tT X.K (Tb (E2 f fa fb))) :=
  ptImp (pt_cmpR ho ha hb hm) fun _ _ _ h => goT (fun _ _ _ h => go2 hf h) h
end

section
variable {K : Frag} {θ : List Addr} {G H : Hp} {st : Sto} {v : V} {d : D} {Q : VK} {vs : List V} {ds : List D} {q : Addr}
theorem PostE.same (p : PostE K θ G H st d Q) (S : Sim K θ G H st) (r : Rep K θ G v d) : Q v H := p θ G H v .refl S r
theorem PostE.newT (p : PostE K θ G H st (.tup ds) Q) (S : Sim K θ G H st) (h : H q = none) (r : Reps K θ G vs ds) : Q (.ref q) (upd H q (.tup vs)) :=
  p _ _ _ _ (Ext.newG S h _) (S.newG h _) (.tup (.inl (.inl upd_same)) (r.ext (Ext.newG S h _)))
theorem PostE.newL (p : PostE K θ G H st (.lst ds) Q) (S : Sim K θ G H st) (h : H q = none) (r : Reps K θ G vs ds) : Q (.ref q) (upd H q (.lst vs)) :=
  p _ _ _ _ (Ext.newG S h _) (S.newG h _) (.lst upd_same (r.ext (Ext.newG S h _)))
theorem PostE.newM (p : PostE K θ G H (st ++ [.lst ds]) (.ref st.length) Q) (S : Sim K θ G H st) (h : H q = none) (r : Reps K θ G vs ds) : Q (.ref q) (upd H q (.lst vs)) :=
  p _ _ _ _ (Ext.newM S h _) (S.newM h r) (.ref (by rw [← S.len, List.getElem?_append_right (Nat.le_refl _), Nat.sub_self]; rfl))
theorem Sim.t (S : Sim K θ G H st) {a : Addr} (h : SqT K G a vs) : SqT K H a vs := S.sub.t h
theorem Sim.l (S : Sim K θ G H st) {a : Addr} (h : SqL K G a vs) : SqL K H a vs := S.sub.l h
end
/-- the items of a list: frozen, or of the store -/
def lsD (st : Sto) : D → Option (List D)
  | .lst ds => some ds
  | .ref n => match st[n]? with | some (.lst ds) => some ds | none => none
  | _ => none
/-- .. or one that is read only -/
def sqD (st : Sto) : D → Option (List D)
  | .sq ds => some ds
  | .lst ds => some ds
  | .ref n => match st[n]? with | some (.lst ds) => some ds | none => none
  | _ => none
section
variable {K : Frag} {θ : List Addr} {G H : Hp} {st : Sto} {v : V} {d : D} {ds : List D}
theorem lsD.ok (S : Sim K θ G H st) (r : Rep K θ G v d) (h : lsD st d = some ds) : ∃ a vs, v = .ref a ∧ H a = some (.lst vs) ∧ Reps K θ G vs ds := by
  cases d with
  | lst es =>
    cases h
    cases r with
    | lst h1 h2 => exact ⟨_, _, rfl, S.sub _ _ h1, h2⟩
  | ref n =>
    cases r with
    | ref h1 =>
      obtain ⟨o, h2, h3⟩ := S.at h1
      simp only [lsD, h2] at h
      cases o with
      | lst es =>
        cases h
        obtain ⟨vs, h4, h5⟩ := h3
        exact ⟨_, vs, rfl, h4, h5⟩
  | _ => cases h
theorem sqD.ok (S : Sim K θ G H st) (r : Rep K θ G v d) (h : sqD st d = some ds) : ∃ a vs, v = .ref a ∧ SqL K H a vs ∧ Reps K θ G vs ds := by
  cases d with
  | sq es =>
    cases h
    cases r with
    | sq h1 h2 => exact ⟨_, _, rfl, S.l h1, h2⟩
  | lst es =>
    obtain ⟨a, vs, h1, h2, h3⟩ := lsD.ok S r (show lsD st (.lst es) = some ds from h)
    exact ⟨a, vs, h1, SqL.of h2, h3⟩
  | ref n =>
    obtain ⟨a, vs, h1, h2, h3⟩ := lsD.ok S r (show lsD st (.ref n) = some ds from h)
    exact ⟨a, vs, h1, SqL.of h2, h3⟩
  | _ => cases h
end

/-! ### the operators -/
theorem szl {n : Nat} (h : n ≤ 16777216) : n ≤ sizeLine := by rw [sizeLine_eq]; exact h
theorem szlt {n : Nat} (h : n < 16777216) : n < sizeLine := by rw [sizeLine_eq]; exact h
def addD : F2 := fun x y st => match x, y with
  | .int i, .int j => some (.int (i + j), st)
  | .str s, .str t => if s.length + t.length ≤ 16777216 then some (.str (s ++ t), st) else none
  | .tup a, .tup b => if a.length + b.length ≤ 16777216 then some (.tup (a ++ b), st) else none
  | x, y => match lsD st x, lsD st y with
    | some a, some b => if a.length + b.length ≤ 16777216 then some (.lst (a ++ b), st) else none
    | _, _ => none
def rAddA (K : Frag) : R2 := fun x y H Q => (∃ i j, x = .int i ∧ y = .int j ∧ Q (.int (i + j)) H) ∨ (∃ i j, x = .str i ∧ y = .str j ∧ i.length + j.length ≤ sizeLine ∧ Q (.str (i ++ j)) H) ∨ rCatA K x y H Q ∨ rCat x y H Q
theorem o_add {X : Cx} : OpR X (binaryOp .Add) (rAddA X.K) := op_add.or (op_add_str.or (op_catA.or op_cat))
theorem s_add {K : Frag} : Op2 K (rAddA K) addD := by
  intro θ G H st x y d e z st' Q S rx ry h post
  unfold addD at h
  split at h
  · cases h; cases rx; cases ry
    exact .inl ⟨_, _, rfl, rfl, post.same S (.int _)⟩
  · split at h
    · rename_i hl
      cases h; cases rx; cases ry
      exact .inr (.inl ⟨_, _, rfl, rfl, szl hl, post.same S (.str _)⟩)
    · cases h
  · split at h
    · rename_i a b hl
      cases h
      cases rx with
      | tup h1 h2 =>
        cases ry with
        | tup h3 h4 =>
          refine .inr (.inr (.inl ⟨_, _, _, _, rfl, rfl, S.t h1, S.t h3, by rw [h2.len, h4.len]; exact szl hl, fun e => ?_, fun _ e => ?_, fun _ _ p hp => ?_⟩))
          · subst e
            cases a with
            | nil => exact post.same S (by rw [List.nil_append]; exact .tup h3 h4)
            | cons _ _ => cases h2
          · subst e
            cases b with
            | nil => exact post.same S (by rw [List.append_nil]; exact .tup h1 h2)
            | cons _ _ => cases h4
          · exact post.newT S hp (h2.append h4)
    · cases h
  · split at h
    · rename_i a b ha hb
      split at h
      · rename_i hl
        cases h
        obtain ⟨p, vs, rfl, h1, h2⟩ := lsD.ok S rx ha
        obtain ⟨q, ws, rfl, h3, h4⟩ := lsD.ok S ry hb
        exact .inr (.inr (.inr ⟨_, _, _, _, rfl, rfl, h1, h3, by rw [h2.len, h4.len]; exact szl hl, fun p hp => post.newL S hp (h2.append h4)⟩))
      · cases h
    · cases h
def subD : F2 := fun x y st => match x, y with
  | .int i, .int j => some (.int (i - j), st)
  | _, _ => none
theorem s_int {K : Frag} {f : F2} {C : Int → Int → Prop} {g : Int → Int → V} {gd : Int → Int → D} (hf : ∀ x y st r, f x y st = some r → ∃ i j, x = .int i ∧ y = .int j ∧ C i j ∧ r = (gd i j, st)) (hr : ∀ i j θ G, Rep K θ G (g i j) (gd i j)) : Op2 K (rI C g) f := by
  intro θ G H st x y d e z st' Q S rx ry h post
  obtain ⟨i, j, rfl, rfl, hc, he⟩ := hf _ _ _ _ h
  cases he; cases rx; cases ry
  exact ⟨i, j, rfl, rfl, hc, post.same S (hr i j θ G)⟩
theorem s_int0 {K : Frag} {f : F2} {g : Int → Int → V} {gd : Int → Int → D} (hf : ∀ x y st r, f x y st = some r → ∃ i j, x = .int i ∧ y = .int j ∧ r = (gd i j, st)) (hr : ∀ i j θ G, Rep K θ G (g i j) (gd i j)) : Op2 K (rI0 g) f := by
  intro θ G H st x y d e z st' Q S rx ry h post
  obtain ⟨i, j, rfl, rfl, he⟩ := hf _ _ _ _ h
  cases he; cases rx; cases ry
  exact ⟨i, j, rfl, rfl, post.same S (hr i j θ G)⟩
theorem s_sub {K : Frag} : Op2 K (rI0 fun i j => .int (i - j)) subD := s_int0 (gd := fun i j => .int (i - j)) (fun x y st r h => by
  unfold subD at h
  split at h
  · cases h; exact ⟨_, _, rfl, rfl, rfl⟩
  · cases h) fun _ _ _ _ => .int _
def mulOk (i j : Int) : Prop := (-(2 ^ 64) < i ∧ i < 2 ^ 64) ∨ (-(2 ^ 64) < j ∧ j < 2 ^ 64)
instance (i j : Int) : Decidable (mulOk i j) := by unfold mulOk; infer_instance
def mulI : F2 := fun x y st => match x, y with
  | .int i, .int j => if mulOk i j then some (.int (i * j), st) else none
  | _, _ => none
theorem s_mulI {K : Frag} : Op2 K (rI CMul fun i j => .int (i * j)) mulI := s_int (gd := fun i j => .int (i * j)) (fun x y st r h => by
  unfold mulI at h
  split at h
  · split at h
    · rename_i hm
      cases h; exact ⟨_, _, rfl, rfl, hm, rfl⟩
    · cases h
  · cases h) fun _ _ _ _ => .int _
def fdivD : F2 := fun x y st => match x, y with
  | .int i, .int j => if 0 < j ∧ j < 2 ^ 64 then some (.int (i / j), st) else none
  | _, _ => none
theorem s_fdiv {K : Frag} : Op2 K (rI CDivW fun i j => .int (i / j)) fdivD := s_int (gd := fun i j => .int (i / j)) (fun x y st r h => by
  unfold fdivD at h
  split at h
  · split at h
    · rename_i hm
      cases h; exact ⟨_, _, rfl, rfl, wide_div (b := 64) hm.1 (by omega) (by decide) (by decide), rfl⟩
    · cases h
  · cases h) fun _ _ _ _ => .int _
def modD : F2 := fun x y st => match x, y with
  | .int i, .int j => if 0 < j then some (.int (i % j), st) else none
  | _, _ => none
theorem s_mod {K : Frag} : Op2 K (rI (fun _ j => 0 < j) fun i j => .int (i % j)) modD := s_int (gd := fun i j => .int (i % j)) (fun x y st r h => by
  unfold modD at h
  split at h
  · split at h
    · rename_i hm
      cases h; exact ⟨_, _, rfl, rfl, hm, rfl⟩
    · cases h
  · cases h) fun _ _ _ _ => .int _
def powD : F2 := fun x y st => match x, y with
  | .int i, .int j => if 0 ≤ j ∧ j ≤ 1000000 ∧ i.natAbs < 2 ^ 64 then some (.int (i ^ j.toNat), st) else none
  | _, _ => none
theorem s_pow {K : Frag} : Op2 K (rI CPow fun i j => .int (i ^ j.toNat)) powD := s_int (gd := fun i j => .int (i ^ j.toNat)) (fun x y st r h => by
  unfold powD at h
  split at h
  · split at h
    · rename_i hm
      cases h; exact ⟨_, _, rfl, rfl, hm, rfl⟩
    · cases h
  · cases h) fun _ _ _ _ => .int _
def shlD : F2 := fun x y st => match x, y with
  | .int i, .int j => if 0 ≤ j ∧ j ≤ 1000000 ∧ i.natAbs < 2 ^ 64 then some (.int (i * 2 ^ j.toNat), st) else none
  | _, _ => none
theorem s_shl {K : Frag} : Op2 K (rI CPow fun i j => .int (i * 2 ^ j.toNat)) shlD := s_int (gd := fun i j => .int (i * 2 ^ j.toNat)) (fun x y st r h => by
  unfold shlD at h
  split at h
  · split at h
    · rename_i hm
      cases h; exact ⟨_, _, rfl, rfl, hm, rfl⟩
    · cases h
  · cases h) fun _ _ _ _ => .int _
def cmpD (p : Int → Int → Bool) : F2 := fun x y st => match x, y with
  | .int i, .int j => some (.bl (p i j), st)
  | _, _ => none
theorem s_cmp {K : Frag} {p : Int → Int → Bool} : Op2 K (rI0 fun i j => .bl (p i j)) (cmpD p) := s_int0 (gd := fun i j => .bl (p i j)) (fun x y st r h => by
  unfold cmpD at h
  split at h
  · cases h; exact ⟨_, _, rfl, rfl, rfl⟩
  · cases h) fun _ _ _ _ => .bl _
abbrev ltD : F2 := cmpD fun i j => decide (i < j)
abbrev leD : F2 := cmpD fun i j => decide (i ≤ j)
abbrev gtD : F2 := cmpD fun i j => decide (j < i)
abbrev geD : F2 := cmpD fun i j => decide (j ≤ i)
def isNon : D → Bool
  | .non => true
  | _ => false
theorem isNon_v {K : Frag} {θ : List Addr} {G : Hp} {v : V} {d : D} (r : Rep K θ G v d) : decide (v = .non) = isNon d := by
  cases r <;> simp [isNon]
def isnD (neg : Bool) : F2 := fun x y st => match y with
  | .non => some (.bl (if neg then !isNon x else isNon x), st)
  | _ => none
theorem s_isN {K : Frag} : Op2 K (fun x y H Q => y = .non ∧ Q (.bl (decide (x = .non))) H) (isnD false) := by
  intro θ G H st x y d e z st' Q S rx ry h post
  unfold isnD at h
  split at h
  · cases h; cases ry
    exact ⟨rfl, post.same S (by rw [isNon_v rx]; exact .bl _)⟩
  · cases h
theorem s_notN {K : Frag} : Op2 K (fun x y H Q => y = .non ∧ Q (.bl (!decide (x = .non))) H) (isnD true) := by
  intro θ G H st x y d e z st' Q S rx ry h post
  unfold isnD at h
  split at h
  · cases h; cases ry
    exact ⟨rfl, post.same S (by rw [isNon_v rx]; exact .bl _)⟩
  · cases h
/-! subscripts -/
theorem at_rep {K : Frag} {θ : List Addr} {G : Hp} {vs : List V} {ds : List D} (r : Reps K θ G vs ds) {i : Int} {d : D} (h : atI ds i = some d) : ∃ v, atI vs i = some v ∧ Rep K θ G v d := by
  unfold atI at h ⊢
  obtain ⟨j, h1, h2⟩ := Option.bind_eq_some_iff.mp h
  obtain ⟨v, h3, h4⟩ := r.at h2
  exact ⟨v, Option.bind_eq_some_iff.mpr ⟨j, by rw [r.len]; exact h1, h3⟩, h4⟩
def ixD : F2 := fun x y st => match y with
  | .int i => match x with
    | .tup ds => (atI ds i).map fun d => (d, st)
    | .str z => if z.length ≤ 16777216 then (atI z.cps.toList i).map fun c => (.str ⟨#[c]⟩, st) else none
    | x => match sqD st x with
      | some ds => (atI ds i).map fun d => (d, st)
      | none => none
  | _ => none
theorem s_ix {K : Frag} : Op2 K (rIx K) ixD := by
  intro θ G H st x y d e z st' Q S rx ry h post
  unfold ixD at h
  split at h
  · cases ry
    split at h
    · obtain ⟨d', h1, h2⟩ := Option.map_eq_some_iff.mp h
      cases h2
      cases rx with
      | tup h3 h4 =>
        obtain ⟨v, h5, h6⟩ := at_rep h4 h1
        exact .inr (.inl ⟨_, _, _, v, rfl, rfl, S.t h3, h5, post.same S h6⟩)
    · split at h
      · rename_i hl
        obtain ⟨c, h1, h2⟩ := Option.map_eq_some_iff.mp h
        cases h2
        cases rx
        exact .inr (.inr ⟨_, _, c, rfl, rfl, szl hl, h1, post.same S (.str _)⟩)
      · cases h
    · split at h
      · rename_i ds hq
        obtain ⟨d', h1, h2⟩ := Option.map_eq_some_iff.mp h
        cases h2
        obtain ⟨a, vs, rfl, h3, h4⟩ := sqD.ok S rx hq
        obtain ⟨v, h5, h6⟩ := at_rep h4 h1
        exact .inl ⟨_, _, _, v, rfl, rfl, h3, h5, post.same S h6⟩
      · cases h
  · cases h
section
variable {X : Cx} {a b : Expr} {fa fb : FE} {pos : Pos}
theorem c_ix (ha : PE X a (tE X.K fa)) (hb : PE X b (tE X.K fb)) (hs : PlainIx b := by exact fun _ _ => rfl) : PE X (.Subscript a b pos) (tE X.K (E2 ixD fa fb)) :=
  peImp (pe_ix ix_seq ha hb hs) fun _ _ _ h => go2 s_ix h
theorem c_add (ha : PE X a (tE X.K fa)) (hb : PE X b (tE X.K fb)) : PE X (.BinOp a .Add b pos) (tE X.K (E2 addD fa fb)) := c_op o_add s_add ha hb
theorem c_sub (ha : PE X a (tE X.K fa)) (hb : PE X b (tE X.K fb)) : PE X (.BinOp a .Sub b pos) (tE X.K (E2 subD fa fb)) := c_op op_sub s_sub ha hb
theorem c_mulI (ha : PE X a (tE X.K fa)) (hb : PE X b (tE X.K fb)) : PE X (.BinOp a .Mult b pos) (tE X.K (E2 mulI fa fb)) := c_op op_mul s_mulI ha hb
theorem c_fdiv (ha : PE X a (tE X.K fa)) (hb : PE X b (tE X.K fb)) : PE X (.BinOp a .FloorDiv b pos) (tE X.K (E2 fdivD fa fb)) := c_op op_fdivW s_fdiv ha hb
theorem c_mod (ha : PE X a (tE X.K fa)) (hb : PE X b (tE X.K fb)) : PE X (.BinOp a .Mod b pos) (tE X.K (E2 modD fa fb)) := c_op op_mod s_mod ha hb
theorem c_pow (ha : PE X a (tE X.K fa)) (hb : PE X b (tE X.K fb)) : PE X (.BinOp a .Pow b pos) (tE X.K (E2 powD fa fb)) := c_op op_pow s_pow ha hb
theorem c_shl (ha : PE X a (tE X.K fa)) (hb : PE X b (tE X.K fb)) : PE X (.BinOp a .LShift b pos) (tE X.K (E2 shlD fa fb)) := c_op op_shl s_shl ha hb
theorem t_lt (ha : PE X a (tE X.K fa)) (hb : PE X b (tE X.K fb)) : PT X (.Compare a [.Lt] [b] pos) (tT X.K (Tb (E2 ltD fa fb))) := t_cmp op_lt s_cmp ha hb (nomark _)
theorem t_le (ha : PE X a (tE X.K fa)) (hb : PE X b (tE X.K fb)) : PT X (.Compare a [.LtE] [b] pos) (tT X.K (Tb (E2 leD fa fb))) := t_cmp op_le s_cmp ha hb (nomark _)
theorem t_gt (ha : PE X a (tE X.K fa)) (hb : PE X b (tE X.K fb)) : PT X (.Compare a [.Gt] [b] pos) (tT X.K (Tb (E2 gtD fa fb))) := t_cmp op_gt s_cmp ha hb (nomark _)
theorem t_ge (ha : PE X a (tE X.K fa)) (hb : PE X b (tE X.K fb)) : PT X (.Compare a [.GtE] [b] pos) (tT X.K (Tb (E2 geD fa fb))) := t_cmp op_ge s_cmp ha hb (nomark _)
theorem c_lt (ha : PE X a (tE X.K fa)) (hb : PE X b (tE X.K fb)) : PE X (.Compare a [.Lt] [b] pos) (tE X.K (E2 ltD fa fb)) := c_cmp op_lt s_cmp ha hb (nomark _)
theorem c_le (ha : PE X a (tE X.K fa)) (hb : PE X b (tE X.K fb)) : PE X (.Compare a [.LtE] [b] pos) (tE X.K (E2 leD fa fb)) := c_cmp op_le s_cmp ha hb (nomark _)
theorem c_gt (ha : PE X a (tE X.K fa)) (hb : PE X b (tE X.K fb)) : PE X (.Compare a [.Gt] [b] pos) (tE X.K (E2 gtD fa fb)) := c_cmp op_gt s_cmp ha hb (nomark _)
theorem c_ge (ha : PE X a (tE X.K fa)) (hb : PE X b (tE X.K fb)) : PE X (.Compare a [.GtE] [b] pos) (tE X.K (E2 geD fa fb)) := c_cmp op_ge s_cmp ha hb (nomark _)
theorem t_isN (ha : PE X a (tE X.K fa)) (hb : PE X b (tE X.K fb)) : PT X (.Compare a [.Is] [b] pos) (tT X.K (Tb (E2 (isnD false) fa fb))) := t_cmp op_isN s_isN ha hb (nomark _)
theorem t_notN (ha : PE X a (tE X.K fa)) (hb : PE X b (tE X.K fb)) : PT X (.Compare a [.IsNot] [b] pos) (tT X.K (Tb (E2 (isnD true) fa fb))) := t_cmp op_notN s_notN ha hb (nomark _)
theorem c_isN (ha : PE X a (tE X.K fa)) (hb : PE X b (tE X.K fb)) : PE X (.Compare a [.Is] [b] pos) (tE X.K (E2 (isnD false) fa fb)) := c_cmp op_isN s_isN ha hb (nomark _)
theorem c_notN (ha : PE X a (tE X.K fa)) (hb : PE X b (tE X.K fb)) : PE X (.Compare a [.IsNot] [b] pos) (tE X.K (E2 (isnD true) fa fb)) := c_cmp op_notN s_notN ha hb (nomark _)
end

/-! ### == and in, of data -/
mutual
def toPy : D → Option PyData
  | .non => some .none
  | .bl b => some (.bool b)
  | .int i => some (.int i)
  | .str s => some (.str s)
  | .tup ds => (toPys ds).map .tuple
  | .lst ds => (toPys ds).map .list
  | .sq ds => (toPys ds).map .list
  | .ref _ => none
  | .adr _ => none
  | .ty _ => none
def toPys : List D → Option (List PyData)
  | [] => some []
  | d :: ds => (toPy d).bind fun p => (toPys ds).map (p :: ·)
end
def pyD (st : Sto) : D → Option PyData
  | .ref n => match st[n]? with | some (.lst ds) => (toPys ds).map .list | none => none
  | d => toPy d
section
variable {K : Frag} {θ : List Addr} {G H : Hp} {st : Sto}
mutual
theorem toPy.ok (S : Gle G H) : ∀ (d : D) (v : V) (p : PyData), Rep K θ G v d → toPy d = some p → Dp K H v p
  | .non, _, _, r, h => by cases r; cases h; exact .non
  | .bl b, _, _, r, h => by cases r; cases h; exact .bl b
  | .int i, _, _, r, h => by cases r; cases h; exact .int i
  | .str x, _, _, r, h => by cases r; cases h; exact .str x
  | .tup ds, _, _, r, h => by
    obtain ⟨ps, h1, rfl⟩ := Option.map_eq_some_iff.mp (show (toPys ds).map PyData.tuple = some _ from h)
    cases r with
    | tup h2 h3 => exact .tup (S.t h2) (toPys.ok S ds _ ps h3 h1)
  | .lst ds, _, _, r, h => by
    obtain ⟨ps, h1, rfl⟩ := Option.map_eq_some_iff.mp (show (toPys ds).map PyData.list = some _ from h)
    cases r with
    | lst h2 h3 => exact .lst (SqL.of (S _ _ h2)) (toPys.ok S ds _ ps h3 h1)
  | .sq ds, _, _, r, h => by
    obtain ⟨ps, h1, rfl⟩ := Option.map_eq_some_iff.mp (show (toPys ds).map PyData.list = some _ from h)
    cases r with
    | sq h2 h3 => exact .lst (S.l h2) (toPys.ok S ds _ ps h3 h1)
  | .ref _, _, _, _, h => by cases h
  | .adr _, _, _, _, h => by cases h
  | .ty _, _, _, _, h => by cases h
theorem toPys.ok (S : Gle G H) : ∀ (ds : List D) (vs : List V) (ps : List PyData), Reps K θ G vs ds → toPys ds = some ps → DpAll K H vs ps
  | [], _, _, r, h => by cases r; cases h; exact .nil
  | d :: ds, _, _, r, h => by
    obtain ⟨p, h1, h2⟩ := Option.bind_eq_some_iff.mp (show ((toPy d).bind fun p => (toPys ds).map (p :: ·)) = some _ from h)
    obtain ⟨ps, h3, rfl⟩ := Option.map_eq_some_iff.mp h2
    cases r with
    | cons r1 r2 => exact .cons (toPy.ok S d _ p r1 h1) (toPys.ok S ds _ ps r2 h3)
end
theorem pyD.ok {d : D} {v : V} {p : PyData} (S : Sim K θ G H st) (r : Rep K θ G v d) (h : pyD st d = some p) : Dp K H v p := by
  cases d with
  | ref n =>
    cases r with
    | ref h1 =>
      obtain ⟨o, h2, h3⟩ := S.at h1
      simp only [pyD, h2] at h
      cases o with
      | lst es =>
        obtain ⟨vs, h4, h5⟩ := h3
        obtain ⟨ps, h6, rfl⟩ := Option.map_eq_some_iff.mp h
        exact .lst (SqL.of h4) (toPys.ok S.sub es vs ps h5 h6)
  | _ => exact toPy.ok S.sub _ _ _ r h
end
def eqD (neg : Bool) : F2 := fun x y st => match x, y with
  | .str a, .str b => some (.bl (if neg then !(a == b) else a == b), st)
  | x, y => match pyD st x, pyD st y with
    | some p, some q => if SeqAt.shaped p = true ∧ SeqAt.shaped q = true then some (.bl (if neg then !PyData.eqv p q else PyData.eqv p q), st) else none
    | _, _ => none
theorem s_eq {K : Frag} : Op2 K (fun x y H Q => rEq x y H Q ∨ rEqD K x y H Q) (eqD false) := by
  intro θ G H st x y d e z st' Q S rx ry h post
  unfold eqD at h
  split at h
  · cases h; cases rx; cases ry
    exact .inl ⟨rfl, post.same S (by rw [dec_str]; exact .bl _)⟩
  · split at h
    · rename_i p q h1 h2
      split at h
      · rename_i hs
        cases h
        exact .inr ⟨p, q, pyD.ok S rx h1, pyD.ok S ry h2, hs.1, hs.2, post.same S (.bl _)⟩
      · cases h
    · cases h
theorem s_ne {K : Frag} : Op2 K (fun x y H Q => rNe x y H Q ∨ rNeD K x y H Q) (eqD true) := by
  intro θ G H st x y d e z st' Q S rx ry h post
  unfold eqD at h
  split at h
  · cases h; cases rx; cases ry
    exact .inl ⟨rfl, post.same S (by rw [dec_str]; exact .bl _)⟩
  · split at h
    · rename_i p q h1 h2
      split at h
      · rename_i hs
        cases h
        exact .inr ⟨p, q, pyD.ok S rx h1, pyD.ok S ry h2, hs.1, hs.2, post.same S (.bl _)⟩
      · cases h
    · cases h
def rInA (K : Frag) : R2 := fun x y H Q => (∃ i j, x = .str i ∧ y = .str j ∧ Q (.bl (!(Builtin.Str.occurrences j i 0 j.length 1).isEmpty)) H) ∨
  (∃ d ds, Dp K H x d ∧ (Dp K H y (.list ds) ∨ Dp K H y (.tuple ds)) ∧ SeqAt.shaped d = true ∧ SeqAt.shaped (.list ds) = true ∧ Q (.bl (ds.any fun z => PyData.eqv z d)) H)
def rNotInA (K : Frag) : R2 := fun x y H Q => (∃ i j, x = .str i ∧ y = .str j ∧ Q (.bl (!(!(Builtin.Str.occurrences j i 0 j.length 1).isEmpty))) H) ∨
  (∃ d ds, Dp K H x d ∧ (Dp K H y (.list ds) ∨ Dp K H y (.tuple ds)) ∧ SeqAt.shaped d = true ∧ SeqAt.shaped (.list ds) = true ∧ Q (.bl (!ds.any fun z => PyData.eqv z d)) H)
theorem room_in {A : Around} {ds : List PyData} {d : PyData} (sd : SeqAt.shaped d = true) (hu : A.units + 65 < cLine) : A.units + 1 + min (PyData.depthAll ds) d.depth < cLine := by
  have h1 := SeqAt.depth_of_shaped sd
  have h2 : min (PyData.depthAll ds) d.depth ≤ d.depth := Nat.min_le_right _ _
  omega
theorem o_in {X : Cx} (hu : X.A.units + 65 < cLine) : OpR X (compareOp .In) (rInA X.K) := by
  intro pins s σ H x y v u Q I rx ry h
  rcases h with h | ⟨d, ds, hd, he, sd, se, q⟩
  · exact op_in_str pins s σ H x y v u Q I rx ry h
  · obtain ⟨as, r1⟩ := Dp.reads I d x v hd rx
    rcases he with he | he
    · obtain ⟨bs, r2⟩ := Dp.reads I (.list ds) y u he ry
      exact SeqAt.in_list_reads r2 r1 (SeqAt.canLay_of_shaped se) (SeqAt.canLay_of_shaped sd) (room_in sd hu) ⟨.bl _, H, I, rfl, q⟩
    · obtain ⟨bs, r2⟩ := Dp.reads I (.tuple ds) y u he ry
      exact SeqAt.in_tuple_reads r2 r1 (SeqAt.canLay_of_shaped se) (SeqAt.canLay_of_shaped sd) (room_in sd hu) ⟨.bl _, H, I, rfl, q⟩
theorem o_notIn {X : Cx} (hu : X.A.units + 65 < cLine) : OpR X (compareOp .NotIn) (rNotInA X.K) := by
  intro pins s σ H x y v u Q I rx ry h
  rcases h with h | ⟨d, ds, hd, he, sd, se, q⟩
  · exact op_notIn_str pins s σ H x y v u Q I rx ry h
  · obtain ⟨as, r1⟩ := Dp.reads I d x v hd rx
    rcases he with he | he
    · obtain ⟨bs, r2⟩ := Dp.reads I (.list ds) y u he ry
      exact SeqAt.notIn_list_reads r2 r1 (SeqAt.canLay_of_shaped se) (SeqAt.canLay_of_shaped sd) (room_in sd hu) ⟨.bl _, H, I, rfl, q⟩
    · obtain ⟨bs, r2⟩ := Dp.reads I (.tuple ds) y u he ry
      exact SeqAt.notIn_tuple_reads r2 r1 (SeqAt.canLay_of_shaped se) (SeqAt.canLay_of_shaped sd) (room_in sd hu) ⟨.bl _, H, I, rfl, q⟩
def seqPy : PyData → Option (List PyData)
  | .list ds => some ds
  | .tuple ds => some ds
  | _ => none
def inD (neg : Bool) : F2 := fun x y st => match y with
  | .str b => match x with
    | .str a => some (.bl (if neg then !(!(Builtin.Str.occurrences b a 0 b.length 1).isEmpty) else !(Builtin.Str.occurrences b a 0 b.length 1).isEmpty), st)
    | _ => none
  | y => match pyD st x, (pyD st y).bind seqPy with
    | some p, some qs => if SeqAt.shaped p = true ∧ SeqAt.shaped (.list qs) = true then some (.bl (if neg then !qs.any fun z => PyData.eqv z p else qs.any fun z => PyData.eqv z p), st) else none
    | _, _ => none
theorem seqPy.ok {K : Frag} {H : Hp} {v : V} {p : PyData} {ds : List PyData} (h : Dp K H v p) (e : seqPy p = some ds) : Dp K H v (.list ds) ∨ Dp K H v (.tuple ds) := by
  cases p with
  | list xs => cases e; exact .inl h
  | tuple xs => cases e; exact .inr h
  | _ => cases e
theorem s_in {K : Frag} : Op2 K (rInA K) (inD false) := by
  intro θ G H st x y d e z st' Q S rx ry h post
  unfold inD at h
  split at h
  · split at h
    · cases h; cases rx; cases ry
      exact .inl ⟨_, _, rfl, rfl, post.same S (.bl _)⟩
    · cases h
  · split at h
    · rename_i p qs h1 h2
      split at h
      · rename_i hs
        cases h
        obtain ⟨q, h3, h4⟩ := Option.bind_eq_some_iff.mp h2
        exact .inr ⟨p, qs, pyD.ok S rx h1, seqPy.ok (pyD.ok S ry h3) h4, hs.1, hs.2, post.same S (.bl _)⟩
      · cases h
    · cases h
theorem s_notIn {K : Frag} : Op2 K (rNotInA K) (inD true) := by
  intro θ G H st x y d e z st' Q S rx ry h post
  unfold inD at h
  split at h
  · split at h
    · cases h; cases rx; cases ry
      exact .inl ⟨_, _, rfl, rfl, post.same S (.bl _)⟩
    · cases h
  · split at h
    · rename_i p qs h1 h2
      split at h
      · rename_i hs
        cases h
        obtain ⟨q, h3, h4⟩ := Option.bind_eq_some_iff.mp h2
        exact .inr ⟨p, qs, pyD.ok S rx h1, seqPy.ok (pyD.ok S ry h3) h4, hs.1, hs.2, post.same S (.bl _)⟩
      · cases h
    · cases h
theorem hu64 {A : Around} {k : Nat} (hr : Room k A) : A.units + 64 < cLine := hr.units
theorem hu65 {A : Around} {k : Nat} (hr : Room k A) : A.units + 65 < cLine := by have := hr.un; omega
section
variable {X : Cx} {a b : Expr} {fa fb : FE} {pos : Pos}
theorem c_eq {k : Nat} (hr : Room k X.A) (ha : PE X a (tE X.K fa)) (hb : PE X b (tE X.K fb)) : PE X (.Compare a [.Eq] [b] pos) (tE X.K (E2 (eqD false) fa fb)) := c_cmp (op_eq.or (op_eqD (hu64 hr))) s_eq ha hb (nomark _)
theorem c_ne {k : Nat} (hr : Room k X.A) (ha : PE X a (tE X.K fa)) (hb : PE X b (tE X.K fb)) : PE X (.Compare a [.NotEq] [b] pos) (tE X.K (E2 (eqD true) fa fb)) := c_cmp (op_ne.or (op_neD (hu64 hr))) s_ne ha hb (nomark _)
theorem t_eq {k : Nat} (hr : Room k X.A) (ha : PE X a (tE X.K fa)) (hb : PE X b (tE X.K fb)) : PT X (.Compare a [.Eq] [b] pos) (tT X.K (Tb (E2 (eqD false) fa fb))) := t_cmp (op_eq.or (op_eqD (hu64 hr))) s_eq ha hb (nomark _)
theorem t_ne {k : Nat} (hr : Room k X.A) (ha : PE X a (tE X.K fa)) (hb : PE X b (tE X.K fb)) : PT X (.Compare a [.NotEq] [b] pos) (tT X.K (Tb (E2 (eqD true) fa fb))) := t_cmp (op_ne.or (op_neD (hu64 hr))) s_ne ha hb (nomark _)
theorem c_in {k : Nat} (hr : Room k X.A) (ha : PE X a (tE X.K fa)) (hb : PE X b (tE X.K fb)) (hm : behindInMarks .In b = false := by rfl) : PE X (.Compare a [.In] [b] pos) (tE X.K (E2 (inD false) fa fb)) := c_cmp (o_in (hu65 hr)) s_in ha hb hm
theorem t_in {k : Nat} (hr : Room k X.A) (ha : PE X a (tE X.K fa)) (hb : PE X b (tE X.K fb)) (hm : behindInMarks .In b = false := by rfl) : PT X (.Compare a [.In] [b] pos) (tT X.K (Tb (E2 (inD false) fa fb))) := t_cmp (o_in (hu65 hr)) s_in ha hb hm
theorem c_notIn {k : Nat} (hr : Room k X.A) (ha : PE X a (tE X.K fa)) (hb : PE X b (tE X.K fb)) (hm : behindInMarks .NotIn b = false := by rfl) : PE X (.Compare a [.NotIn] [b] pos) (tE X.K (E2 (inD true) fa fb)) := c_cmp (o_notIn (hu65 hr)) s_notIn ha hb hm
theorem t_notIn {k : Nat} (hr : Room k X.A) (ha : PE X a (tE X.K fa)) (hb : PE X b (tE X.K fb)) (hm : behindInMarks .NotIn b = false := by rfl) : PT X (.Compare a [.NotIn] [b] pos) (tT X.K (Tb (E2 (inD true) fa fb))) := t_cmp (o_notIn (hu65 hr)) s_notIn ha hb hm
end

/-! ### truth, and, or, not, if else -/
def truD (st : Sto) : D → Option Bool
  | .non => some false
  | .bl b => some b
  | .int i => some (i != 0)
  | .str s => if s.length ≤ 16777216 then some ((s.length : Int) != 0) else none
  | .tup ds => some (!ds.isEmpty)
  | d => (sqD st d).map fun ds => !ds.isEmpty
theorem empty_rep {K : Frag} {θ : List Addr} {G : Hp} {vs : List V} {ds : List D} (r : Reps K θ G vs ds) : vs.isEmpty = ds.isEmpty := by
  cases r <;> rfl
theorem truD.ok {K : Frag} {θ : List Addr} {G H : Hp} {st : Sto} {v : V} {d : D} {b : Bool} (S : Sim K θ G H st) (r : Rep K θ G v d) (h : truD st d = some b) : TruV K v H b := by
  have sq : ∀ ds, sqD st d = some ds → b = !ds.isEmpty → TruV K v H b := fun ds e1 e2 => by
    obtain ⟨a, vs, rfl, h1, h2⟩ := sqD.ok S r e1
    exact .inl ⟨vs, h1, by rw [empty_rep h2]; exact e2⟩
  cases d with
  | non => cases r; cases h; rfl
  | bl _ => cases r; cases h; rfl
  | int _ => cases r; cases h; rfl
  | str s =>
    cases r
    simp only [truD] at h
    split at h
    · rename_i hl
      cases h
      exact ⟨szl hl, rfl⟩
    · cases h
  | tup ds =>
    cases h
    cases r with
    | tup h1 h2 => exact .inr (.inl ⟨_, S.t h1, by rw [empty_rep h2]⟩)
  | lst ds => cases h; exact sq ds rfl rfl
  | sq ds => cases h; exact sq ds rfl rfl
  | ref n =>
    obtain ⟨ds, h1, h2⟩ := Option.map_eq_some_iff.mp (show (sqD st (.ref n)).map (fun ds => !ds.isEmpty) = some b from h)
    exact sq ds h1 h2.symm
  | adr _ => cases h
  | ty _ => cases h
/-- a value's truth -/
def Tt (f : FE) : FT := fun env st => (f env st).bind fun p => (truD p.2 p.1).map fun b => (b, p.2)
def Tand (f g : FT) : FT := fun env st => (f env st).bind fun p => if p.1 = true then g env p.2 else some (false, p.2)
def Tor (f g : FT) : FT := fun env st => (f env st).bind fun p => if p.1 = true then some (true, p.2) else g env p.2
def Tnot (f : FT) : FT := fun env st => (f env st).bind fun p => some (!p.1, p.2)
def Eand (f g : FE) : FE := fun env st => (f env st).bind fun p => (truD p.2 p.1).bind fun b => if b = true then g env p.2 else some (p.1, p.2)
def Eor (f g : FE) : FE := fun env st => (f env st).bind fun p => (truD p.2 p.1).bind fun b => if b = true then some (p.1, p.2) else g env p.2
def Enot (f : FE) : FE := fun env st => (f env st).bind fun p => (truD p.2 p.1).map fun b => (.bl (!b), p.2)
def Eif (c : FT) (f g : FE) : FE := fun env st => (c env st).bind fun p => if p.1 = true then f env p.2 else g env p.2
section
variable {X : Cx} {a b : Expr} {rest : List Expr} {fa fb : FE} {ga gb : FT} {pos : Pos}
theorem t_tru (ha : PE X a (tE X.K fa)) (he : ∀ whole, isTrue a X.env whole = (do let v ← whole; standAt a.pos; holding [v] (truthy v)) := by intro _; rfl) : PT X a (tT X.K (Tt fa)) :=
  ptImp (pt_truth ha he) fun σ H Q ⟨θ, G, env, st, d, st', S, EN, hf, post⟩ => by
    obtain ⟨⟨x, st1⟩, h1, h2⟩ := Option.bind_eq_some_iff.mp hf
    obtain ⟨b, h3, h4⟩ := Option.map_eq_some_iff.mp h2
    cases h4
    exact tE.go S EN h1 fun θ1 G1 H1 v1 e1 S1 EN1 r1 => ⟨_, truD.ok S1 r1 h3, post _ _ _ e1 S1⟩
theorem t_not (ha : PT X a (tT X.K ga)) : PT X (.UnaryOp .Not a pos) (tT X.K (Tnot ga)) :=
  ptImp (pt_not ha) fun σ H Q ⟨θ, G, env, st, d, st', S, EN, hf, post⟩ => by
    obtain ⟨⟨x, st1⟩, h1, h2⟩ := Option.bind_eq_some_iff.mp hf
    cases h2
    exact tT.go S EN h1 fun θ1 G1 H1 e1 S1 EN1 => post _ _ _ e1 S1
theorem w_and1 (ha : PT X a (tT X.K ga)) : PW X (.BoolOp .And [a] pos) (tT X.K ga) := pw_and1 ha
theorem w_or1 (ha : PT X a (tT X.K ga)) : PW X (.BoolOp .Or [a] pos) (tT X.K ga) := pw_or1 ha
theorem w_and (ha : PT X a (tT X.K ga)) (hb : PW X (.BoolOp .And (b :: rest) pos) (tT X.K gb)) : PW X (.BoolOp .And (a :: b :: rest) pos) (tT X.K (Tand ga gb)) :=
  pwImp (pw_and ha hb) fun σ H Q ⟨θ, G, env, st, d, st', S, EN, hf, post⟩ => by
    obtain ⟨⟨x, st1⟩, h1, h2⟩ := Option.bind_eq_some_iff.mp hf
    refine tT.go S EN h1 fun θ1 G1 H1 e1 S1 EN1 => ?_
    cases x with
    | true =>
      rw [if_pos rfl] at h2 ⊢
      exact tT.go S1 EN1 h2 fun θ2 G2 H2 e2 S2 EN2 => post _ _ _ (e1.trans S1 e2) S2
    | false =>
      rw [if_neg Bool.false_ne_true] at h2 ⊢
      cases h2
      exact post _ _ _ e1 S1
theorem w_or (ha : PT X a (tT X.K ga)) (hb : PW X (.BoolOp .Or (b :: rest) pos) (tT X.K gb)) : PW X (.BoolOp .Or (a :: b :: rest) pos) (tT X.K (Tor ga gb)) :=
  pwImp (pw_or ha hb) fun σ H Q ⟨θ, G, env, st, d, st', S, EN, hf, post⟩ => by
    obtain ⟨⟨x, st1⟩, h1, h2⟩ := Option.bind_eq_some_iff.mp hf
    refine tT.go S EN h1 fun θ1 G1 H1 e1 S1 EN1 => ?_
    cases x with
    | true =>
      rw [if_pos rfl] at h2 ⊢
      cases h2
      exact post _ _ _ e1 S1
    | false =>
      rw [if_neg Bool.false_ne_true] at h2 ⊢
      exact tT.go S1 EN1 h2 fun θ2 G2 H2 e2 S2 EN2 => post _ _ _ (e1.trans S1 e2) S2
theorem c_one {op} (ha : PE X a (tE X.K fa)) : PE X (.BoolOp op [a] pos) (tE X.K fa) := pe_one ha
theorem c_and (ha : PE X a (tE X.K fa)) (hb : PE X (.BoolOp .And (b :: rest) pos) (tE X.K fb)) : PE X (.BoolOp .And (a :: b :: rest) pos) (tE X.K (Eand fa fb)) :=
  peImp (pe_andT ha hb) fun σ H Q ⟨θ, G, env, st, d, st', S, EN, hf, post⟩ => by
    obtain ⟨⟨x, st1⟩, h1, h2⟩ := Option.bind_eq_some_iff.mp hf
    obtain ⟨b, h3, h4⟩ := Option.bind_eq_some_iff.mp h2
    refine tE.go S EN h1 fun θ1 G1 H1 v1 e1 S1 EN1 r1 => ⟨b, truD.ok S1 r1 h3, ?_⟩
    cases b with
    | true =>
      rw [if_pos rfl] at h4 ⊢
      exact tE.go S1 EN1 h4 fun θ2 G2 H2 v2 e2 S2 EN2 r2 => post _ _ _ _ (e1.trans S1 e2) S2 r2
    | false =>
      rw [if_neg Bool.false_ne_true] at h4 ⊢
      cases h4
      exact post _ _ _ _ e1 S1 r1
theorem c_or (ha : PE X a (tE X.K fa)) (hb : PE X (.BoolOp .Or (b :: rest) pos) (tE X.K fb)) : PE X (.BoolOp .Or (a :: b :: rest) pos) (tE X.K (Eor fa fb)) :=
  peImp (pe_orT ha hb) fun σ H Q ⟨θ, G, env, st, d, st', S, EN, hf, post⟩ => by
    obtain ⟨⟨x, st1⟩, h1, h2⟩ := Option.bind_eq_some_iff.mp hf
    obtain ⟨b, h3, h4⟩ := Option.bind_eq_some_iff.mp h2
    refine tE.go S EN h1 fun θ1 G1 H1 v1 e1 S1 EN1 r1 => ⟨b, truD.ok S1 r1 h3, ?_⟩
    cases b with
    | true =>
      rw [if_pos rfl] at h4 ⊢
      cases h4
      exact post _ _ _ _ e1 S1 r1
    | false =>
      rw [if_neg Bool.false_ne_true] at h4 ⊢
      exact tE.go S1 EN1 h4 fun θ2 G2 H2 v2 e2 S2 EN2 r2 => post _ _ _ _ (e1.trans S1 e2) S2 r2
theorem c_not (ha : PE X a (tE X.K fa)) : PE X (.UnaryOp .Not a pos) (tE X.K (Enot fa)) :=
  peImp (pe_notT ha) fun σ H Q ⟨θ, G, env, st, d, st', S, EN, hf, post⟩ => by
    obtain ⟨⟨x, st1⟩, h1, h2⟩ := Option.bind_eq_some_iff.mp hf
    obtain ⟨b, h3, h4⟩ := Option.map_eq_some_iff.mp h2
    cases h4
    exact tE.go S EN h1 fun θ1 G1 H1 v1 e1 S1 EN1 r1 => ⟨b, truD.ok S1 r1 h3, post _ _ _ _ e1 S1 (.bl _)⟩
theorem c_if {c : Expr} (hc : PT X c (tT X.K ga)) (ha : PE X a (tE X.K fa)) (hb : PE X b (tE X.K fb)) : PE X (.IfExp c a b pos) (tE X.K (Eif ga fa fb)) :=
  peImp (pe_ifExp hc ha hb) fun σ H Q ⟨θ, G, env, st, d, st', S, EN, hf, post⟩ => by
    obtain ⟨⟨x, st1⟩, h1, h2⟩ := Option.bind_eq_some_iff.mp hf
    refine tT.go S EN h1 fun θ1 G1 H1 e1 S1 EN1 => ?_
    cases x with
    | true =>
      rw [if_pos rfl] at h2 ⊢
      exact tE.go S1 EN1 h2 fun θ2 G2 H2 v2 e2 S2 EN2 r2 => post _ _ _ _ (e1.trans S1 e2) S2 r2
    | false =>
      rw [if_neg Bool.false_ne_true] at h2 ⊢
      exact tE.go S1 EN1 h2 fun θ2 G2 H2 v2 e2 S2 EN2 r2 => post _ _ _ _ (e1.trans S1 e2) S2 r2
end

/-! ### chains of two comparisons -/
def E3 (f g : F2) (fa fb fc : FE) : FE := fun env st => (fa env st).bind fun p => (fb env p.2).bind fun q => (f p.1 q.1 q.2).bind fun r => match r.1 with
  | .bl true => (fc env r.2).bind fun u => g q.1 u.1 u.2
  | .bl false => some (.bl false, r.2)
  | _ => none
section
variable {X : Cx} {a b c : Expr} {fa fb fc : FE} {pos : Pos} {f g : F2} {r r' : R2}
theorem go3 (hf : Op2 X.K r f) (hg : Op2 X.K r' g) {σ : L2.St} {H : Hp} {Q : VK} (h : tE X.K (E3 f g fa fb fc) σ H Q) : tChain r r' (tE X.K fa) (tE X.K fb) (tE X.K fc) σ H Q := by
  obtain ⟨θ, G, env, st, d, st', S, EN, he, post⟩ := h
  obtain ⟨⟨x, st1⟩, h1, he⟩ := Option.bind_eq_some_iff.mp he
  obtain ⟨⟨y, st2⟩, h2, he⟩ := Option.bind_eq_some_iff.mp he
  obtain ⟨⟨z, st3⟩, h3, he⟩ := Option.bind_eq_some_iff.mp he
  refine tE.go S EN h1 fun θ1 G1 H1 v1 e1 S1 EN1 r1 => tE.go S1 EN1 h2 fun θ2 G2 H2 v2 e2 S2 EN2 r2 => ?_
  refine hf _ _ _ _ _ _ _ _ _ _ _ S2 (r1.ext e2) r2 h3 fun θ3 G3 H3 v e3 S3 r3 => ?_
  have e123 := (e1.trans S1 e2).trans S2 e3
  split at he
  · rename_i hz
    dsimp only at hz
    subst hz
    cases r3
    refine ⟨true, rfl, ?_⟩
    rw [if_pos rfl]
    obtain ⟨⟨w, st4⟩, h4, he⟩ := Option.bind_eq_some_iff.mp he
    refine tE.go S3 ((EN2.ext e3)) h4 fun θ4 G4 H4 v4 e4 S4 EN4 r4 => ?_
    exact hg _ _ _ _ _ _ _ _ _ _ _ S4 ((r2.ext e3).ext e4) r4 he fun θ5 G5 H5 v5 e5 S5 r5 => post _ _ _ _ ((e123.trans S3 e4).trans S4 e5) S5 r5
  · rename_i hz
    dsimp only at hz
    subst hz
    cases r3
    refine ⟨false, rfl, ?_⟩
    rw [if_neg Bool.false_ne_true]
    cases he
    exact post _ _ _ _ e123 S3 (.bl _)
  · cases he
theorem c_chain {op op' : CmpOp} (ho : OpR X (compareOp op) r) (hf : Op2 X.K r f) (ho' : OpR X (compareOp op') r') (hg : Op2 X.K r' g) (ha : PE X a (tE X.K fa)) (hb : PE X b (tE X.K fb)) (hc : PE X c (tE X.K fc))
    (hm : lastMarks [op, op'] [b, c] = false := by with_unfolding_all rfl) : PE X (.Compare a [op, op'] [b, c] pos) (tE X.K (E3 f g fa fb fc)) :=
  peImp (pe_chain ho ho' ha hb hc hm) fun _ _ _ h => go3 hf hg h
theorem t_chain {op op' : CmpOp} (ho : OpR X (compareOp op) r) (hf : Op2 X.K r f) (ho' : OpR X (compareOp op') r') (hg : Op2 X.K r' g) (ha : PE X a (tE X.K fa)) (hb : PE X b (tE X.K fb)) (hc : PE X c (tE X.K fc))
    (hm : lastMarks [op, op'] [b, c] = false := by with_unfolding_all rfl) : PT X (.Compare a [op, op'] [b, c] pos) (tT X.K (Tb (E3 f g fa fb fc))) := by
  refine ptImp (pt_chain ho ho' ha hb hc hm) fun σ H Q h => ?_
  obtain ⟨θ, G, env, st, d, st', S, EN, he, post⟩ := h
  unfold Tb at he
  split at he
  · rename_i k st2 he2
    cases he
    refine go3 (fc := fc) hf hg (tE.go S EN he2 fun θ1 G1 H1 v1 e1 S1 EN1 r1 => ?_)
    cases r1
    exact ⟨_, rfl, post _ _ _ e1 S1⟩
  · cases he
end

/-! ### argument lists, displays, calls -/
def Anil : FA := fun _ st => some ([], st)
def Acons (f : FE) (g : FA) : FA := fun env st => (f env st).bind fun p => (g env p.2).bind fun q => some (p.1 :: q.1, q.2)
def Etup (g : FA) : FE := fun env st => (g env st).bind fun p => if p.1.length ≤ 16777216 then some (.tup p.1, p.2) else none
def Elst (g : FA) : FE := fun env st => (g env st).bind fun p => if p.1.length ≤ 16777216 then some (.lst p.1, p.2) else none
def Enew (g : FA) : FE := fun env st => (g env st).bind fun p => if p.1.length ≤ 16777216 then some (.ref p.2.length, p.2 ++ [.lst p.1]) else none
abbrev FC := List D → Sto → Option (D × Sto)
def EC (f : FC) (g : FA) : FE := fun env st => (g env st).bind fun p => f p.1 p.2
def CallS (K : Frag) (r : List V → Hp → VK → Prop) (f : FC) : Prop := ∀ θ G H st vs ds z st' Q, Sim K θ G H st → Reps K θ G vs ds → f ds st = some (z, st') → PostE K θ G H st' z Q → r vs H Q
section
variable {X : Cx} {e : Expr} {es : List Expr} {fe : FE} {g : FA} {pos : Pos}
theorem a_nil : PA X [] (tA X.K Anil) := paImp pa_nil fun σ H Q ⟨θ, G, env, st, d, st', S, EN, hf, post⟩ => by
  cases hf
  exact post _ _ _ _ .refl S .nil
theorem a_cons (ha : PE X e (tE X.K fe)) (hr : PA X es (tA X.K g)) (hs : starEach (e :: es) X.env = (false, eval e X.env) :: starEach es X.env := by rfl) : PA X (e :: es) (tA X.K (Acons fe g)) :=
  paImp (pa_cons ha hr hs) fun σ H Q ⟨θ, G, env, st, d, st', S, EN, hf, post⟩ => by
    obtain ⟨⟨x, st1⟩, h1, h2⟩ := Option.bind_eq_some_iff.mp hf
    obtain ⟨⟨y, st2⟩, h3, h4⟩ := Option.bind_eq_some_iff.mp h2
    cases h4
    exact tE.go S EN h1 fun θ1 G1 H1 v1 e1 S1 EN1 r1 => tA.go S1 EN1 h3 fun θ2 G2 H2 v2 e2 S2 EN2 r2 => post _ _ _ _ (e1.trans S1 e2) S2 (.cons (r1.ext e2) r2)
theorem c_tup {x1} (h : PA X es (tA X.K g)) : PE X (.Tuple es x1 pos) (tE X.K (Etup g)) :=
  peImp (pe_tup h) fun σ H Q ⟨θ, G, env, st, d, st', S, EN, hf, post⟩ => by
    obtain ⟨⟨x, st1⟩, h1, h2⟩ := Option.bind_eq_some_iff.mp hf
    dsimp only at h2
    split at h2
    · rename_i hl
      cases h2
      refine tA.go S EN h1 fun θ1 G1 H1 v1 e1 S1 EN1 r1 => ⟨by rw [r1.len]; exact szl hl, fun p hp => ?_⟩
      exact PostE.newT (fun θ' G' H' v e s r => post _ _ _ _ (e1.trans S1 e) s r) S1 hp r1
    · cases h2
theorem c_lst (h : PA X es (tA X.K g)) : PE X (.List es pos) (tE X.K (Elst g)) :=
  peImp (pe_lst h) fun σ H Q ⟨θ, G, env, st, d, st', S, EN, hf, post⟩ => by
    obtain ⟨⟨x, st1⟩, h1, h2⟩ := Option.bind_eq_some_iff.mp hf
    dsimp only at h2
    split at h2
    · rename_i hl
      cases h2
      refine tA.go S EN h1 fun θ1 G1 H1 v1 e1 S1 EN1 r1 => ⟨by rw [r1.len]; exact szl hl, fun p hp => ?_⟩
      exact PostE.newL (fun θ' G' H' v e s r => post _ _ _ _ (e1.trans S1 e) s r) S1 hp r1
    · cases h2
theorem c_new (h : PA X es (tA X.K g)) : PE X (.List es pos) (tE X.K (Enew g)) :=
  peImp (pe_lst h) fun σ H Q ⟨θ, G, env, st, d, st', S, EN, hf, post⟩ => by
    obtain ⟨⟨x, st1⟩, h1, h2⟩ := Option.bind_eq_some_iff.mp hf
    dsimp only at h2
    split at h2
    · rename_i hl
      cases h2
      refine tA.go S EN h1 fun θ1 G1 H1 v1 e1 S1 EN1 r1 => ⟨by rw [r1.len]; exact szl hl, fun p hp => ?_⟩
      exact PostE.newM (fun θ' G' H' v e s r => post _ _ _ _ (e1.trans S1 e) s r) S1 hp r1
    · cases h2
theorem goC {r : List V → Hp → VK → Prop} {f : FC} (hs : CallS X.K r f) {σ : L2.St} {H : Hp} {Q : VK} (h : tE X.K (EC f g) σ H Q) : tCB r (tA X.K g) σ H Q := by
  obtain ⟨θ, G, env, st, d, st', S, EN, hf, post⟩ := h
  obtain ⟨⟨x, st1⟩, h1, h2⟩ := Option.bind_eq_some_iff.mp hf
  exact tA.go S EN h1 fun θ1 G1 H1 v1 e1 S1 EN1 r1 => hs _ _ _ _ _ _ _ _ _ S1 r1 h2 fun θ' G' H' v e s r => post _ _ _ _ (e1.trans S1 e) s r
theorem c_cb {id : String} {x : PySem.Str} {p : Pos} {r : List V → Hp → VK → Prop} {f : FC} (hc : CallR X (.builtin id) r) (hs : CallS X.K r f) (hg : Gl X x) (hm : X.mg x = none) (hv : bootBuiltins x = some (.builtin id)) (ha : PA X (e :: es) (tA X.K g))
    (hn : x ≠ "__name__" := by decide) (hdb : (x == ("__debug__" : PySem.Str)) = false := by decide) (he : starEach (e :: es) X.env = (false, eval e X.env) :: starEach es X.env := by rfl) (hpl : (backTo pos (starEach es X.env)).any (·.1) = false := by rfl) :
    PE X (.Call (.Name x p) (e :: es) [] pos) (tE X.K (EC f g)) := peImp (pe_callB hc hg hm hv ha hn hdb he hpl) fun _ _ _ h => goC hs h
theorem c_ct {id : String} {x : PySem.Str} {p : Pos} {r : List V → Hp → VK → Prop} {f : FC} (hc : CallR X (.type id) r) (hs : CallS X.K r f) (hg : Gl X x) (hm : X.mg x = none) (hv : bootBuiltins x = some (.type id)) (ha : PA X (e :: es) (tA X.K g))
    (hn : x ≠ "__name__" := by decide) (hdb : (x == ("__debug__" : PySem.Str)) = false := by decide) (he : starEach (e :: es) X.env = (false, eval e X.env) :: starEach es X.env := by rfl) (hpl : (backTo pos (starEach es X.env)).any (·.1) = false := by rfl) :
    PE X (.Call (.Name x p) (e :: es) [] pos) (tE X.K (EC f g)) := peImp (pe_callTy hc hg hm hv ha hn hdb he hpl) fun _ _ _ h => goC hs h
theorem c_bty {x : PySem.Str} {n : String} (hg : Gl X x) (hm : X.mg x = none) (hv : bootBuiltins x = some (.type n)) (hn : x ≠ "__name__" := by decide) (hd : (x == ("__debug__" : PySem.Str)) = false := by decide) : PE X (.Name x pos) (tE X.K (Ec (.ty n))) :=
  c_const (pe_bltn hg hm hv (v := .ty n) rfl hn hd) fun _ _ => .ty n
end
/-! the built-ins -/
section
variable {K : Frag}
def fAbs : FC := fun ds st => match ds with
  | [.int i] => some (.int (if i < 0 then -i else i), st)
  | _ => none
theorem s_abs : CallS K (fun xs H Q => ∃ i, xs = [.int i] ∧ Q (.int (if i < 0 then -i else i)) H) fAbs := by
  intro θ G H st vs ds z st' Q S r h post
  unfold fAbs at h
  split at h
  · cases h
    cases r with
    | cons r1 r2 => cases r1; cases r2; exact ⟨_, rfl, post.same S (.int _)⟩
  · cases h
def fInt : FC := fun ds st => match ds with
  | [.int i] => some (.int i, st)
  | [.bl b] => some (.int (if b then 1 else 0), st)
  | [.str s] => match PySem.intText? s with
    | some n => if s.length ≤ 640 then some (.int n, st) else none
    | none => none
  | _ => none
def rInt : List V → Hp → VK → Prop := fun xs H Q => ((∃ i, xs = [.int i] ∧ Q (.int i) H) ∨ ∃ k, xs = [.bl k] ∧ Q (.int (if k then 1 else 0)) H) ∨ ∃ a n, xs = [.str a] ∧ PySem.intText? a = some n ∧ a.length ≤ 640 ∧ Q (.int n) H
theorem o_int {X : Cx} : CallR X (.type "int") rInt := call_int1.or call_int_str
theorem s_intc : CallS K rInt fInt := by
  intro θ G H st vs ds z st' Q S r h post
  unfold fInt at h
  split at h
  · cases h
    cases r with
    | cons r1 r2 => cases r1; cases r2; exact .inl (.inl ⟨_, rfl, post.same S (.int _)⟩)
  · cases h
    cases r with
    | cons r1 r2 => cases r1; cases r2; exact .inl (.inr ⟨_, rfl, post.same S (.int _)⟩)
  · split at h
    · rename_i n hn
      split at h
      · rename_i hl
        cases h
        cases r with
        | cons r1 r2 => cases r1; cases r2; exact .inr ⟨_, n, rfl, hn, hl, post.same S (.int _)⟩
      · cases h
    · cases h
  · cases h
def fLen : FC := fun ds st => match ds with
  | [.str s] => if s.length ≤ 16777216 then some (.int s.length, st) else none
  | [.tup es] => some (.int es.length, st)
  | [d] => (sqD st d).map fun es => (.int es.length, st)
  | _ => none
def rLen (K : Frag) : List V → Hp → VK → Prop := fun xs H Q => (∃ p ys, xs = [.ref p] ∧ (SqL K H p ys ∨ SqT K H p ys) ∧ Q (.int ys.length) H) ∨ (∃ z, xs = [.str z] ∧ z.length ≤ sizeLine ∧ Q (.int z.length) H)
theorem o_len {X : Cx} : CallR X (.builtin "len") (rLen X.K) := call_len_seq.or call_len_str
theorem s_len : CallS K (rLen K) fLen := by
  intro θ G H st vs ds z st' Q S r h post
  unfold fLen at h
  split at h
  · split at h
    · rename_i hl
      cases h
      cases r with
      | cons r1 r2 => cases r1; cases r2; exact .inr ⟨_, rfl, szl hl, post.same S (.int _)⟩
    · cases h
  · cases h
    cases r with
    | cons r1 r2 =>
      cases r2
      cases r1 with
      | tup h1 h2 => exact .inl ⟨_, _, rfl, .inr (S.t h1), post.same S (by rw [h2.len]; exact .int _)⟩
  · obtain ⟨es, h1, h2⟩ := Option.map_eq_some_iff.mp h
    cases h2
    cases r with
    | cons r1 r2 =>
      cases r2
      obtain ⟨a, ws, rfl, h3, h4⟩ := sqD.ok S r1 h1
      exact .inl ⟨_, _, rfl, .inl h3, post.same S (by rw [h4.len]; exact .int _)⟩
  · cases h
def fOrd : FC := fun ds st => match ds with
  | [.str s] => if s.length = 1 then some (.int ((s.cps.getD 0 0 : Nat) : Int), st) else none
  | _ => none
theorem s_ord : CallS K (fun xs H Q => ∃ x, xs = [.str x] ∧ x.length = 1 ∧ Q (.int (x.cps.getD 0 0 : Nat)) H) fOrd := by
  intro θ G H st vs ds z st' Q S r h post
  unfold fOrd at h
  split at h
  · split at h
    · rename_i hl
      cases h
      cases r with
      | cons r1 r2 => cases r1; cases r2; exact ⟨_, rfl, hl, post.same S (.int _)⟩
    · cases h
  · cases h
/-- the name of a datum's type -/
def tyN (st : Sto) : D → Option String
  | .non => some "NoneType"
  | .bl _ => some "bool"
  | .int _ => some "int"
  | .str _ => some "str"
  | .tup _ => some "tuple"
  | .lst _ => some "list"
  | .ref n => match st[n]? with | some (.lst _) => some "list" | none => none
  | _ => none
def fIsi : FC := fun ds st => match ds with
  | [d, .ty T] => match tyN st d with
    | some n => (kitB n T).map fun b => (.bl b, st)
    | none => none
  | _ => none
theorem SqT.tyx {H : Hp} {a : Addr} {vs : List V} (h : SqT K H a vs) : TyX K H (.ref a) (.type "tuple") := by
  rcases h with (h | ⟨o, h⟩) | ⟨o, its, n, h1, h2, _⟩
  · exact .base (.tup h)
  · exact .fTuple h
  · exact .kTuple h1 h2
theorem tyN.ok {θ : List Addr} {G H : Hp} {st : Sto} {v : V} {d : D} {n : String} (S : Sim K θ G H st) (r : Rep K θ G v d) (h : tyN st d = some n) : TyX K H v (.type n) := by
  cases d with
  | non => cases h; cases r; exact .base .non
  | bl b => cases h; cases r; exact .base (.bl b)
  | int i => cases h; cases r; exact .base (.int i)
  | str s => cases h; cases r; exact .base (.str s)
  | tup ds =>
    cases h
    cases r with
    | tup h1 h2 => exact SqT.tyx (S.t h1)
  | lst ds =>
    cases h
    cases r with
    | lst h1 h2 => exact .base (.lst (S.sub _ _ h1))
  | ref m =>
    cases r with
    | ref h1 =>
      obtain ⟨o, h2, h3⟩ := S.at h1
      simp only [tyN, h2] at h
      cases o with
      | lst es =>
        cases h
        obtain ⟨vs, h4, _⟩ := h3
        exact .base (.lst h4)
  | _ => cases h
theorem s_isi : CallS K (rIsi K) fIsi := by
  intro θ G H st vs ds z st' Q S r h post
  unfold fIsi at h
  split at h
  · split at h
    · rename_i n hn
      obtain ⟨b, h1, h2⟩ := Option.map_eq_some_iff.mp h
      cases h2
      cases r with
      | cons r1 r2 =>
        cases r2 with
        | cons r3 r4 =>
          cases r4
          cases r3
          exact ⟨_, _, _, _, b, rfl, .ty _, tyN.ok S r1 hn, kit_ty h1, post.same S (.bl _)⟩
    · cases h
  · cases h
end
section
variable {X : Cx} {e : Expr} {es : List Expr} {g : FA} {p pos : Pos}
theorem c_abs (hg : Gl X "abs") (hm : X.mg "abs" = none) (ha : PA X [e] (tA X.K g)) (he : starEach [e] X.env = (false, eval e X.env) :: starEach [] X.env := by rfl) : PE X (.Call (.Name "abs" p) [e] [] pos) (tE X.K (EC fAbs g)) := c_cb call_abs s_abs hg hm (by decide +kernel) ha (by decide) (by decide) he
theorem c_intc (hg : Gl X "int") (hm : X.mg "int" = none) (ha : PA X [e] (tA X.K g)) (he : starEach [e] X.env = (false, eval e X.env) :: starEach [] X.env := by rfl) : PE X (.Call (.Name "int" p) [e] [] pos) (tE X.K (EC fInt g)) := c_ct o_int s_intc hg hm (by decide +kernel) ha (by decide) (by decide) he
theorem c_len (hg : Gl X "len") (hm : X.mg "len" = none) (ha : PA X [e] (tA X.K g)) (he : starEach [e] X.env = (false, eval e X.env) :: starEach [] X.env := by rfl) : PE X (.Call (.Name "len" p) [e] [] pos) (tE X.K (EC fLen g)) := c_cb o_len s_len hg hm (by decide +kernel) ha (by decide) (by decide) he
theorem c_ord (hg : Gl X "ord") (hm : X.mg "ord" = none) (ha : PA X [e] (tA X.K g)) (he : starEach [e] X.env = (false, eval e X.env) :: starEach [] X.env := by rfl) : PE X (.Call (.Name "ord" p) [e] [] pos) (tE X.K (EC fOrd g)) := c_cb call_ord s_ord hg hm (by decide +kernel) ha (by decide) (by decide) he
theorem c_isi {e2 : Expr} (hg : Gl X "isinstance") (hm : X.mg "isinstance" = none) (ha : PA X [e, e2] (tA X.K g)) (he : starEach [e, e2] X.env = (false, eval e X.env) :: starEach [e2] X.env := by rfl) (hpl : (backTo pos (starEach [e2] X.env)).any (·.1) = false := by rfl) :
    PE X (.Call (.Name "isinstance" p) [e, e2] [] pos) (tE X.K (EC fIsi g)) := c_cb call_isi s_isi hg hm (by decide +kernel) ha (by decide) (by decide) he hpl
end

/-! ### methods of built-in types -/
abbrev FM := D → List D → Sto → Option (D × Sto)
def tyOk (st : Sto) (T : String) (d : D) : Prop := (T = "str" ∧ ∃ s, d = .str s) ∨ (T = "list" ∧ ∃ ds, sqD st d = some ds)
def EM (T : String) (f : FM) (fo : FE) (g : FA) : FE := fun env st => (fo env st).bind fun p => match p.1 with
  | .str s => if T = "str" then (g env p.2).bind fun q => f (.str s) q.1 q.2 else none
  | d => if T = "list" then (sqD p.2 d).bind fun _ => (g env p.2).bind fun q => f d q.1 q.2 else none
def MtS (K : Frag) (r : V → List V → Hp → VK → Prop) (f : FM) : Prop := ∀ θ G H st x d vs ds z st' Q, Sim K θ G H st → Rep K θ G x d → Reps K θ G vs ds → f d ds st = some (z, st') → PostE K θ G H st' z Q → r x vs H Q
section
variable {X : Cx} {o e : Expr} {es : List Expr} {fo : FE} {g : FA} {name : PySem.Str} {apos cpos : Pos} {T id : String} {r : V → List V → Hp → VK → Prop} {f : FM}
theorem EM.inv {env : Env} {st : Sto} {z : D} {st' : Sto} (h : EM T f fo g env st = some (z, st')) : ∃ d st1, fo env st = some (d, st1) ∧ tyOk st1 T d ∧ ∃ q, g env st1 = some q ∧ f d q.1 q.2 = some (z, st') := by
  obtain ⟨⟨d, st1⟩, h1, h2⟩ := Option.bind_eq_some_iff.mp h
  dsimp only at h2
  split at h2
  · split at h2
    · rename_i ht
      obtain ⟨q, h3, h4⟩ := Option.bind_eq_some_iff.mp h2
      exact ⟨_, st1, h1, .inl ⟨ht, _, rfl⟩, q, h3, h4⟩
    · cases h2
  · split at h2
    · rename_i ht
      obtain ⟨ds, h5, h2⟩ := Option.bind_eq_some_iff.mp h2
      obtain ⟨q, h3, h4⟩ := Option.bind_eq_some_iff.mp h2
      exact ⟨_, st1, h1, .inr ⟨ht, ds, h5⟩, q, h3, h4⟩
    · cases h2
theorem tyOk.v {K : Frag} {θ : List Addr} {G H : Hp} {st : Sto} {v : V} {d : D} (S : Sim K θ G H st) (r : Rep K θ G v d) (h : tyOk st T d) : tyV K T v H := by
  rcases h with ⟨rfl, s, rfl⟩ | ⟨rfl, ds, h⟩
  · cases r; rfl
  · obtain ⟨a, vs, rfl, h1, h2⟩ := sqD.ok S r h
    exact .inl ⟨rfl, vs, h1⟩
theorem goM (hs : MtS X.K r f) {σ : L2.St} {H : Hp} {Q : VK} (h : tE X.K (EM T f fo g) σ H Q) : tBM X.K T r (tE X.K fo) (tA X.K g) σ H Q := by
  obtain ⟨θ, G, env, st, d, st', S, EN, hf, post⟩ := h
  obtain ⟨d, st1, h1, ht, q, h2, h3⟩ := EM.inv hf
  refine tE.go S EN h1 fun θ1 G1 H1 v1 e1 S1 EN1 r1 => ⟨ht.v S1 r1, ?_⟩
  refine tA.go S1 EN1 h2 fun θ2 G2 H2 v2 e2 S2 EN2 r2 => ?_
  exact hs _ _ _ _ _ _ _ _ _ _ _ S2 (r1.ext e2) r2 h3 fun θ' G' H' v e s r => post _ _ _ _ ((e1.trans S1 e2).trans S2 e) s r
theorem c_bm (pa : PlainAttrs T) (slot : Slot T name id) (hty : typeOf (.builtin id) = pure (.type "method_descriptor")) (hm : MtR X id r) (hs : MtS X.K r f) (ho : PE X o (tE X.K fo)) (ha : PA X (e :: es) (tA X.K g))
    (hbase : attributeBase o name X.env (eval o X.env) = eval o X.env := by rfl)
    (hfew : ((backTo cpos (starEach (e :: es) X.env)).all (fun x => !x.1) && (backToKw cpos (keywordEach [] X.env)).all (fun x => x.1.isSome)
      && decide ((e :: es).length + ([] : List Keyword).length + (if ([] : List Keyword).isEmpty then 0 else 1) < 30)) = true := by rfl)
    (hline : (apos.endLine == cpos.line) = true := by rfl) (hse : starEach (e :: es) X.env = (false, eval e X.env) :: starEach es X.env := by rfl) (hplain : (backTo cpos (starEach es X.env)).any (·.1) = false := by rfl) :
    PE X (.Call (.Attribute o name apos) (e :: es) [] cpos) (tE X.K (EM T f fo g)) :=
  peImp (pe_bm pa slot hty hm ho ha hbase hfew hline hse hplain) fun _ _ _ h => goM hs h
end
section
variable {K : Frag}
def mFind : FM := fun d ds st => match d, ds with
  | .str a, [.str b] => some (.int (Txt.find a b), st)
  | _, _ => none
theorem s_find : MtS K (fun x xs H Q => ∃ a b, x = .str a ∧ xs = [.str b] ∧ Q (.int (Txt.find a b)) H) mFind := by
  intro θ G H st x d vs ds z st' Q S rx r h post
  unfold mFind at h
  split at h
  · cases h; cases rx
    cases r with
    | cons r1 r2 => cases r1; cases r2; exact ⟨_, _, rfl, rfl, post.same S (.int _)⟩
  · cases h
def mApp : FM := fun d ds st => match d, ds with
  | .ref n, [y] => match st[n]? with
    | some (.lst es) => if es.length < 16777216 then some (.non, st.set n (.lst (es ++ [y]))) else none
    | none => none
  | _, _ => none
theorem s_app : MtS K rAppend mApp := by
  intro θ G H st x d vs ds z st' Q S rx r h post
  unfold mApp at h
  split at h
  · split at h
    · rename_i es he
      split at h
      · rename_i hl
        cases h
        cases rx with
        | ref h1 =>
          obtain ⟨o, h2, h3⟩ := S.at h1
          rw [he] at h2
          cases h2
          obtain ⟨ws, h4, h5⟩ := h3
          cases r with
          | cons r1 r2 =>
            cases r2
            exact ⟨_, ws, _, rfl, rfl, h4, by rw [h5.len]; exact szlt hl, post _ _ _ _ (Ext.set S h1 _) (S.set h1 (h5.append (.cons r1 .nil))) .non⟩
      · cases h
    · cases h
  · cases h
end

/-! ## statements -/
inductive Fl where
  | nx (env : Env) | rt (d : D) | bk (env : Env) | ct (env : Env)
abbrev FS := Env → Sto → Option (Fl × Sto)
def FlP (K : Frag) (E : Ends) (θ : List Addr) (G H : Hp) : Fl → Prop
  | .nx env => ∀ σ, EnvR K θ G σ env → E.nx σ H
  | .rt d => ∀ v, Rep K θ G v d → E.rt v H
  | .bk env => ∀ σ, EnvR K θ G σ env → E.bk σ H
  | .ct env => ∀ σ, EnvR K θ G σ env → E.ct σ H
def tS (K : Frag) (f : FS) : TS := fun E σ H => ∃ θ G env st fl st', Sim K θ G H st ∧ EnvR K θ G σ env ∧ f env st = some (fl, st') ∧
  ∀ θ' G' H', Ext θ θ' G G' H H' → Sim K θ' G' H' st' → FlP K E θ' G' H' fl
theorem tS.go {K : Frag} {θ : List Addr} {G H : Hp} {st st1 : Sto} {σ : L2.St} {env : Env} {fl : Fl} {f : FS} {E : Ends} (S : Sim K θ G H st) (EN : EnvR K θ G σ env) (hf : f env st = some (fl, st1))
    (k : ∀ θ1 G1 H1, Ext θ θ1 G G1 H H1 → Sim K θ1 G1 H1 st1 → FlP K E θ1 G1 H1 fl) : tS K f E σ H := ⟨θ, G, env, st, fl, st1, S, EN, hf, k⟩
def Snil : FS := fun env st => some (.nx env, st)
def Sseq (f g : FS) : FS := fun env st => (f env st).bind fun p => match p.1 with | .nx e => g e p.2 | r => some (r, p.2)
def Sret (f : FE) : FS := fun env st => (f env st).bind fun p => some (.rt p.1, p.2)
def SretN : FS := fun _ st => some (.rt .non, st)
def Sexp (f : FE) : FS := fun env st => (f env st).bind fun p => some (.nx env, p.2)
def Sset (i : Nat) (f : FE) : FS := fun env st => (f env st).bind fun p => some (.nx (env.set i (some p.1)), p.2)
def Sbrk : FS := fun env st => some (.bk env, st)
def Sctn : FS := fun env st => some (.ct env, st)
def Sif (c : FT) (f g : FS) : FS := fun env st => (c env st).bind fun p => if p.1 = true then f env p.2 else g env p.2
/-- xs[i] = v in a list of the store -/
def setD (o i v : D) (st : Sto) : Option Sto := match o, i with
  | .ref n, .int k => match st[n]? with
    | some (.lst es) => (ixN es.length k).map fun j => st.set n (.lst (es.set j v))
    | none => none
  | _, _ => none
def SsetIx (fo fi fv : FE) : FS := fun env st => (fv env st).bind fun p => (fo env p.2).bind fun q => (fi env q.2).bind fun r => (setD q.1 r.1 p.1 r.2).map fun st' => (.nx env, st')
def Saug (f : F2) (i : Nat) (fe : FE) : FS := fun env st => match env[i]? with
  | some (some x) => (fe env st).bind fun p => (f x p.1 p.2).bind fun q => some (.nx (env.set i (some q.1)), q.2)
  | _ => none
def SaugIx (f : F2) (fo fi fe : FE) : FS := fun env st => (fo env st).bind fun p => (fi env p.2).bind fun q => (ixD p.1 q.1 q.2).bind fun r => (fe env r.2).bind fun u => (f r.1 u.1 u.2).bind fun w =>
  (setD p.1 q.1 w.1 w.2).map fun st' => (.nx env, st')
theorem FlP.of_seq {K : Frag} {E : Ends} {θ : List Addr} {G H : Hp} {fl : Fl} {t : L2.St → Hp → Prop} (hn : ∀ env, fl = .nx env → ∀ σ, EnvR K θ G σ env → t σ H) (hr : (∀ env, fl ≠ .nx env) → FlP K E θ G H fl) : FlP K { E with nx := t } θ G H fl := by
  cases fl with
  | nx env => exact hn env rfl
  | rt d => exact hr (fun _ h => nomatch h)
  | bk env => exact hr (fun _ h => nomatch h)
  | ct env => exact hr (fun _ h => nomatch h)
section
variable {X : Cx} {s : Stmt} {rest : List Stmt} {e : Expr} {fe : FE} {f g : FS} {pos : Pos}
theorem k_nil : PSs X [] (tS X.K Snil) := pssImp pss_nil fun E σ H ⟨θ, G, env, st, d, st', S, EN, hf, post⟩ => by
  cases hf
  exact post _ _ _ .refl S σ EN
theorem k_one (h : PS X s (tS X.K f)) : PSs X [s] (tS X.K f) := pss_one h
theorem k_cons (h : PS X s (tS X.K f)) (hr : PSs X rest (tS X.K g)) : PSs X (s :: rest) (tS X.K (Sseq f g)) :=
  pssImp (pss_cons h hr) fun E σ H ⟨θ, G, env, st, d, st', S, EN, hf, post⟩ => by
    obtain ⟨⟨fl, st1⟩, h1, h2⟩ := Option.bind_eq_some_iff.mp hf
    refine tS.go S EN h1 fun θ1 G1 H1 e1 S1 => FlP.of_seq (fun env1 he σ1 EN1 => ?_) fun hn => ?_
    · subst he
      exact tS.go S1 EN1 h2 fun θ2 G2 H2 e2 S2 => post _ _ _ (e1.trans S1 e2) S2
    · cases fl with
      | nx env1 => exact absurd rfl (hn env1)
      | rt _ => cases h2; exact post _ _ _ e1 S1
      | bk _ => cases h2; exact post _ _ _ e1 S1
      | ct _ => cases h2; exact post _ _ _ e1 S1
theorem k_pass : PS X (.Pass pos) (tS X.K Snil) := psImp ps_pass fun E σ H ⟨θ, G, env, st, d, st', S, EN, hf, post⟩ => by
  cases hf
  exact post _ _ _ .refl S σ EN
theorem k_brk : PS X (.Break pos) (tS X.K Sbrk) := psImp ps_break fun E σ H ⟨θ, G, env, st, d, st', S, EN, hf, post⟩ => by
  cases hf
  exact post _ _ _ .refl S σ EN
theorem k_ctn : PS X (.Continue pos) (tS X.K Sctn) := psImp ps_continue fun E σ H ⟨θ, G, env, st, d, st', S, EN, hf, post⟩ => by
  cases hf
  exact post _ _ _ .refl S σ EN
theorem k_retN : PS X (.Return none pos) (tS X.K SretN) := psImp ps_retN fun E σ H ⟨θ, G, env, st, d, st', S, EN, hf, post⟩ => by
  cases hf
  exact post _ _ _ .refl S .non .non
theorem k_ret (h : PE X e (tE X.K fe)) : PS X (.Return (some e) pos) (tS X.K (Sret fe)) := psImp (ps_ret h) fun E σ H ⟨θ, G, env, st, d, st', S, EN, hf, post⟩ => by
  obtain ⟨⟨x, st1⟩, h1, h2⟩ := Option.bind_eq_some_iff.mp hf
  cases h2
  exact tE.go S EN h1 fun θ1 G1 H1 v1 e1 S1 EN1 r1 => post _ _ _ e1 S1 v1 r1
theorem k_exp (h : PE X e (tE X.K fe)) (hs : swapsWith e none pos.line X.env = pure false := by rfl) : PS X (.Expr e pos) (tS X.K (Sexp fe)) := psImp (ps_expr h hs) fun E σ H ⟨θ, G, env, st, d, st', S, EN, hf, post⟩ => by
  obtain ⟨⟨x, st1⟩, h1, h2⟩ := Option.bind_eq_some_iff.mp hf
  cases h2
  exact tE.go S EN h1 fun θ1 G1 H1 v1 e1 S1 EN1 r1 => post _ _ _ e1 S1 σ EN1
theorem k_set {i : Nat} {x : PySem.Str} {pos' : Pos} (hN : X.N.Nodup) (h : PE X e (tE X.K fe)) (hi : X.N[i]? = some x := by rfl) (hx : Loc X.env.scope x := by first | exact Or.inl rfl | exact Or.inr rfl) (hs : swapsWith e (some (.Name x pos')) pos.line X.env = pure false := by rfl)
    (hf : X.fn x = true ∨ X.env.scope.names.lookup x = some .local := by first | exact .inl rfl | exact .inr rfl) : PS X (.Assign [.Name x pos'] e pos) (tS X.K (Sset i fe)) :=
  psImp (ps_set hN hi hx h hs hf) fun E σ H ⟨θ, G, env, st, d, st', S, EN, hf, post⟩ => by
    obtain ⟨⟨x, st1⟩, h1, h2⟩ := Option.bind_eq_some_iff.mp hf
    cases h2
    exact tE.go S EN h1 fun θ1 G1 H1 v1 e1 S1 EN1 r1 => post _ _ _ e1 S1 _ (EN1.set r1 i)
theorem k_if {c : Expr} {a b : List Stmt} {gc : FT} (hc : PT X c (tT X.K gc)) (ha : PSs X a (tS X.K f)) (hb : PSs X b (tS X.K g)) : PS X (.If c a b pos) (tS X.K (Sif gc f g)) :=
  psImp (ps_if hc ha hb) fun E σ H ⟨θ, G, env, st, d, st', S, EN, hf, post⟩ => by
    obtain ⟨⟨x, st1⟩, h1, h2⟩ := Option.bind_eq_some_iff.mp hf
    refine tT.go S EN h1 fun θ1 G1 H1 e1 S1 EN1 => ?_
    cases x with
    | true =>
      rw [if_pos rfl] at h2 ⊢
      exact tS.go S1 EN1 h2 fun θ2 G2 H2 e2 S2 => post _ _ _ (e1.trans S1 e2) S2
    | false =>
      rw [if_neg Bool.false_ne_true] at h2 ⊢
      exact tS.go S1 EN1 h2 fun θ2 G2 H2 e2 S2 => post _ _ _ (e1.trans S1 e2) S2
theorem goSet {K : Frag} {θ : List Addr} {G H : Hp} {st st' : Sto} {o i v : D} {ov iv vv : V} {Q : Hp → Prop} (S : Sim K θ G H st) (ro : Rep K θ G ov o) (ri : Rep K θ G iv i) (rv : Rep K θ G vv v) (h : setD o i v st = some st')
    (k : ∀ H', Ext θ θ G G H H' → Sim K θ G H' st' → Q H') : rSetL ov iv vv H Q := by
  unfold setD at h
  split at h
  · split at h
    · rename_i es he
      obtain ⟨j, h1, h2⟩ := Option.map_eq_some_iff.mp h
      cases h2
      cases ri
      cases ro with
      | ref h3 =>
        obtain ⟨ob, h4, h5⟩ := S.at h3
        rw [he] at h4
        cases h4
        obtain ⟨ws, h6, h7⟩ := h5
        exact ⟨_, ws, _, j, rfl, rfl, h6, by rw [h7.len]; exact h1, k _ (Ext.set S h3 _) (S.set h3 (h7.set rv j))⟩
    · cases h
  · cases h
theorem k_setIx {o i : Expr} {fo fi : FE} {tpos : Pos} (h : PE X e (tE X.K fe)) (ho : PE X o (tE X.K fo)) (hi : PE X i (tE X.K fi))
    (ha : ∀ v, assign (.Subscript o i tpos) X.env v = (do
      let ov ← holding [v] (eval o X.env)
      let iv ← holding [v, ov] (eval i X.env)
      standAt tpos
      holding [v, ov, iv] (setItem ov iv v)
      release [v, ov, iv] []) := by intro _; rfl)
    (hs : swapsWithSole [.Subscript o i tpos] e pos.line X.env = pure false := by rfl) (hw : swappedStores [.Subscript o i tpos] e X.env = pure none := by rfl)
    (h1 : (assignEach [.Subscript o i tpos] X.env).map (·.2) = [assign (.Subscript o i tpos) X.env] := by rfl) : PS X (.Assign [.Subscript o i tpos] e pos) (tS X.K (SsetIx fo fi fe)) :=
  psImp (ps_asg h (pg_sub ho hi set_list ha) hs hw h1) fun E σ H ⟨θ, G, env, st, d, st', S, EN, hf, post⟩ => by
    obtain ⟨⟨x, st1⟩, h1, h2⟩ := Option.bind_eq_some_iff.mp hf
    obtain ⟨⟨y, st2⟩, h3, h4⟩ := Option.bind_eq_some_iff.mp h2
    obtain ⟨⟨z, st3⟩, h5, h6⟩ := Option.bind_eq_some_iff.mp h4
    obtain ⟨st4, h7, h8⟩ := Option.map_eq_some_iff.mp h6
    cases h8
    refine tE.go S EN h1 fun θ1 G1 H1 v1 e1 S1 EN1 r1 => tE.go S1 EN1 h3 fun θ2 G2 H2 v2 e2 S2 EN2 r2 => tE.go S2 EN2 h5 fun θ3 G3 H3 v3 e3 S3 EN3 r3 => ?_
    exact goSet S3 (r2.ext e3) r3 ((r1.ext e2).ext e3) h7 fun H' e4 S4 => post _ _ _ (((e1.trans S1 e2).trans S2 e3).trans S3 e4) S4 σ EN3
end
/-! op= -/
theorem pget {X : Cx} : PGet X (rIxL X.K) := by
  intro pins s σ H o i ov iv Q I ro ri h
  obtain ⟨p, xs, k, z, rfl, rfl, hq, he, q⟩ := h
  cases ro
  obtain ⟨t, rfl⟩ := ri
  obtain ⟨its, r, pl, hz⟩ := I.list hq
  obtain ⟨j, h1, h2, h3, h4, h5⟩ := atI_get he
  obtain ⟨w, ew, rw'⟩ := r.get h2
  have hl := r.length
  have hn := line63
  have fin : EP X pins σ Q w s := ⟨z, H, I, rw', q⟩
  by_cases h0 : 0 ≤ k
  · have hj : k.toNat = j := by rw [seqIndex_of h0 h5] at h1; exact Option.some.inj h1
    exact wpAny_getItem_list pl.isList h0 (by omega) (by rw [hj]; simpa using ew) fin
  · have hj : (k + (its.toArray.size : Int)).toNat = j := by
      rw [seqIndex_neg (by omega) h4] at h1
      rw [List.size_toArray, ← hl]
      exact Option.some.inj h1
    exact wpAny_getItem_list_neg pl.isList (by omega) (by rw [List.size_toArray] <;> omega) (by omega) (by rw [hj]; simpa using ew) fin
def Ip (K : Frag) (t : TIp) (f : F2) : Prop := ∀ θ G H st x y d e z st' Q, Sim K θ G H st → Rep K θ G x d → Rep K θ G y e → f d e st = some (z, st') → PostE K θ G H st' z Q → t x y H Q
def iaddI : F2 := fun x y st => match x, y with | .int i, .int j => some (.int (i + j), st) | _, _ => none
theorem s_iaddI {K : Frag} : Ip K (ipI fun i j => i + j) iaddI := by
  intro θ G H st x y d e z st' Q S rx ry h post
  unfold iaddI at h
  split at h
  · cases h; cases rx; cases ry
    exact ⟨_, _, rfl, rfl, post.same S (.int _)⟩
  · cases h
theorem s_isubI {K : Frag} : Ip K (ipI fun i j => i - j) subD := by
  intro θ G H st x y d e z st' Q S rx ry h post
  unfold subD at h
  split at h
  · cases h; cases rx; cases ry
    exact ⟨_, _, rfl, rfl, post.same S (.int _)⟩
  · cases h
section
variable {X : Cx} {e o i : Expr} {fe fo fi : FE} {pos : Pos} {op : Operator} {t : TIp} {f : F2}
theorem k_aug {j : Nat} {x : PySem.Str} {pos' : Pos} (hN : X.N.Nodup) (hp : PIp X op t) (hs : Ip X.K t f) (h : PE X e (tE X.K fe)) (hi : X.N[j]? = some x := by rfl) (hx : Loc X.env.scope x := by first | exact Or.inl rfl | exact Or.inr rfl)
    (hf : X.fn x = true ∨ X.env.scope.names.lookup x = some .local := by first | exact .inl rfl | exact .inr rfl) : PS X (.AugAssign (.Name x pos') op e pos) (tS X.K (Saug f j fe)) :=
  psImp (ps_aug hN hi hx h hp hf) fun E σ H ⟨θ, G, env, st, d, st', S, EN, hf, post⟩ => by
    unfold Saug at hf
    split at hf
    · rename_i x0 hx0
      obtain ⟨⟨y, st1⟩, h1, h2⟩ := Option.bind_eq_some_iff.mp hf
      obtain ⟨⟨z, st2⟩, h3, h4⟩ := Option.bind_eq_some_iff.mp h2
      cases h4
      obtain ⟨v0, hv0, r0⟩ := EN.2 _ _ hx0
      refine ⟨v0, hv0, tE.go S EN h1 fun θ1 G1 H1 v1 e1 S1 EN1 r1 => ?_⟩
      exact hs _ _ _ _ _ _ _ _ _ _ _ S1 (r0.ext e1) r1 h3 fun θ2 G2 H2 v2 e2 S2 r2 => post _ _ _ (e1.trans S1 e2) S2 _ ((EN1.ext e2).set r2 j)
    · cases hf
theorem k_augIx {tpos : Pos} (hp : PIp X op t) (hs : Ip X.K t f) (ho : PE X o (tE X.K fo)) (hi : PE X i (tE X.K fi)) (he : PE X e (tE X.K fe))
    (ha : ∀ ov iv new, augStore i ov iv new = (do holding [new, ov, iv] (setItem ov iv new); release [new, ov, iv] []; pure .next) := by intros; rfl) : PS X (.AugAssign (.Subscript o i tpos) op e pos) (tS X.K (SaugIx f fo fi fe)) :=
  psImp (ps_augS ho hi pget he hp set_list ha) fun E σ H ⟨θ, G, env, st, d, st', S, EN, hf, post⟩ => by
    obtain ⟨⟨x, st1⟩, h1, h2⟩ := Option.bind_eq_some_iff.mp hf
    obtain ⟨⟨y, st2⟩, h3, h4⟩ := Option.bind_eq_some_iff.mp h2
    obtain ⟨⟨z, st3⟩, h5, h6⟩ := Option.bind_eq_some_iff.mp h4
    obtain ⟨⟨u, st4⟩, h7, h8⟩ := Option.bind_eq_some_iff.mp h6
    obtain ⟨⟨w, st5⟩, h9, h10⟩ := Option.bind_eq_some_iff.mp h8
    obtain ⟨st6, h11, h12⟩ := Option.map_eq_some_iff.mp h10
    cases h12
    dsimp only at h3 h5 h7 h9 h11
    refine tE.go S EN h1 fun θ1 G1 H1 v1 e1 S1 EN1 r1 => tE.go S1 EN1 h3 fun θ2 G2 H2 v2 e2 S2 EN2 r2 => ?_
    have r1' := r1.ext e2
    -- the old item
    have hx : ∃ n, x = .ref n := by
      unfold setD at h11
      split at h11
      · exact ⟨_, rfl⟩
      · cases h11
    obtain ⟨n, rfl⟩ := hx
    have hy : ∃ k, y = .int k := by
      unfold setD at h11
      split at h11
      · exact ⟨_, rfl⟩
      · cases h11
    obtain ⟨k, rfl⟩ := hy
    cases r2
    simp only [ixD] at h5
    split at h5
    · rename_i ds hq
      obtain ⟨d', h13, h14⟩ := Option.map_eq_some_iff.mp h5
      cases h14
      obtain ⟨a, vs, rfl, h15, h16⟩ := sqD.ok S2 r1' hq
      obtain ⟨v, h17, h18⟩ := at_rep h16 h13
      refine ⟨a, vs, k, v, rfl, rfl, h15, h17, ?_⟩
      refine tE.go S2 EN2 h7 fun θ4 G4 H4 v4 e4 S4 EN4 r4 => ?_
      refine hs _ _ _ _ _ _ _ _ _ _ _ S4 (h18.ext e4) r4 h9 fun θ5 G5 H5 v5 e5 S5 r5 => ?_
      exact goSet S5 ((r1'.ext e4).ext e5) (.int k) r5 h11 fun H' e6 S6 => post _ _ _ ((((e1.trans S1 e2).trans S2 e4).trans S4 e5).trans S5 e6) S6 σ (EN4.ext e5)
    · cases h5
end

/-! ### targets -/
inductive Tg where
  | nm (i : Nat) | tp (ts : List Tg)
mutual
def bindT : Tg → D → Env → Option Env
  | .nm i, d, env => some (env.set i (some d))
  | .tp ts, .tup ds, env => bindTs ts ds env
  | .tp _, _, _ => none
def bindTs : List Tg → List D → Env → Option Env
  | [], [], env => some env
  | t :: ts, d :: ds, env => (bindT t d env).bind fun e => bindTs ts ds e
  | _, _, _ => none
end
mutual
def Tg.slots : Tg → List Nat
  | .nm i => [i]
  | .tp ts => Tg.slotss ts
def Tg.slotss : List Tg → List Nat
  | [] => []
  | t :: ts => t.slots ++ Tg.slotss ts
end
def offSlots (is : List Nat) (σ σ' : L2.St) : Prop := σ'.length = σ.length ∧ ∀ j, j ∉ is → σ'[j]? = σ[j]?
def tG (K : Frag) (t : Tg) : TG := fun v σ H Q => ∃ θ G st env d env', Sim K θ G H st ∧ EnvR K θ G σ env ∧ Rep K θ G v d ∧ bindT t d env = some env' ∧ ∀ σ', EnvR K θ G σ' env' → offSlots t.slots σ σ' → Q σ' H
def tGs (K : Frag) (ts : List Tg) : TGs := fun vs σ H Q => ∃ θ G st env ds env', Sim K θ G H st ∧ EnvR K θ G σ env ∧ Reps K θ G vs ds ∧ bindTs ts ds env = some env' ∧ ∀ σ', EnvR K θ G σ' env' → offSlots (Tg.slotss ts) σ σ' → Q σ' H
section
variable {X : Cx} {pos : Pos}
theorem pgImp {tg : Expr} {t t' : TG} (h : PG X tg t) (i : ∀ v σ H Q, t' v σ H Q → t v σ H Q) : PG X tg t' := ⟨fun pins s σ H v u Q I r q => h.run pins s σ H v u Q I r (i _ _ _ _ q)⟩
theorem pgsImp {tg : List Expr} {t t' : TGs} (h : PGs X tg t) (i : ∀ v σ H Q, t' v σ H Q → t v σ H Q) : PGs X tg t' := ⟨fun pins s σ H v u Q I r q => h.run pins s σ H v u Q I r (i _ _ _ _ q)⟩
theorem g_nm {i : Nat} {x : PySem.Str} (hN : X.N.Nodup) (hi : X.N[i]? = some x := by rfl) (hx : Loc X.env.scope x := by first | exact Or.inl rfl | exact Or.inr rfl) (hf : X.fn x = true ∨ X.env.scope.names.lookup x = some .local := by first | exact .inl rfl | exact .inr rfl) : PG X (.Name x pos) (tG X.K (.nm i)) :=
  pgImp (pg_name hN hi hx hf) fun v σ H Q ⟨θ, G, st, env, d, env', S, EN, r, hb, k⟩ => by
    cases hb
    exact k _ (EN.set r i) ⟨by simp, fun j hj => List.getElem?_set_ne (fun e => hj (by simp [Tg.slots, e]))⟩
theorem g_nil : PGs X [] (tGs X.K []) := pgsImp pgs_nil fun v σ H Q ⟨θ, G, st, env, ds, env', S, EN, r, hb, k⟩ => by
  cases r with
  | nil => cases hb; exact ⟨rfl, k σ EN ⟨rfl, fun _ _ => rfl⟩⟩
  | cons _ _ => simp [bindTs] at hb
theorem g_cons {e : Expr} {es : List Expr} {t : Tg} {ts : List Tg} (h1 : PG X e (tG X.K t)) (h2 : PGs X es (tGs X.K ts))
    (hs : (assignEach (e :: es) X.env).map (·.2) = assign e X.env :: (assignEach es X.env).map (·.2) := by rfl) : PGs X (e :: es) (tGs X.K (t :: ts)) :=
  pgsImp (pgs_cons h1 h2 hs) fun v σ H Q ⟨θ, G, st, env, ds, env', S, EN, r, hb, k⟩ => by
    cases r with
    | nil => simp [bindTs] at hb
    | cons r1 r2 =>
      obtain ⟨env1, h1, h2⟩ := Option.bind_eq_some_iff.mp (show ((bindT _ _ env).bind fun e => bindTs _ _ e) = some env' from hb)
      refine ⟨_, _, rfl, θ, G, st, env, _, env1, S, EN, r1, h1, fun σ1 EN1 o1 => ⟨θ, G, st, env1, _, env', S, EN1, r2, h2, fun σ2 EN2 o2 => k σ2 EN2 ⟨o2.1.trans o1.1, fun j hj => ?_⟩⟩⟩
      have hj2 : j ∉ t.slots ∧ j ∉ Tg.slotss ts := by simpa [Tg.slotss] using hj
      exact (o2.2 j hj2.2).trans (o1.2 j hj2.1)
theorem g_tp {es : List Expr} {k : Nat} {ts : List Tg} (h : PGs X es (tGs X.K ts)) (hc : X.calm = true := by rfl) (hn : (assignEach es X.env).length = ts.length := by rfl) (hst : (assignEach es X.env).findIdx? (·.1) = none := by rfl) : PG X (.Tuple es k pos) (tG X.K (.tp ts)) :=
  pgImp (pg_tup (n := ts.length) hc h hn hst) fun v σ H Q ⟨θ, G, st, env, d, env', S, EN, r, hb, kk⟩ => by
    have hlen : ∀ (ts : List Tg) (ds : List D) (e e' : Env), bindTs ts ds e = some e' → ds.length = ts.length := by
      intro ts
      induction ts with
      | nil =>
        intro ds e e' h
        cases ds with
        | nil => rfl
        | cons _ _ => simp [bindTs] at h
      | cons t ts ih =>
        intro ds e e' h
        cases ds with
        | nil => simp [bindTs] at h
        | cons x ds =>
          obtain ⟨e1, h1, h2⟩ := Option.bind_eq_some_iff.mp (show ((bindT _ _ e).bind fun e => bindTs _ _ e) = some e' from h)
          simp [ih ds e1 e' h2]
    cases r with
    | tup h1 h2 =>
      have hb' : bindTs ts _ env = some env' := hb
      exact ⟨_, _, rfl, S.t h1, by rw [h2.len]; exact hlen _ _ _ _ hb', θ, G, st, env, _, env', S, EN, h2, hb', fun σ' EN' o => kk σ' EN' o⟩
    | _ => cases hb
def Sbind (t : Tg) (f : FE) : FS := fun env st => (f env st).bind fun p => (bindT t p.1 env).map fun e => (.nx e, p.2)
theorem k_bind {tg e : Expr} {fe : FE} {t : Tg} (he : PE X e (tE X.K fe)) (hg : PG X tg (tG X.K t)) (hs : swapsWithSole [tg] e pos.line X.env = pure false := by rfl) (hw : swappedStores [tg] e X.env = pure none := by rfl)
    (h1 : (assignEach [tg] X.env).map (·.2) = [assign tg X.env] := by rfl) : PS X (.Assign [tg] e pos) (tS X.K (Sbind t fe)) :=
  psImp (ps_asg he hg hs hw h1) fun E σ H ⟨θ, G, env, st, d, st', S, EN, hf, post⟩ => by
    obtain ⟨⟨x, st1⟩, h1, h2⟩ := Option.bind_eq_some_iff.mp hf
    obtain ⟨env1, h3, h4⟩ := Option.map_eq_some_iff.mp h2
    cases h4
    exact tE.go S EN h1 fun θ1 G1 H1 v1 e1 S1 EN1 r1 => ⟨θ1, G1, st1, env, x, env1, S1, EN1, r1, h3, fun σ' EN' _ => post _ _ _ e1 S1 σ' EN'⟩
end

/-! ### what a for walks -/
abbrev Watch := List (Nat × List D)
def watchOk (w : Watch) (st : Sto) : Prop := ∀ p, p ∈ w → st[p.1]? = some (.lst p.2)
noncomputable instance watchDec {w : Watch} {st : Sto} : Decidable (watchOk w st) := Classical.propDecidable _
abbrev FI := Env → Sto → Option (List D × Watch × Sto)
def WkD (K : Frag) (J : It) (θ0 : List Addr) (G0 : Hp) (items : List D) (w : Watch) : Prop := ∃ (Gd : Hp → Prop) (Y : Nat → Hp → V → Hp → Prop), Walk J items.length Gd Y ∧
  (∀ θ G H st, (∃ l, θ = θ0 ++ l) → Gle G0 G → Sim K θ G H st → watchOk w st → Gd H) ∧
  (∀ i x H H' θ G st, i < items.length → (∃ l, θ = θ0 ++ l) → Gle G0 G → Sim K θ G H st → watchOk w st → Y i H x H' → ∃ G', Ext θ θ G G' H H' ∧ Sim K θ G' H' st ∧ ∃ d, items[i]? = some d ∧ Rep K θ G' x d)
def tI (K : Frag) (f : FI) : TI := fun σ H R => ∃ θ G env st items w st', Sim K θ G H st ∧ EnvR K θ G σ env ∧ f env st = some (items, w, st') ∧
  ∀ θ' G' H' J, Ext θ θ' G G' H H' → Sim K θ' G' H' st' → WkD K J θ' G' items w → R J H'
theorem piImp {X : Cx} {tg e : Expr} {t t' : TI} (h : PI X tg e t) (i : ∀ σ H Q, t' σ H Q → t σ H Q) : PI X tg e t' := ⟨fun pins s σ H Q I q => h.run pins s σ H Q I (i _ _ _ q)⟩
theorem piOr {X : Cx} {tg e : Expr} {t t' : TI} (h : PI X tg e t) (h' : PI X tg e t') : PI X tg e (fun σ H R => t σ H R ∨ t' σ H R) := ⟨fun pins s σ H Q I q => by
  rcases q with q | q
  · exact h.run pins s σ H Q I q
  · exact h'.run pins s σ H Q I q⟩
noncomputable def forL (w : Watch) (t : Tg) (body : FS) : List D → Env → Sto → Option (Fl × Sto)
  | [], env, st => if watchOk w st then some (.nx env, st) else none
  | x :: r, env, st => if watchOk w st then (bindT t x env).bind fun e1 => (body e1 st).bind fun p => match p.1 with
    | .nx e => forL w t body r e p.2
    | .ct e => forL w t body r e p.2
    | .bk e => some (.nx e, p.2)
    | .rt d => some (.rt d, p.2) else none
noncomputable def Sfor (fi : FI) (t : Tg) (body : FS) : FS := fun env st => (fi env st).bind fun p => forL p.2.1 t body p.1 env p.2.2
theorem forL.watch {w : Watch} {t : Tg} {body : FS} {xs : List D} {env : Env} {st : Sto} {r : Fl × Sto} (h : forL w t body xs env st = some r) : watchOk w st := by
  cases xs with
  | nil =>
    unfold forL at h
    split at h
    · assumption
    · cases h
  | cons x xs =>
    unfold forL at h
    split at h
    · assumption
    · cases h
theorem k_for {X : Cx} {tg iter : Expr} {b : List Stmt} {pos : Pos} {fi : FI} {t : Tg} {fb : FS} (hp : PassesOwn (model X.prog X.w) X.A X.env X.xe) (hc : X.calm = true) (hi : PI X tg iter (tI X.K fi)) (hg : PG X tg (tG X.K t)) (hb : PSs X b (tS X.K fb))
    (hs : ∀ x, foldedSetIterable iter X.env x = pure x := by intro _; rfl) : PS X (.For tg iter b [] pos) (tS X.K (Sfor fi t fb)) :=
  psImp (ps_for hp hc hi hg hb hs) fun E σ H ⟨θ, G, env, st, fl, st', S, EN, hf, post⟩ => by
    obtain ⟨⟨items, w, st1⟩, h1, h2⟩ := Option.bind_eq_some_iff.mp hf
    dsimp only at h2
    refine ⟨θ, G, env, st, items, w, st1, S, EN, h1, fun θ1 G1 H1 J e1 S1 ⟨Gd, Y, wk, w1, w2⟩ => ?_⟩
    refine for_it wk (fun i σ' H' => ∃ θ' G' env' st2, Ext θ1 θ' G1 G' H1 H' ∧ Sim X.K θ' G' H' st2 ∧ EnvR X.K θ' G' σ' env' ∧ forL w t fb (items.drop i) env' st2 = some (fl, st'))
      ⟨θ1, G1, env, st1, .refl, S1, EN.ext e1, h2⟩ ?_ ?_ ?_
    · rintro i σ' H' _ ⟨θ', G', env', st2, e2, S2, EN2, h3⟩
      exact w1 _ _ _ _ e2.pre e2.im S2 (forL.watch h3)
    · rintro i x σ' H2 H3 hi ⟨θ', G', env', st2, e2, S2, EN2, h3⟩ hY
      obtain ⟨G3, e3, S3, d, hd, rd⟩ := w2 i x H2 H3 θ' G' st2 hi e2.pre e2.im S2 (forL.watch h3) hY
      have hdr : items.drop i = d :: items.drop (i + 1) := by
        have hd' := (List.getElem?_eq_some_iff.mp hd).2
        rw [List.drop_eq_getElem_cons hi, hd']
      rw [hdr] at h3
      unfold forL at h3
      split at h3
      · obtain ⟨env1, h4, h5⟩ := Option.bind_eq_some_iff.mp h3
        obtain ⟨⟨fl1, st3⟩, h6, h7⟩ := Option.bind_eq_some_iff.mp h5
        refine ⟨θ', G3, st2, env', d, env1, S3, EN2.ext e3, rd, h4, fun σ2 EN3 _ => ?_⟩
        refine tS.go S3 EN3 h6 fun θ4 G4 H4 e4 S4 => ?_
        have e14 := (e2.trans S2 e3).trans S3 e4
        cases fl1 with
        | nx e => exact fun σ4 EN4 => ⟨θ4, G4, e, st3, e14, S4, EN4, h7⟩
        | ct e => exact fun σ4 EN4 => ⟨θ4, G4, e, st3, e14, S4, EN4, h7⟩
        | bk e =>
          cases h7
          exact fun σ4 EN4 => post _ _ _ (e1.trans S1 e14) S4 σ4 EN4
        | rt d' =>
          cases h7
          exact fun v r => post _ _ _ (e1.trans S1 e14) S4 v r
      · cases h3
    · rintro σ' H' ⟨θ', G', env', st2, e2, S2, EN2, h3⟩
      rw [List.drop_length] at h3
      unfold forL at h3
      split at h3
      · cases h3
        exact post _ _ _ (e1.trans S1 e2) S2 σ' EN2
      · cases h3

/-! ### sources -/
def watchOf : D → List D → Watch
  | .ref n, ds => [(n, ds)]
  | _, _ => []
def chars (s : PySem.Str) : List D := s.cps.toList.map fun c => .str ⟨#[c]⟩
def Iseq (f : FE) : FI := fun env st => (f env st).bind fun p => match p.1 with
  | .tup ds => some (ds, [], p.2)
  | .str s => some (chars s, [], p.2)
  | d => (sqD p.2 d).map fun ds => (ds, watchOf d ds, p.2)
def rangeL (lo : Int) (n : Nat) : List D := (List.range n).map fun i => .int (lo + (i : Nat))
def Irng1 (g : FA) : FI := fun env st => (g env st).bind fun p => match p.1 with
  | [.int n] => if -(2 ^ 62) ≤ n ∧ n < 2 ^ 62 then some (rangeL 0 n.toNat, [], p.2) else none
  | _ => none
def Irng2 (g : FA) : FI := fun env st => (g env st).bind fun p => match p.1 with
  | [.int lo, .int n] => if -(2 ^ 62) ≤ lo ∧ lo < 2 ^ 62 ∧ -(2 ^ 62) ≤ n ∧ n < 2 ^ 62 then some (rangeL lo (n - lo).toNat, [], p.2) else none
  | _ => none
def downL (hi : Int) (n : Nat) : List D := (List.range n).map fun i => .int (hi + (i : Nat) * (-1))
def Irng3 (g : FA) : FI := fun env st => (g env st).bind fun p => match p.1 with
  | [.int i, .int j, .int (-1)] => if -(2 ^ 62) ≤ i ∧ i < 2 ^ 62 ∧ -(2 ^ 62) ≤ j ∧ j < 2 ^ 62 then some (downL i (i - j).toNat, [], p.2) else none
  | _ => none
section
variable {K : Frag} {θ : List Addr} {G H : Hp} {st : Sto} {v : V} {d : D} {ds : List D}
theorem wk_list (S : Sim K θ G H st) (r : Rep K θ G v d) (h : sqD st d = some ds) : ∃ a, v = .ref a ∧ (∃ vs, SqL K H a vs) ∧ WkD K (Itl K a) θ G ds (watchOf d ds) := by
  obtain ⟨a, vs, rfl, h1, h2⟩ := sqD.ok S r h
  have key : ∀ θ' G' H' st', (∃ l, θ' = θ ++ l) → Gle G G' → Sim K θ' G' H' st' → watchOk (watchOf d ds) st' → ∃ vs, SqL K H' a vs ∧ Reps K θ' G' vs ds := by
    intro θ' G' H' st' p g S' w
    cases d with
    | ref n =>
      have hw : st'[n]? = some (.lst ds) := w (n, ds) (List.mem_singleton.mpr rfl)
      cases r with
      | ref h3 =>
        obtain ⟨o, h4, h5⟩ := S'.at (pre_at p h3)
        rw [hw] at h4
        cases h4
        obtain ⟨ws, h6, h7⟩ := h5
        exact ⟨ws, SqL.of h6, h7⟩
    | lst es =>
      cases h
      cases r with
      | lst h3 h4 => exact ⟨_, SqL.of (S'.sub _ _ (g _ _ h3)), h4.mono p g _ _⟩
    | sq es =>
      cases h
      cases r with
      | sq h3 h4 => exact ⟨_, S'.l (g.l h3), h4.mono p g _ _⟩
    | _ => cases h
  refine ⟨a, rfl, ⟨vs, h1⟩, fun H => ∃ vs, SqL K H a vs ∧ vs.length = ds.length, fun i H x H' => H' = H ∧ ∀ vs, SqL K H a vs → vs[i]? = some x, ⟨?_, ?_, ?_⟩, ?_, ?_⟩
  · rintro i H' hi ⟨ws, h3, h4⟩
    exact ⟨ws, ws[i]'(by omega), h3, List.getElem?_eq_getElem (by omega)⟩
  · rintro H' ⟨ws, h3, h4⟩
    exact ⟨ws, h3, by omega⟩
  · rintro i H1 x H2 hi _ h3
    exact h3
  · intro θ' G' H' st' p g S' w
    obtain ⟨ws, h3, h4⟩ := key θ' G' H' st' p g S' w
    exact ⟨ws, h3, h4.len⟩
  · rintro i x H1 H2 θ' G' st' hi p g S' w ⟨rfl, hY⟩
    obtain ⟨ws, h3, h4⟩ := key θ' G' _ st' p g S' w
    obtain ⟨d', h5, h6⟩ := h4.at' (hY ws h3)
    exact ⟨G', .refl, S', d', h5, h6⟩
theorem wk_tup (S : Sim K θ G H st) (r : Rep K θ G v (.tup ds)) : ∃ a, v = .ref a ∧ (∃ vs, SqT K H a vs) ∧ WkD K (Itt K a) θ G ds [] := by
  cases r with
  | @tup a vs _ h1 h2 =>
    refine ⟨a, rfl, ⟨_, S.t h1⟩, fun H => SqT K H a vs, YAt vs, by rw [← h2.len]; exact walk_tup, fun θ' G' H' st' p g S' w => S'.t (g.t h1), ?_⟩
    rintro i x H1 H2 θ' G' st' hi p g S' w ⟨rfl, hY⟩
    obtain ⟨d', h5, h6⟩ := (h2.mono p g _ _).at' hY
    exact ⟨G', .refl, S', d', h5, h6⟩
theorem wk_str {s : PySem.Str} : WkD K (Its s) θ G (chars s) [] := by
  have hl : (chars s).length = s.cps.size := by simp [chars]
  refine ⟨fun _ => True, _, by rw [hl]; exact walk_str, fun _ _ _ _ _ _ _ _ => trivial, ?_⟩
  rintro i x H1 H2 θ' G' st' hi p g S' w ⟨rfl, c, hc, rfl⟩
  exact ⟨G', .refl, S', .str ⟨#[c]⟩, by simp [chars, hc], .str _⟩
theorem wk_range {lo : Int} {n : Nat} : WkD K (Itr lo n) θ G (rangeL lo n) [] := by
  have hl : (rangeL lo n).length = n := by simp [rangeL]
  refine ⟨fun _ => True, _, by rw [hl]; exact walk_range, fun _ _ _ _ _ _ _ _ => trivial, ?_⟩
  rintro i x H1 H2 θ' G' st' hi p g S' w ⟨rfl, rfl⟩
  exact ⟨G', .refl, S', .int (lo + (i : Nat)), by rw [hl] at hi; simp [rangeL, hi], .int _⟩
theorem wk_down {hi : Int} {n : Nat} : WkD K (Itc hi (-1) n) θ G (downL hi n) [] := by
  have hl : (downL hi n).length = n := by simp [downL]
  refine ⟨fun _ => True, _, by rw [hl]; exact walk_rangeC, fun _ _ _ _ _ _ _ _ => trivial, ?_⟩
  rintro i x H1 H2 θ' G' st' hi p g S' w ⟨rfl, rfl⟩
  exact ⟨G', .refl, S', .int (_ + (i : Nat) * (-1)), by rw [hl] at hi; simp [downL, hi], .int _⟩
end
section
variable {X : Cx} {tg e : Expr} {fe : FE} {g : FA} {p pos : Pos}
theorem i_seq (h : PE X e (tE X.K fe)) : PI X tg e (tI X.K (Iseq fe)) :=
  piImp (piOr (pi_tup h) (piOr (pi_str h) (pi_list h))) fun σ H R ⟨θ, G, env, st, items, w, st', S, EN, hf, post⟩ => by
    obtain ⟨⟨x, st1⟩, h1, h2⟩ := Option.bind_eq_some_iff.mp hf
    dsimp only at h2
    split at h2
    · cases h2
      refine .inl (tE.go S EN h1 fun θ1 G1 H1 v1 e1 S1 EN1 r1 => ?_)
      obtain ⟨a, rfl, h3, h4⟩ := wk_tup S1 r1
      exact ⟨a, rfl, h3, post _ _ _ _ e1 S1 h4⟩
    · cases h2
      refine .inr (.inl (tE.go S EN h1 fun θ1 G1 H1 v1 e1 S1 EN1 r1 => ?_))
      cases r1
      exact ⟨_, rfl, post _ _ _ _ e1 S1 wk_str⟩
    · obtain ⟨ds, h3, h4⟩ := Option.map_eq_some_iff.mp h2
      cases h4
      refine .inr (.inr (tE.go S EN h1 fun θ1 G1 H1 v1 e1 S1 EN1 r1 => ?_))
      obtain ⟨a, rfl, h5, h6⟩ := wk_list S1 r1 h3
      exact ⟨a, rfl, h5, post _ _ _ _ e1 S1 h6⟩
theorem i_rng1 (hg : Gl X "range") (hm : X.mg "range" = none) (ha : PA X [e] (tA X.K g)) (hs : starEach [e] X.env = [(false, eval e X.env)] := by rfl) : PI X tg (.Call (.Name "range" p) [e] [] pos) (tI X.K (Irng1 g)) :=
  piImp (pi_range1 hg hm ha hs) fun σ H R ⟨θ, G, env, st, items, w, st', S, EN, hf, post⟩ => by
    obtain ⟨⟨x, st1⟩, h1, h2⟩ := Option.bind_eq_some_iff.mp hf
    dsimp only at h2
    split at h2
    · split at h2
      · rename_i hb
        cases h2
        refine tA.go S EN h1 fun θ1 G1 H1 v1 e1 S1 EN1 r1 => ?_
        cases r1 with
        | cons r1 r2 =>
          cases r1
          cases r2
          exact ⟨_, rfl, hb.1, hb.2, post _ _ _ _ e1 S1 wk_range⟩
      · cases h2
    · cases h2
theorem i_rng2 {e2 : Expr} (hg : Gl X "range") (hm : X.mg "range" = none) (ha : PA X [e, e2] (tA X.K g)) (hs : starEach [e, e2] X.env = [(false, eval e X.env), (false, eval e2 X.env)] := by rfl) (hs2 : starEach [e2] X.env = [(false, eval e2 X.env)] := by rfl) : PI X tg (.Call (.Name "range" p) [e, e2] [] pos) (tI X.K (Irng2 g)) :=
  piImp (pi_range2 hg hm ha hs hs2) fun σ H R ⟨θ, G, env, st, items, w, st', S, EN, hf, post⟩ => by
    obtain ⟨⟨x, st1⟩, h1, h2⟩ := Option.bind_eq_some_iff.mp hf
    dsimp only at h2
    split at h2
    · split at h2
      · rename_i hb
        cases h2
        refine tA.go S EN h1 fun θ1 G1 H1 v1 e1 S1 EN1 r1 => ?_
        cases r1 with
        | cons r1 r2 =>
          cases r1
          cases r2 with
          | cons r2 r3 =>
            cases r2
            cases r3
            exact ⟨_, _, rfl, hb, post _ _ _ _ e1 S1 wk_range⟩
      · cases h2
    · cases h2
theorem i_rng3 {e2 e3 : Expr} (hg : Gl X "range") (hm : X.mg "range" = none) (ha : PA X [e, e2, e3] (tA X.K g)) (hp : PI X tg (.Call (.Name "range" p) [e, e2, e3] [] pos) (iRng3 (tA X.K g))) : PI X tg (.Call (.Name "range" p) [e, e2, e3] [] pos) (tI X.K (Irng3 g)) :=
  piImp hp fun σ H R ⟨θ, G, env, st, items, w, st', S, EN, hf, post⟩ => by
    obtain ⟨⟨x, st1⟩, h1, h2⟩ := Option.bind_eq_some_iff.mp hf
    dsimp only at h2
    split at h2
    · split at h2
      · rename_i hb
        cases h2
        refine tA.go S EN h1 fun θ1 G1 H1 v1 e1 S1 EN1 r1 => ?_
        cases r1 with
        | cons r1 r2 =>
          cases r1
          cases r2 with
          | cons r2 r3 =>
            cases r2
            cases r3 with
            | cons r3 r4 =>
              cases r3
              cases r4
              exact ⟨_, _, _, _, rfl, RgC.neg hb.1 hb.2.1 hb.2.2.1 hb.2.2.2, post _ _ _ _ e1 S1 wk_down⟩
      · cases h2
    · cases h2
end

/-! ### list comprehensions -/
section
variable {K : Frag} {θ θ' : List Addr} {G G' H H' : Hp} {st : Sto} {p : Addr}
/-- what neither the store nor the lasting part knows may change -/
theorem Sim.other (S : Sim K θ G H st) (h1 : G p = none) (h2 : p ∉ θ) (o : HO) : Sim K θ G (upd H p o) st where
  sub := fun a u e => by
    have z : a ≠ p := fun z => by rw [z, h1] at e; cases e
    rw [upd_ne z]; exact S.sub a u e
  len := S.len
  nd := S.nd
  off := S.off
  obj := fun i a u e1 e2 => (S.obj i a u e1 e2).mono ⟨[], by simp⟩ (fun _ _ e => e) (upd_ne fun z => h2 (by rw [← z]; exact List.mem_of_getElem? e1))
theorem Ext.other (e : Ext θ θ' G G' H H') (h : H p = none) (o : HO) : Ext θ θ' G G' H (upd H' p o) where
  pre := e.pre
  im := e.im
  fr := fun a u q m => by
    have z : a ≠ p := fun z => by rw [z, h] at q; cases q
    rw [upd_ne z]; exact e.fr a u q m
  nθ := e.nθ
  nG := e.nG
theorem Sim.freeze (S : Sim K θ G H st) (h1 : G p = none) (h2 : p ∉ θ) {o : HO} (h3 : H p = some o) : Sim K θ (upd G p o) H st where
  sub := fun a u e => by
    by_cases z : a = p
    · rw [z, upd_same] at e; rw [z, h3]; exact e
    · rw [upd_ne z] at e; exact S.sub a u e
  len := S.len
  nd := S.nd
  off := fun a m => by rw [upd_ne (fun z => h2 (by rw [← z]; exact m))]; exact S.off a m
  obj := fun i a u e1 e2 => (S.obj i a u e1 e2).mono ⟨[], by simp⟩ (fun b x e => by
    have z : b ≠ p := fun z => by rw [z, h1] at e; cases e
    rw [upd_ne z]; exact e) rfl
theorem Ext.freeze (e : Ext θ θ' G G' H H') (h : H p = none) (h1 : G' p = none) (o : HO) : Ext θ θ' G (upd G' p o) H H' where
  pre := e.pre
  im := fun a u q => by
    have z : a ≠ p := fun z => by rw [z] at q; rw [e.im _ _ q] at h1; cases h1
    rw [upd_ne z]; exact e.im a u q
  fr := e.fr
  nθ := e.nθ
  nG := fun a u q n => by
    by_cases z : a = p
    · rw [z]; exact h
    · rw [upd_ne z] at q; exact e.nG a u q n
theorem Sim.adopt (S : Sim K θ G H st) (h1 : G p = none) (h2 : p ∉ θ) {vs : List V} {ds : List D} (h3 : H p = some (.lst vs)) (r : Reps K θ G vs ds) : Sim K (θ ++ [p]) G H (st ++ [.lst ds]) where
  sub := S.sub
  len := by simp [S.len]
  nd := by
    rw [List.nodup_append]
    refine ⟨S.nd, by simp, fun a ha b hb => ?_⟩
    rw [List.mem_singleton] at hb
    subst hb
    exact fun z => h2 (by rw [← z]; exact ha)
  off := fun a m => by
    rcases List.mem_append.mp m with m | m
    · exact S.off a m
    · rw [List.mem_singleton] at m
      subst m
      exact h1
  obj := fun i a o e1 e2 => by
    by_cases hi : i < θ.length
    · rw [List.getElem?_append_left hi] at e1
      rw [List.getElem?_append_left (by rw [← S.len]; exact hi)] at e2
      exact (S.obj i a o e1 e2).mono ⟨_, rfl⟩ (fun _ _ e => e) rfl
    · have hi2 : i = θ.length := by
        obtain ⟨hl, _⟩ := List.getElem?_eq_some_iff.mp e1
        simp at hl
        omega
      subst hi2
      rw [List.getElem?_append_right (Nat.le_refl _)] at e1
      rw [List.getElem?_append_right (by rw [S.len]; exact Nat.le_refl _), S.len] at e2
      simp at e1 e2
      subst e1
      subst e2
      exact ⟨vs, h3, r.mono ⟨_, rfl⟩ (fun _ _ e => e) _ _⟩
theorem Ext.adopt (e : Ext θ θ' G G' H H') (h : H p = none) : Ext θ (θ' ++ [p]) G G' H H' where
  pre := by
    obtain ⟨l, q⟩ := e.pre
    exact ⟨l ++ [p], by rw [q, List.append_assoc]⟩
  im := e.im
  fr := e.fr
  nθ := fun a m n => by
    rcases List.mem_append.mp m with m | m
    · exact e.nθ a m n
    · rw [List.mem_singleton] at m
      rw [m]
      exact h
  nG := e.nG
end
/-- the slots of a comprehension's own names forgotten -/
def wipeE (env : Env) : List Nat → Env
  | [] => env
  | v :: vs => (wipeE env vs).set v none
noncomputable def compL (w : Watch) (t : Tg) (test : FT) (elt : FE) (env : Env) : List D → Sto → Option (List D × Sto)
  | [], st => if watchOk w st then some ([], st) else none
  | x :: r, st => if watchOk w st then (bindT t x env).bind fun e1 => (test e1 st).bind fun b => if b.1 = true then (elt e1 b.2).bind fun y => (compL w t test elt env r y.2).bind fun q => some (y.1 :: q.1, q.2)
    else compL w t test elt env r b.2 else none
noncomputable def Ecmp (fi : FI) (t : Tg) (test : FT) (elt : FE) (own : List Nat) : FE := fun env st => (fi env st).bind fun p => if p.1.length ≤ 16777216 then (compL p.2.1 t test elt (wipeE env own) p.1 p.2.2).bind fun q => some (.lst q.1, q.2) else none
noncomputable def EcmpN (fi : FI) (t : Tg) (test : FT) (elt : FE) (own : List Nat) : FE := fun env st => (fi env st).bind fun p => if p.1.length ≤ 16777216 then (compL p.2.1 t test elt (wipeE env own) p.1 p.2.2).bind fun q => some (.ref q.2.length, q.2 ++ [.lst q.1]) else none
def Tyes : FT := fun _ st => some (true, st)
theorem compL.watch {w : Watch} {t : Tg} {test : FT} {elt : FE} {xs : List D} {env : Env} {st : Sto} {r : List D × Sto} (h : compL w t test elt env xs st = some r) : watchOk w st := by
  cases xs with
  | nil =>
    unfold compL at h
    split at h
    · assumption
    · cases h
  | cons x xs =>
    unfold compL at h
    split at h
    · assumption
    · cases h
theorem EnvR.wipe {K : Frag} {θ : List Addr} {G : Hp} {σ : L2.St} {env : Env} (r : EnvR K θ G σ env) : ∀ own : List Nat, EnvR K θ G (L2.wipe σ own) (wipeE env own)
  | [] => r
  | v :: vs => by
    have ih := EnvR.wipe r vs
    refine ⟨by simp [L2.wipe, wipeE, ih.1], fun i d h => ?_⟩
    unfold wipeE at h
    by_cases hi : v = i
    · subst hi
      by_cases hl : v < (wipeE env vs).length
      · rw [List.getElem?_set_self hl] at h; cases h
      · rw [List.getElem?_eq_none (by simpa using hl)] at h; cases h
    · rw [List.getElem?_set_ne hi] at h
      obtain ⟨x, h1, h2⟩ := ih.2 i d h
      exact ⟨x, by unfold L2.wipe; rw [List.getElem?_set_ne hi]; exact h1, h2⟩
theorem wipe_at (σ : L2.St) (i : Nat) : ∀ own : List Nat, (L2.wipe σ own)[i]? = if i ∈ own then (if i < σ.length then some none else none) else σ[i]?
  | [] => by simp [L2.wipe]
  | v :: vs => by
    unfold L2.wipe
    by_cases hi : v = i
    · subst hi
      by_cases hl : v < σ.length
      · rw [List.getElem?_set_self (by rw [wipe_length]; exact hl)]; simp [hl]
      · rw [List.getElem?_eq_none (by rw [List.length_set, wipe_length]; omega)]; simp [hl]
    · rw [List.getElem?_set_ne hi, wipe_at σ i vs]
      have : (i ∈ v :: vs) = (i ∈ vs) := by
        simp
        intro e
        exact absurd e.symm hi
      simp only [this]
theorem wipe_off {is own : List Nat} (hs : ∀ j, j ∈ is → j ∈ own) {σ σ' : L2.St} (o : offSlots is (L2.wipe σ own) σ') : L2.wipe σ' own = L2.wipe σ own := by
  refine List.ext_getElem? fun i => ?_
  have hl : σ'.length = σ.length := by rw [o.1, wipe_length]
  rw [wipe_at, wipe_at, hl]
  by_cases hi : i ∈ own
  · simp only [hi, if_true]
  · simp only [hi, if_false]
    rw [o.2 i (fun z => hi (hs i z)), wipe_at]
    simp only [hi, if_false]
def tTs (K : Frag) (f : FT) : TT := tT K f
section
variable {X : Cx}
theorem ptsImp {cs : List Expr} {t t' : TT} (h : PTs X cs t) (i : ∀ σ H Q, t' σ H Q → t σ H Q) : PTs X cs t' := ⟨fun pins s σ H Q I q => h.run pins s σ H Q I (i _ _ _ q)⟩
theorem l_nil : PTs X [] (tT X.K Tyes) := ptsImp pts_nil fun σ H Q ⟨θ, G, env, st, b, st', S, EN, hf, post⟩ => by
  cases hf
  exact post _ _ _ .refl S
theorem l_one {c : Expr} {f : FT} (h : PT X c (tT X.K f)) : PTs X [c] (tT X.K f) := pts_one h
end
theorem goComp {K : Frag} {fi : FI} {t : Tg} {test : FT} {elt : FE} {own : List Nat} (hs : ∀ j, j ∈ t.slots → j ∈ own) {θ : List Addr} {G H : Hp} {st st1 st' : Sto} {σ : L2.St} {env : Env} {items : List D} {w : Watch} {tot : List D} {Q : VK}
    (S : Sim K θ G H st) (EN : EnvR K θ G σ env) (h1 : fi env st = some (items, w, st1)) (hl : items.length ≤ 16777216) (h2 : compL w t test elt (wipeE env own) items st1 = some (tot, st'))
    (k : ∀ θ' G' H' Dl vs, Ext θ θ' G G' H H' → Sim K θ' G' H' st' → H Dl = none → G' Dl = none → Dl ∉ θ' → H' Dl = some (.lst vs) → Reps K θ' G' vs tot → Q (.ref Dl) H') :
    tLc (tI K fi) (tG K t) (tT K test) (tE K elt) own σ H Q := by
  refine ⟨θ, G, env, st, items, w, st1, S, EN, h1, fun θ1 G1 H1 J e1 S1 ⟨Gd, Y, wk, w1, w2⟩ Dl hD => ?_⟩
  have EN1 := EN.ext e1
  have hD0 : H Dl = none := by
    cases q : H Dl with
    | none => rfl
    | some o =>
      by_cases m : Dl ∈ θ
      · obtain ⟨l, hp⟩ := e1.pre
        obtain ⟨u, hu⟩ := S1.there (a := Dl) (by rw [hp]; exact List.mem_append_left _ m)
        rw [hu] at hD
        cases hD
      · rw [e1.fr Dl o q m] at hD
        cases hD
  have hD1 : Dl ∉ θ1 := fun m => by
    obtain ⟨u, hu⟩ := S1.there m
    rw [hu] at hD
    cases hD
  refine lc_it wk (D := Dl) (Qd := Q (.ref Dl)) (fun i H' => ∃ θ' G' st2 vs acc rest, Ext θ1 θ' G1 G' H1 H' ∧ Sim K θ' G' H' st2 ∧ G' Dl = none ∧ Dl ∉ θ' ∧ H' Dl = some (.lst vs) ∧ Reps K θ' G' vs acc ∧ acc.length ≤ i ∧
    compL w t test elt (wipeE env own) (items.drop i) st2 = some (rest, st') ∧ acc ++ rest = tot)
    ⟨θ1, G1, st1, [], [], tot, Ext.refl.other hD _, S1.other (S1.gnone hD) hD1 _, S1.gnone hD, hD1, upd_same, .nil, Nat.zero_le _, h2, rfl⟩ ?_ ?_ ?_
  · rintro i H' _ ⟨θ', G', st2, vs, acc, rest, e2, S2, _, _, _, _, _, h3, _⟩
    exact w1 _ _ _ _ e2.pre e2.im S2 (compL.watch h3)
  · rintro i x H2 H3 hi ⟨θ', G', st2, vs, acc, rest, e2, S2, n1, n2, hv, rv, hal, h3, ht⟩ hY
    obtain ⟨G3, e3, S3, d, hd, rd⟩ := w2 i x H2 H3 θ' G' st2 hi e2.pre e2.im S2 (compL.watch h3) hY
    have hdr : items.drop i = d :: items.drop (i + 1) := by
      have hd' := (List.getElem?_eq_some_iff.mp hd).2
      rw [List.drop_eq_getElem_cons hi, hd']
    have carry : ∀ {θa θb : List Addr} {Ga Gb Ha Hb : Hp} {stb : Sto} {ws : List V}, Ext θa θb Ga Gb Ha Hb → Ga Dl = none → Dl ∉ θa → Ha Dl = some (.lst ws) → Gb Dl = none ∧ Dl ∉ θb ∧ Hb Dl = some (.lst ws) := by
      intro θa θb Ga Gb Ha Hb stb ws e a1 a2 a3
      refine ⟨?_, fun m => ?_, e.fr _ _ a3 a2⟩
      · cases q : Gb Dl with
        | none => rfl
        | some o =>
          have := e.nG Dl o q a1
          rw [this] at a3
          cases a3
      · have := e.nθ Dl m a2
        rw [this] at a3
        cases a3
    obtain ⟨n31, n32, hv3⟩ := carry (stb := st2) e3 n1 n2 hv
    rw [hdr] at h3
    unfold compL at h3
    split at h3
    · obtain ⟨env1, h4, h5⟩ := Option.bind_eq_some_iff.mp h3
      obtain ⟨⟨b, st3⟩, h6, h7⟩ := Option.bind_eq_some_iff.mp h5
      have e13 := e2.trans S2 e3
      refine ⟨θ', G3, st2, wipeE env own, d, env1, S3, ((EN1.ext e2).ext e3).wipe own, rd, h4, fun σ2 EN3 o => ⟨wipe_off hs o, ?_⟩⟩
      refine tT.go S3 EN3 h6 fun θ4 G4 H4 e4 S4 EN4 => ?_
      obtain ⟨n41, n42, hv4⟩ := carry (stb := st2) e4 n31 n32 hv3
      cases b with
      | true =>
        rw [if_pos rfl] at h7 ⊢
        obtain ⟨⟨y, st4⟩, h8, h9⟩ := Option.bind_eq_some_iff.mp h7
        obtain ⟨⟨rest2, st5⟩, h10, h11⟩ := Option.bind_eq_some_iff.mp h9
        cases h11
        refine tE.go S4 EN4 h8 fun θ5 G5 H5 v5 e5 S5 EN5 r5 => ?_
        obtain ⟨n51, n52, hv5⟩ := carry (stb := st2) e5 n41 n42 hv4
        have rv5 := ((rv.ext e3).ext e4).ext e5
        have hvl : vs.length ≤ i := by rw [rv.len]; exact hal
        refine ⟨vs, hv5, szlt (by omega), θ5, G5, st4, vs ++ [v5], acc ++ [y], rest2, (((e13.trans S3 e4).trans S4 e5)).other hD _, S5.other n51 n52 _, n51, n52, upd_same, rv5.append (.cons r5 .nil), ?_, h10, by rw [← ht]; simp⟩
        rw [List.length_append]
        simp
        exact hal
      | false =>
        rw [if_neg Bool.false_ne_true] at h7 ⊢
        exact ⟨θ4, G4, st3, vs, acc, rest, e13.trans S3 e4, S4, n41, n42, hv4, (rv.ext e3).ext e4, by omega, h7, ht⟩
    · cases h3
  · rintro H' ⟨θ', G', st2, vs, acc, rest, e2, S2, n1, n2, hv, rv, hal, h3, ht⟩
    rw [List.drop_length] at h3
    unfold compL at h3
    split at h3
    · cases h3
      rw [List.append_nil] at ht
      subst ht
      exact k _ _ _ Dl vs (e1.trans S1 e2) S2 hD0 n1 n2 hv rv
    · cases h3
section
variable {K : Frag} {fi : FI} {t : Tg} {test : FT} {elt : FE} {own : List Nat} {σ : L2.St} {H : Hp} {Q : VK}
theorem goCmp (hs : ∀ j, j ∈ t.slots → j ∈ own) (h : tE K (Ecmp fi t test elt own) σ H Q) : tLc (tI K fi) (tG K t) (tT K test) (tE K elt) own σ H Q := by
  obtain ⟨θ, G, env, st, d, st', S, EN, hf, post⟩ := h
  obtain ⟨⟨items, w, st1⟩, h1, h2⟩ := Option.bind_eq_some_iff.mp hf
  dsimp only at h2
  split at h2
  · rename_i hl
    obtain ⟨⟨tot, st2⟩, h3, h4⟩ := Option.bind_eq_some_iff.mp h2
    cases h4
    refine goComp hs S EN h1 hl h3 fun θ' G' H' Dl vs e S' n0 n1 n2 hv r => ?_
    exact post _ _ _ _ (e.freeze n0 n1 _) (S'.freeze n1 n2 hv) (.lst upd_same (r.mono ⟨[], by simp⟩ (fun b x q => by
      have z : b ≠ Dl := fun z => by rw [z, n1] at q; cases q
      rw [upd_ne z]; exact q) _ _))
  · cases h2
theorem goCmpN (hs : ∀ j, j ∈ t.slots → j ∈ own) (h : tE K (EcmpN fi t test elt own) σ H Q) : tLc (tI K fi) (tG K t) (tT K test) (tE K elt) own σ H Q := by
  obtain ⟨θ, G, env, st, d, st', S, EN, hf, post⟩ := h
  obtain ⟨⟨items, w, st1⟩, h1, h2⟩ := Option.bind_eq_some_iff.mp hf
  dsimp only at h2
  split at h2
  · rename_i hl
    obtain ⟨⟨tot, st2⟩, h3, h4⟩ := Option.bind_eq_some_iff.mp h2
    cases h4
    refine goComp hs S EN h1 hl h3 fun θ' G' H' Dl vs e S' n0 n1 n2 hv r => ?_
    exact post _ _ _ _ (e.adopt n0) (S'.adopt n1 n2 hv r) (.ref (by rw [← S'.len, List.getElem?_append_right (Nat.le_refl _), Nat.sub_self]; rfl))
  · cases h2
end
section
variable {X : Cx} {elt tg iter : Expr} {ifs : List Expr} {scope : Scope} {own : List (PySem.Str × Nat)} {pos : Pos} {fi : FI} {t : Tg} {ft : FT} {fe : FE}
theorem c_cmp_ (hc : X.calm = true) (hN : X.N.Nodup) (hi : PI X tg iter (tI X.K fi)) (ok : BlkOk X.N X.env.scope scope own) (hsl : (t.slots.all fun j => (own.map (·.2)).contains j) = true)
    (hg : ∀ (s : Shared) (H : Hp) (C : Addr) (cl : List (PySem.Str × Addr)) (fp : List Addr), PG (X.blk s H scope (compEnvC scope cl C X.env) fp) tg (tG X.K t)) (ht : ∀ (s : Shared) (H : Hp) (C : Addr) (cl : List (PySem.Str × Addr)) (fp : List Addr), PTs (X.blk s H scope (compEnvC scope cl C X.env) fp) ifs (tT X.K ft))
    (he : ∀ (s : Shared) (H : Hp) (C : Addr) (cl : List (PySem.Str × Addr)) (fp : List Addr), PE (X.blk s H scope (compEnvC scope cl C X.env) fp) elt (tE X.K fe)) (hs : ∀ x, foldedSetIterable iter X.env x = pure x := by intro _; rfl) :
    PE X (.ListComp elt [⟨tg, iter, ifs, 0⟩] scope pos) (tE X.K (Ecmp fi t ft fe (own.map (·.2)))) :=
  peImp (pe_lc hc hN hi ok hg ht he hs) fun _ _ _ h => goCmp (fun j hj => by simpa using List.all_eq_true.mp hsl j hj) h
theorem c_cmpN (hc : X.calm = true) (hN : X.N.Nodup) (hi : PI X tg iter (tI X.K fi)) (ok : BlkOk X.N X.env.scope scope own) (hsl : (t.slots.all fun j => (own.map (·.2)).contains j) = true)
    (hg : ∀ (s : Shared) (H : Hp) (C : Addr) (cl : List (PySem.Str × Addr)) (fp : List Addr), PG (X.blk s H scope (compEnvC scope cl C X.env) fp) tg (tG X.K t)) (ht : ∀ (s : Shared) (H : Hp) (C : Addr) (cl : List (PySem.Str × Addr)) (fp : List Addr), PTs (X.blk s H scope (compEnvC scope cl C X.env) fp) ifs (tT X.K ft))
    (he : ∀ (s : Shared) (H : Hp) (C : Addr) (cl : List (PySem.Str × Addr)) (fp : List Addr), PE (X.blk s H scope (compEnvC scope cl C X.env) fp) elt (tE X.K fe)) (hs : ∀ x, foldedSetIterable iter X.env x = pure x := by intro _; rfl) :
    PE X (.ListComp elt [⟨tg, iter, ifs, 0⟩] scope pos) (tE X.K (EcmpN fi t ft fe (own.map (·.2)))) :=
  peImp (pe_lc hc hN hi ok hg ht he hs) fun _ _ _ h => goCmpN (fun j hj => by simpa using List.all_eq_true.mp hsl j hj) h
/-- name = [..] -/
theorem k_setC {i : Nat} {y : PySem.Str} {py spos : Pos} {g : FE} (hc : X.calm = true) (hN : X.N.Nodup) (hgo : ∀ σ H Q, tE X.K g σ H Q → tLc (tI X.K fi) (tG X.K t) (tT X.K ft) (tE X.K fe) (own.map (·.2)) σ H Q) (hi : PI X tg iter (tI X.K fi)) (ok : BlkOk X.N X.env.scope scope own)
    (hg : ∀ (s : Shared) (H : Hp) (C : Addr) (cl : List (PySem.Str × Addr)) (fp : List Addr), PG (X.blk s H scope (compEnvC scope cl C X.env) fp) tg (tG X.K t)) (ht : ∀ (s : Shared) (H : Hp) (C : Addr) (cl : List (PySem.Str × Addr)) (fp : List Addr), PTs (X.blk s H scope (compEnvC scope cl C X.env) fp) ifs (tT X.K ft))
    (he : ∀ (s : Shared) (H : Hp) (C : Addr) (cl : List (PySem.Str × Addr)) (fp : List Addr), PE (X.blk s H scope (compEnvC scope cl C X.env) fp) elt (tE X.K fe))
    (hsw : swapsWith (.ListComp elt [⟨tg, iter, ifs, 0⟩] scope pos) (some (.Name y py)) spos.line X.env = pure true) (hy : X.N[i]? = some y := by rfl) (hyl : X.env.scope.names.lookup y = some .local := by rfl) (hs : ∀ x, foldedSetIterable iter X.env x = pure x := by intro _; rfl) :
    PS X (.Assign [.Name y py] (.ListComp elt [⟨tg, iter, ifs, 0⟩] scope pos) spos) (tS X.K (Sset i g)) :=
  psImp (ps_setLc hc hN hy hyl hsw hi ok hg ht he hs) fun E σ H ⟨θ, G, env, st, d, st', S, EN, hf, post⟩ => by
    obtain ⟨⟨x, st1⟩, h1, h2⟩ := Option.bind_eq_some_iff.mp hf
    cases h2
    exact hgo _ _ _ (tE.go S EN h1 fun θ1 G1 H1 v1 e1 S1 EN1 r1 => post _ _ _ e1 S1 _ (EN1.set r1 i))
end

/-! ## defs -/
def runF (n : Nat) (body : FS) : FC := fun ds st => (body (ds.map some ++ List.replicate (n - ds.length) none) st).bind fun p => match p.1 with
  | .rt d => some (d, p.2)
  | .nx _ => some (.non, p.2)
  | _ => none
def spF (K : Frag) (np : Nat) (f : FC) : Sp := fun vs H Q _ => vs.length = np ∧ ∃ θ G st ds d st', Sim K θ G H st ∧ Reps K θ G vs ds ∧ f ds st = some (d, st') ∧ PostE K θ G H st' d Q
theorem start_rep {K : Frag} {θ : List Addr} {G : Hp} {vs : List V} {ds : List D} (r : Reps K θ G vs ds) (N : List PySem.Str) : EnvR K θ G (start N vs) (ds.map some ++ List.replicate (N.length - ds.length) none) := by
  refine ⟨by simp [L2.start, r.len], fun i d h => ?_⟩
  by_cases hi : i < ds.length
  · rw [List.getElem?_append_left (by simpa using hi), List.getElem?_map] at h
    obtain ⟨x, h1, h2⟩ := Option.map_eq_some_iff.mp h
    cases h2
    obtain ⟨v, h3, h4⟩ := r.at h1
    refine ⟨v, ?_, h4⟩
    unfold L2.start
    rw [List.getElem?_append_left (by simpa [r.len] using hi), List.getElem?_map, h3]
    rfl
  · rw [List.getElem?_append_right (by simpa using Nat.le_of_not_lt hi)] at h
    rw [List.getElem?_replicate] at h
    split at h <;> cases h
section
variable {P : Program} {w : World} {K : Frag} {mg : PySem.Str → Option Value} {base : Heap}
theorem fn_ok {x qual : PySem.Str} {st : Stmt} {f : Addr} {fd : FuncData} {N ps : List PySem.Str} {k : Nat} {fb : FS} (F : Fun K x qual st f fd) (S : FnScope N ps (defScope st))
    (hbody : ∀ (cdv : Value) (A : Around) (outer : List PySem.Env) (s : Shared) (H : Hp) (E : XK), Room k (A.deeper (envOfC qual (defScope st) s.heap.objs.size f cdv)) →
      PSs (cxOf CX0 P w K mg base N qual (defScope st) f cdv A outer s H E).nox (defBody st) (tS K fb)) : FnOk P w K mg base CX0 (k + 1) f fd ps (spF K ps.length (runF N.length fb)) := by
  refine F.ok S (fun vs H Q E h => h.1) (fun cdv A outer s H vs Q E hr h => ⟨_, hbody cdv A outer s H E hr, ?_⟩)
  obtain ⟨hl, θ, G, sto, ds, d, st', S', r, hf, post⟩ := h
  obtain ⟨⟨fl, st2⟩, h1, h2⟩ := Option.bind_eq_some_iff.mp hf
  refine tS.go S' (start_rep r N) h1 fun θ1 G1 H1 e1 S1 => ?_
  cases fl with
  | nx env => cases h2; exact fun σ _ => post _ _ _ _ e1 S1 .non
  | rt d' => cases h2; exact fun v r => post _ _ _ _ e1 S1 r
  | bk _ => cases h2
  | ct _ => cases h2
end
section
variable {X : Cx} {e : Expr} {es : List Expr} {g : FA} {pos p : Pos} {x : PySem.Str} {k np : Nat} {f : Addr} {fd : FuncData} {ps : List PySem.Str} {m : FC}
theorem goF {E : XK} (hl : ∀ ds st r, m ds st = some r → ds.length = np) {σ : L2.St} {H : Hp} {Q : VK} (h : tE X.K (EC m g) σ H Q) : tCall (spF X.K np m) [] E (tA X.K g) σ H Q := by
  obtain ⟨θ, G, env, st, d, st', S, EN, hf, post⟩ := h
  obtain ⟨⟨xs, st1⟩, h1, h2⟩ := Option.bind_eq_some_iff.mp hf
  refine tA.go S EN h1 fun θ1 G1 H1 v1 e1 S1 EN1 r1 => ?_
  rw [List.append_nil]
  exact ⟨by rw [r1.len]; exact hl _ _ _ h2, θ1, G1, st1, xs, d, st', S1, r1, h2, fun θ' G' H' v e s r => post _ _ _ _ (e1.trans S1 e) s r⟩
end
/-- exactly n arguments -/
def arN (n : Nat) (m : FC) : FC := fun ds st => if ds.length = n then m ds st else none
theorem arN.len {n : Nat} {m : FC} : ∀ ds st r, arN n m ds st = some r → ds.length = n := fun ds st r h => by
  unfold arN at h
  split at h
  · assumption
  · cases h
theorem sp_ar {P : Program} {w : World} {K : Frag} {mg : PySem.Str → Option Value} {base : Heap} {CX : CXT} {k n : Nat} {f : Addr} {fd : FuncData} {ps : List PySem.Str} {m : FC} (F : FnOk P w K mg base CX k f fd ps (spF K n m)) : FnOk P w K mg base CX k f fd ps (spF K n (arN n m)) :=
  F.imp fun vs H Q E ⟨hl, θ, G, st, ds, d, st', S, r, hf, post⟩ => ⟨hl, θ, G, st, ds, d, st', S, r, (by
    unfold arN at hf
    split at hf
    · exact hf
    · cases hf), post⟩
/-! what a call leaves in the store alone is dropped -/
mutual
def D.blw (n : Nat) : D → Prop
  | .ref i => i < n
  | .tup ds => belows n ds
  | .lst ds => belows n ds
  | .sq ds => belows n ds
  | _ => True
def belows (n : Nat) : List D → Prop
  | [] => True
  | d :: ds => d.blw n ∧ belows n ds
end
section
variable {K : Frag} {θ l : List Addr} {G : Hp}
mutual
theorem Rep.blw : ∀ (d : D) (v : V), Rep K θ G v d → d.blw θ.length
  | .ref n, _, h => by
    cases h with
    | ref h => exact (List.getElem?_eq_some_iff.mp h).1
  | .tup ds, _, h => by
    cases h with
    | tup _ h => exact Reps.blw ds _ h
  | .lst ds, _, h => by
    cases h with
    | lst _ h => exact Reps.blw ds _ h
  | .sq ds, _, h => by
    cases h with
    | sq _ h => exact Reps.blw ds _ h
  | .non, _, _ => trivial
  | .bl _, _, _ => trivial
  | .int _, _, _ => trivial
  | .str _, _, _ => trivial
  | .adr _, _, _ => trivial
  | .ty _, _, _ => trivial
theorem Reps.blw : ∀ (ds : List D) (vs : List V), Reps K θ G vs ds → belows θ.length ds
  | [], _, _ => trivial
  | d :: ds, _, h => by
    cases h with
    | cons h1 h2 => exact ⟨Rep.blw d _ h1, Reps.blw ds _ h2⟩
end
mutual
theorem Rep.back : ∀ (d : D) (v : V), d.blw θ.length → Rep K (θ ++ l) G v d → Rep K θ G v d
  | .ref n, _, b, h => by
    cases h with
    | ref h => exact .ref (by rw [List.getElem?_append_left b] at h; exact h)
  | .tup ds, _, b, h => by
    cases h with
    | tup h1 h => exact .tup h1 (Reps.back ds _ b h)
  | .lst ds, _, b, h => by
    cases h with
    | lst h1 h => exact .lst h1 (Reps.back ds _ b h)
  | .sq ds, _, b, h => by
    cases h with
    | sq h1 h => exact .sq h1 (Reps.back ds _ b h)
  | .non, _, _, h => by cases h; exact .non
  | .bl _, _, _, h => by cases h; exact .bl _
  | .int _, _, _, h => by cases h; exact .int _
  | .str _, _, _, h => by cases h; exact .str _
  | .adr _, _, _, h => by cases h with | adr e => exact .adr e
  | .ty _, _, _, h => by cases h; exact .ty _
theorem Reps.back : ∀ (ds : List D) (vs : List V), belows θ.length ds → Reps K (θ ++ l) G vs ds → Reps K θ G vs ds
  | [], _, _, h => by cases h; exact .nil
  | d :: ds, _, b, h => by
    cases h with
    | cons h1 h2 => exact .cons (Rep.back d _ b.1 h1) (Reps.back ds _ b.2 h2)
end
end
open Classical in
noncomputable def gcF (m : FC) : FC := fun ds st => (m ds st).map fun p => if (∃ g, p.2 = st ++ g) ∧ p.1.blw st.length then (p.1, st) else p
theorem gcF.of {m : FC} {ds : List D} {st g : Sto} {d : D} (h : m ds st = some (d, st ++ g)) (b : D.blw st.length d) : gcF m ds st = some (d, st) := by
  unfold gcF
  rw [h]
  simp only [Option.map_some]
  rw [if_pos ⟨⟨g, rfl⟩, b⟩]
theorem sp_gc {P : Program} {w : World} {K : Frag} {mg : PySem.Str → Option Value} {base : Heap} {CX : CXT} {k n : Nat} {f : Addr} {fd : FuncData} {ps : List PySem.Str} {m : FC} (F : FnOk P w K mg base CX k f fd ps (spF K n m)) : FnOk P w K mg base CX k f fd ps (spF K n (gcF m)) :=
  F.imp fun vs H Q E ⟨hl, θ, G, st, ds, d, st', S, r, hf, post⟩ => by
    obtain ⟨⟨d2, st2⟩, h1, h2⟩ := Option.map_eq_some_iff.mp hf
    split at h2
    · rename_i hc
      obtain ⟨⟨g, hg⟩, hb⟩ := hc
      cases h2
      dsimp only at hg
      subst hg
      refine ⟨hl, θ, G, st, ds, _, _, S, r, h1, fun θ' G' H' v e S' rv => ?_⟩
      obtain ⟨l, rfl⟩ := e.pre
      have lθ : θ.length = st.length := S.len
      have S2 : Sim K θ G' H' st := ⟨S'.sub, S.len, S.nd, fun a m => S'.off a (List.mem_append_left _ m), fun i a o e1 e2 => by
        have hi : i < θ.length := (List.getElem?_eq_some_iff.mp e1).1
        have e3 : (θ ++ l)[i]? = some a := by rw [List.getElem?_append_left hi]; exact e1
        have e4 : (st ++ g)[i]? = some o := by rw [List.getElem?_append_left (by omega)]; exact e2
        have q := S'.obj i a o e3 e4
        have q0 := S.obj i a o e1 e2
        cases o with
        | lst es =>
          obtain ⟨ws, h3, h4⟩ := q
          obtain ⟨ws0, _, h5⟩ := q0
          exact ⟨ws, h3, Reps.back es ws (Reps.blw es ws0 h5) h4⟩⟩
      refine post θ G' H' v ⟨⟨[], by simp⟩, e.im, e.fr, fun a m n => absurd m n, e.nG⟩ S2 (Rep.back _ v (by rw [lθ]; exact hb) rv)
    · cases h2
      exact ⟨hl, θ, G, st, ds, d, st', S, r, h1, post⟩
/-- a def's own law, by an equal function -/
theorem sp_eq {P : Program} {w : World} {K : Frag} {mg : PySem.Str → Option Value} {base : Heap} {CX : CXT} {k n : Nat} {f : Addr} {fd : FuncData} {ps : List PySem.Str} {m m' : FC} (F : FnOk P w K mg base CX k f fd ps (spF K n m)) (h : ∀ ds st r, m' ds st = some r → m ds st = some r) : FnOk P w K mg base CX k f fd ps (spF K n m') :=
  F.imp fun vs H Q E ⟨hl, θ, G, st, ds, d, st', S, r, hf, post⟩ => ⟨hl, θ, G, st, ds, d, st', S, r, h _ _ _ hf, post⟩
section
variable {X : Cx} {e : Expr} {es : List Expr} {g : FA} {pos p : Pos} {x : PySem.Str} {k np : Nat} {f : Addr} {fd : FuncData} {ps : List PySem.Str} {m : FC}
theorem c_call (F : FnOk X.prog X.w X.K X.mg X.base CX0 k f fd ps (spF X.K np m)) (hr : Room k X.A) (hg : Gl X x) (hm : X.mg x = some (.ref f)) (hk : PySem.W.keepIn X.K (.ref f) = true) (hb : Binds X.K fd ps []) (ha : PA X (e :: es) (tA X.K g))
    (hdb : (x == ("__debug__" : PySem.Str)) = false := by decide) (he : starEach (e :: es) X.env = (false, eval e X.env) :: starEach es X.env := by rfl) (hpl : (backTo pos (starEach es X.env)).any (·.1) = false := by rfl) :
    PE X (.Call (.Name x p) (e :: es) [] pos) (tE X.K (EC (arN np m) g)) :=
  peImp (pe_call (sp_ar F) hr hg hm hk hb .nil pass0 ha hdb he hpl) fun _ _ _ h => goF arN.len h
end
/-- the law's own promise -/
def spLaw (K : Frag) : Sp := fun vs H Q _ => ∃ (a : Addr) (ns : List Int), vs = [.ref a] ∧ SqL K H a (ns.map V.int) ∧ ns.length ≤ 63 ∧ ∀ H', Q (.bl true) H'
theorem law_of {P : Program} {w : World} {K : Frag} {mg : PySem.Str → Option Value} {base : Heap} {CX : CXT} {k : Nat} {f : Addr} {fd : FuncData} {ps : List PySem.Str} {m : FC} (F : FnOk P w K mg base CX k f fd ps (spF K 1 m))
    (h : ∀ ns : List Int, ns.length ≤ 63 → ∃ st, m [.sq (ns.map D.int)] [] = some (.bl true, st)) : FnOk P w K mg base CX k f fd ps (spLaw K) :=
  F.imp fun vs H Q E ⟨a, ns, hv, hs, hl, q⟩ => by
    obtain ⟨st, hm⟩ := h ns hl
    subst hv
    refine ⟨rfl, [], H, [], [.sq (ns.map D.int)], .bl true, st, ⟨fun _ _ h => h, rfl, List.nodup_nil, (fun a m => nomatch m), (fun i a o e => by simp at e)⟩, .cons (.sq hs (Reps.of_ints ns)) .nil, hm, ?_⟩
    intro θ' G' H' v _ _ r
    cases r
    exact q H'

/-! ### more of the operators -/
def E1 (f : D → Sto → Option (D × Sto)) (fa : FE) : FE := fun env st => (fa env st).bind fun p => f p.1 p.2
def negD : D → Sto → Option (D × Sto) := fun x st => match x with
  | .int i => some (.int (-i), st)
  | _ => none
def mulD : F2 := fun x y st => match x, y with
  | .int i, .int j => if mulOk i j then some (.int (i * j), st) else none
  | .tup ds, .int k => if k = 1 then some (.tup ds, st) else if ds ≠ [] ∧ 2 ≤ k ∧ k ≤ 1000 ∧ ds.length ≤ 1000 then some (.tup (List.replicate k.toNat ds).flatten, st) else none
  | x, .int k => match lsD st x with
    | some ds => if -(2 ^ 63) ≤ k ∧ k < 2 ^ 63 ∧ ds.length * k.toNat ≤ 16777216 then some (.lst (List.replicate k.toNat ds).flatten, st) else none
    | none => none
  | _, _ => none
theorem Reps.rep {K : Frag} {θ : List Addr} {G : Hp} {vs : List V} {ds : List D} (r : Reps K θ G vs ds) : ∀ n : Nat, Reps K θ G (List.replicate n vs).flatten (List.replicate n ds).flatten
  | 0 => .nil
  | n + 1 => by
    rw [List.replicate_succ, List.replicate_succ, List.flatten_cons, List.flatten_cons]
    exact r.append (Reps.rep r n)
def rMulA (K : Frag) : R2 := fun x y H Q => rI CMul (fun i j => .int (i * j)) x y H Q ∨ rRepT K x y H Q ∨ rRep x y H Q ∨ rRepT1 K x y H Q
theorem o_mul {X : Cx} : OpR X (binaryOp .Mult) (rMulA X.K) := op_mul.or (op_repT.or (op_rep.or op_repT1))
theorem s_mul {K : Frag} : Op2 K (rMulA K) mulD := by
  intro θ G H st x y d e z st' Q S rx ry h post
  unfold mulD at h
  split at h
  · split at h
    · rename_i hm
      cases h; cases rx; cases ry
      exact .inl ⟨_, _, rfl, rfl, hm, post.same S (.int _)⟩
    · cases h
  · split at h
    · rename_i hk
      subst hk
      cases h; cases ry
      cases rx with
      | tup h1 h2 => exact .inr (.inr (.inr ⟨_, _, rfl, rfl, S.t h1, post.same S (.tup h1 h2)⟩))
    · split at h
      · rename_i hm
        cases h; cases ry
        cases rx with
        | tup h1 h2 =>
          refine .inr (.inl ⟨_, _, _, rfl, rfl, S.t h1, fun e => ?_, hm.2.1, hm.2.2.1, by rw [h2.len]; exact hm.2.2.2, fun p hp => post.newT S hp (h2.rep _)⟩)
          subst e
          cases h2
          exact hm.1 rfl
      · cases h
  · split at h
    · rename_i ds hq
      split at h
      · rename_i hm
        cases h; cases ry
        obtain ⟨a, vs, rfl, h1, h2⟩ := lsD.ok S rx hq
        exact .inr (.inr (.inl ⟨_, _, vs, rfl, rfl, h1, hm.1, hm.2.1, by rw [h2.len]; exact szl hm.2.2, fun p hp => post.newL S hp (h2.rep _)⟩))
      · cases h
    · cases h
  · cases h
section
variable {X : Cx} {a b : Expr} {fa fb : FE} {pos : Pos}
theorem c_mul (ha : PE X a (tE X.K fa)) (hb : PE X b (tE X.K fb)) : PE X (.BinOp a .Mult b pos) (tE X.K (E2 mulD fa fb)) := c_op o_mul s_mul ha hb
theorem c_neg (ha : PE X a (tE X.K fa)) : PE X (.UnaryOp .USub a pos) (tE X.K (E1 negD fa)) :=
  peImp (pe_un un_neg ha) fun σ H Q ⟨θ, G, env, st, d, st', S, EN, hf, post⟩ => by
    obtain ⟨⟨x, st1⟩, h1, h2⟩ := Option.bind_eq_some_iff.mp hf
    unfold negD at h2
    split at h2
    · cases h2
      rename_i he
      dsimp only at he
      subst he
      refine tE.go S EN h1 fun θ1 G1 H1 v1 e1 S1 EN1 r1 => ?_
      cases r1
      exact ⟨_, rfl, post _ _ _ _ e1 S1 (.int _)⟩
    · cases h2
theorem c_gintE {x : PySem.Str} {i : Int} (hg : Gl X x) (hm : ∃ t, X.mg x = some (.int i t)) (hd : (x == ("__debug__" : PySem.Str)) = false := by decide) : PE X (.Name x pos) (tE X.K (Ec (.int i))) := by
  obtain ⟨t, h⟩ := hm
  exact c_gint hg h hd
theorem c_gstrE {x : PySem.Str} {i : PySem.Str} (hg : Gl X x) (hm : ∃ t, X.mg x = some (.str i t)) (hd : (x == ("__debug__" : PySem.Str)) = false := by decide) : PE X (.Name x pos) (tE X.K (Ec (.str i))) := by
  obtain ⟨t, h⟩ := hm
  exact c_gstr hg h hd
end

/-! ## reckoning with the readings -/
def bnd {α β : Type} (o : Option α) (f : α → Option β) : Option β := o.bind f
theorem bnd_some {α β : Type} (a : α) (f : α → Option β) : bnd (some a) f = f a := rfl
theorem bnd_none {α β : Type} (f : α → Option β) : bnd none f = none := rfl
theorem bnd_congr {α β : Type} {o o' : Option α} {f : α → Option β} (h : o = o') : bnd o f = bnd o' f := by rw [h]
section
variable {env : Env} {st : Sto} {fa fb fc fo fi fe fv : FE} {ga gb : FT} {g : FA} {f f' : F2} {fC : FC} {s s' : FS}
theorem q_v (i : Nat) : Ev i env st = match env[i]? with | some (some d) => some (d, st) | _ => none := rfl
theorem q_c (d : D) : Ec d env st = some (d, st) := rfl
theorem q_2 : E2 f fa fb env st = bnd (fa env st) fun p => bnd (fb env p.2) fun q => f p.1 q.1 q.2 := rfl
theorem q_1 {f : D → Sto → Option (D × Sto)} : E1 f fa env st = bnd (fa env st) fun p => f p.1 p.2 := rfl
theorem q_3 : E3 f f' fa fb fc env st = bnd (fa env st) fun p => bnd (fb env p.2) fun q => bnd (f p.1 q.1 q.2) fun r => match r.1 with
  | .bl true => bnd (fc env r.2) fun u => f' q.1 u.1 u.2
  | .bl false => some (.bl false, r.2)
  | _ => none := rfl
theorem q_nil : Anil env st = some ([], st) := rfl
theorem q_cons : Acons fa g env st = bnd (fa env st) fun p => bnd (g env p.2) fun q => some (p.1 :: q.1, q.2) := rfl
theorem q_tup : Etup g env st = bnd (g env st) fun p => if p.1.length ≤ 16777216 then some (.tup p.1, p.2) else none := rfl
theorem q_lst : Elst g env st = bnd (g env st) fun p => if p.1.length ≤ 16777216 then some (.lst p.1, p.2) else none := rfl
theorem q_new : Enew g env st = bnd (g env st) fun p => if p.1.length ≤ 16777216 then some (.ref p.2.length, p.2 ++ [.lst p.1]) else none := rfl
theorem q_call : EC fC g env st = bnd (g env st) fun p => fC p.1 p.2 := rfl
theorem q_ar (n : Nat) (ds : List D) : arN n fC ds st = if ds.length = n then fC ds st else none := rfl
theorem q_tb : Tb fa env st = bnd (fa env st) fun p => match p.1 with | .bl b => some (b, p.2) | _ => none := by
  unfold Tb
  cases h : fa env st with
  | none => rfl
  | some p =>
    obtain ⟨x, y⟩ := p
    cases x <;> rfl
theorem q_tt : Tt fa env st = bnd (fa env st) fun p => bnd (truD p.2 p.1) fun b => some (b, p.2) := by
  unfold Tt bnd
  cases h : fa env st with
  | none => rfl
  | some p =>
    cases h2 : truD p.2 p.1 with
    | none => simp only [Option.bind_some, Option.map]; rw [h2]; rfl
    | some b => simp only [Option.bind_some, Option.map]; rw [h2]; rfl
theorem q_and : Tand ga gb env st = bnd (ga env st) fun p => if p.1 = true then gb env p.2 else some (false, p.2) := rfl
theorem q_or : Tor ga gb env st = bnd (ga env st) fun p => if p.1 = true then some (true, p.2) else gb env p.2 := rfl
theorem q_not : Tnot ga env st = bnd (ga env st) fun p => some (!p.1, p.2) := rfl
theorem q_yes : Tyes env st = some (true, st) := rfl
theorem q_eand : Eand fa fb env st = bnd (fa env st) fun p => bnd (truD p.2 p.1) fun b => if b = true then fb env p.2 else some (p.1, p.2) := rfl
theorem q_eor : Eor fa fb env st = bnd (fa env st) fun p => bnd (truD p.2 p.1) fun b => if b = true then some (p.1, p.2) else fb env p.2 := rfl
theorem q_enot : Enot fa env st = bnd (fa env st) fun p => bnd (truD p.2 p.1) fun b => some (.bl (!b), p.2) := by
  unfold Enot bnd
  cases h : fa env st with
  | none => rfl
  | some p =>
    cases h2 : truD p.2 p.1 with
    | none => simp only [Option.bind_some, Option.map]; rw [h2]; rfl
    | some b => simp only [Option.bind_some, Option.map]; rw [h2]; rfl
theorem q_if : Eif ga fa fb env st = bnd (ga env st) fun p => if p.1 = true then fa env p.2 else fb env p.2 := rfl
theorem q_snil : Snil env st = some (.nx env, st) := rfl
theorem q_seq : Sseq s s' env st = bnd (s env st) fun p => match p.1 with | .nx e => s' e p.2 | r => some (r, p.2) := rfl
theorem q_ret : Sret fa env st = bnd (fa env st) fun p => some (.rt p.1, p.2) := rfl
theorem q_retN : SretN env st = some (.rt .non, st) := rfl
theorem q_exp : Sexp fa env st = bnd (fa env st) fun p => some (.nx env, p.2) := rfl
theorem q_set (i : Nat) : Sset i fa env st = bnd (fa env st) fun p => some (.nx (env.set i (some p.1)), p.2) := rfl
theorem q_brk : Sbrk env st = some (.bk env, st) := rfl
theorem q_ctn : Sctn env st = some (.ct env, st) := rfl
theorem q_sif : Sif ga s s' env st = bnd (ga env st) fun p => if p.1 = true then s env p.2 else s' env p.2 := rfl
theorem q_setIx : SsetIx fo fi fv env st = bnd (fv env st) fun p => bnd (fo env p.2) fun q => bnd (fi env q.2) fun r => bnd (setD q.1 r.1 p.1 r.2) fun st' => some (.nx env, st') := by
  unfold SsetIx bnd
  congr 1; funext p; congr 1; funext q; congr 1; funext r
  cases setD q.1 r.1 p.1 r.2 <;> rfl
theorem q_aug (i : Nat) : Saug f i fe env st = match env[i]? with
  | some (some x) => bnd (fe env st) fun p => bnd (f x p.1 p.2) fun q => some (.nx (env.set i (some q.1)), q.2)
  | _ => none := rfl
theorem q_augIx : SaugIx f fo fi fe env st = bnd (fo env st) fun p => bnd (fi env p.2) fun q => bnd (ixD p.1 q.1 q.2) fun r => bnd (fe env r.2) fun u => bnd (f r.1 u.1 u.2) fun w => bnd (setD p.1 q.1 w.1 w.2) fun st' => some (.nx env, st') := by
  unfold SaugIx bnd
  congr 1; funext p; congr 1; funext q; congr 1; funext r; congr 1; funext u; congr 1; funext w
  cases setD p.1 q.1 w.1 w.2 <;> rfl
theorem q_bind (t : Tg) : Sbind t fa env st = bnd (fa env st) fun p => bnd (bindT t p.1 env) fun e => some (.nx e, p.2) := by
  unfold Sbind bnd
  congr 1; funext p
  cases bindT t p.1 env <;> rfl
theorem q_run (n : Nat) (ds : List D) : runF n s ds st = bnd (s (ds.map some ++ List.replicate (n - ds.length) none) st) fun p => match p.1 with
  | .rt d => some (d, p.2)
  | .nx _ => some (.non, p.2)
  | _ => none := rfl
theorem q_for {i : FI} {t : Tg} {b : FS} : Sfor i t b env st = bnd (i env st) fun p => forL p.2.1 t b p.1 env p.2.2 := rfl
theorem q_cmp {i : FI} {t : Tg} {own : List Nat} : Ecmp i t ga fe own env st = bnd (i env st) fun p => if p.1.length ≤ 16777216 then bnd (compL p.2.1 t ga fe (wipeE env own) p.1 p.2.2) fun q => some (.lst q.1, q.2) else none := rfl
theorem q_cmpN {i : FI} {t : Tg} {own : List Nat} : EcmpN i t ga fe own env st = bnd (i env st) fun p => if p.1.length ≤ 16777216 then bnd (compL p.2.1 t ga fe (wipeE env own) p.1 p.2.2) fun q => some (.ref q.2.length, q.2 ++ [.lst q.1]) else none := rfl
theorem q_iseq : Iseq fa env st = bnd (fa env st) fun p => match p.1 with
  | .tup ds => some (ds, [], p.2)
  | .str s => some (chars s, [], p.2)
  | d => bnd (sqD p.2 d) fun ds => some (ds, watchOf d ds, p.2) := by
  unfold Iseq bnd
  congr 1; funext p
  obtain ⟨x, y⟩ := p
  cases x <;> first | rfl | (dsimp only; generalize sqD _ _ = o; cases o <;> rfl)
theorem q_rng1 : Irng1 g env st = bnd (g env st) fun p => match p.1 with
  | [.int n] => if -(2 ^ 62) ≤ n ∧ n < 2 ^ 62 then some (rangeL 0 n.toNat, [], p.2) else none
  | _ => none := rfl
theorem q_rng2 : Irng2 g env st = bnd (g env st) fun p => match p.1 with
  | [.int lo, .int n] => if -(2 ^ 62) ≤ lo ∧ lo < 2 ^ 62 ∧ -(2 ^ 62) ≤ n ∧ n < 2 ^ 62 then some (rangeL lo (n - lo).toNat, [], p.2) else none
  | _ => none := rfl
theorem q_em {T : String} {f : FM} : EM T f fo g env st = bnd (fo env st) fun p => match p.1 with
  | .str s => if T = "str" then bnd (g env p.2) fun q => f (.str s) q.1 q.2 else none
  | d => if T = "list" then bnd (sqD p.2 d) fun _ => bnd (g env p.2) fun q => f d q.1 q.2 else none := rfl
/-! by values -/
theorem v_addI (i j : Int) : addD (.int i) (.int j) st = some (.int (i + j), st) := rfl
theorem v_addS (a b : PySem.Str) : addD (.str a) (.str b) st = if a.length + b.length ≤ 16777216 then some (.str (a ++ b), st) else none := rfl
theorem v_addT (a b : List D) : addD (.tup a) (.tup b) st = if a.length + b.length ≤ 16777216 then some (.tup (a ++ b), st) else none := rfl
theorem v_sub (i j : Int) : subD (.int i) (.int j) st = some (.int (i - j), st) := rfl
theorem v_mul (i j : Int) : mulD (.int i) (.int j) st = if mulOk i j then some (.int (i * j), st) else none := rfl
theorem v_fdiv (i j : Int) : fdivD (.int i) (.int j) st = if 0 < j ∧ j < 18446744073709551616 then some (.int (i / j), st) else none := rfl
theorem v_mod (i j : Int) : modD (.int i) (.int j) st = if 0 < j then some (.int (i % j), st) else none := rfl
theorem v_neg (i : Int) : negD (.int i) st = some (.int (-i), st) := rfl
theorem v_lt (i j : Int) : ltD (.int i) (.int j) st = some (.bl (decide (i < j)), st) := rfl
theorem v_le (i j : Int) : leD (.int i) (.int j) st = some (.bl (decide (i ≤ j)), st) := rfl
theorem v_gt (i j : Int) : gtD (.int i) (.int j) st = some (.bl (decide (j < i)), st) := rfl
theorem v_ge (i j : Int) : geD (.int i) (.int j) st = some (.bl (decide (j ≤ i)), st) := rfl
theorem v_isn (b : Bool) (x : D) : isnD b x .non st = some (.bl (if b then !isNon x else isNon x), st) := rfl
theorem v_iadd (i j : Int) : iaddI (.int i) (.int j) st = some (.int (i + j), st) := rfl
theorem v_pow (i j : Int) : powD (.int i) (.int j) st = if 0 ≤ j ∧ j ≤ 1000000 ∧ i.natAbs < 18446744073709551616 then some (.int (i ^ j.toNat), st) else none := rfl
theorem v_abs (i : Int) : fAbs [.int i] st = some (.int (if i < 0 then -i else i), st) := rfl
theorem v_intI (i : Int) : fInt [.int i] st = some (.int i, st) := rfl
theorem v_intB (b : Bool) : fInt [.bl b] st = some (.int (if b then 1 else 0), st) := rfl
theorem v_lenT (ds : List D) : fLen [.tup ds] st = some (.int ds.length, st) := rfl
theorem v_lenL (ds : List D) : fLen [.lst ds] st = some (.int ds.length, st) := rfl
theorem v_lenQ (ds : List D) : fLen [.sq ds] st = some (.int ds.length, st) := rfl
theorem v_lenR (n : Nat) : fLen [.ref n] st = bnd st[n]? fun | .lst ds => some (.int ds.length, st) := by
  unfold fLen sqD bnd
  cases h : st[n]? with
  | none => simp only [h]; rfl
  | some o => cases o; simp only [h]; rfl
theorem v_ixT (ds : List D) (i : Int) : ixD (.tup ds) (.int i) st = bnd (atI ds i) fun d => some (d, st) := by
  unfold ixD bnd
  cases h : atI ds i <;> simp [h]
theorem v_ixL (ds : List D) (i : Int) : ixD (.lst ds) (.int i) st = bnd (atI ds i) fun d => some (d, st) := by
  unfold ixD bnd
  cases h : atI ds i <;> simp [h, sqD]
theorem v_ixQ (ds : List D) (i : Int) : ixD (.sq ds) (.int i) st = bnd (atI ds i) fun d => some (d, st) := by
  unfold ixD bnd
  cases h : atI ds i <;> simp [h, sqD]
theorem v_ixR (n : Nat) (i : Int) : ixD (.ref n) (.int i) st = bnd st[n]? fun | .lst ds => bnd (atI ds i) fun d => some (d, st) := by
  unfold ixD bnd
  cases h : st[n]? with
  | none => simp [h, sqD]
  | some o =>
    cases o with
    | lst ds => cases h2 : atI ds i <;> simp [h, sqD, h2]
theorem v_ixS (z : PySem.Str) (i : Int) : ixD (.str z) (.int i) st = if z.length ≤ 16777216 then bnd (atI z.cps.toList i) fun c => some (.str ⟨#[c]⟩, st) else none := by
  unfold ixD bnd
  cases h : atI z.cps.toList i <;> simp [h]
theorem v_set (n : Nat) (k : Int) (v : D) : setD (.ref n) (.int k) v st = bnd st[n]? fun | .lst es => bnd (ixN es.length k) fun j => some (st.set n (.lst (es.set j v))) := by
  unfold setD bnd
  cases h : st[n]? with
  | none => simp [h]
  | some o =>
    cases o with
    | lst ds => cases h2 : ixN ds.length k <;> simp [h, h2]
theorem v_eqI (i j : Int) : eqD false (.int i) (.int j) st = some (.bl (i == j), st) := rfl
theorem v_neI (i j : Int) : eqD true (.int i) (.int j) st = some (.bl (!(i == j)), st) := rfl
theorem v_eqS (i j : PySem.Str) : eqD false (.str i) (.str j) st = some (.bl (i == j), st) := rfl
theorem v_neS (i j : PySem.Str) : eqD true (.str i) (.str j) st = some (.bl (!(i == j)), st) := rfl
theorem v_app (n : Nat) (y : D) : mApp (.ref n) [y] st = bnd st[n]? fun | .lst es => if es.length < 16777216 then some (.non, st.set n (.lst (es ++ [y]))) else none := by
  unfold mApp bnd
  cases h : st[n]? with
  | none => simp [h]
  | some o => cases o; simp [h]
theorem v_sqL (ds : List D) : sqD st (.lst ds) = some ds := rfl
theorem v_sqQ (ds : List D) : sqD st (.sq ds) = some ds := rfl
theorem v_sqR (n : Nat) : sqD st (.ref n) = bnd st[n]? fun | .lst ds => some ds := by
  unfold sqD bnd
  cases h : st[n]? with
  | none => simp [h]
  | some o => cases o; simp [h]
theorem v_truB (b : Bool) : truD st (.bl b) = some b := rfl
theorem v_truI (i : Int) : truD st (.int i) = some (i != 0) := rfl
theorem v_isiI (T : String) (i : Int) : fIsi [.int i, .ty T] st = bnd (kitB "int" T) fun b => some (.bl b, st) := by
  unfold fIsi bnd
  simp only [tyN]
  cases kitB "int" T <;> rfl
theorem kit_ii : kitB "int" "int" = some true := by decide +kernel
theorem kit_tt : kitB "tuple" "tuple" = some true := by decide +kernel
theorem kit_it : kitB "int" "tuple" = some false := by decide +kernel
theorem kit_st : kitB "str" "tuple" = some false := by decide +kernel
theorem kit_si : kitB "str" "int" = some false := by decide +kernel
theorem kit_ss : kitB "str" "str" = some true := by decide +kernel
theorem kit_lt : kitB "list" "tuple" = some false := by decide +kernel
theorem kit_ls : kitB "list" "str" = some false := by decide +kernel
theorem kit_ib : kitB "int" "bool" = some false := by decide +kernel
/-! places -/
theorem at_0 {α : Type} (a : α) (l : List α) : atI (a :: l) 0 = some a := atI_nat (j := 0) rfl
theorem at_1 {α : Type} (a b : α) (l : List α) : atI (a :: b :: l) 1 = some b := atI_nat (j := 1) rfl
theorem at_2 {α : Type} (a b c : α) (l : List α) : atI (a :: b :: c :: l) 2 = some c := atI_nat (j := 2) rfl
theorem at_3 {α : Type} (a b c d : α) (l : List α) : atI (a :: b :: c :: d :: l) 3 = some d := atI_nat (j := 3) rfl
theorem at_4 {α : Type} (a b c d e : α) (l : List α) : atI (a :: b :: c :: d :: e :: l) 4 = some e := atI_nat (j := 4) rfl
theorem ixN_ok {n : Nat} {i : Int} (h : 0 ≤ i) (h2 : i < n) : ixN n i = some i.toNat := by
  unfold ixN
  rw [if_pos h, if_pos h2]
theorem atI_ok {α : Type} {l : List α} {i : Int} (h : 0 ≤ i) (h2 : i < l.length) : atI l i = some (l[i.toNat]'(by omega)) := by
  unfold atI
  rw [ixN_ok h h2]
  exact List.getElem?_eq_getElem _
theorem atI_get {α : Type} {l : List α} {i : Int} {x : α} (h : 0 ≤ i) (h2 : l[i.toNat]? = some x) : atI l i = some x := by
  obtain ⟨j, e⟩ : ∃ j : Nat, i = (j : Int) := ⟨i.toNat, by omega⟩
  subst e
  exact atI_nat (by simpa using h2)
theorem mulOk_r {i j : Int} (h : -(2 ^ 64) < j ∧ j < 2 ^ 64) : mulOk i j := .inr h
theorem mulOk_l {i j : Int} (h : -(2 ^ 64) < i ∧ i < 2 ^ 64) : mulOk i j := .inl h
end

/-! ## what a reckoning wants -/
def wp {α : Type} (o : Option (α × Sto)) (Q : α → Sto → Prop) : Prop := ∃ a st, o = some (a, st) ∧ Q a st
def wpI (o : Option (List D × Watch × Sto)) (Q : List D → Watch → Sto → Prop) : Prop := ∃ a w st, o = some (a, w, st) ∧ Q a w st
theorem wp.mono {α : Type} {o : Option (α × Sto)} {Q Q' : α → Sto → Prop} (h : wp o Q) (k : ∀ a st, Q a st → Q' a st) : wp o Q' := by
  obtain ⟨a, st, e, q⟩ := h
  exact ⟨a, st, e, k _ _ q⟩
theorem wp_some {α : Type} {a : α} {st : Sto} {Q : α → Sto → Prop} (h : Q a st) : wp (some (a, st)) Q := ⟨a, st, rfl, h⟩
theorem wp_of {α : Type} {o : Option (α × Sto)} {a : α} {st : Sto} {Q : α → Sto → Prop} (e : o = some (a, st)) (h : Q a st) : wp o Q := ⟨a, st, e, h⟩
theorem wp_bind {α β : Type} {o : Option (α × Sto)} {f : α × Sto → Option (β × Sto)} {Q : β → Sto → Prop} (h : wp o fun a st => wp (f (a, st)) Q) : wp (o.bind f) Q := by
  obtain ⟨a, st, e, b, st2, e2, q⟩ := h
  exact ⟨b, st2, by rw [e]; exact e2, q⟩
theorem wp_bnd {α : Type} {β : Type} {o : Option α} {f : α → Option (β × Sto)} {a : α} {Q : β → Sto → Prop} (e : o = some a) (h : wp (f a) Q) : wp (bnd o f) Q := by
  rw [e]; exact h
theorem wp_if {α : Type} {c : Prop} [Decidable c] {o o' : Option (α × Sto)} {Q : α → Sto → Prop} (hc : c) (h : wp o Q) : wp (if c then o else o') Q := by
  rw [if_pos hc]; exact h
/-- a side condition, then the rest -/
def Sd (p q : Prop) : Prop := p ∧ q
theorem y_sd {p q : Prop} (h : p) (k : q) : Sd p q := ⟨h, k⟩
def seqK (s : FS) (Q : Fl → Sto → Prop) : Fl → Sto → Prop
  | .nx e, st => wp (s e st) Q
  | r, st => Q r st
def loopK (Q : Fl → Sto → Prop) (N : Env → Sto → Prop) : Fl → Sto → Prop
  | .nx e, st => N e st
  | .ct e, st => N e st
  | .bk e, st => Q (.nx e) st
  | .rt d, st => Q (.rt d) st
def runK (Q : D → Sto → Prop) : Fl → Sto → Prop
  | .rt d, st => Q d st
  | .nx _, st => Q .non st
  | _, _ => False
section
variable {env env' : Env} {st : Sto} {fa fb fc fo fi fe fv : FE} {ga gb : FT} {g : FA} {f f' : F2} {fC : FC} {s s' : FS} {QE : D → Sto → Prop} {QA : List D → Sto → Prop} {QT : Bool → Sto → Prop} {QS : Fl → Sto → Prop} {QI : List D → Watch → Sto → Prop}
theorem x_v {i : Nat} {d : D} (e : env[i]? = some (some d)) (h : QE d st) : wp (Ev i env st) QE := ⟨d, st, by unfold Ev; rw [e], h⟩
theorem x_c {d : D} (h : QE d st) : wp (Ec d env st) QE := ⟨d, st, rfl, h⟩
theorem x_2 (h : wp (fa env st) fun x st1 => wp (fb env st1) fun y st2 => wp (f x y st2) QE) : wp (E2 f fa fb env st) QE := wp_bind (h.mono fun _ _ q => wp_bind q)
theorem x_1 {f1 : D → Sto → Option (D × Sto)} (h : wp (fa env st) fun x st1 => wp (f1 x st1) QE) : wp (E1 f1 fa env st) QE := wp_bind h
theorem x_3 (h : wp (fa env st) fun x st1 => wp (fb env st1) fun y st2 => wp (f x y st2) fun r st3 => ∃ b, r = .bl b ∧ if b = true then wp (fc env st3) fun z st4 => wp (f' y z st4) QE else QE (.bl false) st3) : wp (E3 f f' fa fb fc env st) QE := by
  refine wp_bind (h.mono fun _ _ q => wp_bind (q.mono fun _ _ q => wp_bind (q.mono fun r st3 q => ?_)))
  obtain ⟨b, rfl, q⟩ := q
  cases b with
  | true => rw [if_pos rfl] at q; exact wp_bind q
  | false => rw [if_neg Bool.false_ne_true] at q; exact wp_some q
theorem x_nil (h : QA [] st) : wp (Anil env st) QA := ⟨[], st, rfl, h⟩
theorem x_cons (h : wp (fa env st) fun x st1 => wp (g env st1) fun xs st2 => QA (x :: xs) st2) : wp (Acons fa g env st) QA := wp_bind (h.mono fun _ _ q => wp_bind (q.mono fun _ _ q => wp_some q))
theorem x_tup (h : wp (g env st) fun xs st1 => Sd (xs.length ≤ 16777216) (QE (.tup xs) st1)) : wp (Etup g env st) QE := wp_bind (h.mono fun _ _ q => wp_if q.1 (wp_some q.2))
theorem x_lst (h : wp (g env st) fun xs st1 => Sd (xs.length ≤ 16777216) (QE (.lst xs) st1)) : wp (Elst g env st) QE := wp_bind (h.mono fun _ _ q => wp_if q.1 (wp_some q.2))
theorem x_new (h : wp (g env st) fun xs st1 => Sd (xs.length ≤ 16777216) (QE (.ref st1.length) (st1 ++ [.lst xs]))) : wp (Enew g env st) QE := wp_bind (h.mono fun _ _ q => wp_if q.1 (wp_some q.2))
theorem x_call (h : wp (g env st) fun xs st1 => wp (fC xs st1) QE) : wp (EC fC g env st) QE := wp_bind h
theorem x_ar {n : Nat} {ds : List D} (e : ds.length = n) (h : wp (fC ds st) QE) : wp (arN n fC ds st) QE := wp_if e h
theorem x_tb (h : wp (fa env st) fun x st1 => ∃ b, x = .bl b ∧ QT b st1) : wp (Tb fa env st) QT := by
  rw [q_tb]
  refine wp_bind (h.mono fun x st1 q => ?_)
  obtain ⟨b, rfl, q⟩ := q
  exact wp_some q
theorem x_tt (h : wp (fa env st) fun x st1 => ∃ b, truD st1 x = some b ∧ QT b st1) : wp (Tt fa env st) QT := by
  rw [q_tt]
  refine wp_bind (h.mono fun x st1 q => ?_)
  obtain ⟨b, e, q⟩ := q
  exact wp_bnd e (wp_some q)
theorem x_and (h : wp (ga env st) fun b st1 => if b = true then wp (gb env st1) QT else QT false st1) : wp (Tand ga gb env st) QT := wp_bind (h.mono fun b st1 q => by
  cases b with
  | true => rw [if_pos rfl] at q ⊢; exact q
  | false => rw [if_neg Bool.false_ne_true] at q ⊢; exact wp_some q)
theorem x_or (h : wp (ga env st) fun b st1 => if b = true then QT true st1 else wp (gb env st1) QT) : wp (Tor ga gb env st) QT := wp_bind (h.mono fun b st1 q => by
  cases b with
  | true => rw [if_pos rfl] at q ⊢; exact wp_some q
  | false => rw [if_neg Bool.false_ne_true] at q ⊢; exact q)
theorem x_not (h : wp (ga env st) fun b st1 => QT (!b) st1) : wp (Tnot ga env st) QT := wp_bind (h.mono fun b st1 q => wp_some q)
theorem x_yes (h : QT true st) : wp (Tyes env st) QT := wp_some h
theorem x_eand (h : wp (fa env st) fun x st1 => ∃ b, truD st1 x = some b ∧ if b = true then wp (fb env st1) QE else QE x st1) : wp (Eand fa fb env st) QE := wp_bind (h.mono fun x st1 q => by
  obtain ⟨b, e, q⟩ := q
  refine wp_bnd e ?_
  cases b with
  | true => rw [if_pos rfl] at q ⊢; exact q
  | false => rw [if_neg Bool.false_ne_true] at q ⊢; exact wp_some q)
theorem x_eor (h : wp (fa env st) fun x st1 => ∃ b, truD st1 x = some b ∧ if b = true then QE x st1 else wp (fb env st1) QE) : wp (Eor fa fb env st) QE := wp_bind (h.mono fun x st1 q => by
  obtain ⟨b, e, q⟩ := q
  refine wp_bnd e ?_
  cases b with
  | true => rw [if_pos rfl] at q ⊢; exact wp_some q
  | false => rw [if_neg Bool.false_ne_true] at q ⊢; exact q)
theorem x_enot (h : wp (fa env st) fun x st1 => ∃ b, truD st1 x = some b ∧ QE (.bl (!b)) st1) : wp (Enot fa env st) QE := by
  rw [q_enot]
  refine wp_bind (h.mono fun x st1 q => ?_)
  obtain ⟨b, e, q⟩ := q
  exact wp_bnd e (wp_some q)
theorem x_if (h : wp (ga env st) fun b st1 => if b = true then wp (fa env st1) QE else wp (fb env st1) QE) : wp (Eif ga fa fb env st) QE := wp_bind (h.mono fun b st1 q => by
  cases b with
  | true => rw [if_pos rfl] at q ⊢; exact q
  | false => rw [if_neg Bool.false_ne_true] at q ⊢; exact q)
theorem x_snil (h : QS (.nx env) st) : wp (Snil env st) QS := wp_some h
theorem x_seq (h : wp (s env st) (seqK s' QS)) : wp (Sseq s s' env st) QS := wp_bind (h.mono fun r st1 q => by
  cases r with
  | nx e => exact q
  | rt d => exact wp_some q
  | bk e => exact wp_some q
  | ct e => exact wp_some q)
theorem x_seqnx (e : env = env') (h : wp (s env' st) QS) : seqK s QS (.nx env) st := by subst e; exact h
theorem x_seqrt {d : D} (h : QS (.rt d) st) : seqK s QS (.rt d) st := h
theorem x_seqbk (h : QS (.bk env) st) : seqK s QS (.bk env) st := h
theorem x_seqct (h : QS (.ct env) st) : seqK s QS (.ct env) st := h
theorem x_loopnx {N : Env → Sto → Prop} (h : N env st) : loopK QS N (.nx env) st := h
theorem x_loopct {N : Env → Sto → Prop} (h : N env st) : loopK QS N (.ct env) st := h
theorem x_loopbk {N : Env → Sto → Prop} (h : QS (.nx env) st) : loopK QS N (.bk env) st := h
theorem x_looprt {N : Env → Sto → Prop} {d : D} (h : QS (.rt d) st) : loopK QS N (.rt d) st := h
theorem x_runrt {d : D} (h : QE d st) : runK QE (.rt d) st := h
theorem x_runnx (h : QE .non st) : runK QE (.nx env) st := h
theorem x_ret (h : wp (fa env st) fun x st1 => QS (.rt x) st1) : wp (Sret fa env st) QS := wp_bind (h.mono fun _ _ q => wp_some q)
theorem x_retN (h : QS (.rt .non) st) : wp (SretN env st) QS := wp_some h
theorem x_exp (h : wp (fa env st) fun _ st1 => QS (.nx env) st1) : wp (Sexp fa env st) QS := wp_bind (h.mono fun _ _ q => wp_some q)
theorem x_set {i : Nat} (h : wp (fa env st) fun x st1 => QS (.nx (env.set i (some x))) st1) : wp (Sset i fa env st) QS := wp_bind (h.mono fun _ _ q => wp_some q)
theorem x_brk (h : QS (.bk env) st) : wp (Sbrk env st) QS := wp_some h
theorem x_ctn (h : QS (.ct env) st) : wp (Sctn env st) QS := wp_some h
theorem x_sif (h : wp (ga env st) fun b st1 => if b = true then wp (s env st1) QS else wp (s' env st1) QS) : wp (Sif ga s s' env st) QS := wp_bind (h.mono fun b st1 q => by
  cases b with
  | true => rw [if_pos rfl] at q ⊢; exact q
  | false => rw [if_neg Bool.false_ne_true] at q ⊢; exact q)
def wpP (o : Option Sto) (Q : Sto → Prop) : Prop := ∃ st, o = some st ∧ Q st
theorem x_setIx (h : wp (fv env st) fun x st1 => wp (fo env st1) fun o st2 => wp (fi env st2) fun i st3 => wpP (setD o i x st3) fun st4 => QS (.nx env) st4) : wp (SsetIx fo fi fv env st) QS := by
  rw [q_setIx]
  refine wp_bind (h.mono fun x st1 q => wp_bind (q.mono fun o st2 q => wp_bind (q.mono fun i st3 q => ?_)))
  obtain ⟨st4, e, q⟩ := q
  exact wp_bnd e (wp_some q)
theorem x_aug {i : Nat} {d : D} (e : env[i]? = some (some d)) (h : wp (fe env st) fun y st1 => wp (f d y st1) fun z st2 => QS (.nx (env.set i (some z))) st2) : wp (Saug f i fe env st) QS := by
  unfold Saug
  rw [e]
  exact wp_bind (h.mono fun _ _ q => wp_bind (q.mono fun _ _ q => wp_some q))
theorem x_augIx (h : wp (fo env st) fun o st1 => wp (fi env st1) fun i st2 => wp (ixD o i st2) fun x st3 => wp (fe env st3) fun y st4 => wp (f x y st4) fun z st5 => wpP (setD o i z st5) fun st6 => QS (.nx env) st6) : wp (SaugIx f fo fi fe env st) QS := by
  rw [q_augIx]
  refine wp_bind (h.mono fun o st1 q => wp_bind (q.mono fun i st2 q => wp_bind (q.mono fun x st3 q => wp_bind (q.mono fun y st4 q => wp_bind (q.mono fun z st5 q => ?_)))))
  obtain ⟨st6, e, q⟩ := q
  exact wp_bnd e (wp_some q)
theorem x_bind {t : Tg} (h : wp (fa env st) fun x st1 => ∃ e, bindT t x env = some e ∧ QS (.nx e) st1) : wp (Sbind t fa env st) QS := by
  rw [q_bind]
  refine wp_bind (h.mono fun x st1 q => ?_)
  obtain ⟨e, h1, h2⟩ := q
  exact wp_bnd h1 (wp_some h2)
theorem x_run {n : Nat} {ds : List D} (e : ds.map some ++ List.replicate (n - ds.length) none = env) (h : wp (s env st) (runK QE)) : wp (runF n s ds st) QE := by
  rw [q_run, e]
  refine wp_bind (h.mono fun r st1 q => ?_)
  cases r with
  | nx e => exact wp_some q
  | rt d => exact wp_some q
  | bk e => exact q.elim
  | ct e => exact q.elim
theorem x_for {i : FI} {t : Tg} {b : FS} (h : wpI (i env st) fun items w st1 => wp (forL w t b items env st1) QS) : wp (Sfor i t b env st) QS := by
  obtain ⟨a, w, st1, e, q⟩ := h
  rw [q_for, e]
  exact q
theorem x_cmp {i : FI} {t : Tg} {own : List Nat} (h : wpI (i env st) fun items w st1 => Sd (items.length ≤ 16777216) (wp (compL w t ga fe (wipeE env own) items st1) fun ds st2 => QE (.lst ds) st2)) : wp (Ecmp i t ga fe own env st) QE := by
  obtain ⟨a, w, st1, e, hl, q⟩ := h
  rw [q_cmp, e]
  exact wp_if hl (wp_bind (q.mono fun _ _ q => wp_some q))
theorem x_cmpN {i : FI} {t : Tg} {own : List Nat} (h : wpI (i env st) fun items w st1 => Sd (items.length ≤ 16777216) (wp (compL w t ga fe (wipeE env own) items st1) fun ds st2 => QE (.ref st2.length) (st2 ++ [.lst ds]))) : wp (EcmpN i t ga fe own env st) QE := by
  obtain ⟨a, w, st1, e, hl, q⟩ := h
  rw [q_cmpN, e]
  exact wp_if hl (wp_bind (q.mono fun _ _ q => wp_some q))
theorem wpI_bind {α : Type} {o : Option (α × Sto)} {f : α × Sto → Option (List D × Watch × Sto)} (h : wp o fun a st => wpI (f (a, st)) QI) : wpI (o.bind f) QI := by
  obtain ⟨a, st, e, q⟩ := h
  rw [e]
  exact q
def itemsK (QI : List D → Watch → Sto → Prop) : D → Sto → Prop
  | .tup ds, st => QI ds [] st
  | .str s, st => QI (chars s) [] st
  | d, st => ∃ ds, sqD st d = some ds ∧ QI ds (watchOf d ds) st
theorem x_iseq (h : wp (fa env st) (itemsK QI)) : wpI (Iseq fa env st) QI := by
  refine wpI_bind (h.mono fun d st1 q => ?_)
  cases d with
  | tup ds => exact ⟨_, _, _, rfl, q⟩
  | str z => exact ⟨_, _, _, rfl, q⟩
  | _ =>
    obtain ⟨ds, e, q⟩ := q
    exact ⟨_, _, _, by dsimp only; rw [e]; rfl, q⟩
theorem x_itT {ds : List D} (h : QI ds [] st) : itemsK QI (.tup ds) st := h
theorem x_itS {z : PySem.Str} (h : QI (chars z) [] st) : itemsK QI (.str z) st := h
theorem x_itL {ds : List D} (h : QI ds [] st) : itemsK QI (.lst ds) st := ⟨ds, rfl, h⟩
theorem x_itQ {ds : List D} (h : QI ds [] st) : itemsK QI (.sq ds) st := ⟨ds, rfl, h⟩
theorem x_itR {n : Nat} {ds : List D} (e : st[n]? = some (.lst ds)) (h : QI ds [(n, ds)] st) : itemsK QI (.ref n) st := ⟨ds, by simp only [sqD, e], h⟩
theorem x_rng1 (h : wp (g env st) fun xs st1 => ∃ n, xs = [.int n] ∧ Sd (-4611686018427387904 ≤ n ∧ n < 4611686018427387904) (QI (rangeL 0 n.toNat) [] st1)) : wpI (Irng1 g env st) QI := by
  refine wpI_bind (h.mono fun d st1 q => ?_)
  obtain ⟨n, rfl, hb, q⟩ := q
  exact ⟨_, _, _, if_pos hb, q⟩
theorem x_rng2 (h : wp (g env st) fun xs st1 => ∃ lo n, xs = [.int lo, .int n] ∧ Sd (-4611686018427387904 ≤ lo ∧ lo < 4611686018427387904 ∧ -4611686018427387904 ≤ n ∧ n < 4611686018427387904) (QI (rangeL lo (n - lo).toNat) [] st1)) : wpI (Irng2 g env st) QI := by
  refine wpI_bind (h.mono fun d st1 q => ?_)
  obtain ⟨lo, n, rfl, hb, q⟩ := q
  exact ⟨_, _, _, if_pos hb, q⟩
theorem x_rng3 (h : wp (g env st) fun xs st1 => ∃ i j, xs = [.int i, .int j, .int (-1)] ∧ Sd (-4611686018427387904 ≤ i ∧ i < 4611686018427387904 ∧ -4611686018427387904 ≤ j ∧ j < 4611686018427387904) (QI (downL i (i - j).toNat) [] st1)) : wpI (Irng3 g env st) QI := by
  refine wpI_bind (h.mono fun d st1 q => ?_)
  obtain ⟨i, j, rfl, hb, q⟩ := q
  exact ⟨_, _, _, if_pos hb, q⟩
/-- a loop by what holds -/
theorem x_loop {w : Watch} {t : Tg} {b : FS} {items : List D} (I : Nat → Env → Sto → Prop) (h0 : I 0 env st) (hw : ∀ i e s, I i e s → watchOk w s)
    (hs : ∀ i x e s, items[i]? = some x → I i e s → ∃ e1, bindT t x e = some e1 ∧ wp (b e1 s) (loopK QS (I (i + 1)))) (hd : ∀ e s, I items.length e s → QS (.nx e) s) : wp (forL w t b items env st) QS := by
  have key : ∀ (k : Nat) (i : Nat) (e : Env) (s : Sto), k = items.length - i → i ≤ items.length → I i e s → wp (forL w t b (items.drop i) e s) QS := by
    intro k
    induction k with
    | zero =>
      intro i e s hk hi h
      have e1 : i = items.length := by omega
      subst e1
      rw [List.drop_length]
      unfold forL
      exact wp_if (hw _ _ _ h) (wp_some (hd _ _ h))
    | succ k ih =>
      intro i e s hk hi h
      have hlt : i < items.length := by omega
      rw [List.drop_eq_getElem_cons hlt]
      unfold forL
      refine wp_if (hw _ _ _ h) ?_
      obtain ⟨e1, hb, q⟩ := hs i _ e s (List.getElem?_eq_getElem hlt) h
      rw [hb]
      refine wp_bind (q.mono fun r s1 q => ?_)
      cases r with
      | nx e2 => exact ih (i + 1) e2 s1 (by omega) hlt q
      | ct e2 => exact ih (i + 1) e2 s1 (by omega) hlt q
      | bk e2 => exact wp_some q
      | rt d => exact wp_some q
  exact key _ 0 env st rfl (Nat.zero_le _) h0
/-- a comprehension by what holds -/
theorem x_comp {w : Watch} {t : Tg} {items : List D} (I : Nat → List D → Sto → Prop) (h0 : I 0 [] st) (hw : ∀ i a s, I i a s → watchOk w s)
    (hs : ∀ i x a s, items[i]? = some x → I i a s → ∃ e1, bindT t x env = some e1 ∧ wp (ga e1 s) fun c s1 => if c = true then wp (fe e1 s1) fun y s2 => I (i + 1) (a ++ [y]) s2 else I (i + 1) a s1)
    (hd : ∀ a s, I items.length a s → QA a s) : wp (compL w t ga fe env items st) QA := by
  have key : ∀ (k : Nat) (i : Nat) (a : List D) (s : Sto), k = items.length - i → i ≤ items.length → I i a s → wp (compL w t ga fe env (items.drop i) s) fun r s' => QA (a ++ r) s' := by
    intro k
    induction k with
    | zero =>
      intro i a s hk hi h
      have e1 : i = items.length := by omega
      subst e1
      rw [List.drop_length]
      unfold compL
      exact wp_if (hw _ _ _ h) (wp_some (by rw [List.append_nil]; exact hd _ _ h))
    | succ k ih =>
      intro i a s hk hi h
      have hlt : i < items.length := by omega
      rw [List.drop_eq_getElem_cons hlt]
      unfold compL
      refine wp_if (hw _ _ _ h) ?_
      obtain ⟨e1, hb, q⟩ := hs i _ a s (List.getElem?_eq_getElem hlt) h
      rw [hb]
      refine wp_bind (q.mono fun c s1 q => ?_)
      cases c with
      | true =>
        rw [if_pos rfl] at q
        refine wp_bind (q.mono fun y s2 q => wp_bind ((ih (i + 1) _ s2 (by omega) hlt q).mono fun r s3 q => wp_some ?_))
        rw [List.append_assoc] at q
        exact q
      | false =>
        rw [if_neg Bool.false_ne_true] at q
        exact ih (i + 1) _ s1 (by omega) hlt q
  exact (key _ 0 [] st rfl (Nat.zero_le _) h0).mono fun r s q => q
/-- .. whose items leave the store as it is -/
theorem x_map {w : Watch} {t : Tg} {items : List D} (gv : D → D) (hw : watchOk w st) (hs : ∀ x, x ∈ items → ∃ e1, bindT t x env = some e1 ∧ wp (fe e1 st) fun y s2 => y = gv x ∧ s2 = st)
    (hd : QA (items.map gv) st) : wp (compL w t Tyes fe env items st) QA := by
  refine x_comp (fun i a s => a = (items.take i).map gv ∧ s = st) ⟨by simp, rfl⟩ (fun i a s h => by rw [h.2]; exact hw) ?_ ?_
  · rintro i x a s hx ⟨rfl, rfl⟩
    obtain ⟨e1, hb, q⟩ := hs x (List.mem_of_getElem? hx)
    refine ⟨e1, hb, wp_some ?_⟩
    rw [if_pos rfl]
    refine q.mono fun y s2 ⟨h1, h2⟩ => ⟨?_, h2⟩
    rw [h1, List.take_add_one, hx]
    simp
  · rintro a s ⟨rfl, rfl⟩
    rw [List.take_length]
    exact hd
/-- tests -/
theorem y_ite {b : Bool} {A B : Prop} (h1 : b = true → A) (h2 : b = false → B) : if b = true then A else B := by
  cases b with
  | true => rw [if_pos rfl]; exact h1 rfl
  | false => rw [if_neg Bool.false_ne_true]; exact h2 rfl
theorem y_t {A B : Prop} (h : A) : if true = true then A else B := by rw [if_pos rfl]; exact h
theorem y_f {A B : Prop} (h : B) : if false = true then A else B := by rw [if_neg Bool.false_ne_true]; exact h
theorem y_dt {p : Prop} [Decidable p] {A B : Prop} (hp : p) (h : A) : if decide p = true then A else B := by rw [if_pos (decide_eq_true hp)]; exact h
theorem y_df {p : Prop} [Decidable p] {A B : Prop} (hp : ¬ p) (h : B) : if decide p = true then A else B := by rw [if_neg (fun e => hp (of_decide_eq_true e))]; exact h
theorem y_d {p : Prop} [Decidable p] {A B : Prop} (h1 : p → A) (h2 : ¬ p → B) : if decide p = true then A else B := by
  by_cases h : p
  · exact y_dt h (h1 h)
  · exact y_df h (h2 h)
theorem y_not {b : Bool} {A B : Prop} (h : if b = true then B else A) : if (!b) = true then A else B := by
  cases b <;> simpa using h
theorem y_eqt {i j : Int} {A B : Prop} (hp : i = j) (h : A) : if (i == j) = true then A else B := by rw [if_pos (by simp [hp])]; exact h
theorem y_eqf {i j : Int} {A B : Prop} (hp : i ≠ j) (h : B) : if (i == j) = true then A else B := by rw [if_neg (by simp [hp])]; exact h
theorem y_eq {i j : Int} {A B : Prop} (h1 : i = j → A) (h2 : i ≠ j → B) : if (i == j) = true then A else B := by
  by_cases h : i = j
  · exact y_eqt h (h1 h)
  · exact y_eqf h (h2 h)
/-- values -/
theorem z_addI {i j : Int} (h : QE (.int (i + j)) st) : wp (addD (.int i) (.int j) st) QE := wp_some h
theorem z_addS {a b : PySem.Str} (hl : a.length + b.length ≤ 16777216) (h : QE (.str (a ++ b)) st) : wp (addD (.str a) (.str b) st) QE := wp_if hl (wp_some h)
theorem z_addT {a b : List D} (hl : a.length + b.length ≤ 16777216) (h : QE (.tup (a ++ b)) st) : wp (addD (.tup a) (.tup b) st) QE := wp_if hl (wp_some h)
theorem z_sub {i j : Int} (h : QE (.int (i - j)) st) : wp (subD (.int i) (.int j) st) QE := wp_some h
theorem z_mul {i j : Int} (hm : mulOk i j) (h : QE (.int (i * j)) st) : wp (mulD (.int i) (.int j) st) QE := wp_if hm (wp_some h)
theorem z_fdiv {i j : Int} (hm : 0 < j ∧ j < 18446744073709551616) (h : QE (.int (i / j)) st) : wp (fdivD (.int i) (.int j) st) QE := wp_if hm (wp_some h)
theorem z_mod {i j : Int} (hm : 0 < j) (h : QE (.int (i % j)) st) : wp (modD (.int i) (.int j) st) QE := wp_if hm (wp_some h)
theorem z_pow {i j : Int} (hm : 0 ≤ j ∧ j ≤ 1000000 ∧ i.natAbs < 18446744073709551616) (h : QE (.int (i ^ j.toNat)) st) : wp (powD (.int i) (.int j) st) QE := wp_if hm (wp_some h)
theorem z_neg {i : Int} (h : QE (.int (-i)) st) : wp (negD (.int i) st) QE := wp_some h
theorem z_lt {i j : Int} (h : QE (.bl (decide (i < j))) st) : wp (ltD (.int i) (.int j) st) QE := wp_some h
theorem z_le {i j : Int} (h : QE (.bl (decide (i ≤ j))) st) : wp (leD (.int i) (.int j) st) QE := wp_some h
theorem z_gt {i j : Int} (h : QE (.bl (decide (j < i))) st) : wp (gtD (.int i) (.int j) st) QE := wp_some h
theorem z_ge {i j : Int} (h : QE (.bl (decide (j ≤ i))) st) : wp (geD (.int i) (.int j) st) QE := wp_some h
theorem z_is {x : D} (h : QE (.bl (isNon x)) st) : wp (isnD false x .non st) QE := wp_some h
theorem z_isn {x : D} (h : QE (.bl (!isNon x)) st) : wp (isnD true x .non st) QE := wp_some h
theorem z_iadd {i j : Int} (h : QE (.int (i + j)) st) : wp (iaddI (.int i) (.int j) st) QE := wp_some h
theorem z_eqI {i j : Int} (h : QE (.bl (i == j)) st) : wp (eqD false (.int i) (.int j) st) QE := wp_some h
theorem z_neI {i j : Int} (h : QE (.bl (!(i == j))) st) : wp (eqD true (.int i) (.int j) st) QE := wp_some h
theorem z_eqS {i j : PySem.Str} (h : QE (.bl (i == j)) st) : wp (eqD false (.str i) (.str j) st) QE := wp_some h
theorem z_neS {i j : PySem.Str} (h : QE (.bl (!(i == j))) st) : wp (eqD true (.str i) (.str j) st) QE := wp_some h
theorem z_abs {i : Int} (h : QE (.int (if i < 0 then -i else i)) st) : wp (fAbs [.int i] st) QE := wp_some h
theorem z_intI {i : Int} (h : QE (.int i) st) : wp (fInt [.int i] st) QE := wp_some h
theorem z_intB {b : Bool} (h : QE (.int (if b then 1 else 0)) st) : wp (fInt [.bl b] st) QE := wp_some h
theorem z_lenT {ds : List D} (h : QE (.int ds.length) st) : wp (fLen [.tup ds] st) QE := wp_some h
theorem z_lenL {ds : List D} (h : QE (.int ds.length) st) : wp (fLen [.lst ds] st) QE := wp_some h
theorem z_lenQ {ds : List D} (h : QE (.int ds.length) st) : wp (fLen [.sq ds] st) QE := wp_some h
theorem z_lenR {n : Nat} {ds : List D} (e : st[n]? = some (.lst ds)) (h : QE (.int ds.length) st) : wp (fLen [.ref n] st) QE := ⟨_, _, by rw [v_lenR, e]; rfl, h⟩
theorem z_ixT {ds : List D} {i : Int} {d : D} (e : atI ds i = some d) (h : QE d st) : wp (ixD (.tup ds) (.int i) st) QE := ⟨_, _, by rw [v_ixT, e]; rfl, h⟩
theorem z_ixL {ds : List D} {i : Int} {d : D} (e : atI ds i = some d) (h : QE d st) : wp (ixD (.lst ds) (.int i) st) QE := ⟨_, _, by rw [v_ixL, e]; rfl, h⟩
theorem z_ixQ {ds : List D} {i : Int} {d : D} (e : atI ds i = some d) (h : QE d st) : wp (ixD (.sq ds) (.int i) st) QE := ⟨_, _, by rw [v_ixQ, e]; rfl, h⟩
theorem z_ixR {n : Nat} {ds : List D} {i : Int} {d : D} (e0 : st[n]? = some (.lst ds)) (e : atI ds i = some d) (h : QE d st) : wp (ixD (.ref n) (.int i) st) QE := ⟨_, _, by rw [v_ixR, e0]; simp only [bnd_some]; rw [e]; rfl, h⟩
theorem z_ixS {z : PySem.Str} {i : Int} {c : Nat} (hl : z.length ≤ 16777216) (e : atI z.cps.toList i = some c) (h : QE (.str ⟨#[c]⟩) st) : wp (ixD (.str z) (.int i) st) QE := ⟨_, _, by rw [v_ixS, if_pos hl, e]; rfl, h⟩
theorem z_set {n : Nat} {k : Int} {v : D} {es es' : List D} {j : Nat} {st' : Sto} {Q : Sto → Prop} (e0 : st[n]? = some (.lst es)) (e : ixN es.length k = some j) (e2 : es.set j v = es') (e3 : st.set n (.lst es') = st') (h : Q st') : wpP (setD (.ref n) (.int k) v st) Q := ⟨_, by rw [v_set, e0]; simp only [bnd_some]; rw [e, bnd_some, e2, e3], h⟩
theorem set_at {n : Nat} {o x : O} (h : st[n]? = some o) : (st.set n x)[n]? = some x := List.getElem?_set_self (List.getElem?_eq_some_iff.mp h).1
theorem x_emL {T : String} {fm : FM} (hT : T = "list") (h : wp (fo env st) fun o st1 => ∃ n ds, o = .ref n ∧ st1[n]? = some (.lst ds) ∧ wp (g env st1) fun xs st2 => wp (fm (.ref n) xs st2) QE) : wp (EM T fm fo g env st) QE := by
  rw [q_em]
  refine wp_bind (h.mono fun o st1 q => ?_)
  obtain ⟨n, ds, rfl, e, q⟩ := q
  exact wp_if hT (wp_bnd (a := ds) (by simp only [sqD, e]) (wp_bind q))
theorem x_emS {T : String} {fm : FM} (hT : T = "str") (h : wp (fo env st) fun o st1 => ∃ z, o = .str z ∧ wp (g env st1) fun xs st2 => wp (fm (.str z) xs st2) QE) : wp (EM T fm fo g env st) QE := by
  rw [q_em]
  refine wp_bind (h.mono fun o st1 q => ?_)
  obtain ⟨z, rfl, q⟩ := q
  exact wp_if hT (wp_bind q)
theorem z_app {n : Nat} {y : D} {es : List D} {st' : Sto} (e : st[n]? = some (.lst es)) (hl : es.length < 16777216) (e3 : st.set n (.lst (es ++ [y])) = st') (h : QE .non st') : wp (mApp (.ref n) [y] st) QE := ⟨_, _, by rw [v_app, e]; exact if_pos hl, by rw [e3]; exact h⟩
theorem z_isiI {T : String} {i : Int} {b : Bool} (e : kitB "int" T = some b) (h : QE (.bl b) st) : wp (fIsi [.int i, .ty T] st) QE := ⟨_, _, by rw [v_isiI, e]; rfl, h⟩
end

section
variable {env env' : Env} {st : Sto} {QE : D → Sto → Prop} {QS : Fl → Sto → Prop}
theorem x_loopn {N : Env → Sto → Prop} (e : env = env') (h : N env' st) : loopK QS N (.nx env) st := by subst e; exact h
theorem y_tg {t : Tg} {x : D} {P : Env → Prop} (h : bindT t x env = some env') (k : P env') : ∃ e1, bindT t x env = some e1 ∧ P e1 := ⟨_, h, k⟩
theorem z_ord1 {c : Nat} (h : QE (.int (c : Int)) st) : wp (fOrd [.str ⟨#[c]⟩] st) QE := wp_some h
theorem z_inC {c : Nat} {b : PySem.Str} (h : QE (.bl (decide (c ∈ b.cps.toList))) st) : wp (inD false (.str ⟨#[c]⟩) (.str b) st) QE := ⟨_, _, rfl, by
  show QE (.bl (!(Builtin.Str.occurrences b ⟨#[c]⟩ 0 b.length 1).isEmpty)) st
  rw [PySem.StrLaws.found_one b c]; exact h⟩
theorem z_ninC {c : Nat} {b : PySem.Str} (h : QE (.bl (!decide (c ∈ b.cps.toList))) st) : wp (inD true (.str ⟨#[c]⟩) (.str b) st) QE := ⟨_, _, rfl, by
  show QE (.bl (!(!(Builtin.Str.occurrences b ⟨#[c]⟩ 0 b.length 1).isEmpty))) st
  rw [PySem.StrLaws.found_one b c]; exact h⟩
theorem occ_one (z : PySem.Str) (c : Nat) : (!(Builtin.Str.occurrences z ⟨#[c]⟩ 0 z.length 1).isEmpty) = decide (c ∈ z.cps.toList) := PySem.StrLaws.found_one z c
theorem z_find {a b : PySem.Str} (h : QE (.int (Txt.find a b)) st) : wp (mFind (.str a) [.str b] st) QE := wp_some h
theorem z_intS {s : PySem.Str} {n : Int} (e : PySem.intText? s = some n) (hl : s.length ≤ 640) (h : QE (.int n) st) : wp (fInt [.str s] st) QE := ⟨_, _, by simp only [fInt, e, if_pos hl], h⟩
end
/-! things that laws share -/
theorem emod_ok (a : Int) {b : Int} (h : 0 < b) : 0 ≤ a % b ∧ a % b < b := ⟨Int.emod_nonneg _ (by omega), Int.emod_lt_of_pos _ h⟩
theorem script_at (ns : List Int) {p : Int} (h0 : 0 ≤ p) (h1 : p < ((ns.map D.int).length : Nat)) : ∃ c, atI (ns.map D.int) p = some (.int c) := by
  have h2 : p.toNat < ns.length := by
    rw [List.length_map] at h1
    omega
  refine ⟨ns[p.toNat], atI_get h0 ?_⟩
  rw [List.getElem?_map, List.getElem?_eq_getElem h2]
  rfl
theorem take_last {α : Type} {l : List α} {i : Nat} {x : α} (h : l[i]? = some x) : l.take (i + 1) = l.take i ++ [x] := by
  rw [List.take_add_one, h]; rfl
theorem range_at {lo : Int} {n i : Nat} {x : D} (h : (rangeL lo n)[i]? = some x) : i < n ∧ x = .int (lo + (i : Nat)) := by
  unfold rangeL at h
  rw [List.getElem?_map] at h
  obtain ⟨c, h3, h4⟩ := Option.map_eq_some_iff.mp h
  obtain ⟨h5, h6⟩ := List.getElem?_eq_some_iff.mp h3
  rw [List.length_range] at h5
  rw [List.getElem_range] at h6
  exact ⟨h5, by rw [← h4, ← h6]⟩
theorem range_len {lo : Int} {n : Nat} : (rangeL lo n).length = n := by simp [rangeL]
theorem chars_at {z : PySem.Str} {i : Nat} {x : D} (h : (chars z)[i]? = some x) : ∃ c, z.cps.toList[i]? = some c ∧ x = .str ⟨#[c]⟩ := by
  unfold chars at h
  rw [List.getElem?_map] at h
  obtain ⟨c, h3, h4⟩ := Option.map_eq_some_iff.mp h
  exact ⟨c, h3, h4.symm⟩
theorem chars_len {z : PySem.Str} : (chars z).length = z.cps.toList.length := by simp [chars]
theorem noWatch {st : Sto} : watchOk [] st := fun _ h => nomatch h
/-- all but the n-th object are as they were -/
def Oth (n : Nat) (st st' : Sto) : Prop := st'.length = st.length ∧ ∀ m, m ≠ n → st'[m]? = st[m]?
theorem Oth.refl {n : Nat} {st : Sto} : Oth n st st := ⟨rfl, fun _ _ => rfl⟩
theorem Oth.trans {n : Nat} {a b c : Sto} (x : Oth n a b) (y : Oth n b c) : Oth n a c := ⟨y.1.trans x.1, fun m h => (y.2 m h).trans (x.2 m h)⟩
theorem Oth.set {n : Nat} {st : Sto} {o : O} : Oth n st (st.set n o) := ⟨by simp, fun m h => List.getElem?_set_ne (fun e => h e.symm)⟩
theorem str_at {z : PySem.Str} {i : Int} (h0 : 0 ≤ i) (h1 : i < (z.cps.toList.length : Nat)) : ∃ c, atI z.cps.toList i = some c ∧ c ∈ z.cps.toList := by
  have h2 : i.toNat < z.cps.toList.length := by omega
  exact ⟨_, atI_get h0 (List.getElem?_eq_getElem h2), List.getElem_mem h2⟩
/-! ### zip and enumerate of lists and tuples in any mix -/
def SeqB (K : Frag) (t : Bool) (H : Hp) (a : Addr) (xs : List V) : Prop := if t = true then SqT K H a xs else SqL K H a xs
def IterB (t : Bool) (h : Heap) (i a : Addr) (k : Nat) : Prop := if t = true then h.IsTupleIter i a k else h.IsListIter i a k
def SeqH (t : Bool) (h : Heap) (a : Addr) (its : Array Value) : Prop := if t = true then h.IsTuple a its else h.IsList a its
theorem SeqB.items {X : Cx} {pins : List (Addr × Obj)} {σ : L2.St} {H : Hp} {s : Shared} {t : Bool} {a : Addr} {xs : List V} (I : Inv X pins σ H s) (h : SeqB X.K t H a xs) : ∃ its : List Value, Vals xs its ∧ SeqH t s.heap a its.toArray := by
  cases t with
  | true =>
    obtain ⟨its, r, p, _⟩ := I.tuple (show SqT X.K H a xs from h)
    exact ⟨its, r, p⟩
  | false =>
    obtain ⟨its, r, p, _⟩ := I.list (show SqL X.K H a xs from h)
    exact ⟨its, r, p.isList⟩
theorem SeqB.inj {X : Cx} {pins : List (Addr × Obj)} {σ : L2.St} {H : Hp} {s : Shared} {t : Bool} {a : Addr} {xs ys : List V} (I : Inv X pins σ H s) (h : SeqB X.K t H a xs) (h' : SeqB X.K t H a ys) : xs = ys := by
  cases t with
  | true => exact I.tuple_inj (show SqT X.K H a xs from h) h'
  | false => exact I.list_inj (show SqL X.K H a xs from h) h'
theorem SeqH.lt {t : Bool} {h : Heap} {a : Addr} {its : Array Value} (x : SeqH t h a its) : a < h.objs.size := by
  cases t with
  | true => obtain ⟨o, e, _⟩ := (show h.IsTuple a its from x); exact Heap.lt_size e
  | false => obtain ⟨o, e, _⟩ := (show h.IsList a its from x); exact Heap.lt_size e
theorem IterB.obj {t : Bool} {h : Heap} {i a : Addr} {k : Nat} (x : IterB t h i a k) : ∃ o, h.get? i = some o ∧ ∀ v, o.data ≠ .cell v := by
  cases t with
  | true =>
    obtain ⟨o, e, _, d⟩ := (show h.IsTupleIter i a k from x)
    exact ⟨o, e, fun v q => by rw [d] at q; cases q⟩
  | false =>
    obtain ⟨o, e, _, d⟩ := (show h.IsListIter i a k from x)
    exact ⟨o, e, fun v q => by rw [d] at q; cases q⟩
theorem IterB.keep {t : Bool} {h h' : Heap} {i a : Addr} {k : Nat} (x : IterB t h i a k) (e : ∀ o, h.get? i = some o → h'.get? i = some o) : IterB t h' i a k := by
  cases t with
  | true => exact (show h.IsTupleIter i a k from x).at e
  | false => exact (show h.IsListIter i a k from x).at e
/-- what an iterator over such a thing draws -/
theorem drawsB {prog : Program} {w : World} {A : Around} (hh : A.handled = none) (t : Bool) (it l : Addr) (hne : l ≠ it) (items : Array Value) :
    Draws prog w A it [it, l] items.size (fun i v => items[i]? = some v) (fun i h => IterB t h it l i ∧ SeqH t h l items) := by
  cases t with
  | true => exact Draws.tuple hh it l hne items
  | false => exact Draws.list hh it l hne items
def ItZ (K : Frag) (t1 t2 : Bool) (a b : Addr) : It :=
  ⟨fun i H => ∃ (xs ys : List V) (x y : V), SeqB K t1 H a xs ∧ SeqB K t2 H b ys ∧ xs[i]? = some x ∧ ys[i]? = some y,
    fun i H v H' => ∃ T x y, v = .ref T ∧ H T = none ∧ H' = upd H T (.tup [x, y]) ∧ (∀ xs, SeqB K t1 H a xs → xs[i]? = some x) ∧ ∀ ys, SeqB K t2 H b ys → ys[i]? = some y,
    fun i H => ∃ xs ys : List V, SeqB K t1 H a xs ∧ SeqB K t2 H b ys ∧ i ≤ xs.length ∧ i ≤ ys.length ∧ (i = xs.length ∨ i = ys.length)⟩
theorem turnZ {P : Program} {w : World} {K : Frag} {elts : List Expr} {kk : Nat} {tpos : Pos} {t1 t2 : Bool} {a b z TI TO i1 i2 : Addr} (D : ZipSep2 z TI TO i1 i2 [i1, a] [i2, b]) :
    Turn P w K (.Tuple elts kk tpos) (ItZ K t1 t2 a b) [z, TI, TO, i1, i2] z (fun i h => IsZip h z TI TO .none ∧ IsTupOf2 h TI (.ref i1) (.ref i2) ∧ (∃ x y, IsTupOf2 h TO x y) ∧ IterB t1 h i1 a i ∧ IterB t2 h i2 b i) where
  mem := by simp
  obj := fun i h q c hc => by
    obtain ⟨hz, hTI, ⟨x, y, hTO⟩, h1, h2⟩ := q
    simp only [List.mem_cons, List.not_mem_nil, or_false] at hc
    rcases hc with rfl | rfl | rfl | rfl | rfl
    · exact ⟨_, hz, fun v q => nomatch q⟩
    · exact ⟨_, hTI, fun v q => nomatch q⟩
    · exact ⟨_, hTO, fun v q => nomatch q⟩
    · exact h1.obj
    · exact h2.obj
  keep := fun i h h' q k => by
    obtain ⟨hz, hTI, ⟨x, y, hTO⟩, h1, h2⟩ := q
    exact ⟨k z (by simp) _ hz, k TI (by simp) _ hTI, ⟨x, y, k TO (by simp) _ hTO⟩, h1.keep fun o e => k i1 (by simp) o e, h2.keep fun o e => k i2 (by simp) o e⟩
  item := by
    intro X hP hw hK hc i pins s σ H E I hf q hg
    subst hP hw hK
    obtain ⟨hz, hTI, ⟨x0, y0, hTO⟩, h1, h2⟩ := q
    obtain ⟨xs, ys, x, y, hqx, hqy, hx, hy⟩ := hg
    obtain ⟨its, rv, p1⟩ := hqx.items I
    obtain ⟨its2, rv2, p2⟩ := hqy.items I
    obtain ⟨u, hu, ru⟩ := rv.get hx
    obtain ⟨u2, hu2, ru2⟩ := rv2.get hy
    have hzl : z < s.heap.objs.size := Heap.lt_size hz
    have hd : X.A.in1.handled = none := I.ok.hd hc
    have na : a ≠ i1 := fun e => D.sep1_2 (by have := D.Tf1; exact absurd e (fun e2 => by
      obtain ⟨o1, g1, n1⟩ := h1.obj
      subst e2
      cases t1 with
      | true =>
        obtain ⟨o, e, c, n, d⟩ := (show s.heap.IsTuple a its.toArray from p1)
        obtain ⟨o', e', c', d'⟩ := (show s.heap.IsTupleIter a a i from h1)
        rw [e] at e'; cases e'; rw [d] at d'; cases d'
      | false =>
        obtain ⟨o, e, c, n, d⟩ := (show s.heap.IsList a its.toArray from p1)
        obtain ⟨o', e', c', d'⟩ := (show s.heap.IsListIter a a i from h1)
        rw [e] at e'; cases e'; rw [d] at d'; cases d'))
    have nb : b ≠ i2 := fun e => by
      subst e
      cases t2 with
      | true =>
        obtain ⟨o, e, c, n, d⟩ := (show s.heap.IsTuple b its2.toArray from p2)
        obtain ⟨o', e', c', d'⟩ := (show s.heap.IsTupleIter b b i from h2)
        rw [e] at e'; cases e'; rw [d] at d'; cases d'
      | false =>
        obtain ⟨o, e, c, n, d⟩ := (show s.heap.IsList b its2.toArray from p2)
        obtain ⟨o', e', c', d'⟩ := (show s.heap.IsListIter b b i from h2)
        rw [e] at e'; cases e'; rw [d] at d'; cases d'
    have l1 : i < its.toArray.size := by
      have := (List.getElem?_eq_some_iff.mp hu).1
      simpa using this
    have l2 : i < its2.toArray.size := by
      have := (List.getElem?_eq_some_iff.mp hu2).1
      simpa using this
    refine wpAny_pyNext_zipD2_item D (drawsB hd t1 i1 a na its.toArray) (drawsB hd t2 i2 b nb its2.toArray) hz hTI hTO ⟨h1, p1⟩ ⟨h2, p2⟩ l1 l2 fun y1 y2 h' tk e1 e2 z' TO' s1' s2' hT hsz hk => ?_
    have eu : u = y1 := by simpa [hu] using e1
    have eu2 : u2 = y2 := by simpa [hu2] using e2
    subst eu eu2
    refine ⟨_, rfl, wpAny_letOwnedTupleGo_zip (s := { s with heap := h', toks := tk }) z' fun h'' z'' sb => ?_⟩
    have hT2 : IsTupOf2 h'' s.heap.objs.size u u2 := (sb.2 _ (Nat.ne_of_gt hzl)).trans hT
    have new : ObjOk X.prog X.w (upd H s.heap.objs.size (.tup [x, y])) h'' s.heap.objs.size (.tup [x, y]) :=
      ⟨by show 2 ≤ sizeLine; decide, [u, u2], .cons ru (.cons ru2 .nil), ⟨_, hT2, rfl, _, rfl⟩⟩
    have I1 : Inv X pins σ (upd H s.heap.objs.size (.tup [x, y])) { s with heap := h'', toks := tk } :=
      I.turnedNew (t' := tk) (ch := [z, TI, TO, i1, i2]) (fun c o hb q => (sb.2 c (fun q' => hb (by simp [q']))).trans (hk c o (fun q' => hb (by simp [q'])) (fun q' => hb (by simp [q'])) (fun q' => hb (by simp [q'])) (fun q' => hb (by simp [q'])) q)) hf (Nat.le_refl _) new
    refine ⟨.ref s.heap.objs.size, _, I1, rfl, ⟨_, x, y, rfl, I.hok.fresh (Nat.le_refl _), rfl, fun l hl => by rw [hl.inj I hqx]; exact hx, fun l hl => by rw [hl.inj I hqy]; exact hy⟩, ⟨z'', ?_, ⟨u, u2, ?_⟩, ?_, ?_⟩, fun c hcm => ?_⟩
    · exact (sb.2 _ D.TIz).trans (hk _ _ D.TIz D.TITO D.TIi1 D.TIi2 hTI)
    · exact (sb.2 _ D.TOz).trans TO'
    · exact s1'.1.keep fun o q => (sb.2 _ (Ne.symm D.zi1)).trans q
    · exact s2'.1.keep fun o q => (sb.2 _ (Ne.symm D.zi2)).trans q
    · have hlt : c < s.heap.objs.size := by
        simp only [List.mem_cons, List.not_mem_nil, or_false] at hcm
        rcases hcm with rfl | rfl | rfl | rfl | rfl
        · exact hzl
        · exact Heap.lt_size hTI
        · exact Heap.lt_size hTO
        · obtain ⟨_, e1, _⟩ := h1.obj; exact Heap.lt_size e1
        · obtain ⟨_, e2, _⟩ := h2.obj; exact Heap.lt_size e2
      rw [upd_ne (Nat.ne_of_lt hlt)]
      exact (hf c hcm).1
  done := by
    intro X hP hw hK hc i pins s σ H E I hf q hg
    subst hP hw hK
    obtain ⟨hz, hTI, ⟨x0, y0, hTO⟩, h1, h2⟩ := q
    obtain ⟨xs, ys, hqx, hqy, hi1, hi2, hend⟩ := hg
    obtain ⟨its, rv, p1⟩ := hqx.items I
    obtain ⟨its2, rv2, p2⟩ := hqy.items I
    have l1 := rv.length
    have l2 := rv2.length
    have hd : X.A.in1.handled = none := I.ok.hd hc
    have na : a ≠ i1 := fun e => by
      subst e
      cases t1 with
      | true =>
        obtain ⟨o, e, c, n, d⟩ := (show s.heap.IsTuple a its.toArray from p1)
        obtain ⟨o', e', c', d'⟩ := (show s.heap.IsTupleIter a a i from h1)
        rw [e] at e'; cases e'; rw [d] at d'; cases d'
      | false =>
        obtain ⟨o, e, c, n, d⟩ := (show s.heap.IsList a its.toArray from p1)
        obtain ⟨o', e', c', d'⟩ := (show s.heap.IsListIter a a i from h1)
        rw [e] at e'; cases e'; rw [d] at d'; cases d'
    have nb : b ≠ i2 := fun e => by
      subst e
      cases t2 with
      | true =>
        obtain ⟨o, e, c, n, d⟩ := (show s.heap.IsTuple b its2.toArray from p2)
        obtain ⟨o', e', c', d'⟩ := (show s.heap.IsTupleIter b b i from h2)
        rw [e] at e'; cases e'; rw [d] at d'; cases d'
      | false =>
        obtain ⟨o, e, c, n, d⟩ := (show s.heap.IsList b its2.toArray from p2)
        obtain ⟨o', e', c', d'⟩ := (show s.heap.IsListIter b b i from h2)
        rw [e] at e'; cases e'; rw [d] at d'; cases d'
    exact wpAny_pyNext_zipD2_end D (drawsB hd t1 i1 a na its.toArray) (drawsB hd t2 i2 b nb its2.toArray) hz hTI hTO ⟨h1, p1⟩ ⟨h2, p2⟩ (by simp; omega) (by simp; omega) (by simp; omega) fun h' tk hk =>
      ⟨rfl, I.turnedL (t' := tk) (ch := [z, TI, TO, i1, i2]) (fun c o hb q => hk c o (fun q' => hb (by simp [q'])) (fun q' => hb (by simp [q'])) (fun q' => hb (by simp [q'])) (fun q' => hb (by simp [q'])) q) hf⟩
  self := fun A i s Q E q h => wpAny_pyIter_zip q.1 h

def iZ (K : Frag) (ta : TA) : TI := fun σ H R => ta σ H fun vs H1 => ∃ a b t1 t2 xs ys, vs = [.ref a, .ref b] ∧ SeqB K t1 H1 a xs ∧ SeqB K t2 H1 b ys ∧ R (ItZ K t1 t2 a b) H1
def itO (t : Bool) (a : Addr) : Obj := if t = true then { cls := .type "tuple_iterator", data := .fields #[.ref a, .int 0 0] } else { cls := .type "list_iterator", data := .fields #[.ref a, .int 0 0] }
theorem beginsB (t : Bool) (a : Addr) (its : Array Value) : Begins (.ref a) (itO t a) fun h => SeqH t h a its := by
  cases t with
  | true => exact begins_tuple a its
  | false => exact begins_list a its
theorem IterB.of {t : Bool} {h : Heap} {i a : Addr} (e : h.get? i = some (itO t a)) : IterB t h i a 0 := by
  cases t with
  | true => exact ⟨_, e, rfl, rfl⟩
  | false => exact ⟨_, e, rfl, rfl⟩
theorem pi_Z {X : Cx} {e e2 : Expr} {ta : TA} {p pos tpos : Pos} {elts : List Expr} {kk : Nat} (hg : Gl X "zip") (hm : X.mg "zip" = none) (ha : PA X [e, e2] ta)
    (hs : starEach [e, e2] X.env = (false, eval e X.env) :: starEach [e2] X.env := by rfl) (hpl : (backTo pos (starEach [e2] X.env)).any (·.1) = false := by rfl) :
    PI X (.Tuple elts kk tpos) (.Call (.Name "zip" p) [e, e2] [] pos) (iZ X.K ta) := by
  refine ⟨fun pins s σ H R I h => Call_ (ld_blt I hg hm PyProof.Rows.boot_zip (PyProof.Rows.callWith_type1 (thn (ha.run pos pins s σ H _ I h) fun us s1 ⟨vs, H1, I1, r1, q1⟩ => ?_) hs hpl))⟩
  obtain ⟨a, b, t1, t2, xs, ys, rfl, hqx, hqy, q⟩ := q1
  obtain ⟨u, w', rfl, rx, ry⟩ := vals2 r1
  cases rx
  cases ry
  obtain ⟨its, rv, p1⟩ := hqx.items I1
  obtain ⟨its2, rv2, p2⟩ := hqy.items I1
  have la := p1.lt
  have lb := p2.lt
  refine zip_begins2 (beginsB t1 a its.toArray) (beginsB t2 b its2.toArray) p1 p2 fun h' hz hTI hTO g1 g2 hsz hk => wpAny_pyIter_zip hz ?_
  have I2 : Inv X pins σ H1 { s1 with heap := h' } := I1.kept (t' := s1.toks) hk
  refine ⟨s1.heap.objs.size + 4, [s1.heap.objs.size + 4, s1.heap.objs.size + 2, s1.heap.objs.size + 3, s1.heap.objs.size, s1.heap.objs.size + 1], _, _, H1, rfl, I2,
    turnZ (zip_sep2 (N := s1.heap.objs.size) (fp1 := [a]) (fp2 := [b]) (by simpa using la) (by simpa using lb)), ⟨hz, hTI, ⟨_, _, hTO⟩, .of g1, .of g2⟩, fun c hcm => ?_, q⟩
  have hle : s1.heap.objs.size ≤ c := by
    simp only [List.mem_cons, List.not_mem_nil, or_false] at hcm
    rcases hcm with e | e | e | e | e <;> rw [e] <;> first | exact Nat.le_add_right _ _ | exact Nat.le_refl _
  exact I1.fpOk hle (I1.hok.fresh hle)
/-- the items of a list or a tuple, and what must stay for them -/
def anyD (st : Sto) : D → Option (Bool × List D)
  | .tup ds => some (true, ds)
  | d => (sqD st d).map fun ds => (false, ds)
def watchA : D → List D → Watch
  | .ref n, ds => [(n, ds)]
  | _, _ => []
section
variable {K : Frag} {θ : List Addr} {G H : Hp} {st : Sto} {v : V} {d : D} {ds : List D} {t : Bool}
theorem anyD.ok (S : Sim K θ G H st) (r : Rep K θ G v d) (h : anyD st d = some (t, ds)) : ∃ a, v = .ref a ∧ (∃ vs, SeqB K t H a vs ∧ vs.length = ds.length) ∧
    ∀ θ' G' H' st', (∃ l, θ' = θ ++ l) → Gle G G' → Sim K θ' G' H' st' → watchOk (watchOf d ds) st' → ∃ vs, SeqB K t H' a vs ∧ Reps K θ' G' vs ds := by
  have sq : ∀ es, sqD st d = some es → t = false → ds = es → ∃ a, v = .ref a ∧ (∃ vs, SeqB K t H a vs ∧ vs.length = ds.length) ∧
    ∀ θ' G' H' st', (∃ l, θ' = θ ++ l) → Gle G G' → Sim K θ' G' H' st' → watchOk (watchOf d ds) st' → ∃ vs, SeqB K t H' a vs ∧ Reps K θ' G' vs ds := by
    intro es e ht he
    subst ht
    subst he
    obtain ⟨a, vs, rfl, h1, h2⟩ := sqD.ok S r e
    refine ⟨a, rfl, ⟨vs, h1, h2.len⟩, fun θ' G' H' st' p g S' w => ?_⟩
    cases d with
    | ref n =>
      have hw : st'[n]? = some (.lst ds) := w (n, ds) (List.mem_singleton.mpr rfl)
      cases r with
      | ref h3 =>
        obtain ⟨o, h4, h5⟩ := S'.at (pre_at p h3)
        rw [hw] at h4
        cases h4
        obtain ⟨ws, h6, h7⟩ := h5
        exact ⟨ws, SqL.of h6, h7⟩
    | lst es =>
      cases e
      cases r with
      | lst h3 h4 => exact ⟨_, SqL.of (S'.sub _ _ (g _ _ h3)), h4.mono p g _ _⟩
    | sq es =>
      cases e
      cases r with
      | sq h3 h4 => exact ⟨_, S'.l (g.l h3), h4.mono p g _ _⟩
    | _ => cases e
  cases d with
  | tup es =>
    cases h
    cases r with
    | @tup a vs _ h1 h2 => exact ⟨a, rfl, ⟨vs, S.t h1, h2.len⟩, fun θ' G' H' st' p g S' w => ⟨vs, S'.t (g.t h1), h2.mono p g _ _⟩⟩
  | lst es => cases h; exact sq _ rfl rfl rfl
  | sq es => cases h; exact sq _ rfl rfl rfl
  | ref n =>
    obtain ⟨es, h1, h2⟩ := Option.map_eq_some_iff.mp (show (sqD st (.ref n)).map (fun ds => (false, ds)) = some (t, ds) from h)
    cases h2
    exact sq _ h1 rfl rfl
  | non => cases h
  | bl _ => cases h
  | int _ => cases h
  | str _ => cases h
  | adr _ => cases h
  | ty _ => cases h
end
def zipL (a b : List D) : List D := List.zipWith (fun x y => .tup [x, y]) a b
def Izip (g : FA) : FI := fun env st => (g env st).bind fun p => match p.1 with
  | [x, y] => match anyD p.2 x, anyD p.2 y with
    | some (_, a), some (_, b) => some (zipL a b, watchOf x a ++ watchOf y b, p.2)
    | _, _ => none
  | _ => none
theorem watch_app {w w' : Watch} {st : Sto} (h : watchOk (w ++ w') st) : watchOk w st ∧ watchOk w' st := ⟨fun p hp => h p (List.mem_append_left _ hp), fun p hp => h p (List.mem_append_right _ hp)⟩
theorem watch_mk {w w' : Watch} {st : Sto} (h : watchOk w st) (h' : watchOk w' st) : watchOk (w ++ w') st := fun p hp => (List.mem_append.mp hp).elim (h p) (h' p)
theorem i_zip {X : Cx} {e e2 : Expr} {g : FA} {p pos tpos : Pos} {elts : List Expr} {kk : Nat} (hg : Gl X "zip") (hm : X.mg "zip" = none) (ha : PA X [e, e2] (tA X.K g))
    (hs : starEach [e, e2] X.env = (false, eval e X.env) :: starEach [e2] X.env := by rfl) (hpl : (backTo pos (starEach [e2] X.env)).any (·.1) = false := by rfl) :
    PI X (.Tuple elts kk tpos) (.Call (.Name "zip" p) [e, e2] [] pos) (tI X.K (Izip g)) :=
  piImp (pi_Z hg hm ha hs hpl) fun σ H R ⟨θ, G, env, st, items, w, st', S, EN, hf, post⟩ => by
    obtain ⟨⟨x, st1⟩, h1, h2⟩ := Option.bind_eq_some_iff.mp hf
    dsimp only at h2
    split at h2
    · rename_i x1 y1
      split at h2
      · rename_i t1 a t2 b ha hb
        cases h2
        refine tA.go S EN h1 fun θ1 G1 H1 v1 e1 S1 EN1 r1 => ?_
        cases r1 with
        | cons r1 r2 =>
          cases r2 with
          | cons r2 r3 =>
            cases r3
            obtain ⟨pa, rfl, ⟨va, ka, la⟩, qa⟩ := anyD.ok S1 r1 ha
            obtain ⟨pb, rfl, ⟨vb, kb, lb⟩, qb⟩ := anyD.ok S1 r2 hb
            refine ⟨pa, pb, t1, t2, va, vb, rfl, ka, kb, post _ _ _ _ e1 S1 ?_⟩
            have hl : (zipL a b).length = min a.length b.length := by simp [zipL]
            refine ⟨fun H => (∃ vs, SeqB X.K t1 H pa vs ∧ vs.length = a.length) ∧ ∃ vs, SeqB X.K t2 H pb vs ∧ vs.length = b.length,
              fun i H v H' => ∃ T x y, v = .ref T ∧ H T = none ∧ H' = upd H T (.tup [x, y]) ∧ (∀ xs, SeqB X.K t1 H pa xs → xs[i]? = some x) ∧ ∀ ys, SeqB X.K t2 H pb ys → ys[i]? = some y, ⟨?_, ?_, fun i H x H' _ _ q => q⟩, ?_, ?_⟩
            · rintro i H2 hi ⟨⟨us, ku, lu⟩, ⟨ws, kw, lw⟩⟩
              rw [hl] at hi
              exact ⟨us, ws, us[i]'(by omega), ws[i]'(by omega), ku, kw, List.getElem?_eq_getElem (by omega), List.getElem?_eq_getElem (by omega)⟩
            · rintro H2 ⟨⟨us, ku, lu⟩, ⟨ws, kw, lw⟩⟩
              rw [hl]
              exact ⟨us, ws, ku, kw, by omega, by omega, by omega⟩
            · intro θ' G' H' st' p g S' w
              obtain ⟨w1, w2⟩ := watch_app w
              obtain ⟨us, ku, ru⟩ := qa θ' G' H' st' p g S' w1
              obtain ⟨ws, kw, rw'⟩ := qb θ' G' H' st' p g S' w2
              exact ⟨⟨us, ku, ru.len⟩, ⟨ws, kw, rw'.len⟩⟩
            · rintro i x H2 H3 θ' G' st' hi p g S' w ⟨T, x2, y2, rfl, hT, rfl, hx, hy⟩
              obtain ⟨w1, w2⟩ := watch_app w
              obtain ⟨us, ku, ru⟩ := qa θ' G' H2 st' p g S' w1
              obtain ⟨ws, kw, rw'⟩ := qb θ' G' H2 st' p g S' w2
              obtain ⟨d1, e1', r1'⟩ := ru.at' (hx us ku)
              obtain ⟨d2, e2', r2'⟩ := rw'.at' (hy ws kw)
              refine ⟨_, Ext.newG S' hT _, S'.newG hT _, .tup [d1, d2], by simp [zipL, List.getElem?_zipWith, e1', e2'], ?_⟩
              exact .tup (.inl (.inl upd_same)) (.cons (r1'.ext (Ext.newG S' hT _)) (.cons (r2'.ext (Ext.newG S' hT _)) .nil))
      · cases h2
    · cases h2
/-! ### more built-ins -/
section
variable {K : Frag}
def fTup : FC := fun ds st => match ds with
  | [.tup es] => some (.tup es, st)
  | [d] => (sqD st d).map fun es => (.tup es, st)
  | _ => none
theorem s_tupc {X : Cx} : CallS X.K (fun xs H Q => ∃ p ys, xs = [.ref p] ∧ ((SqL X.K H p ys ∧ ∀ l, H l = none → Q (.ref l) (upd H l (.tup ys))) ∨ (SqT X.K H p ys ∧ Q (.ref p) H))) fTup := by
  intro θ G H st vs ds z st' Q S r h post
  unfold fTup at h
  split at h
  · cases h
    cases r with
    | cons r1 r2 =>
      cases r2
      cases r1 with
      | tup h1 h2 => exact ⟨_, _, rfl, .inr ⟨S.t h1, post.same S (.tup h1 h2)⟩⟩
  · obtain ⟨es, h1, h2⟩ := Option.map_eq_some_iff.mp h
    cases h2
    cases r with
    | cons r1 r2 =>
      cases r2
      obtain ⟨a, ws, rfl, h3, h4⟩ := sqD.ok S r1 h1
      exact ⟨_, _, rfl, .inl ⟨h3, fun l hl => post.newT S hl h4⟩⟩
  · cases h
def listItems (st : Sto) : D → Option (List D)
  | .tup es => some es
  | d => sqD st d
def fList : FC := fun ds st => match ds with
  | [d] => (listItems st d).map fun es => (.lst es, st)
  | _ => none
def fListN : FC := fun ds st => match ds with
  | [d] => (listItems st d).map fun es => (.ref st.length, st ++ [.lst es])
  | _ => none
theorem listItems.ok {θ : List Addr} {G H : Hp} {st : Sto} {v : V} {d : D} {es : List D} (S : Sim K θ G H st) (r : Rep K θ G v d) (h : listItems st d = some es) : ∃ p ys, v = .ref p ∧ (SqL K H p ys ∨ SqT K H p ys) ∧ Reps K θ G ys es := by
  have sq : sqD st d = some es → ∃ p ys, v = .ref p ∧ (SqL K H p ys ∨ SqT K H p ys) ∧ Reps K θ G ys es := fun e => by
    obtain ⟨a, ws, rfl, h3, h4⟩ := sqD.ok S r e
    exact ⟨a, ws, rfl, .inl h3, h4⟩
  cases d with
  | tup ds =>
    cases h
    cases r with
    | tup h1 h2 => exact ⟨_, _, rfl, .inr (S.t h1), h2⟩
  | _ => exact sq h
theorem s_list {X : Cx} : CallS X.K (fun xs H Q => ∃ p ys, xs = [.ref p] ∧ (SqL X.K H p ys ∨ SqT X.K H p ys) ∧ ∀ l, H l = none → Q (.ref l) (upd H l (.lst ys))) fList := by
  intro θ G H st vs ds z st' Q S r h post
  unfold fList at h
  split at h
  · obtain ⟨es, h1, h2⟩ := Option.map_eq_some_iff.mp h
    cases h2
    cases r with
    | cons r1 r2 =>
      cases r2
      obtain ⟨p, ys, rfl, h3, h4⟩ := listItems.ok S r1 h1
      exact ⟨p, ys, rfl, h3, fun l hl => post.newL S hl h4⟩
  · cases h
theorem s_listN {X : Cx} : CallS X.K (fun xs H Q => ∃ p ys, xs = [.ref p] ∧ (SqL X.K H p ys ∨ SqT X.K H p ys) ∧ ∀ l, H l = none → Q (.ref l) (upd H l (.lst ys))) fListN := by
  intro θ G H st vs ds z st' Q S r h post
  unfold fListN at h
  split at h
  · obtain ⟨es, h1, h2⟩ := Option.map_eq_some_iff.mp h
    cases h2
    cases r with
    | cons r1 r2 =>
      cases r2
      obtain ⟨p, ys, rfl, h3, h4⟩ := listItems.ok S r1 h1
      exact ⟨p, ys, rfl, h3, fun l hl => post.newM S hl h4⟩
  · cases h
/-- a list of ints -/
def intsD : List D → Option (List Int)
  | [] => some []
  | .int i :: ds => (intsD ds).map (i :: ·)
  | _ => none
theorem intsD.eq : ∀ {ds : List D} {ns : List Int}, intsD ds = some ns → ds = ns.map D.int
  | [], _, h => by cases h; rfl
  | .int i :: ds, _, h => by
    obtain ⟨ms, h1, rfl⟩ := Option.map_eq_some_iff.mp (show (intsD ds).map (i :: ·) = some _ from h)
    rw [intsD.eq h1]
    rfl
  | .non :: _, _, h => by cases h
  | .bl _ :: _, _, h => by cases h
  | .str _ :: _, _, h => by cases h
  | .tup _ :: _, _, h => by cases h
  | .lst _ :: _, _, h => by cases h
  | .sq _ :: _, _, h => by cases h
  | .ref _ :: _, _, h => by cases h
  | .adr _ :: _, _, h => by cases h
  | .ty _ :: _, _, h => by cases h
theorem intsD_map (ns : List Int) : intsD (ns.map D.int) = some ns := by
  induction ns with
  | nil => rfl
  | cons n ns ih => simp [intsD, ih]
def maxL : List Int → Option Int
  | [] => none
  | x :: xs => some (xs.foldl max x)
def minL : List Int → Option Int
  | [] => none
  | x :: xs => some (xs.foldl min x)
theorem foldl_max_mem : ∀ (xs : List Int) (x : Int), xs.foldl max x ∈ x :: xs ∧ ∀ y, y ∈ x :: xs → y ≤ xs.foldl max x
  | [], x => ⟨by simp, fun y hy => by simp at hy; simp [hy]⟩
  | z :: xs, x => by
    obtain ⟨h1, h2⟩ := foldl_max_mem xs (max x z)
    rw [List.foldl_cons]
    refine ⟨?_, fun y hy => ?_⟩
    · rcases List.mem_cons.mp h1 with h | h
      · rw [h]
        by_cases hc : x ≤ z
        · rw [Int.max_eq_right hc]; simp
        · rw [Int.max_eq_left (by omega)]; simp
      · exact List.mem_cons_of_mem _ (List.mem_cons_of_mem _ h)
    · rcases List.mem_cons.mp hy with rfl | hy
      · have := h2 (max y z) (by simp)
        omega
      · rcases List.mem_cons.mp hy with rfl | hy
        · have := h2 (max x y) (by simp)
          omega
        · exact h2 y (List.mem_cons_of_mem _ hy)
theorem foldl_min_mem : ∀ (xs : List Int) (x : Int), xs.foldl min x ∈ x :: xs ∧ ∀ y, y ∈ x :: xs → xs.foldl min x ≤ y
  | [], x => ⟨by simp, fun y hy => by simp at hy; simp [hy]⟩
  | z :: xs, x => by
    obtain ⟨h1, h2⟩ := foldl_min_mem xs (min x z)
    rw [List.foldl_cons]
    refine ⟨?_, fun y hy => ?_⟩
    · rcases List.mem_cons.mp h1 with h | h
      · rw [h]
        by_cases hc : x ≤ z
        · rw [Int.min_eq_left hc]; simp
        · rw [Int.min_eq_right (by omega)]; simp
      · exact List.mem_cons_of_mem _ (List.mem_cons_of_mem _ h)
    · rcases List.mem_cons.mp hy with rfl | hy
      · have := h2 (min y z) (by simp)
        omega
      · rcases List.mem_cons.mp hy with rfl | hy
        · have := h2 (min x y) (by simp)
          omega
        · exact h2 y (List.mem_cons_of_mem _ hy)
theorem max_is {ns : List Int} {m k : Int} (h : maxL ns = some k) (h1 : m ∈ ns) (h2 : ∀ y, y ∈ ns → y ≤ m) : m = k := by
  cases ns with
  | nil => cases h
  | cons x xs =>
    cases h
    obtain ⟨a, b⟩ := foldl_max_mem xs x
    have := h2 _ a
    have := b _ h1
    omega
theorem min_is {ns : List Int} {m k : Int} (h : minL ns = some k) (h1 : m ∈ ns) (h2 : ∀ y, y ∈ ns → m ≤ y) : m = k := by
  cases ns with
  | nil => cases h
  | cons x xs =>
    cases h
    obtain ⟨a, b⟩ := foldl_min_mem xs x
    have := h2 _ a
    have := b _ h1
    omega
def fMax : FC := fun ds st => match ds with
  | [d] => ((sqD st d).bind intsD).bind fun ns => (maxL ns).map fun m => (.int m, st)
  | _ => none
def fMin : FC := fun ds st => match ds with
  | [d] => ((sqD st d).bind intsD).bind fun ns => (minL ns).map fun m => (.int m, st)
  | _ => none
theorem s_max : CallS K (rMax K) fMax := by
  intro θ G H st vs ds z st' Q S r h post
  unfold fMax at h
  split at h
  · obtain ⟨ns, h1, h2⟩ := Option.bind_eq_some_iff.mp h
    obtain ⟨es, h3, h4⟩ := Option.bind_eq_some_iff.mp h1
    obtain ⟨m, h5, h6⟩ := Option.map_eq_some_iff.mp h2
    cases h6
    have h4 := intsD.eq h4
    subst h4
    cases r with
    | cons r1 r2 =>
      cases r2
      obtain ⟨a, ws, rfl, h7, h8⟩ := sqD.ok S r1 h3
      have e := h8.ints
      subst e
      refine ⟨a, ns, rfl, h7, ?_, fun k hk1 hk2 => ?_⟩
      · cases ns with
        | nil => cases h5
        | cons _ _ => simp
      · rw [max_is h5 hk1 hk2]
        exact post.same S (.int _)
  · cases h
theorem s_min : CallS K (rMin K) fMin := by
  intro θ G H st vs ds z st' Q S r h post
  unfold fMin at h
  split at h
  · obtain ⟨ns, h1, h2⟩ := Option.bind_eq_some_iff.mp h
    obtain ⟨es, h3, h4⟩ := Option.bind_eq_some_iff.mp h1
    obtain ⟨m, h5, h6⟩ := Option.map_eq_some_iff.mp h2
    cases h6
    have h4 := intsD.eq h4
    subst h4
    cases r with
    | cons r1 r2 =>
      cases r2
      obtain ⟨a, ws, rfl, h7, h8⟩ := sqD.ok S r1 h3
      have e := h8.ints
      subst e
      refine ⟨a, ns, rfl, h7, ?_, fun k hk1 hk2 => ?_⟩
      · cases ns with
        | nil => cases h5
        | cons _ _ => simp
      · rw [min_is h5 hk1 hk2]
        exact post.same S (.int _)
  · cases h
def fMax2 : FC := fun ds st => match ds with
  | [.int i, .int j] => some (.int (if j > i then j else i), st)
  | _ => none
def fMin2 : FC := fun ds st => match ds with
  | [.int i, .int j] => some (.int (if j < i then j else i), st)
  | _ => none
theorem s_max2 : CallS K (fun xs H Q => ∃ i j, xs = [.int i, .int j] ∧ Q (.int (if j > i then j else i)) H) fMax2 := by
  intro θ G H st vs ds z st' Q S r h post
  unfold fMax2 at h
  split at h
  · cases h
    cases r with
    | cons r1 r2 =>
      cases r2 with
      | cons r2 r3 => cases r1; cases r2; cases r3; exact ⟨_, _, rfl, post.same S (.int _)⟩
  · cases h
theorem s_min2 : CallS K (fun xs H Q => ∃ i j, xs = [.int i, .int j] ∧ Q (.int (if j < i then j else i)) H) fMin2 := by
  intro θ G H st vs ds z st' Q S r h post
  unfold fMin2 at h
  split at h
  · cases h
    cases r with
    | cons r1 r2 =>
      cases r2 with
      | cons r2 r3 => cases r1; cases r2; cases r3; exact ⟨_, _, rfl, post.same S (.int _)⟩
  · cases h
end
section
variable {X : Cx} {e e2 : Expr} {g : FA} {p pos : Pos}
theorem c_tupc (hg : Gl X "tuple") (hm : X.mg "tuple" = none) (ha : PA X [e] (tA X.K g)) (he : starEach [e] X.env = (false, eval e X.env) :: starEach [] X.env := by rfl) : PE X (.Call (.Name "tuple" p) [e] [] pos) (tE X.K (EC fTup g)) := c_ct call_tuple_of s_tupc hg hm (by decide +kernel) ha (by decide) (by decide) he
theorem c_listc (hg : Gl X "list") (hm : X.mg "list" = none) (ha : PA X [e] (tA X.K g)) (he : starEach [e] X.env = (false, eval e X.env) :: starEach [] X.env := by rfl) : PE X (.Call (.Name "list" p) [e] [] pos) (tE X.K (EC fList g)) := c_ct call_list_of s_list hg hm (by decide +kernel) ha (by decide) (by decide) he
theorem c_listN (hg : Gl X "list") (hm : X.mg "list" = none) (ha : PA X [e] (tA X.K g)) (he : starEach [e] X.env = (false, eval e X.env) :: starEach [] X.env := by rfl) : PE X (.Call (.Name "list" p) [e] [] pos) (tE X.K (EC fListN g)) := c_ct call_list_of s_listN hg hm (by decide +kernel) ha (by decide) (by decide) he
theorem c_max1 (hc : X.calm = true) (hg : Gl X "max") (hm : X.mg "max" = none) (ha : PA X [e] (tA X.K g)) (he : starEach [e] X.env = (false, eval e X.env) :: starEach [] X.env := by rfl) : PE X (.Call (.Name "max" p) [e] [] pos) (tE X.K (EC fMax g)) := c_cb (cr_max hc) s_max hg hm (by decide +kernel) ha (by decide) (by decide) he
theorem c_min1 (hc : X.calm = true) (hg : Gl X "min") (hm : X.mg "min" = none) (ha : PA X [e] (tA X.K g)) (he : starEach [e] X.env = (false, eval e X.env) :: starEach [] X.env := by rfl) : PE X (.Call (.Name "min" p) [e] [] pos) (tE X.K (EC fMin g)) := c_cb (cr_min hc) s_min hg hm (by decide +kernel) ha (by decide) (by decide) he
theorem c_max2 (hc : X.calm = true) (hg : Gl X "max") (hm : X.mg "max" = none) (ha : PA X [e, e2] (tA X.K g)) (he : starEach [e, e2] X.env = (false, eval e X.env) :: starEach [e2] X.env := by rfl) (hpl : (backTo pos (starEach [e2] X.env)).any (·.1) = false := by rfl) : PE X (.Call (.Name "max" p) [e, e2] [] pos) (tE X.K (EC fMax2 g)) := c_cb (call_max2 hc) s_max2 hg hm (by decide +kernel) ha (by decide) (by decide) he hpl
theorem c_min2 (hc : X.calm = true) (hg : Gl X "min") (hm : X.mg "min" = none) (ha : PA X [e, e2] (tA X.K g)) (he : starEach [e, e2] X.env = (false, eval e X.env) :: starEach [e2] X.env := by rfl) (hpl : (backTo pos (starEach [e2] X.env)).any (·.1) = false := by rfl) : PE X (.Call (.Name "min" p) [e, e2] [] pos) (tE X.K (EC fMin2 g)) := c_cb (call_min2 hc) s_min2 hg hm (by decide +kernel) ha (by decide) (by decide) he hpl
end

/-! ### sum, max, min of lists and tuples -/
section
variable {prog : Program} {w : World} {A : Around} {E : Value → Shared → Prop} {s : Shared} {l t : Addr} {its : List Value} {ns : List Int} {Q : Value → Shared → Prop} {xs : Array (Int × Tok)}
theorem sum_rawT (hh : A.handled = none) (hl : s.heap.IsTuple l its.toArray) (hi : IntsAre its ns)
    (h : ∀ h' tk t', (∀ b o, s.heap.get? b = some o → h'.get? b = some o) → Q (.int ns.sum t') { s with heap := h', toks := tk }) : wpAny (model prog w) A (call (.builtin "sum") [.ref l]) Q E s := by
  obtain ⟨xs, e⟩ := hi.allInts.items
  have hn : numsOf (intItems xs).toList = ns := by rw [← e]; exact hi.numsOf
  rw [nums_intItems] at hn
  rw [e] at hl
  refine PySem.W.ktm_sumG hh hl fun h' tk t' hk => ?_
  have := h h' tk t' hk
  rw [preSum_eq, List.take_of_length_le (by simp), hn]; exact this
theorem old_keptT {h' : Heap} (hk : ∀ b o, b ∉ [s.heap.objs.size] → (s.heap.push { cls := .type "tuple_iterator", data := .fields #[.ref l, .int 0 0] }).get? b = some o → h'.get? b = some o) :
    ∀ b o, s.heap.get? b = some o → h'.get? b = some o := fun b o e => by
  refine hk b o (fun hm => ?_) (Heap.get?_push_of_some _ e)
  rcases List.mem_cons.mp hm with e1 | hm
  · exact absurd (e1 ▸ Heap.lt_size e) (Nat.lt_irrefl _)
  · cases hm
theorem tup_fp (ht : s.heap.IsTuple t its.toArray) : ∀ b ∈ [s.heap.objs.size, t], b < (s.heap.push { cls := .type "tuple_iterator", data := .fields #[.ref t, .int 0 0] }).objs.size := fun b hb => by
  obtain ⟨o, ho, _⟩ := ht
  rcases List.mem_cons.mp hb with rfl | hb
  · exact Heap.lt_size (Heap.get?_push_size _ rfl)
  · obtain rfl := List.mem_singleton.mp hb
    exact Heap.lt_size (Heap.get?_push_of_some _ ho)
theorem max_rawT (hh : A.handled = none) (hl : s.heap.IsTuple l its.toArray) (hi : IntsAre its ns) (hne : 0 < ns.length)
    (h : ∀ h' tk M t', (∀ b o, s.heap.get? b = some o → h'.get? b = some o) → M ∈ ns → (∀ a, a ∈ ns → a ≤ M) → Q (.int M t') { s with heap := h', toks := tk }) : wpAny (model prog w) A (call (.builtin "max") [.ref l]) Q E s := by
  have hfp := tup_fp hl
  obtain ⟨xs, e⟩ := hi.allInts.items
  have hn : numsOf (intItems xs).toList = ns := by rw [← e]; exact hi.numsOf
  rw [nums_intItems] at hn
  subst hn
  rw [e] at hl
  have hsz : 0 < xs.size := by simpa using hne
  have hne' : l ≠ s.heap.objs.size := by obtain ⟨o, ho, _⟩ := id hl; exact Nat.ne_of_lt (Heap.lt_size ho)
  refine call_max_walk (wpAny_pyIter_tuple hl ?_)
  refine ⟨s.heap.objs.size, _, _, _, _, _, _, rfl, Walks.tuple (A := A.in1) hh s.heap.objs.size l hne' (intItems xs), ⟨⟨_, Heap.get?_push_size _ rfl, rfl, rfl⟩, hl.at fun o e => Heap.get?_push_of_some _ e⟩, hfp, by simpa [intItems] using hsz, CmpOf.ints_gt (numAt xs) (fun _ _ => intItems_at), fun v h' tk hv hk => ?_⟩
  have hv' : (intItems xs)[argBest (fun i j => decide (numAt xs i > numAt xs j)) (xs.size - 1)]? = some v := by simpa [intItems] using hv
  obtain ⟨t, rfl⟩ := intItems_at hv'
  obtain ⟨h1, h2⟩ := argBest_gt (numAt xs) (xs.size - 1)
  refine h h' tk _ t (old_keptT hk) ?_ fun a ha => ?_
  · rw [numAt_eq]; exact PySem.getD_mem (by rw [List.length_map, Array.length_toList]; omega)
  · obtain ⟨j, hj, rfl⟩ := mem_getD ha
    rw [List.length_map, Array.length_toList] at hj
    rw [← numAt_eq]; exact h2 j (by omega)
end
def SqA (K : Frag) (H : Hp) (a : Addr) (xs : List V) : Prop := SqL K H a xs ∨ SqT K H a xs
def rSumA (K : Frag) : List V → Hp → VK → Prop := fun vs H Q => ∃ (a : Addr) (ns : List Int), vs = [V.ref a] ∧ SqA K H a (ns.map V.int) ∧ Q (.int ns.sum) H
def rMaxA (K : Frag) : List V → Hp → VK → Prop := fun vs H Q => ∃ (a : Addr) (ns : List Int), vs = [V.ref a] ∧ SqA K H a (ns.map V.int) ∧ 0 < ns.length ∧ ∀ m, m ∈ ns → (∀ y, y ∈ ns → y ≤ m) → Q (.int m) H
section
variable {X : Cx} {K : Frag}
theorem cr_sumA (hc : X.calm = true) : CallR X (.builtin "sum") (rSumA X.K) := by
  intro pins s σ H vs us Q I r h
  obtain ⟨a, ns, rfl, hs, q⟩ := h
  rcases hs with hs | hs
  · exact cr_sum hc pins s σ H _ us Q I r ⟨a, ns, rfl, hs, q⟩
  · obtain ⟨its, rv, hl, _⟩ := I.tuple hs
    rw [Vals.ref1 r]
    exact sum_rawT (I.ok.hd hc) hl rv.ints fun h' tk t' hk => ⟨.int _, H, I.kept hk, ⟨_, rfl⟩, q⟩
theorem cr_maxA (hc : X.calm = true) : CallR X (.builtin "max") (rMaxA X.K) := by
  intro pins s σ H vs us Q I r h
  obtain ⟨a, ns, rfl, hs, hne, q⟩ := h
  rcases hs with hs | hs
  · exact cr_max hc pins s σ H _ us Q I r ⟨a, ns, rfl, hs, hne, q⟩
  · obtain ⟨its, rv, hl, _⟩ := I.tuple hs
    rw [Vals.ref1 r]
    exact max_rawT (I.ok.hd hc) hl rv.ints hne fun h' tk m t' hk h1 h2 => ⟨.int _, H, I.kept hk, ⟨_, rfl⟩, q m h1 h2⟩
theorem intsA {θ : List Addr} {G H : Hp} {st : Sto} {v : V} {d : D} {ns : List Int} (S : Sim K θ G H st) (r : Rep K θ G v d) (h : (listItems st d).bind intsD = some ns) : ∃ a, v = .ref a ∧ SqA K H a (ns.map V.int) := by
  obtain ⟨es, h3, h4⟩ := Option.bind_eq_some_iff.mp h
  have h4 := intsD.eq h4
  subst h4
  obtain ⟨a, ws, rfl, h7, h8⟩ := listItems.ok S r h3
  have e := h8.ints
  subst e
  exact ⟨a, rfl, h7⟩
def fSum : FC := fun ds st => match ds with
  | [d] => ((listItems st d).bind intsD).map fun ns => (.int ns.sum, st)
  | _ => none
theorem s_sum : CallS K (rSumA K) fSum := by
  intro θ G H st vs ds z st' Q S r h post
  unfold fSum at h
  split at h
  · obtain ⟨ns, h1, h2⟩ := Option.map_eq_some_iff.mp h
    cases h2
    cases r with
    | cons r1 r2 =>
      cases r2
      obtain ⟨a, rfl, h7⟩ := intsA S r1 h1
      exact ⟨a, ns, rfl, h7, post.same S (.int _)⟩
  · cases h
def fMaxA : FC := fun ds st => match ds with
  | [d] => ((listItems st d).bind intsD).bind fun ns => (maxL ns).map fun m => (.int m, st)
  | _ => none
theorem s_maxA : CallS K (rMaxA K) fMaxA := by
  intro θ G H st vs ds z st' Q S r h post
  unfold fMaxA at h
  split at h
  · obtain ⟨ns, h1, h2⟩ := Option.bind_eq_some_iff.mp h
    obtain ⟨m, h5, h6⟩ := Option.map_eq_some_iff.mp h2
    cases h6
    cases r with
    | cons r1 r2 =>
      cases r2
      obtain ⟨a, rfl, h7⟩ := intsA S r1 h1
      refine ⟨a, ns, rfl, h7, ?_, fun k hk1 hk2 => ?_⟩
      · cases ns with
        | nil => cases h5
        | cons _ _ => simp
      · rw [max_is h5 hk1 hk2]
        exact post.same S (.int _)
  · cases h
end
section
variable {X : Cx} {e e2 : Expr} {g : FA} {p pos : Pos}
theorem c_sum (hc : X.calm = true) (hg : Gl X "sum") (hm : X.mg "sum" = none) (ha : PA X [e] (tA X.K g)) (he : starEach [e] X.env = (false, eval e X.env) :: starEach [] X.env := by rfl) : PE X (.Call (.Name "sum" p) [e] [] pos) (tE X.K (EC fSum g)) := c_cb (cr_sumA hc) s_sum hg hm (by decide +kernel) ha (by decide) (by decide) he
theorem c_maxA (hc : X.calm = true) (hg : Gl X "max") (hm : X.mg "max" = none) (ha : PA X [e] (tA X.K g)) (he : starEach [e] X.env = (false, eval e X.env) :: starEach [] X.env := by rfl) : PE X (.Call (.Name "max" p) [e] [] pos) (tE X.K (EC fMaxA g)) := c_cb (cr_maxA hc) s_maxA hg hm (by decide +kernel) ha (by decide) (by decide) he
end
/-! ### index, extend -/
def idxL (p : PyData) : List PyData → Option Nat
  | [] => none
  | q :: qs => if PyData.eqv q p = true then some 0 else (idxL p qs).map (· + 1)
theorem idxL_ok {p : PyData} : ∀ {qs : List PyData} {j : Nat}, idxL p qs = some j → ∃ z, qs[j]? = some z ∧ PyData.eqv z p = true ∧ ∀ (m : Nat) (z' : PyData), m < j → qs[m]? = some z' → PyData.eqv z' p = false
  | [], _, h => by cases h
  | q :: qs, j, h => by
    unfold idxL at h
    split at h
    · rename_i hq
      cases h
      exact ⟨q, rfl, hq, fun m z' hm => absurd hm (Nat.not_lt_zero m)⟩
    · rename_i hq
      obtain ⟨i, h1, rfl⟩ := Option.map_eq_some_iff.mp h
      obtain ⟨z, h2, h3, h4⟩ := idxL_ok h1
      refine ⟨z, h2, h3, fun m z' hm hz => ?_⟩
      cases m with
      | zero => cases hz; exact Bool.eq_false_iff.mpr hq
      | succ m => exact h4 m z' (by omega) hz
def mIndex : FM := fun d ds st => match ds with
  | [y] => match pyD st d, pyD st y with
    | some (.list ps), some p => if SeqAt.shaped (.list ps) = true ∧ SeqAt.shaped p = true then (idxL p ps).map fun j => (.int (j : Nat), st) else none
    | _, _ => none
  | _ => none
theorem s_index {K : Frag} : MtS K (rIndexD K) mIndex := by
  intro θ G H st x d vs ds z st' Q S rx r h post
  unfold mIndex at h
  split at h
  · split at h
    · rename_i ps p h1 h2
      split at h
      · rename_i hs
        obtain ⟨j, h3, h4⟩ := Option.map_eq_some_iff.mp h
        cases h4
        obtain ⟨z, h5, h6, h7⟩ := idxL_ok h3
        cases r with
        | cons r1 r2 =>
          cases r2
          have hd := pyD.ok S rx h1
          obtain ⟨a, rfl⟩ : ∃ a, x = .ref a := by cases hd; exact ⟨_, rfl⟩
          exact ⟨a, _, p, ps, j, z, rfl, rfl, hd, pyD.ok S r1 h2, hs.1, hs.2, h5, h6, h7, post.same S (.int _)⟩
      · cases h
    · cases h
  · cases h
/-! ### slices -/
abbrev FO := Env → Sto → Option (Option Int × Sto)
def Onone : FO := fun _ st => some (none, st)
def Osome (f : FE) : FO := fun env st => (f env st).bind fun p => match p.1 with
  | .int i => some (some i, p.2)
  | _ => none
def cutL {α : Type} (xs : List α) (lo hi : Option Int) : List α := (xs.drop (HT.sIx xs.length 0 lo)).take (HT.sIx xs.length xs.length hi - HT.sIx xs.length 0 lo)
def slD (x : D) (lo hi : Option Int) (st : Sto) : Option (D × Sto) := match x with
  | .tup ds => some (.tup (cutL ds lo hi), st)
  | .str z => if z.length ≤ 16777216 then some (.str (cutS z lo hi), st) else none
  | d => (sqD st d).map fun ds => (.lst (cutL ds lo hi), st)
def Esl (fo : FE) (fl fh : FO) : FE := fun env st => (fo env st).bind fun p => (fl env p.2).bind fun q => (fh env q.2).bind fun r => slD p.1 q.1 r.1 r.2

/-! a slice's own rules -/
def tO (K : Frag) (f : FO) : TO := fun σ H Q => ∃ θ G env st o st', Sim K θ G H st ∧ EnvR K θ G σ env ∧ f env st = some (o, st') ∧ ∀ θ' G' H', Ext θ θ' G G' H H' → Sim K θ' G' H' st' → Q o H'
theorem poImp {X : Cx} {e : Option Expr} {t t' : TO} (h : PO X e t) (i : ∀ σ H Q, t' σ H Q → t σ H Q) : PO X e t' := ⟨fun pins s σ H Q I q => h.run pins s σ H Q I (i _ _ _ q)⟩
theorem o_none {X : Cx} : PO X none (tO X.K Onone) := poImp po_none fun σ H Q ⟨θ, G, env, st, o, st', S, EN, hf, post⟩ => by
  cases hf
  exact post _ _ _ .refl S
theorem o_some {X : Cx} {e : Expr} {f : FE} (h : PE X e (tE X.K f)) : PO X (some e) (tO X.K (Osome f)) := poImp (po_some h) fun σ H Q ⟨θ, G, env, st, o, st', S, EN, hf, post⟩ => by
  obtain ⟨⟨d, st1⟩, h1, h2⟩ := Option.bind_eq_some_iff.mp hf
  dsimp only at h2
  split at h2
  · cases h2
    refine tE.go S EN h1 fun θ1 G1 H1 v1 e1 S1 EN1 r1 => ?_
    cases r1
    exact ⟨_, rfl, post _ _ _ e1 S1⟩
  · cases h2
theorem Reps.cut {K : Frag} {θ : List Addr} {G : Hp} : ∀ {vs : List V} {ds : List D} (a b : Nat), Reps K θ G vs ds → Reps K θ G ((vs.drop a).take b) ((ds.drop a).take b)
  | [], _, a, b, r => by cases r; simp; exact .nil
  | v :: vs, d :: ds, 0, 0, r => by simp; exact .nil
  | v :: vs, d :: ds, 0, b + 1, r => by
    cases r with
    | cons r1 r2 => simpa using Reps.cons r1 (by simpa using Reps.cut 0 b r2)
  | v :: vs, d :: ds, a + 1, b, r => by
    cases r with
    | cons r1 r2 => simpa using Reps.cut a b r2
theorem cut_rep {K : Frag} {θ : List Addr} {G : Hp} {vs : List V} {ds : List D} (lo hi : Option Int) (r : Reps K θ G vs ds) : Reps K θ G (cutV vs lo hi) (cutL ds lo hi) := by
  unfold cutV cutL
  rw [r.len]
  exact r.cut _ _
theorem cutL_all {α : Type} {xs : List α} {lo hi : Option Int} (h1 : HT.sIx xs.length 0 lo = 0) (h2 : HT.sIx xs.length xs.length hi = xs.length) : cutL xs lo hi = xs := by
  unfold cutL
  rw [h1, h2, List.drop_zero, Nat.sub_zero, List.take_length]
def rSlAll (K : Frag) : V → Option Int → Option Int → Hp → VK → Prop := fun x lo hi H Q => (rSlL K x lo hi H Q ∨ rSlA K x lo hi H Q) ∨ rSlS x lo hi H Q
theorem sl_all {X : Cx} : SlR X (rSlAll X.K) := (sl_list.or sl_tupA).or sl_str
theorem c_sl {X : Cx} {e : Expr} {lo hi : Option Expr} {fo : FE} {fl fh : FO} {pos p2 : Pos} (he : PE X e (tE X.K fo)) (hl : PO X lo (tO X.K fl)) (hh : PO X hi (tO X.K fh)) : PE X (.Subscript e (.Slice lo hi none p2) pos) (tE X.K (Esl fo fl fh)) :=
  peImp (pe_slice sl_all he hl hh) fun σ H Q ⟨θ, G, env, st, d, st', S, EN, hf, post⟩ => by
    obtain ⟨⟨x, st1⟩, h1, hf⟩ := Option.bind_eq_some_iff.mp hf
    obtain ⟨⟨a, st2⟩, h2, hf⟩ := Option.bind_eq_some_iff.mp hf
    obtain ⟨⟨b, st3⟩, h3, hf⟩ := Option.bind_eq_some_iff.mp hf
    refine tE.go S EN h1 fun θ1 G1 H1 v1 e1 S1 EN1 r1 => ⟨_, _, _, _, _, _, S1, EN1, h2, fun θ2 G2 H2 e2 S2 => ⟨_, _, _, _, _, _, S2, EN1.ext e2, h3, fun θ3 G3 H3 e3 S3 => ?_⟩⟩
    have r3 := (r1.ext e2).ext e3
    have post' : PostE X.K θ3 G3 H3 st' d Q := fun θ' G' H' v e s r => post _ _ _ _ (((e1.trans S1 e2).trans S2 e3).trans S3 e) s r
    dsimp only at hf r3
    clear h1 r1
    unfold slD at hf
    split at hf
    · cases hf
      cases r3 with
      | @tup p vs ds g1 g2 =>
        refine .inl (.inr ⟨p, vs, rfl, S3.t g1, fun hw => ?_, fun hw q hq => post'.newT S3 hq (cut_rep a b g2)⟩)
        rw [g2.len] at hw
        rw [cutL_all hw.1 hw.2] at post'
        exact post'.same S3 (.tup g1 g2)
    · split at hf
      · rename_i hz
        cases hf
        cases r3
        exact .inr ⟨_, rfl, szl hz, post'.same S3 (.str _)⟩
      · cases hf
    · obtain ⟨ds, h4, h5⟩ := Option.map_eq_some_iff.mp hf
      cases h5
      obtain ⟨p, vs, rfl, h6, h7⟩ := sqD.ok S3 r3 h4
      exact .inl (.inl ⟨p, vs, rfl, h6, fun q hq => post'.newL S3 hq (cut_rep a b h7)⟩)
/-! ### reckoning, more -/
theorem toPys_ints (ns : List Int) : toPys (ns.map D.int) = some (ns.map PyData.int) := by
  induction ns with
  | nil => rfl
  | cons n ns ih =>
    show (toPy (.int n)).bind (fun p => (toPys (ns.map D.int)).map (p :: ·)) = _
    rw [ih]
    rfl
theorem shaped_tints (ns : List Int) : SeqAt.shaped (.tuple (ns.map PyData.int)) = true := by
  simp [SeqAt.shaped, PyData.canLay0, PyData.depth, PySem.W.ke_canLayAll0, PySem.W.ke_depthAll]
theorem eqv_ints : ∀ ns ms : List Int, PyData.eqvAll (ns.map PyData.int) (ms.map PyData.int) = decide (ns = ms)
  | [], [] => by simp [PyData.eqvAll]
  | [], _ :: _ => by simp [PyData.eqvAll]
  | _ :: _, [] => by simp [PyData.eqvAll]
  | n :: r, k :: q => by
    simp only [List.map_cons, PyData.eqvAll, PyData.eqv, eqv_ints r q]
    by_cases h : n = k <;> simp [h]
theorem idxL_ints : ∀ (ns : List Int) (j : Nat) (m : Int), ns[j]? = some m → (∀ i, i < j → ns[i]? ≠ some m) → idxL (.int m) (ns.map PyData.int) = some j
  | [], _, _, h, _ => by cases h
  | n :: ns, 0, m, h, _ => by
    cases h
    simp [idxL, PyData.eqv]
  | n :: ns, j + 1, m, h, hn => by
    have h0 := hn 0 (by omega)
    have e : ¬ (PyData.eqv (.int n) (.int m) = true) := fun q => h0 (by simp [PyData.eqv] at q; simp [q])
    simp only [List.map_cons, idxL]
    rw [if_neg e, idxL_ints ns j m h fun i hi => hn (i + 1) (by omega)]
    rfl
theorem maxL_of {ns : List Int} {m : Int} (h1 : m ∈ ns) (h2 : ∀ y, y ∈ ns → y ≤ m) : maxL ns = some m := by
  cases ns with
  | nil => cases h1
  | cons x xs =>
    have h : maxL (x :: xs) = some (xs.foldl max x) := rfl
    rw [h, max_is h h1 h2]
section
variable {env env' : Env} {st : Sto} {QE : D → Sto → Prop} {QS : Fl → Sto → Prop} {QI : List D → Watch → Sto → Prop} {g : FA} {fo : FE}
theorem any_ref {n : Nat} {ds : List D} (e : st[n]? = some (.lst ds)) : anyD st (.ref n) = some (false, ds) := by simp only [anyD, sqD, e, Option.map_some]
theorem li_ref {n : Nat} {ds : List D} (e : st[n]? = some (.lst ds)) : listItems st (.ref n) = some ds := by simp only [listItems, sqD, e]
def zipK (QI : List D → Watch → Sto → Prop) : List D → Sto → Prop := fun xs st1 => ∃ x y t a t' b, xs = [x, y] ∧ anyD st1 x = some (t, a) ∧ anyD st1 y = some (t', b) ∧ QI (zipL a b) (watchOf x a ++ watchOf y b) st1
theorem x_zip (h : wp (g env st) (zipK QI)) : wpI (Izip g env st) QI := by
  refine wpI_bind (h.mono fun d st1 q => ?_)
  obtain ⟨x, y, t, a, t', b, rfl, e1, e2, q⟩ := q
  exact ⟨_, _, _, by simp only [e1, e2], q⟩
theorem y_zip {x y : D} {t t' : Bool} {a b : List D} (e : anyD st x = some (t, a)) (f : anyD st y = some (t', b)) (h : QI (zipL a b) (watchOf x a ++ watchOf y b) st) : zipK QI [x, y] st := ⟨_, _, _, _, _, _, rfl, e, f, h⟩
theorem y_tbk {b : Bool} {A B : Prop} (e : b = true) (h : A) : if b = true then A else B := by rw [e]; exact h
theorem y_fbk {b : Bool} {A B : Prop} (e : b = false) (h : B) : if b = true then A else B := by rw [e]; exact h
theorem y_nn {d : D} {A B : Prop} (e : isNon d = false) (h : B) : if isNon d = true then A else B := by rw [e]; exact h
theorem y_ny {d : D} {A B : Prop} (e : isNon d = true) (h : A) : if isNon d = true then A else B := by rw [e]; exact h
theorem y_nnn {d : D} {A B : Prop} (e : isNon d = false) (h : A) : if (!isNon d) = true then A else B := by rw [e]; exact h
theorem y_nny {d : D} {A B : Prop} (e : isNon d = true) (h : B) : if (!isNon d) = true then A else B := by rw [e]; exact h
theorem z_tupT {ds : List D} (h : QE (.tup ds) st) : wp (fTup [.tup ds] st) QE := wp_some h
theorem z_tupL {ds : List D} (h : QE (.tup ds) st) : wp (fTup [.lst ds] st) QE := wp_some h
theorem z_tupQ {ds : List D} (h : QE (.tup ds) st) : wp (fTup [.sq ds] st) QE := wp_some h
theorem z_tupR {n : Nat} {ds : List D} (e : st[n]? = some (.lst ds)) (h : QE (.tup ds) st) : wp (fTup [.ref n] st) QE := ⟨_, _, by simp only [fTup, sqD, e, Option.map_some], h⟩
theorem z_lst {d : D} {ds : List D} (e : listItems st d = some ds) (h : QE (.lst ds) st) : wp (fList [d] st) QE := ⟨_, _, by simp only [fList, e, Option.map_some], h⟩
theorem z_lsn {d : D} {ds : List D} (e : listItems st d = some ds) (h : QE (.ref st.length) (st ++ [.lst ds])) : wp (fListN [d] st) QE := ⟨_, _, by simp only [fListN, e, Option.map_some], h⟩
theorem ints_ref {n : Nat} {ns : List Int} (e : st[n]? = some (.lst (ns.map D.int))) : (listItems st (.ref n)).bind intsD = some ns := by rw [li_ref e]; exact intsD_map ns
theorem ints_refD {n : Nat} {ds : List D} {ns : List Int} (e : st[n]? = some (.lst ds)) (f : intsD ds = some ns) : (listItems st (.ref n)).bind intsD = some ns := by rw [li_ref e]; exact f
theorem ints_tup {ns : List Int} : (listItems st (.tup (ns.map D.int))).bind intsD = some ns := intsD_map ns
theorem z_sum {d : D} {ns : List Int} (e : (listItems st d).bind intsD = some ns) (h : QE (.int ns.sum) st) : wp (fSum [d] st) QE := ⟨_, _, by simp only [fSum, e, Option.map_some], h⟩
theorem z_max {d : D} {ns : List Int} {m : Int} (e : (listItems st d).bind intsD = some ns) (e2 : maxL ns = some m) (h : QE (.int m) st) : wp (fMaxA [d] st) QE := ⟨_, _, by simp only [fMaxA, e, e2, Option.bind_some, Option.map_some], h⟩
theorem z_max2 {i j : Int} (h : QE (.int (if j > i then j else i)) st) : wp (fMax2 [.int i, .int j] st) QE := wp_some h
theorem z_min2 {i j : Int} (h : QE (.int (if j < i then j else i)) st) : wp (fMin2 [.int i, .int j] st) QE := wp_some h
theorem z_isi {T n : String} {d : D} {b : Bool} (e : tyN st d = some n) (e2 : kitB n T = some b) (h : QE (.bl b) st) : wp (fIsi [d, .ty T] st) QE := ⟨_, _, by simp only [fIsi, e, e2, Option.map_some], h⟩
theorem z_idxI {n : Nat} {ns : List Int} {m : Int} {j : Nat} (e : st[n]? = some (.lst (ns.map D.int))) (h1 : ns[j]? = some m) (h2 : ∀ i, i < j → ns[i]? ≠ some m) (h : QE (.int (j : Nat)) st) : wp (mIndex (.ref n) [.int m] st) QE := by
  refine ⟨_, _, ?_, h⟩
  have e1 : pyD st (.ref n) = some (.list (ns.map PyData.int)) := by simp only [pyD, e, toPys_ints, Option.map_some]
  have e2 : pyD st (.int m) = some (.int m) := rfl
  have e3 : SeqAt.shaped (.int m) = true := by simp [SeqAt.shaped, PyData.canLay0, PyData.depth]
  simp only [mIndex, e1, e2]
  rw [if_pos ⟨PySem.W.ke_shaped_ints ns, e3⟩, idxL_ints ns j m h1 h2]
  rfl
theorem z_eqTI {ns ms : List Int} (h : QE (.bl (decide (ns = ms))) st) : wp (eqD false (.tup (ns.map D.int)) (.tup (ms.map D.int)) st) QE := by
  refine ⟨_, _, ?_, h⟩
  have e1 : ∀ ns : List Int, pyD st (.tup (ns.map D.int)) = some (.tuple (ns.map PyData.int)) := fun ns => by
    show toPy (.tup (ns.map D.int)) = _
    show (toPys (ns.map D.int)).map PyData.tuple = _
    rw [toPys_ints]
    rfl
  simp only [eqD, e1]
  rw [if_pos ⟨shaped_tints ns, shaped_tints ms⟩]
  simp only [PyData.eqv, eqv_ints, Bool.false_eq_true, if_false]
theorem x_sl {fl fh : FO} (h : wp (fo env st) fun x st1 => wp (fl env st1) fun a st2 => wp (fh env st2) fun b st3 => wp (slD x a b st3) QE) : wp (Esl fo fl fh env st) QE := wp_bind (h.mono fun _ _ q => wp_bind (q.mono fun _ _ q => wp_bind q))
theorem x_on {Q : Option Int → Sto → Prop} (h : Q none st) : wp (Onone env st) Q := wp_some h
theorem x_os {Q : Option Int → Sto → Prop} {f : FE} (h : wp (f env st) fun d st1 => ∃ i, d = .int i ∧ Q (some i) st1) : wp (Osome f env st) Q := wp_bind (h.mono fun d st1 ⟨i, e, q⟩ => by subst e; exact wp_some q)
theorem z_slT {ds : List D} {a b : Option Int} (h : QE (.tup (cutL ds a b)) st) : wp (slD (.tup ds) a b st) QE := wp_some h
theorem z_slL {ds : List D} {a b : Option Int} (h : QE (.lst (cutL ds a b)) st) : wp (slD (.lst ds) a b st) QE := wp_some h
theorem z_slS {z : PySem.Str} {a b : Option Int} (hz : z.length ≤ 16777216) (h : QE (.str (cutS z a b)) st) : wp (slD (.str z) a b st) QE := wp_if hz (wp_some h)
theorem sIx_nn {n : Nat} {i d : Int} (h : 0 ≤ i) : HT.sIx n d.toNat (some i) = min i.toNat n := by
  simp only [HT.sIx]
  rw [if_neg (by omega)]
theorem cut_hi {α : Type} {xs : List α} {i : Int} (h : 0 ≤ i) : cutL xs none (some i) = xs.take i.toNat := by
  unfold cutL
  have e : HT.sIx xs.length 0 none = 0 := rfl
  have e2 : HT.sIx xs.length xs.length (some i) = min i.toNat xs.length := by
    simp only [HT.sIx]
    rw [if_neg (by omega)]
  rw [e, e2, List.drop_zero, Nat.sub_zero, List.take_eq_take_min]
  simp [Nat.min_comm]
end
section
variable {α : Type}
theorem set_map_range (f : Nat → α) (n k : Nat) (x : α) : ((List.range n).map f).set k x = (List.range n).map fun j => if j = k then x else f j := by
  apply List.ext_getElem?
  intro i
  rw [List.getElem?_set]
  simp only [List.length_map, List.length_range, List.getElem?_map]
  by_cases h : k = i
  · subst h
    by_cases h2 : k < n
    · simp [h2]
    · simp [h2]
  · rw [if_neg h]
    by_cases h2 : i < n
    · simp [h2, Ne.symm h]
    · simp [h2]
theorem at_map_range {f : Nat → α} {n : Nat} {i : Int} (h0 : 0 ≤ i) (h1 : i < (n : Nat)) : atI ((List.range n).map f) i = some (f i.toNat) := by
  have h2 : i.toNat < n := by omega
  exact atI_get h0 (by simp [h2])
end

/-! ### lists that are made to change; a list turned round; extend -/
def mulN : F2 := fun x y st => match y with
  | .int k => match lsD st x with
    | some ds => if -(2 ^ 63) ≤ k ∧ k < 2 ^ 63 ∧ ds.length * k.toNat ≤ 16777216 then some (.ref st.length, st ++ [.lst (List.replicate k.toNat ds).flatten]) else none
    | none => none
  | _ => none
theorem s_mulN {K : Frag} : Op2 K (rMulA K) mulN := by
  intro θ G H st x y d e z st' Q S rx ry h post
  unfold mulN at h
  split at h
  · split at h
    · rename_i ds hq
      split at h
      · rename_i hm
        cases h; cases ry
        obtain ⟨a, vs, rfl, h1, h2⟩ := lsD.ok S rx hq
        exact .inr (.inr (.inl ⟨_, _, vs, rfl, rfl, h1, hm.1, hm.2.1, by rw [h2.len]; exact szl hm.2.2, fun p hp => post.newM S hp (h2.rep _)⟩))
      · cases h
    · cases h
  · cases h
def addN : F2 := fun x y st => match lsD st x, lsD st y with
  | some a, some b => if a.length + b.length ≤ 16777216 then some (.ref st.length, st ++ [.lst (a ++ b)]) else none
  | _, _ => none
theorem s_addN {K : Frag} : Op2 K (rAddA K) addN := by
  intro θ G H st x y d e z st' Q S rx ry h post
  unfold addN at h
  split at h
  · rename_i a b ha hb
    split at h
    · rename_i hl
      cases h
      obtain ⟨p, vs, rfl, h1, h2⟩ := lsD.ok S rx ha
      obtain ⟨q, ws, rfl, h3, h4⟩ := lsD.ok S ry hb
      exact .inr (.inr (.inr ⟨_, _, _, _, rfl, rfl, h1, h3, by rw [h2.len, h4.len]; exact szl hl, fun p hp => post.newM S hp (h2.append h4)⟩))
    · cases h
  · cases h
def revD (x : D) (st : Sto) : Option (D × Sto) := (sqD st x).map fun ds => (.lst ds.reverse, st)
theorem Reps.rev {K : Frag} {θ : List Addr} {G : Hp} {vs : List V} {ds : List D} (r : Reps K θ G vs ds) : Reps K θ G vs.reverse ds.reverse := by
  induction vs generalizing ds with
  | nil => cases r; exact .nil
  | cons v vs ih =>
    cases r with
    | cons r1 r2 =>
      rw [List.reverse_cons, List.reverse_cons]
      exact (ih r2).append (.cons r1 .nil)
def mExt : FM := fun d ds st => match d, ds with
  | .ref n, [y] => match st[n]?, lsD st y with
    | some (.lst es), some zs => if es.length + zs.length ≤ 16777216 then some (.non, st.set n (.lst (es ++ zs))) else none
    | _, _ => none
  | _, _ => none
theorem s_ext {K : Frag} : MtS K rExtend mExt := by
  intro θ G H st x d vs ds z st' Q S rx r h post
  unfold mExt at h
  split at h
  · split at h
    · rename_i es zs he hz
      split at h
      · rename_i hl
        cases h
        cases rx with
        | ref h1 =>
          obtain ⟨o, h2, h3⟩ := S.at h1
          rw [he] at h2
          cases h2
          obtain ⟨ws, h4, h5⟩ := h3
          cases r with
          | cons r1 r2 =>
            cases r2
            obtain ⟨b, us, rfl, h6, h7⟩ := lsD.ok S r1 hz
            exact ⟨_, b, ws, us, rfl, rfl, h4, h6, by rw [h5.len, h7.len]; exact szl hl, post _ _ _ _ (Ext.set S h1 _) (S.set h1 (h5.append h7)) .non⟩
      · cases h
    · cases h
  · cases h
section
variable {X : Cx} {a b : Expr} {fa fb : FE} {pos : Pos}
theorem c_mulN (ha : PE X a (tE X.K fa)) (hb : PE X b (tE X.K fb)) : PE X (.BinOp a .Mult b pos) (tE X.K (E2 mulN fa fb)) := c_op o_mul s_mulN ha hb
theorem c_addN (ha : PE X a (tE X.K fa)) (hb : PE X b (tE X.K fb)) : PE X (.BinOp a .Add b pos) (tE X.K (E2 addN fa fb)) := c_op o_add s_addN ha hb
theorem c_rev {k : Nat} {p1 p2 p3 : Pos} (ha : PE X a (tE X.K fa)) : PE X (.Subscript a (.Slice none none (some (.UnaryOp .USub (.Constant (.int 1) k p1) p2)) p3) pos) (tE X.K (E1 revD fa)) :=
  peImp (pe_revL ha) fun σ H Q ⟨θ, G, env, st, d, st', S, EN, hf, post⟩ => by
    obtain ⟨⟨x, st1⟩, h1, h2⟩ := Option.bind_eq_some_iff.mp hf
    obtain ⟨ds, h3, h4⟩ := Option.map_eq_some_iff.mp h2
    cases h4
    refine tE.go S EN h1 fun θ1 G1 H1 v1 e1 S1 EN1 r1 => ?_
    obtain ⟨p, vs, rfl, h5, h6⟩ := sqD.ok S1 r1 h3
    exact ⟨p, vs, rfl, h5, fun q hq => PostE.newL (fun θ' G' H' v e s r => post _ _ _ _ (e1.trans S1 e) s r) S1 hq h6.rev⟩
end
section
variable {st : Sto} {QE : D → Sto → Prop}
theorem z_mulN {x : D} {k : Int} {ds : List D} (e : lsD st x = some ds) (h1 : -(2 ^ 63) ≤ k ∧ k < 2 ^ 63 ∧ ds.length * k.toNat ≤ 16777216) (h : QE (.ref st.length) (st ++ [.lst (List.replicate k.toNat ds).flatten])) : wp (mulN x (.int k) st) QE := ⟨_, _, by simp only [mulN, e]; exact if_pos h1, h⟩
theorem z_addL {a b : List D} (hl : a.length + b.length ≤ 16777216) (h : QE (.lst (a ++ b)) st) : wp (addD (.lst a) (.lst b) st) QE := ⟨_, _, by simp only [addD, lsD]; exact if_pos hl, h⟩
theorem z_revR {n : Nat} {ds : List D} (e : st[n]? = some (.lst ds)) (h : QE (.lst ds.reverse) st) : wp (revD (.ref n) st) QE := ⟨_, _, by simp only [revD, sqD, e, Option.map_some], h⟩
theorem z_ext {n : Nat} {y : D} {es zs : List D} {st' : Sto} (e : st[n]? = some (.lst es)) (e2 : lsD st y = some zs) (hl : es.length + zs.length ≤ 16777216) (e3 : st.set n (.lst (es ++ zs)) = st') (h : QE .non st') : wp (mExt (.ref n) [y] st) QE := ⟨_, _, by simp only [mExt, e, e2]; exact if_pos hl, by rw [e3]; exact h⟩
end

/-! ### str of an int; texts in a row -/
def fStr : FC := fun ds st => match ds with
  | [.int i] => if i.natAbs.log2 < 1920 then some (.str (toString i), st) else none
  | _ => none
theorem s_str {K : Frag} : CallS K (fun xs H Q => ∃ i, xs = [.int i] ∧ i.natAbs.log2 < 1920 ∧ Q (.str (toString i)) H) fStr := by
  intro θ G H st vs ds z st' Q S r h post
  unfold fStr at h
  split at h
  · split at h
    · rename_i hl
      cases h
      cases r with
      | cons r1 r2 =>
        cases r2
        cases r1
        exact ⟨_, rfl, hl, post.same S (.str _)⟩
    · cases h
  · cases h
section
variable {X : Cx} {e : Expr} {g : FA} {p pos : Pos}
theorem c_strc (hg : Gl X "str") (hm : X.mg "str" = none) (ha : PA X [e] (tA X.K g)) (he : starEach [e] X.env = (false, eval e X.env) :: starEach [] X.env := by rfl) : PE X (.Call (.Name "str" p) [e] [] pos) (tE X.K (EC fStr g)) := c_ct call_str_int s_str hg hm (by decide +kernel) ha (by decide) (by decide) he
end
theorem small_str : ∀ n : Nat, n < 64 → n.log2 < 1920 ∧ (Str.ofString (toString (n : Int))).length ≤ 3 := by decide +kernel
def strsD : List D → Option (List PySem.Str)
  | [] => some []
  | .str z :: ds => (strsD ds).map (z :: ·)
  | _ => none
theorem strsD.eq : ∀ {ds : List D} {zs : List PySem.Str}, strsD ds = some zs → ds = zs.map D.str
  | [], _, h => by cases h; rfl
  | .str i :: ds, _, h => by
    obtain ⟨ms, h1, rfl⟩ := Option.map_eq_some_iff.mp (show (strsD ds).map (i :: ·) = some _ from h)
    rw [strsD.eq h1]
    rfl
  | .non :: _, _, h => by cases h
  | .bl _ :: _, _, h => by cases h
  | .int _ :: _, _, h => by cases h
  | .tup _ :: _, _, h => by cases h
  | .lst _ :: _, _, h => by cases h
  | .sq _ :: _, _, h => by cases h
  | .ref _ :: _, _, h => by cases h
  | .adr _ :: _, _, h => by cases h
  | .ty _ :: _, _, h => by cases h
section
variable {st : Sto} {QE : D → Sto → Prop}
theorem z_strI {i : Int} (h0 : 0 ≤ i) (h1 : i < 64) (h : ∀ z : PySem.Str, z.length ≤ 3 → QE (.str z) st) : wp (fStr [.int i] st) QE := by
  obtain ⟨n, rfl⟩ : ∃ n : Nat, i = (n : Int) := ⟨i.toNat, by omega⟩
  obtain ⟨a, b⟩ := small_str n (by omega)
  exact ⟨_, _, if_pos a, h _ b⟩
theorem z_eqP {a b c d : Int} (h : QE (.bl (decide ([a, b] = [c, d]))) st) : wp (eqD false (.tup [.int a, .int b]) (.tup [.int c, .int d]) st) QE := z_eqTI (ns := [a, b]) (ms := [c, d]) h
theorem z_slR {n : Nat} {ds : List D} {a b : Option Int} (e : st[n]? = some (.lst ds)) (h : QE (.lst (cutL ds a b)) st) : wp (slD (.ref n) a b st) QE := ⟨_, _, by simp only [slD, sqD, e, Option.map_some], h⟩
end
theorem cut_lo {α : Type} {xs : List α} {i : Int} (h : 0 ≤ i) : cutL xs (some i) none = xs.drop i.toNat := by
  unfold cutL
  have e : HT.sIx xs.length 0 (some i) = min i.toNat xs.length := by
    simp only [HT.sIx]
    rw [if_neg (by omega)]
  have e2 : HT.sIx xs.length xs.length none = xs.length := rfl
  rw [e, e2]
  by_cases hl : i.toNat ≤ xs.length
  · rw [Nat.min_eq_left hl, ← List.length_drop, List.take_length]
  · rw [Nat.min_eq_right (by omega), List.drop_length, List.take_nil, List.drop_eq_nil_of_le (by omega)]
theorem y_tb {b : Bool} {A B : Prop} (e : b = true) (h : A) : if b = true then A else B := by rw [e]; exact h
theorem y_fb {b : Bool} {A B : Prop} (e : b = false) (h : B) : if b = true then A else B := by rw [e]; exact h
/-! ### in -/
theorem toPys_strs (zs : List PySem.Str) : toPys (zs.map D.str) = some (zs.map PyData.str) := by
  induction zs with
  | nil => rfl
  | cons n ns ih =>
    show (toPy (.str n)).bind (fun p => (toPys (ns.map D.str)).map (p :: ·)) = _
    rw [ih]
    rfl
theorem lay_strs : ∀ zs : List PySem.Str, zs.all PyData.strOk = true → PyData.canLayAll0 (zs.map PyData.str) = true ∧ PyData.depthAll (zs.map PyData.str) = 0
  | [], _ => ⟨rfl, rfl⟩
  | z :: zs, h => by
    rw [List.all_cons, Bool.and_eq_true] at h
    simp [PyData.canLayAll0, PyData.canLay0, PyData.depthAll, PyData.depth, lay_strs zs h.2, h.1]
theorem any_ints (m : Int) : ∀ ns : List Int, ((ns.map PyData.int).any fun z => PyData.eqv z (.int m)) = decide (m ∈ ns)
  | [] => by simp
  | n :: ns => by
    rw [List.map_cons, List.any_cons, any_ints m ns]
    by_cases h : n = m
    · subst h; simp [PyData.eqv]
    · have h' : m ≠ n := fun e => h e.symm
      simp [PyData.eqv, h, h']
theorem any_strs (m : PySem.Str) : ∀ ns : List PySem.Str, ((ns.map PyData.str).any fun z => PyData.eqv z (.str m)) = decide (m ∈ ns)
  | [] => by simp
  | n :: ns => by
    rw [List.map_cons, List.any_cons, any_strs m ns]
    by_cases h : n = m
    · subst h; simp [PyData.eqv]
    · have h' : m ≠ n := fun e => h e.symm
      simp [PyData.eqv, h, h']
section
variable {st : Sto} {QE : D → Sto → Prop}
theorem sh_int (m : Int) : SeqAt.shaped (.int m) = true := by simp [SeqAt.shaped, PyData.canLay0, PyData.depth]
theorem sh_str {m : PySem.Str} (h : PyData.strOk m = true) : SeqAt.shaped (.str m) = true := by simp [SeqAt.shaped, PyData.canLay0, PyData.depth, h]
theorem sh_strs {zs : List PySem.Str} (h : zs.all PyData.strOk = true) : SeqAt.shaped (.list (zs.map PyData.str)) = true := by simp [SeqAt.shaped, PyData.canLay0, PyData.depth, lay_strs zs h]
theorem z_inI {m : Int} {ns : List Int} (h : QE (.bl (decide (m ∈ ns))) st) : wp (inD false (.int m) (.lst (ns.map D.int)) st) QE := by
  refine ⟨_, _, ?_, h⟩
  have e1 : pyD st (.int m) = some (.int m) := rfl
  have e2 : (pyD st (.lst (ns.map D.int))).bind seqPy = some (ns.map PyData.int) := by
    show ((toPys (ns.map D.int)).map PyData.list).bind seqPy = _
    rw [toPys_ints]
    rfl
  simp only [inD, e1, e2]
  rw [if_pos ⟨sh_int m, PySem.W.ke_shaped_ints ns⟩, any_ints]
  simp only [Bool.false_eq_true, if_false]
theorem z_inT {m : PySem.Str} {zs : List PySem.Str} (hm : PyData.strOk m = true) (hz : zs.all PyData.strOk = true) (h : QE (.bl (decide (m ∈ zs))) st) : wp (inD false (.str m) (.tup (zs.map D.str)) st) QE := by
  refine ⟨_, _, ?_, h⟩
  have e1 : pyD st (.str m) = some (.str m) := rfl
  have e2 : (pyD st (.tup (zs.map D.str))).bind seqPy = some (zs.map PyData.str) := by
    show ((toPys (zs.map D.str)).map PyData.tuple).bind seqPy = _
    rw [toPys_strs]
    rfl
  simp only [inD, e1, e2]
  rw [if_pos ⟨sh_str hm, sh_strs hz⟩, any_strs]
  simp only [Bool.false_eq_true, if_false]
end
theorem z_inG {st : Sto} {QE : D → Sto → Prop} {m : PySem.Str} {ds : List D} {zs : List PySem.Str} (e : strsD ds = some zs) (hm : PyData.strOk m = true) (hz : zs.all PyData.strOk = true) (h : QE (.bl (decide (m ∈ zs))) st) : wp (inD false (.str m) (.tup ds) st) QE := by
  rw [strsD.eq e]
  exact z_inT hm hz h
theorem down_at {hi : Int} {n i : Nat} {x : D} (h : (downL hi n)[i]? = some x) : i < n ∧ x = .int (hi + (i : Nat) * (-1)) := by
  unfold downL at h
  rw [List.getElem?_map] at h
  obtain ⟨c, h3, h4⟩ := Option.map_eq_some_iff.mp h
  have h5 := List.getElem?_eq_some_iff.mp h3
  obtain ⟨h6, h7⟩ := h5
  rw [List.length_range] at h6
  rw [List.getElem_range] at h7
  subst h7
  exact ⟨h6, h4.symm⟩
theorem down_len {hi : Int} {n : Nat} : (downL hi n).length = n := by simp [downL]

/-! ### a dict of the module, read by a text; a def called by a name of the def's own -/
def tabD (T : List (PySem.Str × D)) (x : D) (st : Sto) : Option (D × Sto) := match x with
  | .str z => (T.lookup z).map fun d => (d, st)
  | _ => none
def DctOk (K : Frag) (w : World) (a : Addr) (T : List (PySem.Str × D)) : Prop := ∀ z d, T.lookup z = some d → ∃ v, KDct K w a z v ∧ ∀ θ G, Rep K θ G v d
theorem DctOk.nil {K : Frag} {w : World} {a : Addr} : DctOk K w a [] := fun z d h => by cases h
theorem DctOk.cons {K : Frag} {w : World} {a : Addr} {T : List (PySem.Str × D)} {z : PySem.Str} {d : D} {v : V} {u : Value} {es : Array DictEntry} {n : Nat} (hl : K.lookup a = some ⟨.type "dict", none, .dict es n, #[]⟩) (hk : PySem.W.KeysLit w.params es.toList)
    (e : PySem.W.nsIn K a z = some (some u)) (r : RelV v u) (rd : ∀ θ G, Rep K θ G v d) (h : DctOk K w a T) : DctOk K w a ((z, d) :: T) := fun y c hy => by
  rw [List.lookup_cons] at hy
  split at hy
  · rename_i hb
    cases hy
    have : y = z := by simpa using hb
    subst this
    exact ⟨v, ⟨es, n, u, hl, hk, e, r⟩, rd⟩
  · exact h y c hy
def Ecv (i : Nat) (T : List (PySem.Str × FC)) (g : FA) : FE := fun env st => match env[i]? with
  | some (some (.adr n)) => match T.lookup n with
    | some m => EC m g env st
    | none => none
  | _ => none
def CallOk (X : Cx) (n : PySem.Str) (m : FC) : Prop := ∃ f k fd ps np m', m = arN np m' ∧ FnOk X.prog X.w X.K X.mg X.base CX0 k f fd ps (spF X.K np m') ∧ Room k X.A ∧ PySem.W.nsIn X.K PySem.mainGlobals n = some (some (.ref f)) ∧ PySem.W.keepIn X.K (.ref f) = true ∧ Binds X.K fd ps []
theorem CallOk.nil {X : Cx} : ∀ n m, ([] : List (PySem.Str × FC)).lookup n = some m → CallOk X n m := fun n m h => by cases h
theorem CallOk.cons {X : Cx} {T : List (PySem.Str × FC)} {z : PySem.Str} {f : Addr} {k : Nat} {fd : FuncData} {ps : List PySem.Str} {np : Nat} {m' : FC} (F : FnOk X.prog X.w X.K X.mg X.base CX0 k f fd ps (spF X.K np m')) (hr : Room k X.A) (e : PySem.W.nsIn X.K PySem.mainGlobals z = some (some (.ref f)))
    (hk : PySem.W.keepIn X.K (.ref f) = true) (hb : Binds X.K fd ps []) (h : ∀ n m, T.lookup n = some m → CallOk X n m) : ∀ n m, ((z, arN np m') :: T).lookup n = some m → CallOk X n m := fun y c hy => by
  rw [List.lookup_cons] at hy
  split at hy
  · rename_i hb2
    cases hy
    have : y = z := by simpa using hb2
    subst this
    exact ⟨f, k, fd, ps, np, m', rfl, F, hr, e, hk, hb⟩
  · exact h y c hy
section
variable {X : Cx} {b e : Expr} {es : List Expr} {fb : FE} {g : FA} {p pos : Pos} {x : PySem.Str}
theorem c_tab {T : List (PySem.Str × D)} (hg : Gl X x) (hm : ∃ a, X.mg x = some (.ref a) ∧ DctOk X.K X.w a T) (hb : PE X b (tE X.K fb)) (hd : (x == ("__debug__" : PySem.Str)) = false := by decide) (hs : PlainIx b := by exact fun _ _ => rfl) : PE X (.Subscript (.Name x p) b pos) (tE X.K (E1 (tabD T) fb)) := by
  obtain ⟨a, hm, ht⟩ := hm
  refine peImp (pe_ix ix_kdict (pe_glob hg hm (v := .ref a) rfl hd) hb hs) fun σ H Q ⟨θ, G, env, st, d, st', S, EN, hf, post⟩ => ?_
  obtain ⟨⟨y, st1⟩, h1, h2⟩ := Option.bind_eq_some_iff.mp hf
  refine tE.go S EN h1 fun θ1 G1 H1 v1 e1 S1 EN1 r1 => ?_
  dsimp only at h2
  unfold tabD at h2
  split at h2
  · obtain ⟨c, h3, h4⟩ := Option.map_eq_some_iff.mp h2
    cases h4
    obtain ⟨v, kd, r⟩ := ht _ _ h3
    cases r1
    exact ⟨a, _, v, rfl, rfl, kd, post _ _ _ _ e1 S1 (r θ1 G1)⟩
  · cases h2
theorem c_callv (i : Nat) {T : List (PySem.Str × FC)} (hT : ∀ n m, T.lookup n = some m → CallOk X n m) (ha : PA X (e :: es) (tA X.K g)) (hN : X.N[i]? = some x := by rfl) (hv : Vis X.env.scope x := by first | exact Or.inl rfl | exact Or.inr (Or.inl rfl) | exact Or.inr (Or.inr rfl))
    (hdb : (x == ("__debug__" : PySem.Str)) = false := by decide) (hcd : (x == ("__classdict__" : PySem.Str)) = false := by decide)
    (he : starEach (e :: es) X.env = (false, eval e X.env) :: starEach es X.env := by rfl) (hpl : (backTo pos (starEach es X.env)).any (·.1) = false := by rfl) : PE X (.Call (.Name x p) (e :: es) [] pos) (tE X.K (Ecv i T g)) := by
  refine ⟨fun pins s σ H Q I h => ?_⟩
  obtain ⟨θ, G, env, st, d, st', S, EN, hf, post⟩ := h
  unfold Ecv at hf
  split at hf
  · rename_i n hn
    split at hf
    · rename_i m hm
      obtain ⟨f, k, fd, ps, np, m', rfl, F, hr, e0, hk, hb⟩ := hT _ _ hm
      obtain ⟨v, hv1, hv2⟩ := EN.2 _ _ hn
      cases hv2 with
      | adr e1 =>
        rw [e0] at e1
        cases e1
        exact (pe_callL (sp_ar F) hr hN hv hk hb .nil pass0 ha hdb hcd he hpl).run pins s σ H Q I ⟨hv1, goF arN.len ⟨θ, G, env, st, d, st', S, EN, hf, post⟩⟩
    · cases hf
  · cases hf
end
section
variable {env : Env} {st : Sto} {QE : D → Sto → Prop} {g : FA}
theorem z_tab {T : List (PySem.Str × D)} {z : PySem.Str} {d : D} (e : T.lookup z = some d) (h : QE d st) : wp (tabD T (.str z) st) QE := ⟨_, _, by simp only [tabD, e, Option.map_some], h⟩
theorem x_cv {i : Nat} {T : List (PySem.Str × FC)} {n : PySem.Str} {m : FC} (e1 : env[i]? = some (some (.adr n))) (e2 : T.lookup n = some m) (h : wp (EC m g env st) QE) : wp (Ecv i T g env st) QE := by
  unfold Ecv
  rw [e1]
  dsimp only
  rw [e2]
  exact h
end

/-! ### list(range(n)) -/
def lrgD (x : D) (st : Sto) : Option (D × Sto) := match x with
  | .int n => if 0 ≤ n ∧ n ≤ 16777216 then some (.lst (rangeL 0 n.toNat), st) else none
  | _ => none
theorem reps_range {K : Frag} {θ : List Addr} {G : Hp} (b : Int) : Reps K θ G (rgV 0 b) (rangeL 0 b.toNat) := by
  unfold rgV rangeL
  rw [Int.sub_zero]
  have key : ∀ l : List Nat, Reps K θ G (l.map fun i => V.int (0 + (i : Nat))) (l.map fun i => D.int (0 + (i : Nat))) := fun l => by
    induction l with
    | nil => exact .nil
    | cons x l ih => exact .cons (.int _) ih
  exact key _
section
variable {X : Cx} {e : Expr} {fe : FE} {p p2 pos pos2 : Pos}
theorem c_lrg (hc : X.calm = true) (hg : Gl X "list") (hm : X.mg "list" = none) (hg2 : Gl X "range") (hm2 : X.mg "range" = none) (he : PE X e (tE X.K fe)) (na : starEach [e] X.env = (false, eval e X.env) :: starEach [] X.env := by rfl)
    (na2 : starEach [.Call (.Name "range" p2) [e] [] pos2] X.env = (false, eval (.Call (.Name "range" p2) [e] [] pos2) X.env) :: starEach [] X.env := by rfl) : PE X (.Call (.Name "list" p) [.Call (.Name "range" p2) [e] [] pos2] [] pos) (tE X.K (E1 lrgD fe)) :=
  peImp (pe_listRg hc hg hm (prg_1 hg2 hm2 he na) na2) fun σ H Q ⟨θ, G, env, st, d, st', S, EN, hf, post⟩ => by
    obtain ⟨⟨x, st1⟩, h1, h2⟩ := Option.bind_eq_some_iff.mp hf
    dsimp only at h2
    unfold lrgD at h2
    split at h2
    · split at h2
      · rename_i hb
        cases h2
        refine tE.go S EN h1 fun θ1 G1 H1 v1 e1 S1 EN1 r1 => ?_
        cases r1
        exact ⟨_, rfl, RgOk.of_le (by decide) hb.2 (by decide) hb.1, fun q hq => PostE.newL (fun θ' G' H' v e s r => post _ _ _ _ (e1.trans S1 e) s r) S1 hq (reps_range _)⟩
      · cases h2
    · cases h2
end
theorem z_lrg {st : Sto} {QE : D → Sto → Prop} {n : Int} (h0 : 0 ≤ n ∧ n ≤ 16777216) (h : QE (.lst (rangeL 0 n.toNat)) st) : wp (lrgD (.int n) st) QE := wp_if h0 (wp_some h)
end ML
set_option Elab.async false
set_option linter.all false
set_option maxRecDepth 100000
set_option maxHeartbeats 4000000
namespace ML
open PySem PySem.Spec PyProof.Rows L2
/-! ## lists by place -/
abbrev ix (l : Nat) (f : Nat → Int) : List D := (List.range l).map fun k => .int (f k)
abbrev mx (r c : Nat) (f : Nat → Nat → Int) : D := .tup ((List.range r).map fun i => .tup ((List.range c).map fun j => .int (f i j)))
abbrev sm (l : Nat) (f : Nat → Int) : Int := ((List.range l).map f).sum
abbrev smf (l : Nat) (p : Nat → Bool) (f : Nat → Int) : Int := (((List.range l).filter p).map f).sum
section
variable {st : Sto} {env : Env} {QE : D → Sto → Prop} {QA : List D → Sto → Prop} {QI : List D → Watch → Sto → Prop} {l l' r c : Nat} {F G : Nat → D} {f g : Nat → Int}
theorem len_R : ((List.range l).map F).length = l := by simp
theorem z_lenTR (h : QE (.int (l : Int)) st) : wp (fLen [.tup ((List.range l).map F)] st) QE := z_lenT (by rw [len_R]; exact h)
theorem z_lenLR (h : QE (.int (l : Int)) st) : wp (fLen [.lst ((List.range l).map F)] st) QE := z_lenL (by rw [len_R]; exact h)
theorem z_ixTR {i : Int} (h0 : 0 ≤ i ∧ i < (l : Nat)) (h : QE (F i.toNat) st) : wp (ixD (.tup ((List.range l).map F)) (.int i) st) QE := z_ixT (at_map_range h0.1 h0.2) h
theorem z_ixTN {i : Nat} (h0 : i < l) (h : QE (F i) st) : wp (ixD (.tup ((List.range l).map F)) (.int (i : Int)) st) QE := z_ixTR ⟨by omega, by omega⟩ (by rw [Int.toNat_natCast]; exact h)
theorem z_ixT0 (h0 : 0 < l) (h : QE (F 0) st) : wp (ixD (.tup ((List.range l).map F)) (.int 0) st) QE := z_ixTR ⟨by omega, by omega⟩ h
theorem z_ixLR {i : Int} (h0 : 0 ≤ i ∧ i < (l : Nat)) (h : QE (F i.toNat) st) : wp (ixD (.lst ((List.range l).map F)) (.int i) st) QE := z_ixL (at_map_range h0.1 h0.2) h
theorem z_ixLN {i : Nat} (h0 : i < l) (h : QE (F i) st) : wp (ixD (.lst ((List.range l).map F)) (.int (i : Int)) st) QE := z_ixLR ⟨by omega, by omega⟩ (by rw [Int.toNat_natCast]; exact h)
theorem z_ixL0 (h0 : 0 < l) (h : QE (F 0) st) : wp (ixD (.lst ((List.range l).map F)) (.int 0) st) QE := z_ixLR ⟨by omega, by omega⟩ h
theorem ints_R : intsD ((List.range l).map fun j => .int (f j)) = some ((List.range l).map f) := by
  have := intsD_map ((List.range l).map f)
  rw [List.map_map] at this
  exact this
theorem z_sumTR (h : QE (.int (sm l f)) st) : wp (fSum [.tup ((List.range l).map fun j => .int (f j))] st) QE := z_sum (ns := (List.range l).map f) ints_R h
theorem z_sumLR (h : QE (.int (sm l f)) st) : wp (fSum [.lst ((List.range l).map fun j => .int (f j))] st) QE := z_sum (ns := (List.range l).map f) ints_R h
theorem z_sumLF {p : Nat → Bool} (h : QE (.int (smf l p f)) st) : wp (fSum [.lst (((List.range l).filter p).map fun j => .int (f j))] st) QE := z_sum (by
  have := intsD_map (((List.range l).filter p).map f)
  rw [List.map_map] at this
  exact this) h
theorem rngL0 : rangeL 0 l = (List.range l).map fun i => .int (i : Int) := by simp [rangeL]
theorem x_rng1R {g : FA} (h : wp (g env st) fun xs st1 => ∃ n : Nat, xs = [.int (n : Int)] ∧ Sd (n < 4611686018427387904) (QI ((List.range n).map fun i : Nat => .int (i : Int)) [] st1)) : wpI (Irng1 g env st) QI :=
  x_rng1 (h.mono fun xs s ⟨n, e, h1, q⟩ => ⟨n, e, ⟨by omega, by omega⟩, by rw [Int.toNat_natCast, rngL0]; exact q⟩)
theorem zip_R : zipL ((List.range l).map F) ((List.range l).map G) = (List.range l).map fun k => .tup [F k, G k] := by
  unfold zipL
  apply List.ext_getElem?
  intro i
  by_cases h : i < l
  · simp [List.getElem?_zipWith, h]
  · simp [List.getElem?_zipWith, h]
theorem y_zipR {x y : D} {t t' : Bool} (e : anyD st x = some (t, (List.range l).map F)) (f : anyD st y = some (t', (List.range l).map G)) (h : QI ((List.range l).map fun k => .tup [F k, G k]) (watchOf x ((List.range l).map F) ++ watchOf y ((List.range l).map G)) st) : zipK QI [x, y] st :=
  y_zip e f (by rw [zip_R]; exact h)
/-- a comprehension over places -/
theorem x_mapR {w : Watch} {t : Tg} {fe : FE} (hw : watchOk w st) (hs : ∀ i, i < l → ∃ e1, bindT t (F i) env = some e1 ∧ wp (fe e1 st) fun y s2 => y = G i ∧ s2 = st)
    (hd : QA ((List.range l).map G) st) : wp (compL w t Tyes fe env ((List.range l).map F) st) QA := by
  refine x_comp (fun i a s => i ≤ l ∧ a = (List.range i).map G ∧ s = st) ⟨Nat.zero_le _, rfl, rfl⟩ (fun i a s h => by rw [h.2.2]; exact hw) ?_ ?_
  · rintro i x a s hx ⟨hi, rfl, rfl⟩
    have hl := (List.getElem?_eq_some_iff.mp hx).1
    simp at hl
    have e : x = F i := by simpa [hl] using hx.symm
    subst e
    obtain ⟨e1, hb, q⟩ := hs i hl
    refine ⟨e1, hb, wp_some ?_⟩
    rw [if_pos rfl]
    refine q.mono fun y s2 ⟨h1, h2⟩ => ⟨by omega, ?_, h2⟩
    rw [h1, List.range_succ, List.map_append]
    rfl
  · rintro a s ⟨hi, rfl, rfl⟩
    simpa using hd
/-- .. with a test -/
theorem x_filR {w : Watch} {t : Tg} {fe : FE} {ga : FT} {p : Nat → Bool} (hw : watchOk w st) (hs : ∀ i, i < l → ∃ e1, bindT t (F i) env = some e1 ∧ wp (ga e1 st) fun b s1 => (b = p i ∧ s1 = st) ∧ (p i = true → wp (fe e1 st) fun y s2 => y = G i ∧ s2 = st))
    (hd : QA (((List.range l).filter p).map G) st) : wp (compL w t ga fe env ((List.range l).map F) st) QA := by
  refine x_comp (fun i a s => i ≤ l ∧ a = ((List.range i).filter p).map G ∧ s = st) ⟨Nat.zero_le _, rfl, rfl⟩ (fun i a s h => by rw [h.2.2]; exact hw) ?_ ?_
  · rintro i x a s hx ⟨hi, rfl, rfl⟩
    have hl := (List.getElem?_eq_some_iff.mp hx).1
    simp at hl
    have e : x = F i := by simpa [hl] using hx.symm
    subst e
    obtain ⟨e1, hb, q⟩ := hs i hl
    refine ⟨e1, hb, q.mono fun b s1 ⟨⟨h1, h2⟩, h3⟩ => ?_⟩
    subst h1 h2
    refine y_ite (fun hp => (h3 hp).mono fun y s2 ⟨h1, h2⟩ => ⟨by omega, ?_, h2⟩) (fun hp => ⟨by omega, ?_, rfl⟩)
    · rw [h1, List.range_succ, List.filter_append, List.map_append]
      simp [hp]
    · rw [List.range_succ, List.filter_append, List.map_append]
      simp [hp]
  · rintro a s ⟨hi, rfl, rfl⟩
    simpa using hd
theorem x_mapM {α : Type} {xs : List α} {F G : α → D} {w : Watch} {t : Tg} {fe : FE} (hw : watchOk w st) (hs : ∀ i, i ∈ xs → ∃ e1, bindT t (F i) env = some e1 ∧ wp (fe e1 st) fun y s2 => y = G i ∧ s2 = st)
    (hd : QA (xs.map G) st) : wp (compL w t Tyes fe env (xs.map F) st) QA := by
  induction xs generalizing QA with
  | nil =>
    unfold compL
    exact wp_if hw (wp_some hd)
  | cons x xs ih =>
    rw [List.map_cons]
    unfold compL
    refine wp_if hw ?_
    obtain ⟨e1, hb, q⟩ := hs x (List.mem_cons_self ..)
    rw [hb]
    refine wp_bind (q.mono fun y s2 ⟨h1, h2⟩ => ?_)
    subst h1 h2
    refine wp_bind (ih (QA := fun ys s => QA (G x :: ys) s) (fun i hi => hs i (List.mem_cons_of_mem _ hi)) ?_ |>.mono fun ys s3 h => wp_some h)
    rw [List.map_cons] at hd
    exact hd
theorem x_cmpC {x : D} {xs : List D} {w : Watch} {t : Tg} {ga : FT} {fe : FE} (hw : watchOk w st) (hs : ∃ e1, bindT t x env = some e1 ∧ wp (ga e1 st) fun b s1 => if b = true then wp (fe e1 s1) fun y s2 => wp (compL w t ga fe env xs s2) fun ys s3 => QA (y :: ys) s3 else wp (compL w t ga fe env xs s1) QA) :
    wp (compL w t ga fe env (x :: xs) st) QA := by
  unfold compL
  refine wp_if hw ?_
  obtain ⟨e1, hb, q⟩ := hs
  rw [hb]
  refine wp_bind (q.mono fun b s1 h => ?_)
  cases b with
  | true => exact wp_bind (h.mono fun y s2 h => wp_bind (h.mono fun ys s3 h => wp_some h))
  | false => exact h
theorem x_cmpE {w : Watch} {t : Tg} {ga : FT} {fe : FE} (hw : watchOk w st) (h : QA [] st) : wp (compL w t ga fe env [] st) QA := by
  unfold compL
  exact wp_if hw (wp_some h)
theorem x_mapR1 {w : Watch} {t : Tg} {fe : FE} (hw : watchOk w st) (hs : ∀ i, i < l → ∃ e1, bindT t (.int (i : Int)) env = some e1 ∧ wp (fe e1 st) fun y s2 => y = G i ∧ s2 = st)
    (hd : QA ((List.range l).map G) st) : wp (compL w t Tyes fe env (rangeL 0 l) st) QA := by
  rw [rngL0]
  exact x_mapR hw hs hd
theorem x_mapR0 {w : Watch} {t : Tg} {fe : FE} (hw : watchOk w st) (hs : ∀ i, i < l → ∃ e1, bindT t (.int (i : Int)) env = some e1 ∧ wp (fe e1 st) fun y s2 => y = G i ∧ s2 = st)
    (hd : QA ((List.range l).map G) st) : wp (compL w t Tyes fe env (rangeL 0 (l : Int).toNat) st) QA := by
  rw [Int.toNat_natCast]
  exact x_mapR1 hw hs hd
theorem x_filR1 {w : Watch} {t : Tg} {fe : FE} {ga : FT} {p : Nat → Bool} (hw : watchOk w st) (hs : ∀ i, i < l → ∃ e1, bindT t (.int (i : Int)) env = some e1 ∧ wp (ga e1 st) fun b s1 => (b = p i ∧ s1 = st) ∧ (p i = true → wp (fe e1 st) fun y s2 => y = G i ∧ s2 = st))
    (hd : QA (((List.range l).filter p).map G) st) : wp (compL w t ga fe env (rangeL 0 l) st) QA := by
  rw [rngL0]
  exact x_filR hw hs hd
theorem x_filR0 {w : Watch} {t : Tg} {fe : FE} {ga : FT} {p : Nat → Bool} (hw : watchOk w st) (hs : ∀ i, i < l → ∃ e1, bindT t (.int (i : Int)) env = some e1 ∧ wp (ga e1 st) fun b s1 => (b = p i ∧ s1 = st) ∧ (p i = true → wp (fe e1 st) fun y s2 => y = G i ∧ s2 = st))
    (hd : QA (((List.range l).filter p).map G) st) : wp (compL w t ga fe env (rangeL 0 (l : Int).toNat) st) QA := by
  rw [Int.toNat_natCast]
  exact x_filR1 hw hs hd
theorem const_R {α : Type} {x : α} : ∀ k : Nat, ((List.range k).map fun _ => x) = List.replicate k x
  | 0 => rfl
  | k + 1 => by rw [List.range_succ, List.map_append, const_R k, List.replicate_succ']; rfl
theorem flat_rep {α : Type} {x : α} : ∀ n : Nat, (List.replicate n [x]).flatten = List.replicate n x
  | 0 => rfl
  | n + 1 => by rw [List.replicate_succ, List.flatten_cons, flat_rep n, List.replicate_succ]; rfl
theorem watch_one {n : Nat} {ds : List D} (e : st[n]? = some (.lst ds)) : watchOk [(n, ds)] st := fun p hp => by
  cases List.mem_singleton.mp hp
  exact e
theorem z_neTI {ns ms : List Int} (h : QE (.bl (!decide (ns = ms))) st) : wp (eqD true (.tup (ns.map D.int)) (.tup (ms.map D.int)) st) QE := by
  refine ⟨_, _, ?_, h⟩
  have e1 : ∀ ns : List Int, pyD st (.tup (ns.map D.int)) = some (.tuple (ns.map PyData.int)) := fun ns => by
    show toPy (.tup (ns.map D.int)) = _
    show (toPys (ns.map D.int)).map PyData.tuple = _
    rw [toPys_ints]
    rfl
  simp only [eqD, e1]
  rw [if_pos ⟨shaped_tints ns, shaped_tints ms⟩]
  simp only [PyData.eqv, eqv_ints, if_true]
theorem z_neP {a b c d : Int} (h : QE (.bl (!decide ([a, b] = [c, d]))) st) : wp (eqD true (.tup [.int a, .int b]) (.tup [.int c, .int d]) st) QE := z_neTI (ns := [a, b]) (ms := [c, d]) h
/-- an if whose ways meet behind it -/
theorem x_jif {ga : FT} {s s1 s' : FS} {QS : Fl → Sto → Prop} (J : Env → Sto → Prop) (h : wp (Sif ga s s1 env st) fun f st' => ∃ e, f = .nx e ∧ J e st') (k : ∀ e st', J e st' → wp (s' e st') QS) : wp (Sseq (Sif ga s s1) s' env st) QS :=
  x_seq (h.mono fun f st' ⟨e, hf, j⟩ => by subst hf; exact k e st' j)
theorem z_mulT1 {x : D} {k : Int} (h0 : 1 ≤ k ∧ k ≤ 1000) (h : QE (.tup ((List.range k.toNat).map fun _ => x)) st) : wp (mulD (.tup [x]) (.int k) st) QE := by
  rw [const_R] at h
  refine ⟨.tup (List.replicate k.toNat x), st, ?_, h⟩
  show (if k = 1 then some (D.tup [x], st) else if ([x] : List D) ≠ [] ∧ 2 ≤ k ∧ k ≤ 1000 ∧ [x].length ≤ 1000 then some (.tup (List.replicate k.toNat [x]).flatten, st) else none) = _
  by_cases h1 : k = 1
  · subst h1; rfl
  · rw [if_neg h1, if_pos ⟨by simp, by omega, h0.2, by simp⟩, flat_rep]
theorem z_mulL1 {x : D} {k : Int} (h0 : 0 ≤ k ∧ k ≤ 1000000) (h : QE (.lst ((List.range k.toNat).map fun _ => x)) st) : wp (mulD (.lst [x]) (.int k) st) QE := by
  rw [const_R] at h
  refine ⟨.lst (List.replicate k.toNat x), st, ?_, h⟩
  show (if -(2 ^ 63) ≤ k ∧ k < 2 ^ 63 ∧ [x].length * k.toNat ≤ 16777216 then some (D.lst (List.replicate k.toNat [x]).flatten, st) else none) = _
  rw [if_pos ⟨by omega, by omega, by simp; omega⟩, flat_rep]
/-- a test whose ends are ints, read as one int -/
theorem y_pureI {p : Prop} [Decidable p] {A B : Option (D × Sto)} {x y : Int} (h1 : wp A fun v s => v = .int x ∧ s = st) (h2 : wp B fun v s => v = .int y ∧ s = st) (k : QE (.int (if p then x else y)) st) : if decide p = true then wp A QE else wp B QE := by
  refine y_d (fun h => ?_) (fun h => ?_)
  · rw [if_pos h] at k
    exact h1.mono fun v s ⟨e, e'⟩ => by subst e e'; exact k
  · rw [if_neg h] at k
    exact h2.mono fun v s ⟨e, e'⟩ => by subst e e'; exact k
theorem belows_of {n : Nat} : ∀ {ds : List D}, (∀ d, d ∈ ds → d.blw n) → belows n ds
  | [], _ => trivial
  | d :: ds, h => ⟨h d (List.mem_cons_self ..), belows_of fun e he => h e (List.mem_cons_of_mem _ he)⟩
theorem blw_R {n : Nat} (h : ∀ i, i < l → (F i).blw n) : belows n ((List.range l).map F) := belows_of fun d hd => by
  obtain ⟨i, hi, rfl⟩ := List.mem_map.mp hd
  exact h i (List.mem_range.mp hi)
theorem blw_mx {n : Nat} {f : Nat → Nat → Int} : D.blw n (mx r c f) := blw_R fun i _ => blw_R fun j _ => trivial
theorem smf_succ {p : Nat → Bool} : smf (l + 1) p f = smf l p f + if p l = true then f l else 0 := by
  unfold smf
  rw [List.range_succ, List.filter_append, List.map_append, List.sum_append]
  congr 1
  cases h : p l
  · simp [h]
  · simp [h]
end
/-! ## sameness of plain data -/
mutual
def D.pln : D → Prop
  | .non => True
  | .int _ => True
  | .str s => PyData.strOk s = true
  | .tup ds => plns ds
  | .lst ds => plns ds
  | _ => False
def plns : List D → Prop
  | [] => True
  | d :: ds => d.pln ∧ plns ds
end
mutual
def D.dep : D → Nat
  | .tup ds => deps ds + 1
  | .lst ds => deps ds + 1
  | _ => 0
def deps : List D → Nat
  | [] => 0
  | d :: ds => max d.dep (deps ds)
end
mutual
theorem D.toPy_ok : ∀ d : D, d.pln → ∃ p, toPy d = some p ∧ p.canLay0 = true ∧ p.depth = d.dep
  | .non, _ => ⟨.none, rfl, rfl, rfl⟩
  | .int i, _ => ⟨.int i, rfl, rfl, rfl⟩
  | .str s, h => ⟨.str s, rfl, h, rfl⟩
  | .tup ds, h => by
    obtain ⟨ps, e, h1, h2⟩ := toPys_ok ds h
    refine ⟨.tuple ps, ?_, ?_, ?_⟩
    · show (toPys ds).map PyData.tuple = _
      rw [e]; rfl
    · simpa [PyData.canLay0] using h1
    · simp [PyData.depth, D.dep, h2]
  | .lst ds, h => by
    obtain ⟨ps, e, h1, h2⟩ := toPys_ok ds h
    refine ⟨.list ps, ?_, ?_, ?_⟩
    · show (toPys ds).map PyData.list = _
      rw [e]; rfl
    · simpa [PyData.canLay0] using h1
    · simp [PyData.depth, D.dep, h2]
theorem toPys_ok : ∀ ds : List D, plns ds → ∃ ps, toPys ds = some ps ∧ PyData.canLayAll0 ps = true ∧ PyData.depthAll ps = deps ds
  | [], _ => ⟨[], rfl, rfl, rfl⟩
  | d :: ds, h => by
    obtain ⟨p, e, h1, h2⟩ := D.toPy_ok d h.1
    obtain ⟨ps, e', h1', h2'⟩ := toPys_ok ds h.2
    refine ⟨p :: ps, ?_, ?_, ?_⟩
    · show ((toPy d).bind fun p => (toPys ds).map (p :: ·)) = _
      rw [e, e']; rfl
    · simp [PyData.canLayAll0, h1, h1']
    · simp [PyData.depthAll, deps, h2, h2']
end
theorem tupPy {ds : List D} {p : PyData} (h : toPy (.tup ds) = some p) : ∃ ps, p = .tuple ps ∧ toPys ds = some ps := by
  have h' : (toPys ds).map PyData.tuple = some p := h
  cases e : toPys ds with
  | none => rw [e] at h'; cases h'
  | some ps => rw [e] at h'; cases h'; exact ⟨ps, rfl, rfl⟩
theorem lstPy {ds : List D} {p : PyData} (h : toPy (.lst ds) = some p) : ∃ ps, p = .list ps ∧ toPys ds = some ps := by
  have h' : (toPys ds).map PyData.list = some p := h
  cases e : toPys ds with
  | none => rw [e] at h'; cases h'
  | some ps => rw [e] at h'; cases h'; exact ⟨ps, rfl, rfl⟩
theorem consPy {d : D} {ds : List D} {ps : List PyData} (h : toPys (d :: ds) = some ps) : ∃ p qs, ps = p :: qs ∧ toPy d = some p ∧ toPys ds = some qs := by
  have h' : ((toPy d).bind fun p => (toPys ds).map (p :: ·)) = some ps := h
  cases e : toPy d with
  | none => rw [e] at h'; cases h'
  | some p =>
    rw [e] at h'
    cases e2 : toPys ds with
    | none => rw [e2] at h'; cases h'
    | some qs => rw [e2] at h'; cases h'; exact ⟨p, qs, rfl, rfl, rfl⟩
mutual
theorem eqv_pln : ∀ (d e : D) (p q : PyData), d.pln → e.pln → toPy d = some p → toPy e = some q → (PyData.eqv p q = true ↔ d = e)
  | .non, e, p, q, _, he, hp, hq => by
    cases hp
    cases e <;> first
      | (exact absurd he id)
      | (obtain ⟨ps, rfl, _⟩ := tupPy hq; simp [PyData.eqv])
      | (obtain ⟨ps, rfl, _⟩ := lstPy hq; simp [PyData.eqv])
      | (cases hq; simp [PyData.eqv])
  | .int i, e, p, q, _, he, hp, hq => by
    cases hp
    cases e <;> first
      | (exact absurd he id)
      | (obtain ⟨ps, rfl, _⟩ := tupPy hq; simp [PyData.eqv])
      | (obtain ⟨ps, rfl, _⟩ := lstPy hq; simp [PyData.eqv])
      | (cases hq; simp [PyData.eqv])
  | .str s, e, p, q, _, he, hp, hq => by
    cases hp
    cases e <;> first
      | (exact absurd he id)
      | (obtain ⟨ps, rfl, _⟩ := tupPy hq; simp [PyData.eqv])
      | (obtain ⟨ps, rfl, _⟩ := lstPy hq; simp [PyData.eqv])
      | (cases hq; simp [PyData.eqv])
  | .tup ds, e, p, q, hd, he, hp, hq => by
    obtain ⟨ps, rfl, hps⟩ := tupPy hp
    cases e with
    | tup es =>
      obtain ⟨qs, rfl, hqs⟩ := tupPy hq
      simp only [PyData.eqv, D.tup.injEq]
      exact eqvs_pln ds es ps qs hd he hps hqs
    | lst es => obtain ⟨qs, rfl, _⟩ := lstPy hq; simp [PyData.eqv]
    | non => cases hq; simp [PyData.eqv]
    | int i => cases hq; simp [PyData.eqv]
    | str s => cases hq; simp [PyData.eqv]
    | _ => exact absurd he id
  | .lst ds, e, p, q, hd, he, hp, hq => by
    obtain ⟨ps, rfl, hps⟩ := lstPy hp
    cases e with
    | lst es =>
      obtain ⟨qs, rfl, hqs⟩ := lstPy hq
      simp only [PyData.eqv, D.lst.injEq]
      exact eqvs_pln ds es ps qs hd he hps hqs
    | tup es => obtain ⟨qs, rfl, _⟩ := tupPy hq; simp [PyData.eqv]
    | non => cases hq; simp [PyData.eqv]
    | int i => cases hq; simp [PyData.eqv]
    | str s => cases hq; simp [PyData.eqv]
    | _ => exact absurd he id
theorem eqvs_pln : ∀ (ds es : List D) (ps qs : List PyData), plns ds → plns es → toPys ds = some ps → toPys es = some qs → (PyData.eqvAll ps qs = true ↔ ds = es)
  | [], es, ps, qs, _, _, hp, hq => by
    cases hp
    cases es with
    | nil => cases hq; simp [PyData.eqvAll]
    | cons e es => obtain ⟨q, qs, rfl, _, _⟩ := consPy hq; simp [PyData.eqvAll]
  | d :: ds, es, ps, qs, hd, he, hp, hq => by
    obtain ⟨p, ps, rfl, hp1, hp2⟩ := consPy hp
    cases es with
    | nil => cases hq; simp [PyData.eqvAll]
    | cons e es =>
      obtain ⟨q, qs, rfl, hq1, hq2⟩ := consPy hq
      simp only [PyData.eqvAll, Bool.and_eq_true, List.cons.injEq]
      rw [eqv_pln d e p q hd.1 he.1 hp1 hq1, eqvs_pln ds es ps qs hd.2 he.2 hp2 hq2]
end
theorem pyD_pln {st : Sto} {d : D} (h : d.pln) : pyD st d = toPy d := by
  cases d <;> first | rfl | exact absurd h id
theorem sh_pln {d : D} {p : PyData} (h : d.pln) (hd : d.dep ≤ 64) (e : toPy d = some p) : SeqAt.shaped p = true := by
  obtain ⟨p', e', h1, h2⟩ := D.toPy_ok d h
  rw [e] at e'
  cases e'
  simp [SeqAt.shaped, h1, h2, hd]
section
variable {st : Sto} {QE : D → Sto → Prop}
theorem z_eqD {d e : D} {b : Bool} (hd : d.pln) (he : e.pln) (dd : d.dep ≤ 64) (de : e.dep ≤ 64) (hb : b = true ↔ d = e) (h : QE (.bl b) st) : wp (eqD false d e st) QE := by
  obtain ⟨p, hp, _⟩ := D.toPy_ok d hd
  obtain ⟨q, hq, _⟩ := D.toPy_ok e he
  have hv : PyData.eqv p q = b := by
    have := eqv_pln d e p q hd he hp hq
    rw [Bool.eq_iff_iff, this, hb]
  refine ⟨_, _, ?_, h⟩
  unfold eqD
  split
  · rename_i x y
    cases hp
    cases hq
    simp only [PyData.eqv] at hv
    rw [hv]
    rfl
  · rw [pyD_pln hd, pyD_pln he, hp, hq]
    simp only
    rw [if_pos ⟨sh_pln hd dd hp, sh_pln he de hq⟩, hv]
    rfl
theorem z_neD {d e : D} {b : Bool} (hd : d.pln) (he : e.pln) (dd : d.dep ≤ 64) (de : e.dep ≤ 64) (hb : b = true ↔ d = e) (h : QE (.bl (!b)) st) : wp (eqD true d e st) QE := by
  obtain ⟨p, hp, _⟩ := D.toPy_ok d hd
  obtain ⟨q, hq, _⟩ := D.toPy_ok e he
  have hv : PyData.eqv p q = b := by
    have := eqv_pln d e p q hd he hp hq
    rw [Bool.eq_iff_iff, this, hb]
  refine ⟨_, _, ?_, h⟩
  unfold eqD
  split
  · rename_i x y
    cases hp
    cases hq
    simp only [PyData.eqv] at hv
    rw [hv]
    rfl
  · rw [pyD_pln hd, pyD_pln he, hp, hq]
    simp only
    rw [if_pos ⟨sh_pln hd dd hp, sh_pln he de hq⟩, hv]
    rfl
theorem anyPy {d : D} {p : PyData} (hd : d.pln) (hp : toPy d = some p) : ∀ (es : List D) (qs : List PyData), plns es → toPys es = some qs → (qs.any (fun z => PyData.eqv z p) = true ↔ d ∈ es)
  | [], qs, _, hq => by cases hq; simp
  | e :: es, qs, he, hq => by
    obtain ⟨q, qs, rfl, hq1, hq2⟩ := consPy hq
    rw [List.any_cons, Bool.or_eq_true, eqv_pln e d q p he.1 hd hq1 hp, anyPy hd hp es qs he.2 hq2, List.mem_cons]
    exact ⟨fun h => h.imp Eq.symm id, fun h => h.imp Eq.symm id⟩
theorem shl_pln {es : List D} {qs : List PyData} (he : plns es) (de : deps es ≤ 63) (hq : toPys es = some qs) : SeqAt.shaped (.list qs) = true := by
  obtain ⟨q', e', h1, h2⟩ := toPys_ok es he
  rw [hq] at e'
  cases e'
  simp [SeqAt.shaped, PyData.canLay0, PyData.depth, h1, h2]
  omega
theorem z_inDT {neg : Bool} {d : D} {es : List D} {b : Bool} (hd : d.pln) (he : plns es) (dd : d.dep ≤ 64) (de : deps es ≤ 63) (hb : b = true ↔ d ∈ es) (h : QE (.bl (if neg then !b else b)) st) : wp (inD neg d (.tup es) st) QE := by
  obtain ⟨p, hp, _⟩ := D.toPy_ok d hd
  obtain ⟨qs, hq, _⟩ := toPys_ok es he
  have hv : qs.any (fun z => PyData.eqv z p) = b := by
    rw [Bool.eq_iff_iff, anyPy hd hp es qs he hq, hb]
  refine ⟨_, _, ?_, h⟩
  have e1 : pyD st (.tup es) = some (.tuple qs) := by
    show (toPys es).map PyData.tuple = _
    rw [hq]; rfl
  simp only [inD, pyD_pln hd, hp, e1, Option.bind_some, seqPy]
  rw [if_pos ⟨sh_pln hd dd hp, shl_pln he de hq⟩, hv]
theorem z_inDL {neg : Bool} {d : D} {es : List D} {b : Bool} (hd : d.pln) (he : plns es) (dd : d.dep ≤ 64) (de : deps es ≤ 63) (hb : b = true ↔ d ∈ es) (h : QE (.bl (if neg then !b else b)) st) : wp (inD neg d (.lst es) st) QE := by
  obtain ⟨p, hp, _⟩ := D.toPy_ok d hd
  obtain ⟨qs, hq, _⟩ := toPys_ok es he
  have hv : qs.any (fun z => PyData.eqv z p) = b := by
    rw [Bool.eq_iff_iff, anyPy hd hp es qs he hq, hb]
  refine ⟨_, _, ?_, h⟩
  have e1 : pyD st (.lst es) = some (.list qs) := by
    show (toPys es).map PyData.list = _
    rw [hq]; rfl
  simp only [inD, pyD_pln hd, hp, e1, Option.bind_some, seqPy]
  rw [if_pos ⟨sh_pln hd dd hp, shl_pln he de hq⟩, hv]
theorem z_inDR {neg : Bool} {d : D} {n : Nat} {es : List D} {b : Bool} (e : st[n]? = some (.lst es)) (hd : d.pln) (he : plns es) (dd : d.dep ≤ 64) (de : deps es ≤ 63) (hb : b = true ↔ d ∈ es) (h : QE (.bl (if neg then !b else b)) st) : wp (inD neg d (.ref n) st) QE := by
  obtain ⟨p, hp, _⟩ := D.toPy_ok d hd
  obtain ⟨qs, hq, _⟩ := toPys_ok es he
  have hv : qs.any (fun z => PyData.eqv z p) = b := by
    rw [Bool.eq_iff_iff, anyPy hd hp es qs he hq, hb]
  refine ⟨_, _, ?_, h⟩
  have e1 : pyD st (.ref n) = some (.list qs) := by
    simp only [pyD, e, hq, Option.map_some]
  simp only [inD, pyD_pln hd, hp, e1, Option.bind_some, seqPy]
  rw [if_pos ⟨sh_pln hd dd hp, shl_pln he de hq⟩, hv]
theorem plns_of : ∀ {ds : List D}, (∀ d, d ∈ ds → d.pln) → plns ds
  | [], _ => trivial
  | d :: ds, h => ⟨h d (List.mem_cons_self ..), plns_of fun e he => h e (List.mem_cons_of_mem _ he)⟩
theorem deps_of {k : Nat} : ∀ {ds : List D}, (∀ d, d ∈ ds → d.dep ≤ k) → deps ds ≤ k
  | [], _ => Nat.zero_le _
  | d :: ds, h => Nat.max_le.mpr ⟨h d (List.mem_cons_self ..), deps_of fun e he => h e (List.mem_cons_of_mem _ he)⟩
theorem plns_R {l : Nat} {F : Nat → D} (h : ∀ i, i < l → (F i).pln) : plns ((List.range l).map F) := plns_of fun d hd => by
  obtain ⟨i, hi, rfl⟩ := List.mem_map.mp hd
  exact h i (List.mem_range.mp hi)
theorem deps_R {l k : Nat} {F : Nat → D} (h : ∀ i, i < l → (F i).dep ≤ k) : deps ((List.range l).map F) ≤ k := deps_of fun d hd => by
  obtain ⟨i, hi, rfl⟩ := List.mem_map.mp hd
  exact h i (List.mem_range.mp hi)
theorem row_pln {l : Nat} {f : Nat → Int} : D.pln (.tup (ix l f)) := plns_R fun i _ => trivial
theorem row_dep {l : Nat} {f : Nat → Int} : D.dep (.tup (ix l f)) ≤ 1 := Nat.succ_le_succ (deps_R fun i _ => Nat.le_refl 0)
theorem mx_pln {r c : Nat} {f : Nat → Nat → Int} : D.pln (mx r c f) := plns_R fun i _ => row_pln
theorem mx_dep {r c : Nat} {f : Nat → Nat → Int} : D.dep (mx r c f) ≤ 2 := Nat.succ_le_succ (deps_R fun i _ => row_dep)
theorem map_R {α : Type} {l : Nat} {F G : Nat → α} : (List.range l).map F = (List.range l).map G ↔ ∀ i, i < l → F i = G i := by
  simp [List.map_inj_left]
theorem row_eq {l : Nat} {f g : Nat → Int} : D.tup (ix l f) = .tup (ix l g) ↔ ∀ i, i < l → f i = g i := by
  rw [D.tup.injEq, map_R]
  simp
theorem mx_eq {r c : Nat} {f g : Nat → Nat → Int} : mx r c f = mx r c g ↔ ∀ i j, i < r → j < c → f i j = g i j := by
  rw [D.tup.injEq, map_R]
  constructor
  · exact fun h i j hi hj => row_eq.mp (h i hi) j hj
  · exact fun h i hi => row_eq.mpr fun j hj => h i j hi hj
end
mutual
theorem D.blw_pln {n : Nat} : ∀ d : D, d.pln → d.blw n
  | .non, _ => trivial
  | .int _, _ => trivial
  | .str _, _ => trivial
  | .tup ds, h => belows_pln ds h
  | .lst ds, h => belows_pln ds h
theorem belows_pln {n : Nat} : ∀ ds : List D, plns ds → belows n ds
  | [], _ => trivial
  | d :: ds, h => ⟨D.blw_pln d h.1, belows_pln ds h.2⟩
end
section
variable {st : Sto} {x y z : O}
theorem two_0 : (st ++ [x, y])[st.length]? = some x := by rw [List.getElem?_append_right (Nat.le_refl _), Nat.sub_self]; rfl
theorem two_1 : (st ++ [x, y])[st.length + 1]? = some y := by rw [List.getElem?_append_right (by omega), Nat.add_sub_cancel_left]; rfl
theorem two_s0 : (st ++ [x, y]).set st.length z = st ++ [z, y] := by rw [List.set_append_right _ _ (Nat.le_refl _), Nat.sub_self]; rfl
theorem two_s1 : (st ++ [x, y]).set (st.length + 1) z = st ++ [x, z] := by rw [List.set_append_right _ _ (by omega), Nat.add_sub_cancel_left]; rfl
theorem one_s {z : O} : (st ++ [x]).set st.length z = st ++ [z] := by rw [List.set_append_right _ _ (Nat.le_refl _), Nat.sub_self]; rfl
theorem one_0 : (st ++ [x])[st.length]? = some x := by rw [List.getElem?_append_right (Nat.le_refl _), Nat.sub_self]; rfl
end
theorem plns_app : ∀ {a b : List D}, plns a → plns b → plns (a ++ b)
  | [], _, _, h => h
  | _ :: _, _, h, h' => ⟨h.1, plns_app h.2 h'⟩
theorem z_addNN {st : Sto} {QE : D → Sto → Prop} {x y : D} {a b : List D} (e1 : lsD st x = some a) (e2 : lsD st y = some b) (hl : a.length + b.length ≤ 16777216) (h : QE (.ref st.length) (st ++ [.lst (a ++ b)])) : wp (addN x y st) QE := ⟨_, _, by simp only [addN, e1, e2]; exact if_pos hl, h⟩
theorem z_min1 {st : Sto} {QE : D → Sto → Prop} {ns : List Int} {m : Int} {ds : List D} (e : ds = ns.map D.int) (h : minL ns = some m) (q : QE (.int m) st) : wp (fMin [.lst ds] st) QE := by
  subst e
  refine ⟨_, _, ?_, q⟩
  show (((some (ns.map D.int)).bind intsD).bind fun ns => (minL ns).map fun m => (D.int m, st)) = _
  rw [Option.bind_some, intsD_map, Option.bind_some, h]
  rfl
theorem z_slQ {st : Sto} {QE : D → Sto → Prop} {ds : List D} {a b : Option Int} (h : QE (.lst (cutL ds a b)) st) : wp (slD (.sq ds) a b st) QE := wp_some h
section
variable {st : Sto} {env : Env} {QS : Fl → Sto → Prop} {x y z u : O}
theorem x_forC {w : Watch} {t : Tg} {b : FS} {d : D} {r : List D} (hw : watchOk w st) (h : ∃ e1, bindT t d env = some e1 ∧ wp (b e1 st) (loopK QS fun e s => wp (forL w t b r e s) QS)) : wp (forL w t b (d :: r) env st) QS := by
  obtain ⟨e1, hb, q⟩ := h
  unfold forL
  refine wp_if hw ?_
  rw [hb]
  refine wp_bind (q.mono fun f s1 q => ?_)
  cases f with
  | nx e2 => exact q
  | ct e2 => exact q
  | bk e2 => exact wp_some q
  | rt d => exact wp_some q
theorem x_forE {w : Watch} {t : Tg} {b : FS} (hw : watchOk w st) (h : QS (.nx env) st) : wp (forL w t b [] env st) QS := by
  unfold forL
  exact wp_if hw (wp_some h)
theorem four_0 : (st ++ [x, y, z, u])[st.length]? = some x := by rw [List.getElem?_append_right (Nat.le_refl _), Nat.sub_self]; rfl
theorem four_1 : (st ++ [x, y, z, u])[st.length + 1]? = some y := by rw [List.getElem?_append_right (by omega), Nat.add_sub_cancel_left]; rfl
theorem four_2 : (st ++ [x, y, z, u])[st.length + 2]? = some z := by rw [List.getElem?_append_right (by omega), Nat.add_sub_cancel_left]; rfl
theorem four_3 : (st ++ [x, y, z, u])[st.length + 3]? = some u := by rw [List.getElem?_append_right (by omega), Nat.add_sub_cancel_left]; rfl
theorem four_s0 {o : O} : (st ++ [x, y, z, u]).set st.length o = st ++ [o, y, z, u] := by rw [List.set_append_right _ _ (Nat.le_refl _), Nat.sub_self]; rfl
theorem four_s1 {o : O} : (st ++ [x, y, z, u]).set (st.length + 1) o = st ++ [x, o, z, u] := by rw [List.set_append_right _ _ (by omega), Nat.add_sub_cancel_left]; rfl
theorem four_s2 {o : O} : (st ++ [x, y, z, u]).set (st.length + 2) o = st ++ [x, y, o, u] := by rw [List.set_append_right _ _ (by omega), Nat.add_sub_cancel_left]; rfl
end
end ML

namespace LW
open PySem L2 ML
def topS (i : Nat) : Stmt := PySem.Challenge.pw_lasttext_k30_tree_sums.main.body.getD i (.Pass ⟨0, 0, 0, 0⟩)
/-! ### shape_of -/
abbrev s_shape_of : Stmt := topS 2
abbrev N_shape_of : List PySem.Str := ["matrix"]
theorem sc_shape_of : FnScope N_shape_of ["matrix"] (defScope s_shape_of) := ⟨rfl, rfl, rfl, by decide +kernel, rfl, by decide +kernel, by decide +kernel⟩
@[reducible] noncomputable def b_shape_of : FS :=
  (Sret (Etup (Acons (EC fLen (Acons (Ev 0) Anil)) (Acons (EC fLen (Acons (E2 ixD (Ev 0) (Ec (.int 0))) Anil)) Anil))))
noncomputable def m_shape_of : FC := (runF 1 b_shape_of)
/-! ### is_bounded -/
abbrev s_is_bounded : Stmt := topS 3
abbrev N_is_bounded : List PySem.Str := ["matrix", "row", "entry"]
theorem sc_is_bounded : FnScope N_is_bounded ["matrix"] (defScope s_is_bounded) := ⟨rfl, rfl, rfl, by decide +kernel, rfl, by decide +kernel, by decide +kernel⟩
@[reducible] noncomputable def b_is_bounded : FS :=
  (Sseq (Sfor (Iseq (Ev 0)) (.nm 1)
  (Sfor (Iseq (Ev 1)) (.nm 2)
  (Sif (Tnot (Tb (E3 ltD ltD (E1 negD (Ec (.int 10000000))) (Ev 2) (Ec (.int 10000000)))))
  (Sret (Ec (.bl false)))
  Snil)))
  (Sret (Ec (.bl true))))
noncomputable def m_is_bounded : FC := (runF 3 b_is_bounded)
/-! ### add -/
abbrev s_add : Stmt := topS 4
abbrev N_add : List PySem.Str := ["numbers", "matrices", "one", "other", "left", "right", "a", "b"]
theorem sc_add : FnScope N_add ["numbers", "matrices"] (defScope s_add) := ⟨rfl, rfl, rfl, by decide +kernel, rfl, by decide +kernel, by decide +kernel⟩
@[reducible] noncomputable def b_add : FS :=
  (Sseq (Sbind (.tp [(.nm 2), (.nm 3)]) (Ev 1))
  (Sret (EC fTup (Acons (Ecmp (Izip (Acons (Ev 2) (Acons (Ev 3) Anil))) (.tp [(.nm 4), (.nm 5)]) Tyes (EC fTup (Acons (Ecmp (Izip (Acons (Ev 4) (Acons (Ev 5) Anil))) (.tp [(.nm 6), (.nm 7)]) Tyes (E2 addD (Ev 6) (Ev 7)) [6, 7]) Anil)) [4, 5]) Anil))))
noncomputable def m_add : FC := (runF 8 b_add)
/-! ### sub -/
abbrev s_sub : Stmt := topS 5
abbrev N_sub : List PySem.Str := ["numbers", "matrices", "one", "other", "left", "right", "a", "b"]
theorem sc_sub : FnScope N_sub ["numbers", "matrices"] (defScope s_sub) := ⟨rfl, rfl, rfl, by decide +kernel, rfl, by decide +kernel, by decide +kernel⟩
@[reducible] noncomputable def b_sub : FS :=
  (Sseq (Sbind (.tp [(.nm 2), (.nm 3)]) (Ev 1))
  (Sret (EC fTup (Acons (Ecmp (Izip (Acons (Ev 2) (Acons (Ev 3) Anil))) (.tp [(.nm 4), (.nm 5)]) Tyes (EC fTup (Acons (Ecmp (Izip (Acons (Ev 4) (Acons (Ev 5) Anil))) (.tp [(.nm 6), (.nm 7)]) Tyes (E2 subD (Ev 6) (Ev 7)) [6, 7]) Anil)) [4, 5]) Anil))))
noncomputable def m_sub : FC := (runF 8 b_sub)
/-! ### times -/
abbrev s_times : Stmt := topS 6
abbrev N_times : List PySem.Str := ["numbers", "matrices", "one", "other", "left", "right", "a", "b"]
theorem sc_times : FnScope N_times ["numbers", "matrices"] (defScope s_times) := ⟨rfl, rfl, rfl, by decide +kernel, rfl, by decide +kernel, by decide +kernel⟩
@[reducible] noncomputable def b_times : FS :=
  (Sseq (Sbind (.tp [(.nm 2), (.nm 3)]) (Ev 1))
  (Sret (EC fTup (Acons (Ecmp (Izip (Acons (Ev 2) (Acons (Ev 3) Anil))) (.tp [(.nm 4), (.nm 5)]) Tyes (EC fTup (Acons (Ecmp (Izip (Acons (Ev 4) (Acons (Ev 5) Anil))) (.tp [(.nm 6), (.nm 7)]) Tyes (E2 mulD (Ev 6) (Ev 7)) [6, 7]) Anil)) [4, 5]) Anil))))
noncomputable def m_times : FC := (runF 8 b_times)
/-! ### turn -/
abbrev s_turn : Stmt := topS 7
abbrev N_turn : List PySem.Str := ["numbers", "matrices", "matrix", "at", "row"]
theorem sc_turn : FnScope N_turn ["numbers", "matrices"] (defScope s_turn) := ⟨rfl, rfl, rfl, by decide +kernel, rfl, by decide +kernel, by decide +kernel⟩
@[reducible] noncomputable def b_turn : FS :=
  (Sseq (Sset 2 (E2 ixD (Ev 1) (Ec (.int 0))))
  (Sret (EC fTup (Acons (Ecmp (Irng1 (Acons (EC fLen (Acons (E2 ixD (Ev 2) (Ec (.int 0))) Anil)) Anil)) (.nm 3) Tyes (EC fTup (Acons (Ecmp (Iseq (Ev 2)) (.nm 4) Tyes (E2 ixD (Ev 4) (Ev 3)) [4]) Anil)) [3]) Anil))))
noncomputable def m_turn : FC := (runF 5 b_turn)
/-! ### inner -/
abbrev s_inner : Stmt := topS 9
abbrev N_inner : List PySem.Str := ["row", "column", "a", "b"]
theorem sc_inner : FnScope N_inner ["row", "column"] (defScope s_inner) := ⟨rfl, rfl, rfl, by decide +kernel, rfl, by decide +kernel, by decide +kernel⟩
@[reducible] noncomputable def b_inner : FS :=
  (Sret (EC fSum (Acons (Ecmp (Izip (Acons (Ev 0) (Acons (Ev 1) Anil))) (.tp [(.nm 2), (.nm 3)]) Tyes (E2 mulD (Ev 2) (Ev 3)) [2, 3]) Anil)))
noncomputable def m_inner : FC := (runF 4 b_inner)
/-! ### product -/
abbrev s_product : Stmt := topS 8
abbrev N_product : List PySem.Str := ["numbers", "matrices", "columns", "row", "column"]
theorem sc_product : FnScope N_product ["numbers", "matrices"] (defScope s_product) := ⟨rfl, rfl, rfl, by decide +kernel, rfl, by decide +kernel, by decide +kernel⟩
@[reducible] noncomputable def b_product : FS :=
  (Sseq (Sset 2 (EC (arN 2 m_turn) (Acons (Etup Anil) (Acons (Esl (Ev 1) (Osome (Ec (.int 1))) Onone) Anil))))
  (Sret (EC fTup (Acons (Ecmp (Iseq (E2 ixD (Ev 1) (Ec (.int 0)))) (.nm 3) Tyes (EC fTup (Acons (Ecmp (Iseq (Ev 2)) (.nm 4) Tyes (EC (arN 2 m_inner) (Acons (Ev 3) (Acons (Ev 4) Anil))) [4]) Anil)) [3]) Anil))))
noncomputable def m_product : FC := (runF 5 b_product)
/-! ### positive -/
abbrev s_positive : Stmt := topS 10
abbrev N_positive : List PySem.Str := ["numbers", "matrices", "row", "entry"]
theorem sc_positive : FnScope N_positive ["numbers", "matrices"] (defScope s_positive) := ⟨rfl, rfl, rfl, by decide +kernel, rfl, by decide +kernel, by decide +kernel⟩
@[reducible] noncomputable def b_positive : FS :=
  (Sret (EC fTup (Acons (Ecmp (Iseq (E2 ixD (Ev 1) (Ec (.int 0)))) (.nm 2) Tyes (EC fTup (Acons (Ecmp (Iseq (Ev 2)) (.nm 3) Tyes (EC fMax2 (Acons (Ev 3) (Acons (Ec (.int 0)) Anil))) [3]) Anil)) [2]) Anil)))
noncomputable def m_positive : FC := (runF 4 b_positive)
/-! ### gate -/
abbrev s_gate : Stmt := topS 11
abbrev N_gate : List PySem.Str := ["numbers", "matrices", "one", "other", "left", "right", "a", "b"]
theorem sc_gate : FnScope N_gate ["numbers", "matrices"] (defScope s_gate) := ⟨rfl, rfl, rfl, by decide +kernel, rfl, by decide +kernel, by decide +kernel⟩
@[reducible] noncomputable def b_gate : FS :=
  (Sseq (Sbind (.tp [(.nm 2), (.nm 3)]) (Ev 1))
  (Sret (EC fTup (Acons (Ecmp (Izip (Acons (Ev 2) (Acons (Ev 3) Anil))) (.tp [(.nm 4), (.nm 5)]) Tyes (EC fTup (Acons (Ecmp (Izip (Acons (Ev 4) (Acons (Ev 5) Anil))) (.tp [(.nm 6), (.nm 7)]) Tyes (Eif (Tb (E2 gtD (Ev 6) (Ec (.int 0)))) (Ev 7) (Ec (.int 0))) [6, 7]) Anil)) [4, 5]) Anil))))
noncomputable def m_gate : FC := (runF 8 b_gate)
/-! ### total -/
abbrev s_total : Stmt := topS 12
abbrev N_total : List PySem.Str := ["numbers", "matrices", "row"]
theorem sc_total : FnScope N_total ["numbers", "matrices"] (defScope s_total) := ⟨rfl, rfl, rfl, by decide +kernel, rfl, by decide +kernel, by decide +kernel⟩
@[reducible] noncomputable def b_total : FS :=
  (Sret (Etup (Acons (Etup (Acons (EC fSum (Acons (Ecmp (Iseq (E2 ixD (Ev 1) (Ec (.int 0)))) (.nm 2) Tyes (EC fSum (Acons (Ev 2) Anil)) [2]) Anil)) Anil)) Anil)))
noncomputable def m_total : FC := (runF 3 b_total)
/-! ### fill -/
abbrev s_fill : Stmt := topS 18
abbrev N_fill : List PySem.Str := ["numbers", "matrices"]
theorem sc_fill : FnScope N_fill ["numbers", "matrices"] (defScope s_fill) := ⟨rfl, rfl, rfl, by decide +kernel, rfl, by decide +kernel, by decide +kernel⟩
@[reducible] noncomputable def b_fill : FS :=
  (Sret (EC fTup (Acons (E2 mulD (Elst (Acons (E2 mulD (Etup (Acons (E2 ixD (Ev 0) (Ec (.int 2))) Anil)) (E2 ixD (Ev 0) (Ec (.int 1)))) Anil)) (E2 ixD (Ev 0) (Ec (.int 0)))) Anil)))
noncomputable def m_fill : FC := (runF 2 b_fill)
/-! ### spread -/
abbrev s_spread : Stmt := topS 13
abbrev N_spread : List PySem.Str := ["numbers", "matrices"]
theorem sc_spread : FnScope N_spread ["numbers", "matrices"] (defScope s_spread) := ⟨rfl, rfl, rfl, by decide +kernel, rfl, by decide +kernel, by decide +kernel⟩
@[reducible] noncomputable def b_spread : FS :=
  (Sret (EC (arN 2 m_fill) (Acons (Etup (Acons (E2 ixD (Ev 0) (Ec (.int 0))) (Acons (E2 ixD (Ev 0) (Ec (.int 1))) (Acons (E2 ixD (E2 ixD (E2 ixD (Ev 1) (Ec (.int 0))) (Ec (.int 0))) (Ec (.int 0))) Anil)))) (Acons (Etup Anil) Anil))))
noncomputable def m_spread : FC := (runF 2 b_spread)
/-! ### stretch -/
abbrev s_stretch : Stmt := topS 14
abbrev N_stretch : List PySem.Str := ["numbers", "matrices", "row", "entry"]
theorem sc_stretch : FnScope N_stretch ["numbers", "matrices"] (defScope s_stretch) := ⟨rfl, rfl, rfl, by decide +kernel, rfl, by decide +kernel, by decide +kernel⟩
@[reducible] noncomputable def b_stretch : FS :=
  (Sret (EC fTup (Acons (Ecmp (Iseq (E2 ixD (Ev 1) (Ec (.int 0)))) (.nm 2) Tyes (EC fTup (Acons (Ecmp (Iseq (Ev 2)) (.nm 3) Tyes (E2 mulD (Ev 3) (E2 ixD (Ev 0) (Ec (.int 0)))) [3]) Anil)) [2]) Anil)))
noncomputable def m_stretch : FC := (runF 4 b_stretch)
/-! ### scale -/
abbrev s_scale : Stmt := topS 15
abbrev N_scale : List PySem.Str := ["numbers", "matrices", "whole", "half", "row", "entry"]
theorem sc_scale : FnScope N_scale ["numbers", "matrices"] (defScope s_scale) := ⟨rfl, rfl, rfl, by decide +kernel, rfl, by decide +kernel, by decide +kernel⟩
@[reducible] noncomputable def b_scale : FS :=
  (Sseq (Sset 2 (E2 shlD (Ec (.int 1)) (E2 ixD (Ev 0) (Ec (.int 0)))))
  (Sseq (Sset 3 (E2 fdivD (Ev 2) (Ec (.int 2))))
  (Sret (EC fTup (Acons (Ecmp (Iseq (E2 ixD (Ev 1) (Ec (.int 0)))) (.nm 4) Tyes (EC fTup (Acons (Ecmp (Iseq (Ev 4)) (.nm 5) Tyes (E2 fdivD (E2 addD (Ev 5) (Ev 3)) (Ev 2)) [5]) Anil)) [4]) Anil)))))
noncomputable def m_scale : FC := (runF 6 b_scale)
/-! ### pick -/
abbrev s_pick : Stmt := topS 16
abbrev N_pick : List PySem.Str := ["numbers", "matrices", "table", "ids", "found", "row"]
theorem sc_pick : FnScope N_pick ["numbers", "matrices"] (defScope s_pick) := ⟨rfl, rfl, rfl, by decide +kernel, rfl, by decide +kernel, by decide +kernel⟩
@[reducible] noncomputable def b_pick : FS :=
  (Sseq (Sbind (.tp [(.nm 2), (.nm 3)]) (Ev 1))
  (Sseq (Sset 4 (Enew Anil))
  (Sseq (Sfor (Iseq (Ev 3)) (.nm 5)
  (Sseq (Sif (Tnot (Tb (E3 leD ltD (Ec (.int 0)) (E2 ixD (Ev 5) (Ec (.int 0))) (EC fLen (Acons (Ev 2) Anil)))))
  (Sret (Ec .non))
  Snil)
  (Sexp (EM "list" mApp (Ev 4) (Acons (E2 ixD (Ev 2) (E2 ixD (Ev 5) (Ec (.int 0)))) Anil)))))
  (Sret (EC fTup (Acons (Ev 4) Anil))))))
noncomputable def m_pick : FC := gcF (runF 6 b_pick)
/-! ### place -/
abbrev s_place : Stmt := topS 17
abbrev N_place : List PySem.Str := ["numbers", "matrices", "ids", "given", "rows", "target", "row", "_", "a", "b"]
theorem sc_place : FnScope N_place ["numbers", "matrices"] (defScope s_place) := ⟨rfl, rfl, rfl, by decide +kernel, rfl, by decide +kernel, by decide +kernel⟩
@[reducible] noncomputable def b_place : FS :=
  (Sseq (Sbind (.tp [(.nm 2), (.nm 3)]) (Ev 1))
  (Sseq (Sset 4 (EcmpN (Irng1 (Acons (E2 ixD (Ev 0) (Ec (.int 0))) Anil)) (.nm 7) Tyes (E2 mulD (Elst (Acons (Ec (.int 0)) Anil)) (EC fLen (Acons (E2 ixD (Ev 3) (Ec (.int 0))) Anil))) [7]))
  (Sseq (Sfor (Izip (Acons (Ev 2) (Acons (Ev 3) Anil))) (.tp [(.nm 5), (.nm 6)])
  (Sseq (Sif (Tnot (Tb (E3 leD ltD (Ec (.int 0)) (E2 ixD (Ev 5) (Ec (.int 0))) (E2 ixD (Ev 0) (Ec (.int 0))))))
  (Sret (Ec .non))
  Snil)
  (SsetIx (Ev 4) (E2 ixD (Ev 5) (Ec (.int 0))) (Ecmp (Izip (Acons (E2 ixD (Ev 4) (E2 ixD (Ev 5) (Ec (.int 0)))) (Acons (Ev 6) Anil))) (.tp [(.nm 8), (.nm 9)]) Tyes (E2 addD (Ev 8) (Ev 9)) [8, 9]))))
  (Sret (EC fTup (Acons (Ecmp (Iseq (Ev 4)) (.nm 6) Tyes (EC fTup (Acons (Ev 6) Anil)) [6]) Anil))))))
noncomputable def m_place : FC := gcF (runF 10 b_place)
/-! ### fits -/
def tab_COUNTS : List (PySem.Str × D) := [("add", .int 2), ("sub", .int 2), ("times", .int 2), ("product", .int 2), ("turn", .int 1), ("positive", .int 1), ("gate", .int 2), ("total", .int 1), ("spread", .int 1), ("stretch", .int 1), ("scale", .int 1), ("pick", .int 2), ("place", .int 2), ("fill", .int 0)]
abbrev s_fits : Stmt := topS 21
abbrev N_fits : List PySem.Str := ["kind", "found"]
theorem sc_fits : FnScope N_fits ["kind", "found"] (defScope s_fits) := ⟨rfl, rfl, rfl, by decide +kernel, rfl, by decide +kernel, by decide +kernel⟩
@[reducible] noncomputable def b_fits : FS :=
  (Sseq (Sif (Tb (E2 (eqD true) (EC fLen (Acons (Ev 1) Anil)) (E1 (tabD tab_COUNTS) (Ev 0))))
  (Sret (Ec (.bl false)))
  Snil)
  (Sseq (Sif (Tb (E2 (inD false) (Ev 0) (Etup (Acons (Ec (.str "add")) (Acons (Ec (.str "sub")) (Acons (Ec (.str "times")) (Acons (Ec (.str "gate")) Anil)))))))
  (Sret (E2 (eqD false) (E2 ixD (Ev 1) (Ec (.int 0))) (E2 ixD (Ev 1) (Ec (.int 1)))))
  Snil)
  (Sseq (Sif (Tb (E2 (eqD false) (Ev 0) (Ec (.str "product"))))
  (Sret (E2 (eqD false) (E2 ixD (E2 ixD (Ev 1) (Ec (.int 0))) (Ec (.int 1))) (E2 ixD (E2 ixD (Ev 1) (Ec (.int 1))) (Ec (.int 0)))))
  Snil)
  (Sseq (Sif (Tb (E2 (eqD false) (Ev 0) (Ec (.str "spread"))))
  (Sret (E2 (eqD false) (E2 ixD (Ev 1) (Ec (.int 0))) (Etup (Acons (Ec (.int 1)) (Acons (Ec (.int 1)) Anil)))))
  Snil)
  (Sseq (Sif (Tb (E2 (eqD false) (Ev 0) (Ec (.str "pick"))))
  (Sret (E2 (eqD false) (E2 ixD (E2 ixD (Ev 1) (Ec (.int 1))) (Ec (.int 1))) (Ec (.int 1))))
  Snil)
  (Sseq (Sif (Tb (E2 (eqD false) (Ev 0) (Ec (.str "place"))))
  (Sret (E2 (eqD false) (E2 ixD (Ev 1) (Ec (.int 0))) (Etup (Acons (E2 ixD (E2 ixD (Ev 1) (Ec (.int 1))) (Ec (.int 0))) (Acons (Ec (.int 1)) Anil)))))
  Snil)
  (Sret (Ec (.bl true)))))))))
noncomputable def m_fits : FC := (runF 2 b_fits)
/-! ### operate -/
def tab_OPERATIONS : List (PySem.Str × D) := [("add", .adr "add"), ("sub", .adr "sub"), ("times", .adr "times"), ("product", .adr "product"), ("turn", .adr "turn"), ("positive", .adr "positive"), ("gate", .adr "gate"), ("total", .adr "total"), ("spread", .adr "spread"), ("stretch", .adr "stretch"), ("scale", .adr "scale"), ("pick", .adr "pick"), ("place", .adr "place"), ("fill", .adr "fill")]
@[reducible] noncomputable def ct_OPERATIONS : List (PySem.Str × FC) := [("add", arN 2 m_add), ("sub", arN 2 m_sub), ("times", arN 2 m_times), ("product", arN 2 m_product), ("turn", arN 2 m_turn), ("positive", arN 2 m_positive), ("gate", arN 2 m_gate), ("total", arN 2 m_total), ("spread", arN 2 m_spread), ("stretch", arN 2 m_stretch), ("scale", arN 2 m_scale), ("pick", arN 2 m_pick), ("place", arN 2 m_place), ("fill", arN 2 m_fill)]
abbrev s_operate : Stmt := topS 22
abbrev N_operate : List PySem.Str := ["kind", "numbers", "matrices", "action", "result", "matrix"]
theorem sc_operate : FnScope N_operate ["kind", "numbers", "matrices"] (defScope s_operate) := ⟨rfl, rfl, rfl, by decide +kernel, rfl, by decide +kernel, by decide +kernel⟩
@[reducible] noncomputable def b_operate : FS :=
  (Sseq (Sif (Tnot (Tt (EC (arN 2 m_fits) (Acons (Ev 0) (Acons (Ecmp (Iseq (Ev 2)) (.nm 5) Tyes (EC (arN 1 m_shape_of) (Acons (Ev 5) Anil)) [5]) Anil)))))
  (Sret (Ec .non))
  Snil)
  (Sseq (Sset 3 (E1 (tabD tab_OPERATIONS) (Ev 0)))
  (Sseq (Sset 4 (Ecv 3 ct_OPERATIONS (Acons (Ev 1) (Acons (Ev 2) Anil))))
  (Sseq (Sif (Tor (Tb (E2 (isnD false) (Ev 4) (Ec .non))) (Tnot (Tt (EC (arN 1 m_is_bounded) (Acons (Ev 4) Anil)))))
  (Sret (Ec .non))
  Snil)
  (Sret (Ev 4))))))
@[reducible] noncomputable def t_operate_1 : FS := (Sseq (Sset 3 (E1 (tabD tab_OPERATIONS) (Ev 0)))
  (Sseq (Sset 4 (Ecv 3 ct_OPERATIONS (Acons (Ev 1) (Acons (Ev 2) Anil))))
  (Sseq (Sif (Tor (Tb (E2 (isnD false) (Ev 4) (Ec .non))) (Tnot (Tt (EC (arN 1 m_is_bounded) (Acons (Ev 4) Anil)))))
  (Sret (Ec .non))
  Snil)
  (Sret (Ev 4)))))
@[reducible] noncomputable def t_operate_2 : FS := (Sseq (Sset 4 (Ecv 3 ct_OPERATIONS (Acons (Ev 1) (Acons (Ev 2) Anil))))
  (Sseq (Sif (Tor (Tb (E2 (isnD false) (Ev 4) (Ec .non))) (Tnot (Tt (EC (arN 1 m_is_bounded) (Acons (Ev 4) Anil)))))
  (Sret (Ec .non))
  Snil)
  (Sret (Ev 4))))
@[reducible] noncomputable def t_operate_3 : FS := (Sseq (Sif (Tor (Tb (E2 (isnD false) (Ev 4) (Ec .non))) (Tnot (Tt (EC (arN 1 m_is_bounded) (Acons (Ev 4) Anil)))))
  (Sret (Ec .non))
  Snil)
  (Sret (Ev 4)))
@[reducible] noncomputable def t_operate_4 : FS := (Sret (Ev 4))
@[reducible] noncomputable def i0_operate : FS := (Sret (Ec .non))
@[reducible] noncomputable def i3_operate : FS := (Sret (Ec .non))
noncomputable def m_operate : FC := (runF 6 b_operate)
/-! ### needed -/
abbrev s_needed : Stmt := topS 24
abbrev N_needed : List PySem.Str := ["leaves", "lines", "outputs", "wanted", "value", "found", "index"]
theorem sc_needed : FnScope N_needed ["leaves", "lines", "outputs"] (defScope s_needed) := ⟨rfl, rfl, rfl, by decide +kernel, rfl, by decide +kernel, by decide +kernel⟩
@[reducible] noncomputable def b_needed : FS :=
  (Sseq (Sset 3 (E2 mulN (Elst (Acons (Ec (.bl false)) Anil)) (E2 addD (Ev 0) (EC fLen (Acons (Ev 1) Anil)))))
  (Sseq (Sfor (Iseq (Ev 2)) (.nm 4)
  (SsetIx (Ev 3) (Ev 4) (Ec (.bl true))))
  (Sseq (Sset 5 (Enew Anil))
  (Sseq (Sfor (Irng3 (Acons (E2 subD (EC fLen (Acons (Ev 1) Anil)) (Ec (.int 1))) (Acons (E1 negD (Ec (.int 1))) (Acons (E1 negD (Ec (.int 1))) Anil)))) (.nm 6)
  (Sif (Tt (E2 ixD (Ev 3) (E2 addD (Ev 0) (Ev 6))))
  (Sseq (Sexp (EM "list" mApp (Ev 5) (Acons (Ev 6) Anil)))
  (Sfor (Iseq (E2 ixD (E2 ixD (Ev 1) (Ev 6)) (Ec (.int 2)))) (.nm 4)
  (SsetIx (Ev 3) (Ev 4) (Ec (.bl true)))))
  Snil))
  (Sret (EC fTup (Acons (E1 revD (Ev 5)) Anil)))))))
noncomputable def m_needed : FC := gcF (runF 7 b_needed)
/-! ### run_lines -/
abbrev s_run_lines : Stmt := topS 25
abbrev N_run_lines : List PySem.Str := ["matrices", "lines", "outputs", "leaves", "values", "asked", "index", "kind", "numbers", "operands", "operation", "result", "value"]
theorem sc_run_lines : FnScope N_run_lines ["matrices", "lines", "outputs"] (defScope s_run_lines) := ⟨rfl, rfl, rfl, by decide +kernel, rfl, by decide +kernel, by decide +kernel⟩
@[reducible] noncomputable def b_run_lines : FS :=
  (Sseq (Sset 3 (EC fLen (Acons (Ev 0) Anil)))
  (Sseq (Sset 4 (E2 addN (EC fList (Acons (Ev 0) Anil)) (E2 mulD (Elst (Acons (Ec .non) Anil)) (EC fLen (Acons (Ev 1) Anil)))))
  (Sseq (Sset 5 (Enew Anil))
  (Sseq (Sfor (Iseq (EC (arN 3 m_needed) (Acons (Ev 3) (Acons (Ev 1) (Acons (Ev 2) Anil))))) (.nm 6)
  (Sseq (Sbind (.tp [(.nm 7), (.nm 8), (.nm 9)]) (E2 ixD (Ev 1) (Ev 6)))
  (Sseq (Sset 10 (Etup (Acons (Ev 7) (Acons (Ev 8) (Acons (EC fTup (Acons (Ecmp (Iseq (Ev 9)) (.nm 12) Tyes (E2 ixD (Ev 4) (Ev 12)) [12]) Anil)) Anil)))))
  (Sseq (Sexp (EM "list" mApp (Ev 5) (Acons (Ev 10) Anil)))
  (Sseq (Sset 11 (EC (arN 3 m_operate) (Acons (Ev 7) (Acons (Ev 8) (Acons (E2 ixD (Ev 10) (Ec (.int 2))) Anil)))))
  (Sseq (Sif (Tb (E2 (isnD false) (Ev 11) (Ec .non)))
  (Sret (Etup (Acons (Ec .non) (Acons (EC fTup (Acons (Ev 5) Anil)) Anil))))
  Snil)
  (SsetIx (Ev 4) (E2 addD (Ev 3) (Ev 6)) (Ev 11))))))))
  (Sret (Etup (Acons (EC fTup (Acons (Ecmp (Iseq (Ev 2)) (.nm 12) Tyes (E2 ixD (Ev 4) (Ev 12)) [12]) Anil)) (Acons (EC fTup (Acons (Ev 5) Anil)) Anil))))))))
@[reducible] noncomputable def t_run_lines_1 : FS := (Sseq (Sset 4 (E2 addN (EC fList (Acons (Ev 0) Anil)) (E2 mulD (Elst (Acons (Ec .non) Anil)) (EC fLen (Acons (Ev 1) Anil)))))
  (Sseq (Sset 5 (Enew Anil))
  (Sseq (Sfor (Iseq (EC (arN 3 m_needed) (Acons (Ev 3) (Acons (Ev 1) (Acons (Ev 2) Anil))))) (.nm 6)
  (Sseq (Sbind (.tp [(.nm 7), (.nm 8), (.nm 9)]) (E2 ixD (Ev 1) (Ev 6)))
  (Sseq (Sset 10 (Etup (Acons (Ev 7) (Acons (Ev 8) (Acons (EC fTup (Acons (Ecmp (Iseq (Ev 9)) (.nm 12) Tyes (E2 ixD (Ev 4) (Ev 12)) [12]) Anil)) Anil)))))
  (Sseq (Sexp (EM "list" mApp (Ev 5) (Acons (Ev 10) Anil)))
  (Sseq (Sset 11 (EC (arN 3 m_operate) (Acons (Ev 7) (Acons (Ev 8) (Acons (E2 ixD (Ev 10) (Ec (.int 2))) Anil)))))
  (Sseq (Sif (Tb (E2 (isnD false) (Ev 11) (Ec .non)))
  (Sret (Etup (Acons (Ec .non) (Acons (EC fTup (Acons (Ev 5) Anil)) Anil))))
  Snil)
  (SsetIx (Ev 4) (E2 addD (Ev 3) (Ev 6)) (Ev 11))))))))
  (Sret (Etup (Acons (EC fTup (Acons (Ecmp (Iseq (Ev 2)) (.nm 12) Tyes (E2 ixD (Ev 4) (Ev 12)) [12]) Anil)) (Acons (EC fTup (Acons (Ev 5) Anil)) Anil)))))))
@[reducible] noncomputable def t_run_lines_2 : FS := (Sseq (Sset 5 (Enew Anil))
  (Sseq (Sfor (Iseq (EC (arN 3 m_needed) (Acons (Ev 3) (Acons (Ev 1) (Acons (Ev 2) Anil))))) (.nm 6)
  (Sseq (Sbind (.tp [(.nm 7), (.nm 8), (.nm 9)]) (E2 ixD (Ev 1) (Ev 6)))
  (Sseq (Sset 10 (Etup (Acons (Ev 7) (Acons (Ev 8) (Acons (EC fTup (Acons (Ecmp (Iseq (Ev 9)) (.nm 12) Tyes (E2 ixD (Ev 4) (Ev 12)) [12]) Anil)) Anil)))))
  (Sseq (Sexp (EM "list" mApp (Ev 5) (Acons (Ev 10) Anil)))
  (Sseq (Sset 11 (EC (arN 3 m_operate) (Acons (Ev 7) (Acons (Ev 8) (Acons (E2 ixD (Ev 10) (Ec (.int 2))) Anil)))))
  (Sseq (Sif (Tb (E2 (isnD false) (Ev 11) (Ec .non)))
  (Sret (Etup (Acons (Ec .non) (Acons (EC fTup (Acons (Ev 5) Anil)) Anil))))
  Snil)
  (SsetIx (Ev 4) (E2 addD (Ev 3) (Ev 6)) (Ev 11))))))))
  (Sret (Etup (Acons (EC fTup (Acons (Ecmp (Iseq (Ev 2)) (.nm 12) Tyes (E2 ixD (Ev 4) (Ev 12)) [12]) Anil)) (Acons (EC fTup (Acons (Ev 5) Anil)) Anil))))))
@[reducible] noncomputable def t_run_lines_3 : FS := (Sseq (Sfor (Iseq (EC (arN 3 m_needed) (Acons (Ev 3) (Acons (Ev 1) (Acons (Ev 2) Anil))))) (.nm 6)
  (Sseq (Sbind (.tp [(.nm 7), (.nm 8), (.nm 9)]) (E2 ixD (Ev 1) (Ev 6)))
  (Sseq (Sset 10 (Etup (Acons (Ev 7) (Acons (Ev 8) (Acons (EC fTup (Acons (Ecmp (Iseq (Ev 9)) (.nm 12) Tyes (E2 ixD (Ev 4) (Ev 12)) [12]) Anil)) Anil)))))
  (Sseq (Sexp (EM "list" mApp (Ev 5) (Acons (Ev 10) Anil)))
  (Sseq (Sset 11 (EC (arN 3 m_operate) (Acons (Ev 7) (Acons (Ev 8) (Acons (E2 ixD (Ev 10) (Ec (.int 2))) Anil)))))
  (Sseq (Sif (Tb (E2 (isnD false) (Ev 11) (Ec .non)))
  (Sret (Etup (Acons (Ec .non) (Acons (EC fTup (Acons (Ev 5) Anil)) Anil))))
  Snil)
  (SsetIx (Ev 4) (E2 addD (Ev 3) (Ev 6)) (Ev 11))))))))
  (Sret (Etup (Acons (EC fTup (Acons (Ecmp (Iseq (Ev 2)) (.nm 12) Tyes (E2 ixD (Ev 4) (Ev 12)) [12]) Anil)) (Acons (EC fTup (Acons (Ev 5) Anil)) Anil)))))
@[reducible] noncomputable def t_run_lines_4 : FS := (Sret (Etup (Acons (EC fTup (Acons (Ecmp (Iseq (Ev 2)) (.nm 12) Tyes (E2 ixD (Ev 4) (Ev 12)) [12]) Anil)) (Acons (EC fTup (Acons (Ev 5) Anil)) Anil))))
@[reducible] noncomputable def u0_run_lines_0 : FS := (Sseq (Sbind (.tp [(.nm 7), (.nm 8), (.nm 9)]) (E2 ixD (Ev 1) (Ev 6)))
  (Sseq (Sset 10 (Etup (Acons (Ev 7) (Acons (Ev 8) (Acons (EC fTup (Acons (Ecmp (Iseq (Ev 9)) (.nm 12) Tyes (E2 ixD (Ev 4) (Ev 12)) [12]) Anil)) Anil)))))
  (Sseq (Sexp (EM "list" mApp (Ev 5) (Acons (Ev 10) Anil)))
  (Sseq (Sset 11 (EC (arN 3 m_operate) (Acons (Ev 7) (Acons (Ev 8) (Acons (E2 ixD (Ev 10) (Ec (.int 2))) Anil)))))
  (Sseq (Sif (Tb (E2 (isnD false) (Ev 11) (Ec .non)))
  (Sret (Etup (Acons (Ec .non) (Acons (EC fTup (Acons (Ev 5) Anil)) Anil))))
  Snil)
  (SsetIx (Ev 4) (E2 addD (Ev 3) (Ev 6)) (Ev 11)))))))
@[reducible] noncomputable def u0_run_lines_1 : FS := (Sseq (Sset 10 (Etup (Acons (Ev 7) (Acons (Ev 8) (Acons (EC fTup (Acons (Ecmp (Iseq (Ev 9)) (.nm 12) Tyes (E2 ixD (Ev 4) (Ev 12)) [12]) Anil)) Anil)))))
  (Sseq (Sexp (EM "list" mApp (Ev 5) (Acons (Ev 10) Anil)))
  (Sseq (Sset 11 (EC (arN 3 m_operate) (Acons (Ev 7) (Acons (Ev 8) (Acons (E2 ixD (Ev 10) (Ec (.int 2))) Anil)))))
  (Sseq (Sif (Tb (E2 (isnD false) (Ev 11) (Ec .non)))
  (Sret (Etup (Acons (Ec .non) (Acons (EC fTup (Acons (Ev 5) Anil)) Anil))))
  Snil)
  (SsetIx (Ev 4) (E2 addD (Ev 3) (Ev 6)) (Ev 11))))))
@[reducible] noncomputable def u0_run_lines_2 : FS := (Sseq (Sexp (EM "list" mApp (Ev 5) (Acons (Ev 10) Anil)))
  (Sseq (Sset 11 (EC (arN 3 m_operate) (Acons (Ev 7) (Acons (Ev 8) (Acons (E2 ixD (Ev 10) (Ec (.int 2))) Anil)))))
  (Sseq (Sif (Tb (E2 (isnD false) (Ev 11) (Ec .non)))
  (Sret (Etup (Acons (Ec .non) (Acons (EC fTup (Acons (Ev 5) Anil)) Anil))))
  Snil)
  (SsetIx (Ev 4) (E2 addD (Ev 3) (Ev 6)) (Ev 11)))))
@[reducible] noncomputable def u0_run_lines_3 : FS := (Sseq (Sset 11 (EC (arN 3 m_operate) (Acons (Ev 7) (Acons (Ev 8) (Acons (E2 ixD (Ev 10) (Ec (.int 2))) Anil)))))
  (Sseq (Sif (Tb (E2 (isnD false) (Ev 11) (Ec .non)))
  (Sret (Etup (Acons (Ec .non) (Acons (EC fTup (Acons (Ev 5) Anil)) Anil))))
  Snil)
  (SsetIx (Ev 4) (E2 addD (Ev 3) (Ev 6)) (Ev 11))))
@[reducible] noncomputable def u0_run_lines_4 : FS := (Sseq (Sif (Tb (E2 (isnD false) (Ev 11) (Ec .non)))
  (Sret (Etup (Acons (Ec .non) (Acons (EC fTup (Acons (Ev 5) Anil)) Anil))))
  Snil)
  (SsetIx (Ev 4) (E2 addD (Ev 3) (Ev 6)) (Ev 11)))
@[reducible] noncomputable def u0_run_lines_5 : FS := (SsetIx (Ev 4) (E2 addD (Ev 3) (Ev 6)) (Ev 11))
noncomputable def m_run_lines : FC := gcF (runF 13 b_run_lines)
/-! ### put_line -/
abbrev s_put_line : Stmt := topS 27
abbrev N_put_line : List PySem.Str := ["lines", "leaves", "kind", "numbers", "values"]
theorem sc_put_line : FnScope N_put_line ["lines", "leaves", "kind", "numbers", "values"] (defScope s_put_line) := ⟨rfl, rfl, rfl, by decide +kernel, rfl, by decide +kernel, by decide +kernel⟩
@[reducible] noncomputable def b_put_line : FS :=
  (Sseq (Sexp (EM "list" mApp (Ev 0) (Acons (Etup (Acons (Ev 2) (Acons (Ev 3) (Acons (Ev 4) Anil)))) Anil)))
  (Sret (E2 subD (E2 addD (Ev 1) (EC fLen (Acons (Ev 0) Anil))) (Ec (.int 1)))))
noncomputable def m_put_line : FC := (runF 5 b_put_line)
/-! ### add_tree -/
abbrev s_add_tree : Stmt := topS 28
abbrev N_add_tree : List PySem.Str := ["lines", "leaves", "values", "half", "left", "right"]
theorem sc_add_tree : FnScope N_add_tree ["lines", "leaves", "values"] (defScope s_add_tree) := ⟨rfl, rfl, rfl, by decide +kernel, rfl, by decide +kernel, by decide +kernel⟩
@[reducible] noncomputable def b_add_tree (m : FC) : FS :=
  (Sseq (Sif (Tb (E2 (eqD false) (EC fLen (Acons (Ev 2) Anil)) (Ec (.int 1))))
  (Sret (E2 ixD (Ev 2) (Ec (.int 0))))
  Snil)
  (Sseq (Sset 3 (E2 fdivD (E2 addD (EC fLen (Acons (Ev 2) Anil)) (Ec (.int 1))) (Ec (.int 2))))
  (Sseq (Sset 4 (EC (arN 3 m) (Acons (Ev 0) (Acons (Ev 1) (Acons (Esl (Ev 2) Onone (Osome (Ev 3))) Anil)))))
  (Sseq (Sset 5 (EC (arN 3 m) (Acons (Ev 0) (Acons (Ev 1) (Acons (Esl (Ev 2) (Osome (Ev 3)) Onone) Anil)))))
  (Sret (EC (arN 5 m_put_line) (Acons (Ev 0) (Acons (Ev 1) (Acons (Ec (.str "add")) (Acons (Etup Anil) (Acons (Etup (Acons (Ev 4) (Acons (Ev 5) Anil))) Anil)))))))))))
noncomputable def m_add_tree : Nat → FC
  | 0 => fun _ _ => none
  | n + 1 => (runF 6 (b_add_tree (m_add_tree n)))
/-! ### sum_tree -/
abbrev s_sum_tree : Stmt := topS 29
abbrev N_sum_tree : List PySem.Str := ["matrices", "lines", "result", "values", "asked"]
theorem sc_sum_tree : FnScope N_sum_tree ["matrices"] (defScope s_sum_tree) := ⟨rfl, rfl, rfl, by decide +kernel, rfl, by decide +kernel, by decide +kernel⟩
@[reducible] noncomputable def b_sum_tree : FS :=
  (Sseq (Sset 1 (Enew Anil))
  (Sseq (Sset 2 (EC (arN 3 (m_add_tree 8)) (Acons (Ev 1) (Acons (EC fLen (Acons (Ev 0) Anil)) (Acons (EC fTup (Acons (E1 lrgD (EC fLen (Acons (Ev 0) Anil))) Anil)) Anil)))))
  (Sseq (Sbind (.tp [(.nm 3), (.nm 4)]) (EC (arN 3 m_run_lines) (Acons (Ev 0) (Acons (EC fTup (Acons (Ev 1) Anil)) (Acons (Etup (Acons (Ev 2) Anil)) Anil)))))
  (Sseq (Sif (Tb (E2 (isnD false) (Ev 3) (Ec .non)))
  (Sret (Etup (Acons (Ec .non) (Acons (EC fLen (Acons (Ev 4) Anil)) Anil))))
  Snil)
  (Sret (Etup (Acons (E2 ixD (Ev 3) (Ec (.int 0))) (Acons (EC fLen (Acons (Ev 4) Anil)) Anil))))))))
noncomputable def m_sum_tree : FC := gcF (runF 5 b_sum_tree)
/-! ### _law_tape -/
abbrev s__law_tape : Stmt := topS 31
abbrev N__law_tape : List PySem.Str := ["_law_script", "_law_numbers", "_law_total", "_law_cell", "_law_rest", "_law_k"]
theorem sc__law_tape : FnScope N__law_tape ["_law_script"] (defScope s__law_tape) := ⟨rfl, rfl, rfl, by decide +kernel, rfl, by decide +kernel, by decide +kernel⟩
@[reducible] noncomputable def b__law_tape : FS :=
  (Sseq (Sset 1 (Enew Anil))
  (Sseq (Sset 2 (Ec (.int 1)))
  (Sseq (Sfor (Iseq (Esl (Ev 0) Onone (Osome (Ec (.int 63))))) (.nm 3)
  (Sseq (Sset 4 (EC fAbs (Acons (EC fInt (Acons (Ev 3) Anil)) Anil)))
  (Sseq (Sset 2 (E2 addD (Ev 2) (Ev 4)))
  (Sfor (Irng1 (Acons (Ec (.int 24)) Anil)) (.nm 5)
  (Sseq (Sexp (EM "list" mApp (Ev 1) (Acons (E2 modD (EC fInt (Acons (Ev 4) Anil)) (Ec (.int 60))) Anil)))
  (Sseq (Sset 4 (E2 fdivD (Ev 4) (Ec (.int 60))))
  (Sif (Tb (E2 (eqD false) (Ev 4) (Ec (.int 0))))
  Sbrk
  Snil)))))))
  (Sret (Enew (Acons (Ec (.int 0)) (Acons (Ev 1) (Acons (E2 modD (EC fInt (Acons (Ev 2) Anil)) (Ec (.int 1000003))) Anil))))))))
noncomputable def m__law_tape : FC := (runF 6 b__law_tape)
/-! ### _law_next -/
abbrev s__law_next : Stmt := topS 32
abbrev N__law_next : List PySem.Str := ["_law_tape_here", "_law_many", "_law_at"]
theorem sc__law_next : FnScope N__law_next ["_law_tape_here", "_law_many"] (defScope s__law_next) := ⟨rfl, rfl, rfl, by decide +kernel, rfl, by decide +kernel, by decide +kernel⟩
@[reducible] noncomputable def b__law_next : FS :=
  (Sseq (Sset 2 (E2 ixD (Ev 0) (Ec (.int 0))))
  (Sseq (SsetIx (Ev 0) (Ec (.int 0)) (E2 addD (Ev 2) (Ec (.int 1))))
  (Sseq (Sif (Tb (E2 ltD (Ev 2) (EC fLen (Acons (E2 ixD (Ev 0) (Ec (.int 1))) Anil))))
  (Sret (E2 modD (EC fInt (Acons (E2 ixD (E2 ixD (Ev 0) (Ec (.int 1))) (Ev 2)) Anil)) (Ev 1)))
  Snil)
  (Sret (E2 modD (E2 fdivD (E2 modD (EC fInt (Acons (E2 addD (E2 mulD (E2 addD (Ev 2) (Ec (.int 1))) (Ec (.int 48271))) (E2 mulD (E2 ixD (Ev 0) (Ec (.int 2))) (Ec (.int 69621)))) Anil)) (Ec (.int 2147483647))) (Ec (.int 11))) (Ev 1))))))
noncomputable def m__law_next : FC := (runF 3 b__law_next)
/-! ### _law_added -/
abbrev s__law_added : Stmt := topS 33
abbrev N__law_added : List PySem.Str := ["_law_a", "_law_b", "_law_rows", "_law_i", "_law_row", "_law_entry", "_law_j"]
theorem sc__law_added : FnScope N__law_added ["_law_a", "_law_b"] (defScope s__law_added) := ⟨rfl, rfl, rfl, by decide +kernel, rfl, by decide +kernel, by decide +kernel⟩
@[reducible] noncomputable def b__law_added : FS :=
  (Sseq (Sif (Tor (Tb (E2 (eqD true) (EC fLen (Acons (Ev 0) Anil)) (EC fLen (Acons (Ev 1) Anil)))) (Tb (E2 (eqD true) (EC fLen (Acons (E2 ixD (Ev 0) (Ec (.int 0))) Anil)) (EC fLen (Acons (E2 ixD (Ev 1) (Ec (.int 0))) Anil)))))
  (Sret (Ec .non))
  Snil)
  (Sseq (Sset 2 (Enew Anil))
  (Sseq (Sfor (Irng1 (Acons (EC fLen (Acons (Ev 0) Anil)) Anil)) (.nm 3)
  (Sseq (Sset 4 (Ecmp (Irng1 (Acons (EC fLen (Acons (E2 ixD (Ev 0) (Ec (.int 0))) Anil)) Anil)) (.nm 6) Tyes (E2 addD (E2 ixD (E2 ixD (Ev 0) (Ev 3)) (Ev 6)) (E2 ixD (E2 ixD (Ev 1) (Ev 3)) (Ev 6))) [6]))
  (Sseq (Sfor (Iseq (Ev 4)) (.nm 5)
  (Sif (Tor (Tb (E2 leD (Ev 5) (E2 subD (Ec (.int 0)) (Ec (.int 10000000))))) (Tb (E2 geD (Ev 5) (Ec (.int 10000000)))))
  (Sret (Ec .non))
  Snil))
  (Sexp (EM "list" mApp (Ev 2) (Acons (EC fTup (Acons (Ev 4) Anil)) Anil))))))
  (Sret (EC fTup (Acons (Ev 2) Anil))))))
noncomputable def m__law_added : FC := gcF (runF 7 b__law_added)
/-! ### _law_tree -/
abbrev s__law_tree : Stmt := topS 34
abbrev N__law_tree : List PySem.Str := ["_law_parts", "_law_half", "_law_left", "_law_right"]
theorem sc__law_tree : FnScope N__law_tree ["_law_parts"] (defScope s__law_tree) := ⟨rfl, rfl, rfl, by decide +kernel, rfl, by decide +kernel, by decide +kernel⟩
@[reducible] noncomputable def b__law_tree (m : FC) : FS :=
  (Sseq (Sif (Tb (E2 (eqD false) (EC fLen (Acons (Ev 0) Anil)) (Ec (.int 1))))
  (Sret (Elst (Acons (E2 ixD (Ev 0) (Ec (.int 0))) (Acons (Ec (.int 0)) Anil))))
  Snil)
  (Sseq (Sset 1 (E2 fdivD (E2 addD (EC fLen (Acons (Ev 0) Anil)) (Ec (.int 1))) (Ec (.int 2))))
  (Sseq (Sset 2 (EC (arN 1 m) (Acons (Esl (Ev 0) Onone (Osome (Ev 1))) Anil)))
  (Sseq (Sif (Tb (E2 (isnD false) (E2 ixD (Ev 2) (Ec (.int 0))) (Ec .non)))
  (Sret (Ev 2))
  Snil)
  (Sseq (Sset 3 (EC (arN 1 m) (Acons (Esl (Ev 0) (Osome (Ev 1)) Onone) Anil)))
  (Sseq (Sif (Tb (E2 (isnD false) (E2 ixD (Ev 3) (Ec (.int 0))) (Ec .non)))
  (Sret (Elst (Acons (Ec .non) (Acons (E2 addD (E2 ixD (Ev 2) (Ec (.int 1))) (E2 ixD (Ev 3) (Ec (.int 1)))) Anil))))
  Snil)
  (Sret (Elst (Acons (EC (arN 2 m__law_added) (Acons (E2 ixD (Ev 2) (Ec (.int 0))) (Acons (E2 ixD (Ev 3) (Ec (.int 0))) Anil))) (Acons (E2 addD (E2 addD (E2 ixD (Ev 2) (Ec (.int 1))) (E2 ixD (Ev 3) (Ec (.int 1)))) (Ec (.int 1))) Anil))))))))))
noncomputable def m__law_tree : Nat → FC
  | 0 => fun _ _ => none
  | n + 1 => (runF 4 (b__law_tree (m__law_tree n)))
/-! ### law -/
abbrev s_law : Stmt := topS 35
abbrev N_law : List PySem.Str := ["_law_script", "_law_tape_here", "_law_rows", "_law_columns", "_law_large", "_law_parts", "_law_k", "_law_entries", "_law_i", "_law_row", "_law_j", "_law_number", "_law_due", "_law_actual"]
theorem sc_law : FnScope N_law ["_law_script"] (defScope s_law) := ⟨rfl, rfl, rfl, by decide +kernel, rfl, by decide +kernel, by decide +kernel⟩
@[reducible] noncomputable def b_law : FS :=
  (Sseq (Sset 1 (EC (arN 1 m__law_tape) (Acons (Ev 0) Anil)))
  (Sseq (Sset 2 (E2 addD (Ec (.int 1)) (EC (arN 2 m__law_next) (Acons (Ev 1) (Acons (Ec (.int 3)) Anil)))))
  (Sseq (Sset 3 (E2 addD (Ec (.int 1)) (EC (arN 2 m__law_next) (Acons (Ev 1) (Acons (Ec (.int 3)) Anil)))))
  (Sseq (Sset 4 (E2 (eqD false) (EC (arN 2 m__law_next) (Acons (Ev 1) (Acons (Ec (.int 3)) Anil))) (Ec (.int 2))))
  (Sseq (Sset 5 (Enew Anil))
  (Sseq (Sfor (Irng1 (Acons (E2 addD (Ec (.int 1)) (EC (arN 2 m__law_next) (Acons (Ev 1) (Acons (Ec (.int 24)) Anil)))) Anil)) (.nm 6)
  (Sseq (Sset 7 (Enew Anil))
  (Sseq (Sfor (Irng1 (Acons (Ev 2) Anil)) (.nm 8)
  (Sseq (Sset 9 (Enew Anil))
  (Sseq (Sfor (Irng1 (Acons (Ev 3) Anil)) (.nm 10)
  (Sseq (Sset 11 (E2 subD (EC (arN 2 m__law_next) (Acons (Ev 1) (Acons (Ec (.int 60)) Anil))) (Ec (.int 30))))
  (Sseq (Sif (Tand (Tt (Ev 4)) (Tb (E2 gtD (Ev 11) (Ec (.int 20)))))
  (Sset 11 (E2 mulD (Ev 11) (Ec (.int 300000))))
  Snil)
  (Sexp (EM "list" mApp (Ev 9) (Acons (Ev 11) Anil))))))
  (Sexp (EM "list" mApp (Ev 7) (Acons (EC fTup (Acons (Ev 9) Anil)) Anil))))))
  (Sseq (Sif (Tb (E2 (eqD false) (EC (arN 2 m__law_next) (Acons (Ev 1) (Acons (Ec (.int 60)) Anil))) (Ec (.int 31))))
  (Sexp (EM "list" mApp (Ev 7) (Acons (E2 ixD (Ev 7) (Ec (.int 0))) Anil)))
  Snil)
  (Sexp (EM "list" mApp (Ev 5) (Acons (EC fTup (Acons (Ev 7) Anil)) Anil)))))))
  (Sseq (Sset 12 (EC (arN 1 (m__law_tree 8)) (Acons (Ev 5) Anil)))
  (Sseq (Sset 13 (EC (arN 1 m_sum_tree) (Acons (EC fTup (Acons (Ev 5) Anil)) Anil)))
  (Sseq (Sif (Tor (Tnot (Tt (EC fIsi (Acons (Ev 13) (Acons (Ec (.ty "tuple")) Anil))))) (Tor (Tb (E2 (eqD true) (EC fLen (Acons (Ev 13) Anil)) (Ec (.int 2)))) (Tt (EC fIsi (Acons (E2 ixD (Ev 13) (Ec (.int 1))) (Acons (Ec (.ty "bool")) Anil))))))
  (Sret (Ec (.bl false)))
  Snil)
  (Sret (Eand (E2 (eqD false) (E2 ixD (Ev 13) (Ec (.int 0))) (E2 ixD (Ev 12) (Ec (.int 0)))) (E2 (eqD false) (E2 ixD (Ev 13) (Ec (.int 1))) (E2 ixD (Ev 12) (Ec (.int 1)))))))))))))))
noncomputable def m_law : FC := (runF 14 b_law)
local macro_rules | `(tactic| walk_at "ml1") => `(tactic| first | with_reducible refine x_2 ?_ | with_reducible refine x_c ?_ | ((with_reducible refine' x_v ?e ?_); (case e => exact rfl)) | with_reducible refine x_cons ?_ | with_reducible refine x_nil ?_ | with_reducible refine x_call ?_ | with_reducible refine x_seq ?_ | with_reducible refine x_set ?_ | with_reducible refine x_ret ?_ | with_reducible refine x_sif ?_ | with_reducible refine x_tb ?_ | with_reducible refine x_1 ?_ | with_reducible refine x_3 ?_ | with_reducible refine z_addI ?_ | with_reducible refine z_sub ?_ | with_reducible refine z_lt ?_ | with_reducible refine z_le ?_ | with_reducible refine z_gt ?_ | with_reducible refine z_ge ?_ | with_reducible refine z_intI ?_ | with_reducible refine z_abs ?_ | with_reducible refine z_eqI ?_ | with_reducible refine z_neI ?_ | with_reducible refine z_eqS ?_ | with_reducible refine z_neS ?_ | with_reducible refine z_neg ?_ | with_reducible refine z_is ?_ | with_reducible refine z_isn ?_ | with_reducible refine z_iadd ?_ | with_reducible refine z_lenT ?_ | with_reducible refine z_lenL ?_ | with_reducible refine z_lenQ ?_ | with_reducible refine x_exp ?_ | with_reducible refine x_retN ?_ | with_reducible refine x_snil ?_ | with_reducible refine x_seqrt ?_ | with_reducible refine x_seqbk ?_ | with_reducible refine x_seqct ?_ | with_reducible refine x_loopct ?_ | with_reducible refine x_loopbk ?_ | with_reducible refine x_looprt ?_ | with_reducible refine x_runrt ?_ | with_reducible refine x_runnx ?_ | with_reducible refine x_setIx ?_ | with_reducible refine x_augIx ?_ | with_reducible refine x_and ?_ | with_reducible refine x_or ?_ | with_reducible refine x_not ?_ | with_reducible refine x_yes ?_ | with_reducible refine x_if ?_ | with_reducible refine x_bind ?_ | with_reducible refine x_for ?_ | with_reducible refine x_iseq ?_ | with_reducible refine x_itT ?_ | with_reducible refine x_itS ?_ | with_reducible refine x_itL ?_ | with_reducible refine x_itQ ?_ | with_reducible refine x_rng1 ?_ | with_reducible refine x_rng2 ?_ | with_reducible refine x_rng3 ?_ | ((with_reducible refine' y_sd ?e ?_); (case e => (first | assumption | omega | decide | (simp; done) | (simp; omega) | (simp [rangeL]; omega)))) | (refine ⟨_, (rfl : truD _ _ = some _), ?_⟩) | with_reducible refine x_brk ?_ | with_reducible refine x_emL rfl ?_ | with_reducible refine x_emS rfl ?_ | ((with_reducible refine' ⟨_, _, rfl, ?e, ?_⟩); (case e => (first | assumption | exact set_at (by assumption) | exact rfl))) | with_reducible refine z_inC ?_ | with_reducible refine z_ninC ?_ | with_reducible refine z_ord1 ?_ | with_reducible refine z_find ?_ | ((with_reducible refine' y_tg ?e ?_); (case e => (simp only [bindT, bindTs, Option.bind_some, List.set_cons_zero, List.set_cons_succ]; exact rfl))) | with_reducible refine x_ctn ?_ | with_reducible refine y_t ?_ | with_reducible refine y_f ?_ | with_reducible refine y_not ?_ | with_reducible refine x_tt ?_ | with_reducible refine x_eand ?_ | with_reducible refine x_eor ?_ | with_reducible refine x_enot ?_ | with_reducible refine z_intB ?_ | with_reducible refine x_cmp ?_ | with_reducible refine x_cmpN ?_ | ((with_reducible refine' x_ar ?e ?_); (case e => exact rfl)) | ((with_reducible refine' x_seqnx ?e ?_); (case e => (first | (simp only [Int.reduceToNat, Int.toNat_zero, Int.toNat_one, List.set_cons_zero, List.set_cons_succ]; exact rfl) | exact rfl))) | ((with_reducible refine' x_loopn ?e ?_); (case e => (first | (simp only [Int.reduceToNat, Int.toNat_zero, Int.toNat_one, List.set_cons_zero, List.set_cons_succ]; exact rfl) | exact rfl))) | ((with_reducible refine' z_mod ?p ?_); (case p => (first | assumption | omega | decide))) | ((with_reducible refine' z_fdiv ?p ?_); (case p => (first | assumption | omega | decide))) | ((with_reducible refine' z_pow ?p ?_); (case p => (first | assumption | omega | decide))) | ((with_reducible refine' z_mul ?p ?_); (case p => (first | (refine mulOk_r ?_; constructor <;> omega) | (refine mulOk_l ?_; constructor <;> omega)))) | ((with_reducible refine' z_ixR ?e ?f ?_); (case e => (first | assumption | exact set_at (by assumption) | exact rfl)); (case f => (first | exact rfl | assumption))) | ((with_reducible refine' z_ixT ?f ?_); (case f => (first | exact rfl | assumption))) | ((with_reducible refine' z_ixL ?f ?_); (case f => (first | exact rfl | assumption))) | ((with_reducible refine' z_ixQ ?f ?_); (case f => (first | exact rfl | assumption))) | ((with_reducible refine' z_lenR ?e ?_); (case e => (first | assumption | exact set_at (by assumption) | exact rfl))) | ((with_reducible refine' x_itR ?e ?_); (case e => (first | assumption | exact set_at (by assumption) | exact rfl))) | ((with_reducible refine' z_set ?e ?f ?g ?h ?_); (case e => (first | assumption | exact set_at (by assumption) | exact rfl)); (case f => exact rfl); (case g => (first | (simp only [Int.reduceToNat, Int.toNat_zero, Int.toNat_one, List.set_cons_zero, List.set_cons_succ]; exact rfl) | exact rfl)); (case h => (first | (simp only [List.set_set]; exact rfl) | exact rfl))) | ((with_reducible refine' z_app ?e ?f ?h ?_); (case e => (first | assumption | exact set_at (by assumption) | exact rfl)); (case f => (first | omega | (simp; done))); (case h => (first | (simp only [List.set_set]; exact rfl) | exact rfl))) | with_reducible refine x_tup ?_ | with_reducible refine x_lst ?_ | with_reducible refine x_new ?_ | ((with_reducible refine' x_aug ?e ?_); (case e => exact rfl)) | ((with_reducible refine' z_addS ?p ?_); (case p => (first | assumption | omega | decide))) | ((with_reducible refine' z_isiI ?p ?_); (case p => (first | exact kit_ii | exact kit_ib))) | ((with_reducible refine' y_dt ?p ?_); (case p => (first | assumption | omega | decide))) | ((with_reducible refine' y_df ?p ?_); (case p => (first | assumption | omega | decide))) | ((with_reducible refine' y_eqt ?p ?_); (case p => (first | assumption | omega | decide))) | ((with_reducible refine' y_eqf ?p ?_); (case p => (first | assumption | omega | decide))) | with_reducible refine x_zip ?_ | ((with_reducible refine' z_inG ?e ?h ?z ?_); (case e => exact rfl); (case h => (first | assumption | decide +kernel)); (case z => decide +kernel)) | ((with_reducible refine' y_eqt ?p ?_); (case p => (simp; done))) | with_reducible refine z_eqP ?_ | ((with_reducible refine' y_tbk ?p ?_); (case p => decide +kernel)) | ((with_reducible refine' y_fbk ?p ?_); (case p => decide +kernel)) | ((with_reducible refine' z_revR ?e ?_); (case e => assumption)) | ((with_reducible refine' z_addL ?e ?_); (case e => (first | assumption | omega | (simp; omega)))) | ((with_reducible refine' y_nn ?e ?_); (case e => exact rfl)) | ((with_reducible refine' y_ny ?e ?_); (case e => exact rfl)) | ((with_reducible refine' y_nnn ?e ?_); (case e => exact rfl)) | ((with_reducible refine' y_nny ?e ?_); (case e => exact rfl)) | ((with_reducible refine' y_zip ?e ?f ?_); (case e => (first | exact rfl | exact any_ref (by assumption))); (case f => (first | exact rfl | exact any_ref (by assumption)))) | with_reducible refine z_tupT ?_ | with_reducible refine z_tupL ?_ | with_reducible refine z_tupQ ?_ | ((with_reducible refine' z_tupR ?e ?_); (case e => (first | assumption | exact set_at (by assumption)))) | ((with_reducible refine' z_lst ?e ?_); (case e => (first | exact rfl | exact li_ref (by assumption)))) | ((with_reducible refine' z_lsn ?e ?_); (case e => (first | exact rfl | exact li_ref (by assumption)))) | ((with_reducible refine' z_sum ?e ?_); (case e => (first | exact ints_tup | exact ints_ref (by assumption)))) | ((with_reducible refine' z_max ?e ?f ?_); (case e => (first | exact ints_tup | exact ints_ref (by assumption))); (case f => assumption)) | with_reducible refine z_max2 ?_ | with_reducible refine z_min2 ?_ | with_reducible refine z_eqTI ?_ | with_reducible refine x_sl ?_ | with_reducible refine x_on ?_ | with_reducible refine x_os ?_ | with_reducible refine z_slT ?_ | with_reducible refine z_slL ?_ | ((with_reducible refine' z_isi ?e ?f ?_); (case e => (first | exact rfl | (simp only [tyN]; done))); (case f => (first | exact kit_ii | exact kit_ib | exact kit_tt | exact kit_it | exact kit_st | exact kit_si | exact kit_ss | exact kit_lt | exact kit_ls))) | (with_reducible refine' ⟨_, rfl, ?_⟩) | (with_reducible refine ⟨_, _, (rfl : [D.int _, D.int _] = [D.int _, D.int _]), ?_⟩) | (with_reducible refine ⟨_, _, (rfl : [D.int _, D.int _, D.int _] = [D.int _, D.int _, D.int _]), ?_⟩))
local macro_rules | `(tactic| walk_at "ml") => `(tactic| repeat walk_at "ml1")
local macro_rules | `(tactic| walk_at "run") => `(tactic| (refine' x_run ?e ?_; case e => (simp only [List.map_cons, List.map_nil, List.length_cons, List.length_nil, Nat.reduceAdd, Nat.reduceSub, List.replicate_succ, List.replicate_zero, List.cons_append, List.nil_append]; exact rfl)))
local macro_rules | `(tactic| walk_at "ml1") => `(tactic| first | with_reducible refine z_lenTR ?_ | with_reducible refine z_neP ?_ | with_reducible refine z_lenLR ?_ | ((with_reducible refine' z_ixTN ?e ?_); (case e => (first | assumption | omega))) | ((with_reducible refine' z_ixT0 ?e ?_); (case e => (first | assumption | omega))) | ((with_reducible refine' z_ixTR ?e ?_); (case e => (first | assumption | (constructor <;> omega)))) | ((with_reducible refine' z_ixLN ?e ?_); (case e => (first | assumption | omega))) | ((with_reducible refine' z_ixL0 ?e ?_); (case e => (first | assumption | omega))) | ((with_reducible refine' z_ixLR ?e ?_); (case e => (first | assumption | (constructor <;> omega)))) | with_reducible refine z_sumTR ?_ | with_reducible refine z_sumLR ?_ | with_reducible refine z_sumLF ?_ | ((with_reducible refine' y_zipR ?e ?f ?_); (case e => exact rfl); (case f => exact rfl)) | ((with_reducible refine' x_mapR ?w ?b ?_); (case w => (first | exact noWatch | exact watch_one (by assumption))); (case b => (intro i hi; (repeat walk_at "ml1"); exact ⟨rfl, rfl⟩))) | ((with_reducible refine' x_mapR0 ?w ?b ?_); (case w => (first | exact noWatch | exact watch_one (by assumption))); (case b => (intro i hi; (repeat walk_at "ml1"); exact ⟨rfl, rfl⟩))) | ((with_reducible refine' x_mapR1 ?w ?b ?_); (case w => (first | exact noWatch | exact watch_one (by assumption))); (case b => (intro i hi; (repeat walk_at "ml1"); exact ⟨rfl, rfl⟩))) | ((with_reducible refine' x_cmpC ?w ?_); (case w => (first | exact noWatch | exact watch_one (by assumption)))) | ((with_reducible refine' x_cmpE ?w ?_); (case w => (first | exact noWatch | exact watch_one (by assumption)))) | ((with_reducible refine' z_mulT1 ?e ?_); (case e => (first | assumption | (constructor <;> omega)))) | ((with_reducible refine' z_mulL1 ?e ?_); (case e => (first | assumption | (constructor <;> omega)))))
local macro_rules | `(tactic| walk_at "pureI") => `(tactic| ((refine' y_pureI ?p ?q ?_); (case p => ((repeat walk_at "ml1"); exact ⟨rfl, rfl⟩)); (case q => ((repeat walk_at "ml1"); exact ⟨rfl, rfl⟩))))

/-! ### stores -/
def Pre (st s : Sto) : Prop := ∃ g, s = st ++ g
theorem Pre.refl {st : Sto} : Pre st st := ⟨[], by simp⟩
theorem Pre.app {st s l : Sto} (h : Pre st s) : Pre st (s ++ l) := by
  obtain ⟨g, rfl⟩ := h
  exact ⟨g ++ l, by simp⟩
theorem Pre.set {st s : Sto} {a : Nat} {x : O} (h : Pre st s) (ha : st.length ≤ a) : Pre st (s.set a x) := by
  obtain ⟨g, rfl⟩ := h
  exact ⟨g.set (a - st.length) x, by rw [List.set_append_right _ _ ha]⟩
theorem Pre.le {st s : Sto} (h : Pre st s) : st.length ≤ s.length := by
  obtain ⟨g, rfl⟩ := h
  simp
theorem at_app {s l : Sto} {a : Nat} {o : O} (h : s[a]? = some o) : (s ++ l)[a]? = some o := by
  have e := (List.getElem?_eq_some_iff.mp h).1
  rw [List.getElem?_append_left e]
  exact h
theorem at_new {s : Sto} {o : O} : (s ++ [o])[s.length]? = some o := by rw [List.getElem?_append_right (Nat.le_refl _), Nat.sub_self]; rfl
theorem at_ne {s : Sto} {a b : Nat} {o x : O} (h : s[a]? = some o) (n : b ≠ a) : (s.set b x)[a]? = some o := by rw [List.getElem?_set_ne n]; exact h
theorem at_lt {s : Sto} {a : Nat} {o : O} (h : s[a]? = some o) : a < s.length := (List.getElem?_eq_some_iff.mp h).1
theorem blw_ints {n : Nat} (ns : List Int) : D.blw n (.tup (ns.map D.int)) := by
  show belows n (ns.map D.int)
  induction ns with
  | nil => trivial
  | cons x ns ih => exact ⟨trivial, ih⟩
theorem wp_gc {m : FC} {ds : List D} {st : Sto} {Q : D → Sto → Prop} (h : wp (m ds st) fun d s => Pre st s ∧ d.blw st.length ∧ Q d st) : wp (gcF m ds st) Q := by
  obtain ⟨d, s, e, ⟨g, rfl⟩, b, q⟩ := h
  exact ⟨d, st, gcF.of e b, q⟩
def Kp (n : Nat) (st st' : Sto) : Prop := st.length ≤ st'.length ∧ ∀ m o, m ≠ n → st[m]? = some o → st'[m]? = some o
theorem Kp.refl {n : Nat} {st : Sto} : Kp n st st := ⟨Nat.le_refl _, fun _ _ _ h => h⟩
theorem Kp.oth {n : Nat} {a b c : Sto} (x : Kp n a b) (y : Oth n b c) : Kp n a c := ⟨by have := x.1; have := y.1; omega, fun m o h e => (y.2 m h).trans (x.2 m o h e)⟩
theorem Kp.trans {n : Nat} {a b c : Sto} (x : Kp n a b) (y : Kp n b c) : Kp n a c := ⟨Nat.le_trans x.1 y.1, fun m o h e => y.2 m o h (x.2 m o h e)⟩
theorem Kp.app {n : Nat} {a b l : Sto} (x : Kp n a b) : Kp n a (b ++ l) := ⟨by rw [List.length_append]; have := x.1; omega, fun m o h e => at_app (x.2 m o h e)⟩
theorem Kp.set {n m : Nat} {a b : Sto} {o : O} (x : Kp n a b) (h : a.length ≤ m) : Kp n a (b.set m o) := ⟨by rw [List.length_set]; exact x.1, fun m2 o2 h2 e => at_ne (x.2 m2 o2 h2 e) (by have := at_lt e; omega)⟩

/-! ### the tape -/
def TapeE (st : Sto) : Prop := ∃ (p z : Int) (nums : List Int), 0 ≤ p ∧ 0 ≤ z ∧ (∀ x, x ∈ nums → 0 ≤ x) ∧ nums.length ≤ 2000 ∧ st[0]? = some (.lst (nums.map D.int)) ∧ st[1]? = some (.lst [.int p, .ref 0, .int z])
theorem TapeE.lt {st : Sto} (T : TapeE st) : 2 ≤ st.length := by
  obtain ⟨p, z, nums, _, _, _, _, h0, h1⟩ := T
  have := at_lt h1
  omega
theorem TapeE.app {st l : Sto} (T : TapeE st) : TapeE (st ++ l) := by
  obtain ⟨p, z, nums, a, b, c, d, h0, h1⟩ := T
  exact ⟨p, z, nums, a, b, c, d, at_app h0, at_app h1⟩
theorem TapeE.set {st : Sto} {m : Nat} {o : O} (T : TapeE st) (h : 2 ≤ m) : TapeE (st.set m o) := by
  obtain ⟨p, z, nums, a, b, c, d, h0, h1⟩ := T
  exact ⟨p, z, nums, a, b, c, d, at_ne h0 (by omega), at_ne h1 (by omega)⟩
section
variable {st : Sto} {Q : D → Sto → Prop}
theorem next_ok {many : Int} (T : TapeE st) (hm : 0 < many) (k : ∀ v st', 0 ≤ v → v < many → TapeE st' → Oth 1 st st' → Q (.int v) st') : wp (m__law_next [.ref 1, .int many] st) Q := by
  obtain ⟨p, z, nums, hp, hz, hn, hl, h0, h1⟩ := T
  walk_at "run"
  walk_at "ml"
  have h3 : (st.set 1 (.lst [.int (p + 1), .ref 0, .int z]))[1]? = some (.lst [.int (p + 1), .ref 0, .int z]) := set_at h1
  have h4 : (st.set 1 (.lst [.int (p + 1), .ref 0, .int z]))[0]? = some (.lst (nums.map D.int)) := at_ne h0 (by decide)
  have hT : TapeE (st.set 1 (.lst [.int (p + 1), .ref 0, .int z])) := ⟨p + 1, z, nums, by omega, hz, hn, hl, h4, h3⟩
  have ho : Oth 1 st (st.set 1 (.lst [.int (p + 1), .ref 0, .int z])) := .set
  generalize st.set 1 (.lst [.int (p + 1), .ref 0, .int z]) = s1 at h3 h4 hT ho ⊢
  walk_at "ml"
  refine y_d (fun h => ?_) (fun h => ?_)
  · obtain ⟨c, hc⟩ := script_at nums hp h
    walk_at "ml"
    have e := emod_ok c hm
    exact k _ _ e.1 e.2 hT ho
  · walk_at "ml"
    have e := emod_ok (((p + 1) * 48271 + z * 69621) % 2147483647 / 11) hm
    exact k _ _ e.1 e.2 hT ho
theorem tape_ok {ns : List Int} (hns : ns.length ≤ 63) (k : ∀ st', TapeE st' → st'.length = 2 → Q (.ref 1) st') : wp (m__law_tape [.sq (ns.map D.int)] []) Q := by
  walk_at "run"
  walk_at "ml"
  refine z_slQ ?_
  rw [cut_hi (by decide), List.take_of_length_le (by rw [List.length_map]; exact hns)]
  walk_at "ml"
  refine x_loop (fun i e s => i ≤ ns.length ∧ (∃ nums : List Int, nums.length ≤ 24 * i ∧ (∀ x, x ∈ nums → 0 ≤ x) ∧ s = [.lst (nums.map D.int)]) ∧ ∃ (t : Int) (o3 o4 o5 : Option D), 0 ≤ t ∧ e = [some (.sq (ns.map D.int)), some (.ref 0), some (.int t), o3, o4, o5]) ⟨Nat.zero_le _, ⟨[], Nat.le_refl _, (fun _ h => nomatch h), rfl⟩, 1, _, _, _, by decide, rfl⟩ (fun _ _ _ _ => noWatch) ?_ ?_
  · rintro i x e s hx ⟨hi, ⟨nums, hl, hnn, rfl⟩, t, o3, o4, o5, ht, rfl⟩
    rw [List.getElem?_map] at hx
    obtain ⟨c, hc, rfl⟩ := Option.map_eq_some_iff.mp hx
    have hil := (List.getElem?_eq_some_iff.mp hc).1
    walk_at "ml"
    have hr0 : 0 ≤ (if c < 0 then -c else c) := by split <;> omega
    generalize (if c < 0 then -c else c) = r0 at hr0 ⊢
    refine x_loop (fun j e s => j ≤ 24 ∧ (∃ nums : List Int, nums.length ≤ 24 * i + j ∧ (∀ x, x ∈ nums → 0 ≤ x) ∧ s = [.lst (nums.map D.int)]) ∧ ∃ (r : Int) (o5 : Option D), 0 ≤ r ∧ e = [some (.sq (ns.map D.int)), some (.ref 0), some (.int (t + r0)), some (.int c), some (.int r), o5]) ⟨Nat.zero_le _, ⟨nums, by omega, hnn, rfl⟩, r0, _, hr0, rfl⟩ (fun _ _ _ _ => noWatch) ?_ ?_
    · rintro j x e s hx ⟨hj, ⟨nums, hl, hnn, rfl⟩, r, o5, hr, rfl⟩
      obtain ⟨hj2, rfl⟩ := range_at hx
      have hj3 : j < 24 := hj2
      have hcell : ([.lst (nums.map D.int)] : Sto)[0]? = some (.lst (nums.map D.int)) := rfl
      have he := emod_ok r (b := 60) (by decide)
      have hd := Int.ediv_nonneg hr (b := 60) (by decide)
      have hN : ∃ nums2 : List Int, nums2.length ≤ 24 * i + (j + 1) ∧ (∀ x, x ∈ nums2 → 0 ≤ x) ∧ ([.lst (nums.map D.int ++ [D.int (r % 60)])] : Sto) = [.lst (nums2.map D.int)] := ⟨nums ++ [r % 60], by simp; omega, fun x hx => by
        rcases List.mem_append.mp hx with h | h
        · exact hnn x h
        · rw [List.mem_singleton.mp h]; exact he.1, by simp⟩
      walk_at "ml"
      refine z_app hcell (by rw [List.length_map]; omega) rfl ?_
      rw [show ([.lst (nums.map D.int)] : Sto).set 0 (.lst (nums.map D.int ++ [D.int (r % 60)])) = [.lst (nums.map D.int ++ [D.int (r % 60)])] from rfl]
      walk_at "ml"
      refine y_eq (fun h => ?_) (fun h => ?_)
      · walk_at "ml"
        obtain ⟨nums2, a, b, c2⟩ := hN
        exact ⟨by omega, ⟨nums2, by omega, b, c2⟩, _, _, _, _, by omega, rfl⟩
      · walk_at "ml"
        exact ⟨by omega, hN, _, _, hd, rfl⟩
    · rintro e s ⟨hj, ⟨nums, hl, hnn, rfl⟩, r, o5, hr, rfl⟩
      walk_at "ml"
      exact ⟨by omega, ⟨nums, by rw [range_len] at hl; simp at hl; omega, hnn, rfl⟩, _, _, _, _, by omega, rfl⟩
  · rintro e s ⟨hi, ⟨nums, hl, hnn, rfl⟩, t, o3, o4, o5, ht, rfl⟩
    rw [List.length_map] at hl
    walk_at "ml"
    have e := emod_ok t (b := 1000003) (by decide)
    exact k _ ⟨0, t % 1000003, nums, by decide, e.1, hnn, by omega, rfl, rfl⟩ rfl
end

/-! ### matrices and what is done with them -/
structure Mt where
  r : Nat
  c : Nat
  f : Nat → Nat → Int
abbrev Mt.d (m : Mt) : D := mx m.r m.c m.f
def inB (x : Int) : Prop := -10000000 < x ∧ x < 10000000
instance (x : Int) : Decidable (inB x) := by unfold inB; infer_instance
structure Mt.ok (m : Mt) : Prop where
  r0 : 0 < m.r
  r1 : m.r ≤ 6
  c0 : 0 < m.c
  c1 : m.c ≤ 6
  b : ∀ i j, i < m.r → j < m.c → -10000000 < m.f i j ∧ m.f i j < 10000000
inductive Kd | add | sub | times | product | turn | positive | gate | total | spread | stretch | scale | pick | place | fill
  deriving DecidableEq
abbrev Kd.s : Kd → PySem.Str
  | .add => "add" | .sub => "sub" | .times => "times" | .product => "product" | .turn => "turn" | .positive => "positive" | .gate => "gate"
  | .total => "total" | .spread => "spread" | .stretch => "stretch" | .scale => "scale" | .pick => "pick" | .place => "place" | .fill => "fill"
def Kd.n : Kd → Nat
  | .add => 2 | .sub => 2 | .times => 2 | .product => 2 | .turn => 1 | .positive => 1 | .gate => 2
  | .total => 1 | .spread => 1 | .stretch => 1 | .scale => 1 | .pick => 2 | .place => 2 | .fill => 0
def rowsOk (m : Mt) (n : Int) : Bool := (List.range m.r).all fun k => decide (0 ≤ m.f k 0 ∧ m.f k 0 < n)
def okB (r c : Nat) (f : Nat → Nat → Int) : Bool := (List.range r).all fun i => (List.range c).all fun j => decide (inB (f i j))
def raw : Kd → List Int → List Mt → Option Mt
  | .add, _, [a, b] => if a.r = b.r ∧ a.c = b.c then some ⟨a.r, a.c, fun i j => a.f i j + b.f i j⟩ else none
  | .sub, _, [a, b] => if a.r = b.r ∧ a.c = b.c then some ⟨a.r, a.c, fun i j => a.f i j - b.f i j⟩ else none
  | .times, _, [a, b] => if a.r = b.r ∧ a.c = b.c then some ⟨a.r, a.c, fun i j => a.f i j * b.f i j⟩ else none
  | .gate, _, [a, b] => if a.r = b.r ∧ a.c = b.c then some ⟨a.r, a.c, fun i j => if 0 < a.f i j then b.f i j else 0⟩ else none
  | .product, _, [a, b] => if a.c = b.r then some ⟨a.r, b.c, fun i j => sm a.c fun k => a.f i k * b.f k j⟩ else none
  | .turn, _, [a] => some ⟨a.c, a.r, fun i j => a.f j i⟩
  | .positive, _, [a] => some ⟨a.r, a.c, fun i j => if 0 > a.f i j then 0 else a.f i j⟩
  | .total, _, [a] => some ⟨1, 1, fun _ _ => sm a.r fun i => sm a.c fun j => a.f i j⟩
  | .spread, [x, y], [a] => if a.r = 1 ∧ a.c = 1 then some ⟨x.toNat, y.toNat, fun _ _ => a.f 0 0⟩ else none
  | .stretch, [x], [a] => some ⟨a.r, a.c, fun i j => a.f i j * x⟩
  | .scale, [x], [a] => some ⟨a.r, a.c, fun i j => (a.f i j + 2 ^ x.toNat / 2) / 2 ^ x.toNat⟩
  | .pick, _, [a, b] => if b.c = 1 ∧ rowsOk b a.r = true then some ⟨b.r, a.c, fun i j => a.f (b.f i 0).toNat j⟩ else none
  | .place, [x], [a, b] => if (a.r = b.r ∧ a.c = 1) ∧ rowsOk a x = true then some ⟨x.toNat, b.c, fun i j => smf a.r (fun k => decide (a.f k 0 = (i : Int))) (fun k => b.f k j)⟩ else none
  | .fill, [x, y, z], [] => some ⟨x.toNat, y.toNat, fun _ _ => z⟩
  | _, _, _ => none
def bnded : Option Mt → Option Mt
  | none => none
  | some m => if okB m.r m.c m.f = true then some m else none
def opr (k : Kd) (ns : List Int) (ms : List Mt) : Option Mt := bnded (raw k ns ms)
abbrev optD : Option Mt → D
  | none => .non
  | some m => m.d
def numOk : Kd → List Int → Prop
  | .spread, ns => ∃ x y, ns = [x, y] ∧ (1 ≤ x ∧ x ≤ 6) ∧ 1 ≤ y ∧ y ≤ 6
  | .fill, ns => ∃ x y z, ns = [x, y, z] ∧ (1 ≤ x ∧ x ≤ 6) ∧ (1 ≤ y ∧ y ≤ 6) ∧ -10000000 < z ∧ z < 10000000
  | .stretch, ns => ∃ x, ns = [x] ∧ -10000000 < x ∧ x < 10000000
  | .scale, ns => ∃ x, ns = [x] ∧ 1 ≤ x ∧ x ≤ 20
  | .place, ns => ∃ x, ns = [x] ∧ 1 ≤ x ∧ x ≤ 6
  | _, ns => ns = []
theorem rowsOk_t {m : Mt} {n : Int} (h : ∀ k, k < m.r → 0 ≤ m.f k 0 ∧ m.f k 0 < n) : rowsOk m n = true := by
  unfold rowsOk
  simp only [List.all_eq_true, List.mem_range, decide_eq_true_eq]
  exact h
theorem rowsOk_at {m : Mt} {n : Int} (h : rowsOk m n = true) : ∀ k, k < m.r → 0 ≤ m.f k 0 ∧ m.f k 0 < n := by
  unfold rowsOk at h
  simp only [List.all_eq_true, List.mem_range, decide_eq_true_eq] at h
  exact h
theorem rowsOk_f {m : Mt} {n : Int} {k : Nat} (hk : k < m.r) (h : ¬ (0 ≤ m.f k 0 ∧ m.f k 0 < n)) : rowsOk m n = false := by
  cases e : rowsOk m n with
  | false => rfl
  | true => exact absurd (rowsOk_at e k hk) h
theorem okB_t {r c : Nat} {f : Nat → Nat → Int} (h : ∀ i, i < r → ∀ j, j < c → inB (f i j)) : okB r c f = true := by
  unfold okB
  simp only [List.all_eq_true, List.mem_range, decide_eq_true_eq]
  exact h
theorem okB_at {r c : Nat} {f : Nat → Nat → Int} (h : okB r c f = true) : ∀ i, i < r → ∀ j, j < c → inB (f i j) := by
  unfold okB at h
  simp only [List.all_eq_true, List.mem_range, decide_eq_true_eq] at h
  exact h
theorem okB_f {r c i j : Nat} {f : Nat → Nat → Int} (hi : i < r) (hj : j < c) (h : ¬ inB (f i j)) : okB r c f = false := by
  cases e : okB r c f with
  | false => rfl
  | true => exact absurd (okB_at e i hi j hj) h
/-- the two loops that look at all entries -/
theorem bound_loop {st : Sto} {r c : Nat} {f : Nat → Nat → Int} {d : D} {pre : ML.Env} {n : Nat} {QS : Fl → Sto → Prop} (hn : pre.length = n) (o1 o2 : Option D)
    (k1 : ∀ o1 o2, okB r c f = true → QS (.nx (pre ++ [o1, o2])) st) (k2 : okB r c f = false → QS (.rt d) st) :
    wp (forL [] (.nm n) (Sfor (Iseq (Ev n)) (.nm (n + 1)) (Sif (Tnot (Tb (E3 ltD ltD (E1 negD (Ec (.int 10000000))) (Ev (n + 1)) (Ec (.int 10000000))))) (Sret (Ec d)) Snil)) ((List.range r).map fun i => D.tup (ix c (f i))) (pre ++ [o1, o2]) st) QS := by
  subst hn
  have e0 : ∀ (x : Option D) (o1 o2 : Option D), (pre ++ [o1, o2]).set pre.length x = pre ++ [x, o2] := fun x o1 o2 => by rw [List.set_append_right _ _ (Nat.le_refl _), Nat.sub_self]; rfl
  have e1 : ∀ (x : Option D) (o1 o2 : Option D), (pre ++ [o1, o2]).set (pre.length + 1) x = pre ++ [o1, x] := fun x o1 o2 => by rw [List.set_append_right _ _ (by omega), Nat.add_sub_cancel_left]; rfl
  have g0 : ∀ (o1 o2 : Option D), (pre ++ [o1, o2])[pre.length]? = some o1 := fun o1 o2 => by rw [List.getElem?_append_right (Nat.le_refl _), Nat.sub_self]; rfl
  have g1 : ∀ (o1 o2 : Option D), (pre ++ [o1, o2])[pre.length + 1]? = some o2 := fun o1 o2 => by rw [List.getElem?_append_right (by omega), Nat.add_sub_cancel_left]; rfl
  refine x_loop (fun i e s => s = st ∧ i ≤ r ∧ (∃ o1 o2, e = pre ++ [o1, o2]) ∧ ∀ i', i' < i → ∀ j, j < c → inB (f i' j)) ⟨rfl, Nat.zero_le _, ⟨_, _, rfl⟩, fun i' h => absurd h (Nat.not_lt_zero _)⟩ (fun _ _ _ _ => noWatch) ?_ ?_
  · rintro i x e s hx ⟨rfl, hi, ⟨o1, o2, rfl⟩, hall⟩
    have hl := (List.getElem?_eq_some_iff.mp hx).1
    simp at hl
    have ex : x = .tup (ix c (f i)) := by simpa [hl] using hx.symm
    subst ex
    refine ⟨_, rfl, ?_⟩
    rw [e0]
    refine x_for (x_iseq (x_v (g0 _ _) (x_itT ?_)))
    refine x_loop (fun j e s2 => s2 = s ∧ j ≤ c ∧ (∃ o2, e = pre ++ [some (.tup (ix c (f i))), o2]) ∧ ∀ j', j' < j → inB (f i j')) ⟨rfl, Nat.zero_le _, ⟨_, rfl⟩, fun i' h => absurd h (Nat.not_lt_zero _)⟩ (fun _ _ _ _ => noWatch) ?_ ?_
    · rintro j x e s2 hx ⟨rfl, hj, ⟨o2, rfl⟩, hrow⟩
      have hl2 := (List.getElem?_eq_some_iff.mp hx).1
      simp at hl2
      have ex : x = .int (f i j) := by simpa [hl2] using hx.symm
      subst ex
      refine ⟨_, rfl, ?_⟩
      rw [e1]
      have h3 := g1 (some (.tup (ix c (f i)))) (some (.int (f i j)))
      walk_at "ml"
      refine x_v h3 ?_
      walk_at "ml"
      refine y_d (fun h1 => ?_) (fun h1 => ?_)
      · walk_at "ml"
        refine y_d (fun h2 => ?_) (fun h2 => ?_)
        · walk_at "ml"
          refine ⟨rfl, by omega, ⟨_, rfl⟩, fun j' hj' => ?_⟩
          by_cases e : j' = j
          · subst e; exact ⟨h1, h2⟩
          · exact hrow j' (by omega)
        · walk_at "ml"
          exact k2 (okB_f hl hl2 (fun q => h2 q.2))
      · walk_at "ml"
        exact k2 (okB_f hl hl2 (fun q => h1 q.1))
    · rintro e s2 ⟨rfl, hj, ⟨o2, rfl⟩, hrow⟩
      rw [len_R] at hrow
      refine ⟨rfl, by omega, ⟨_, _, rfl⟩, fun i' hi' j2 hj2 => ?_⟩
      by_cases e : i' = i
      · subst e; exact hrow j2 hj2
      · exact hall i' (by omega) j2 hj2
  · rintro e s ⟨rfl, hi, ⟨o1, o2, rfl⟩, hall⟩
    rw [len_R] at hall
    exact k1 _ _ (okB_t hall)
theorem bounded_ok {st : Sto} {r c : Nat} {f : Nat → Nat → Int} {QE : D → Sto → Prop} (k : QE (.bl (okB r c f)) st) : wp (m_is_bounded [mx r c f] st) QE := by
  walk_at "run"
  walk_at "ml"
  refine bound_loop (pre := [some (mx r c f)]) rfl none none (fun o1 o2 h => ?_) (fun h => ?_)
  · rw [h] at k
    walk_at "ml"
    exact k
  · rw [h] at k
    walk_at "ml"
    exact k
section
variable {n : D} {st : Sto} {QE : D → Sto → Prop} {a b : Mt}
theorem add_ok (ha : a.ok) (hr : a.r = b.r) (hc : a.c = b.c) (k : QE (mx a.r a.c fun i j => a.f i j + b.f i j) st) : wp (m_add [n, .tup [a.d, b.d]] st) QE := by
  obtain ⟨r, c, f⟩ := a
  obtain ⟨r', c', g⟩ := b
  cases hr
  cases hc
  obtain ⟨r0, r1, c0, c1, hb⟩ := ha
  simp only at r0 r1 c0 c1 hb
  walk_at "run"
  walk_at "ml"
  exact k
theorem sub_ok (ha : a.ok) (hr : a.r = b.r) (hc : a.c = b.c) (k : QE (mx a.r a.c fun i j => a.f i j - b.f i j) st) : wp (m_sub [n, .tup [a.d, b.d]] st) QE := by
  obtain ⟨r, c, f⟩ := a
  obtain ⟨r', c', g⟩ := b
  cases hr
  cases hc
  obtain ⟨r0, r1, c0, c1, hb⟩ := ha
  simp only at r0 r1 c0 c1 hb
  walk_at "run"
  walk_at "ml"
  exact k
theorem times_ok (ha : a.ok) (hr : a.r = b.r) (hc : a.c = b.c) (k : QE (mx a.r a.c fun i j => a.f i j * b.f i j) st) : wp (m_times [n, .tup [a.d, b.d]] st) QE := by
  obtain ⟨r, c, f⟩ := a
  obtain ⟨r', c', g⟩ := b
  cases hr
  cases hc
  obtain ⟨r0, r1, c0, c1, hb⟩ := ha
  simp only at r0 r1 c0 c1 hb
  walk_at "run"
  walk_at "ml"
  refine x_mapR (G := fun i => .tup (ix c fun j => f i j * g i j)) noWatch (fun i hi => ?_) ?_
  · walk_at "ml"
    refine x_mapR (G := fun j => .int (f i j * g i j)) noWatch (fun j hj => ?_) ?_
    · have hx := hb i j hi hj
      walk_at "ml"
      exact ⟨rfl, rfl⟩
    · walk_at "ml"
      exact ⟨rfl, rfl⟩
  · walk_at "ml"
    exact k
theorem gate_ok (ha : a.ok) (hr : a.r = b.r) (hc : a.c = b.c) (k : QE (mx a.r a.c fun i j => if 0 < a.f i j then b.f i j else 0) st) : wp (m_gate [n, .tup [a.d, b.d]] st) QE := by
  obtain ⟨r, c, f⟩ := a
  obtain ⟨r', c', g⟩ := b
  cases hr
  cases hc
  obtain ⟨r0, r1, c0, c1, hb⟩ := ha
  simp only at r0 r1 c0 c1 hb
  walk_at "run"
  walk_at "ml"
  refine x_mapR (G := fun i => .tup (ix c fun j => if 0 < f i j then g i j else 0)) noWatch (fun i hi => ?_) ?_
  · walk_at "ml"
    refine x_mapR (G := fun j => .int (if 0 < f i j then g i j else 0)) noWatch (fun j hj => ?_) ?_
    · walk_at "ml"
      walk_at "pureI"
      exact ⟨rfl, rfl⟩
    · walk_at "ml"
      exact ⟨rfl, rfl⟩
  · walk_at "ml"
    exact k
theorem turn_ok {ds : List D} (ha : a.ok) (k : QE (mx a.c a.r fun i j => a.f j i) st) : wp (m_turn [n, .tup (a.d :: ds)] st) QE := by
  obtain ⟨r, c, f⟩ := a
  obtain ⟨r0, r1, c0, c1, hb⟩ := ha
  simp only at r0 r1 c0 c1 hb
  have h0 := at_0 (mx r c f) ds
  walk_at "run"
  walk_at "ml"
  exact k
theorem product_ok (ha : a.ok) (hb : b.ok) (hc : a.c = b.r) (k : QE (mx a.r b.c fun i j => sm a.c fun k => a.f i k * b.f k j) st) : wp (m_product [n, .tup [a.d, b.d]] st) QE := by
  have hB := hb
  obtain ⟨r, c, f⟩ := a
  obtain ⟨r', c', g⟩ := b
  cases hc
  obtain ⟨r0', r1', c0', c1', hb'⟩ := hb
  obtain ⟨r0, r1, c0, c1, hb⟩ := ha
  simp only at r0 r1 c0 c1 hb r0' r1' c0' c1' hb'
  walk_at "run"
  walk_at "ml"
  refine turn_ok (a := ⟨c, c', g⟩) hB ?_
  walk_at "ml"
  refine x_mapR (G := fun i => .tup (ix c' fun j => sm c fun k => f i k * g k j)) noWatch (fun i hi => ?_) ?_
  · walk_at "ml"
    refine x_mapR (G := fun j => .int (sm c fun k => f i k * g k j)) noWatch (fun j hj => ?_) ?_
    · walk_at "ml"
      walk_at "run"
      walk_at "ml"
      refine x_mapR (G := fun k => .int (f i k * g k j)) noWatch (fun k hk => ?_) ?_
      · have hx := hb i k hi hk
        walk_at "ml"
        exact ⟨rfl, rfl⟩
      · walk_at "ml"
        exact ⟨rfl, rfl⟩
    · walk_at "ml"
      exact ⟨rfl, rfl⟩
  · walk_at "ml"
    exact k
theorem positive_ok (ha : a.ok) (k : QE (mx a.r a.c fun i j => if 0 > a.f i j then 0 else a.f i j) st) : wp (m_positive [n, .tup [a.d]] st) QE := by
  obtain ⟨r, c, f⟩ := a
  obtain ⟨r0, r1, c0, c1, hb⟩ := ha
  simp only at r0 r1 c0 c1 hb
  walk_at "run"
  walk_at "ml"
  exact k
theorem total_ok (ha : a.ok) (k : QE (mx 1 1 fun _ _ => sm a.r fun i => sm a.c fun j => a.f i j) st) : wp (m_total [n, .tup [a.d]] st) QE := by
  obtain ⟨r, c, f⟩ := a
  obtain ⟨r0, r1, c0, c1, hb⟩ := ha
  simp only at r0 r1 c0 c1 hb
  walk_at "run"
  walk_at "ml"
  exact k
theorem fill_ok {x y z : Int} {ms : D} (hx : 1 ≤ x ∧ x ≤ 6) (hy : 1 ≤ y ∧ y ≤ 6) (k : QE (mx x.toNat y.toNat fun _ _ => z) st) : wp (m_fill [.tup [.int x, .int y, .int z], ms] st) QE := by
  walk_at "run"
  walk_at "ml"
  exact k
theorem spread_ok {x y : Int} (ha : a.ok) (hx : 1 ≤ x ∧ x ≤ 6) (hy : 1 ≤ y ∧ y ≤ 6) (k : QE (mx x.toNat y.toNat fun _ _ => a.f 0 0) st) : wp (m_spread [.tup [.int x, .int y], .tup [a.d]] st) QE := by
  obtain ⟨r, c, f⟩ := a
  obtain ⟨r0, r1, c0, c1, hb⟩ := ha
  simp only at r0 r1 c0 c1 hb
  walk_at "run"
  walk_at "ml"
  refine fill_ok hx hy ?_
  walk_at "ml"
  exact k
theorem stretch_ok {x : Int} (ha : a.ok) (k : QE (mx a.r a.c fun i j => a.f i j * x) st) : wp (m_stretch [.tup [.int x], .tup [a.d]] st) QE := by
  obtain ⟨r, c, f⟩ := a
  obtain ⟨r0, r1, c0, c1, hb⟩ := ha
  simp only at r0 r1 c0 c1 hb
  walk_at "run"
  walk_at "ml"
  refine x_mapR (G := fun i => .tup (ix c fun j => f i j * x)) noWatch (fun i hi => ?_) ?_
  · walk_at "ml"
    refine x_mapR (G := fun j => .int (f i j * x)) noWatch (fun j hj => ?_) ?_
    · have hx := hb i j hi hj
      walk_at "ml"
      exact ⟨rfl, rfl⟩
    · walk_at "ml"
      exact ⟨rfl, rfl⟩
  · walk_at "ml"
    exact k
theorem pow_ok : ∀ {n : Nat}, 1 ≤ n → n ≤ 20 → 2 ≤ (2 : Int) ^ n ∧ (2 : Int) ^ n ≤ 1048576 ∧ (2 : Int) ^ n = 2 * ((2 : Int) ^ n / 2) := by
  have : ∀ n : Fin 21, 1 ≤ n.val → 2 ≤ (2 : Int) ^ n.val ∧ (2 : Int) ^ n.val ≤ 1048576 ∧ (2 : Int) ^ n.val = 2 * ((2 : Int) ^ n.val / 2) := by decide +kernel
  exact fun {n} h1 h2 => this ⟨n, by omega⟩ h1
theorem z_shl {i j : Int} (hm : 0 ≤ j ∧ j ≤ 1000000 ∧ i.natAbs < 18446744073709551616) (h : QE (.int (i * 2 ^ j.toNat)) st) : wp (shlD (.int i) (.int j) st) QE := wp_if hm (wp_some h)
theorem scale_ok {x : Int} (ha : a.ok) (hx : 1 ≤ x ∧ x ≤ 20) (k : QE (mx a.r a.c fun i j => (a.f i j + 2 ^ x.toNat / 2) / 2 ^ x.toNat) st) : wp (m_scale [.tup [.int x], .tup [a.d]] st) QE := by
  obtain ⟨r, c, f⟩ := a
  obtain ⟨r0, r1, c0, c1, hb⟩ := ha
  simp only at r0 r1 c0 c1 hb
  obtain ⟨w1, w2, w3⟩ := pow_ok (n := x.toNat) (by omega) (by omega)
  walk_at "run"
  walk_at "ml"
  refine z_shl ⟨by omega, by omega, by decide⟩ ?_
  rw [Int.one_mul]
  generalize (2 : Int) ^ x.toNat = w at w1 w2 w3 k ⊢
  walk_at "ml"
  exact k
theorem pick_ok (ha : a.ok) (hb : b.ok) (k1 : rowsOk b a.r = true → QE (mx b.r a.c fun i j => a.f (b.f i 0).toNat j) st) (k2 : rowsOk b a.r = false → QE .non st) : wp (m_pick [n, .tup [a.d, b.d]] st) QE := by
  obtain ⟨r0, r1, c0, c1, _⟩ := ha
  obtain ⟨r0', r1', c0', c1', _⟩ := hb
  refine wp_gc ?_
  walk_at "run"
  walk_at "ml"
  refine x_loop (fun i e s => i ≤ b.r ∧ s = st ++ [.lst ((List.range i).map fun i => .tup (ix a.c (a.f (b.f i 0).toNat)))] ∧ (∀ k, k < i → 0 ≤ b.f k 0 ∧ b.f k 0 < a.r) ∧ ∃ o, e = [some n, some (.tup [a.d, b.d]), some a.d, some b.d, some (.ref st.length), o]) ⟨Nat.zero_le _, rfl, fun _ h => absurd h (Nat.not_lt_zero _), ⟨_, rfl⟩⟩ (fun _ _ _ _ => noWatch) ?_ ?_
  · rintro i x e s hx ⟨hi, rfl, hall, ⟨o, rfl⟩⟩
    have hl := (List.getElem?_eq_some_iff.mp hx).1
    simp at hl
    have ex : x = .tup (ix b.c (b.f i)) := by simpa [hl] using hx.symm
    subst ex
    have hcell := at_new (s := st) (o := .lst ((List.range i).map fun i => .tup (ix a.c (a.f (b.f i 0).toNat))))
    walk_at "ml"
    refine y_d (fun h1 => ?_) (fun h1 => ?_)
    · walk_at "ml"
      refine y_d (fun h2 => ?_) (fun h2 => ?_)
      · walk_at "ml"
        refine z_app hcell (by simp; omega) rfl ?_
        walk_at "ml"
        refine ⟨by omega, ?_, fun k hk => ?_, ⟨_, rfl⟩⟩
        · rw [List.set_append_right _ _ (Nat.le_refl _), Nat.sub_self, List.range_succ, List.map_append]
          rfl
        · by_cases e : k = i
          · subst e; exact ⟨h1, h2⟩
          · exact hall k (by omega)
      · walk_at "ml"
        exact ⟨⟨_, rfl⟩, trivial, k2 (rowsOk_f hl fun q => h2 q.2)⟩
    · walk_at "ml"
      exact ⟨⟨_, rfl⟩, trivial, k2 (rowsOk_f hl fun q => h1 q.1)⟩
  · rintro e s ⟨hi, rfl, hall, ⟨o, rfl⟩⟩
    rw [len_R] at hall
    have hcell := at_new (s := st) (o := .lst ((List.range ((List.range b.r).map fun i => D.tup (ix b.c (b.f i))).length).map fun i => .tup (ix a.c (a.f (b.f i 0).toNat))))
    rw [len_R] at hcell ⊢
    walk_at "ml"
    exact ⟨⟨_, rfl⟩, blw_mx, k1 (rowsOk_t hall)⟩
theorem place_ok {x : Int} (ha : a.ok) (hb : b.ok) (hr : a.r = b.r) (hx : 1 ≤ x ∧ x ≤ 6)
    (k1 : rowsOk a x = true → QE (mx x.toNat b.c fun i j => smf a.r (fun k => decide (a.f k 0 = (i : Int))) fun k => b.f k j) st) (k2 : rowsOk a x = false → QE .non st) : wp (m_place [.tup [.int x], .tup [a.d, b.d]] st) QE := by
  obtain ⟨r, c, f⟩ := a
  obtain ⟨r', c', g⟩ := b
  cases hr
  obtain ⟨r0, r1, c0, c1, _⟩ := ha
  obtain ⟨r0', r1', c0', c1', _⟩ := hb
  simp only at r0 r1 c0 c1 r0' r1' c0' c1' k1 k2
  obtain ⟨y, rfl⟩ : ∃ y : Nat, x = (y : Int) := ⟨x.toNat, by omega⟩
  rw [Int.toNat_natCast] at k1
  show wp (m_place [.tup [.int (y : Int)], .tup [mx r c f, mx r c' g]] st) QE
  refine wp_gc ?_
  walk_at "run"
  walk_at "ml"
  refine x_loop (fun i e s => i ≤ r ∧ s = st ++ [.lst ((List.range y).map fun q : Nat => .lst (ix c' fun j => smf i (fun k => decide (f k 0 = (q : Int))) fun k => g k j))] ∧ (∀ k, k < i → 0 ≤ f k 0 ∧ f k 0 < y) ∧ ∃ o1 o2, e = [some (.tup [.int y]), some (.tup [mx r c f, mx r c' g]), some (mx r c f), some (mx r c' g), some (.ref st.length), o1, o2, none, none, none]) ⟨Nat.zero_le _, ?_, fun _ h => absurd h (Nat.not_lt_zero _), ⟨_, _, rfl⟩⟩ (fun _ _ _ _ => noWatch) ?_ ?_
  · rfl
  · rintro i x e s hx ⟨hi, rfl, hall, ⟨o1, o2, rfl⟩⟩
    have hl := (List.getElem?_eq_some_iff.mp hx).1
    simp at hl
    have ex : x = .tup [.tup (ix c (f i)), .tup (ix c' (g i))] := by simpa [hl] using hx.symm
    subst ex
    have hcell := at_new (s := st) (o := .lst ((List.range y).map fun q : Nat => .lst (ix c' fun j => smf i (fun k => decide (f k 0 = (q : Int))) fun k => g k j)))
    walk_at "ml"
    refine y_d (fun h1 => ?_) (fun h1 => ?_)
    · walk_at "ml"
      refine y_d (fun h2 => ?_) (fun h2 => ?_)
      · walk_at "ml"
        refine z_ixR hcell (at_map_range h1 h2) ?_
        walk_at "ml"
        refine z_set hcell (ixN_ok h1 (by simpa using h2)) rfl rfl ?_
        walk_at "ml"
        refine ⟨by omega, ?_, fun k hk => ?_, ⟨_, _, rfl⟩⟩
        · rw [List.set_append_right _ _ (Nat.le_refl _), Nat.sub_self, set_map_range]
          refine congrArg (fun z => st ++ [O.lst (List.map z (List.range y))]) (funext fun q => ?_)
          split
          · rename_i hq
            congr 2
            funext j
            refine congrArg D.int ?_
            show _ = smf (i + 1) _ _
            rw [smf_succ, if_pos (by simp; omega), hq]
          · rename_i hq
            congr 2
            funext j
            show _ = smf (i + 1) _ _
            rw [smf_succ, if_neg (by simp; omega), Int.add_zero]
        · by_cases e : k = i
          · subst e; exact ⟨h1, h2⟩
          · exact hall k (by omega)
      · walk_at "ml"
        exact ⟨⟨_, rfl⟩, trivial, k2 (rowsOk_f hl fun q => h2 q.2)⟩
    · walk_at "ml"
      exact ⟨⟨_, rfl⟩, trivial, k2 (rowsOk_f hl fun q => h1 q.1)⟩
  · rintro e s ⟨hi, rfl, hall, ⟨o1, o2, rfl⟩⟩
    simp only [len_R] at hall ⊢
    have hcell := at_new (s := st) (o := .lst ((List.range y).map fun q : Nat => .lst (ix c' fun j => smf r (fun k => decide (f k 0 = (q : Int))) fun k => g k j)))
    walk_at "ml"
    exact ⟨⟨_, rfl⟩, blw_mx, k1 (rowsOk_t hall)⟩
end

/-! ### operate -/
section
variable {n : D} {st : Sto} {QE : D → Sto → Prop} {a b : Mt}
abbrev Mt.sh (m : Mt) : D := .tup [.int m.r, .int m.c]
theorem shape_ok (ha : a.ok) (k : QE a.sh st) : wp (m_shape_of [a.d] st) QE := by
  obtain ⟨r, c, f⟩ := a
  obtain ⟨r0, r1, c0, c1, hb⟩ := ha
  simp only at r0 r1 c0 c1 hb
  walk_at "run"
  walk_at "ml"
  exact k
theorem fits_no {k : Kd} {ds : List D} (h : ds.length ≠ k.n) (q : QE (.bl false) st) : wp (m_fits [.str k.s, .lst ds] st) QE := by
  have e : tab_COUNTS.lookup k.s = some (.int k.n) := by cases k <;> rfl
  walk_at "run"
  walk_at "ml"
  refine z_tab e ?_
  walk_at "ml"
  exact q
theorem fits_bin {k : Kd} (hk : k = .add ∨ k = .sub ∨ k = .times ∨ k = .gate) (q : QE (.bl (decide ([(a.r : Int), (a.c : Int)] = [(b.r : Int), (b.c : Int)]))) st) : wp (m_fits [.str k.s, .lst [a.sh, b.sh]] st) QE := by
  rcases hk with rfl | rfl | rfl | rfl
  all_goals
    walk_at "run"
    walk_at "ml"
    refine z_tab rfl ?_
    walk_at "ml"
    exact q
theorem fits_product (q : QE (.bl ((a.c : Int) == (b.r : Int))) st) : wp (m_fits [.str "product", .lst [a.sh, b.sh]] st) QE := by
  walk_at "run"
  walk_at "ml"
  refine z_tab rfl ?_
  walk_at "ml"
  exact q
theorem fits_spread (q : QE (.bl (decide ([(a.r : Int), (a.c : Int)] = [1, 1]))) st) : wp (m_fits [.str "spread", .lst [a.sh]] st) QE := by
  walk_at "run"
  walk_at "ml"
  refine z_tab rfl ?_
  walk_at "ml"
  exact q
theorem fits_pick (q : QE (.bl ((b.c : Int) == 1)) st) : wp (m_fits [.str "pick", .lst [a.sh, b.sh]] st) QE := by
  walk_at "run"
  walk_at "ml"
  refine z_tab rfl ?_
  walk_at "ml"
  exact q
theorem fits_place (q : QE (.bl (decide ([(a.r : Int), (a.c : Int)] = [(b.r : Int), 1]))) st) : wp (m_fits [.str "place", .lst [a.sh, b.sh]] st) QE := by
  walk_at "run"
  walk_at "ml"
  refine z_tab rfl ?_
  walk_at "ml"
  exact q
theorem fits_one {k : Kd} (hk : k = .turn ∨ k = .positive ∨ k = .total ∨ k = .stretch ∨ k = .scale) (q : QE (.bl true) st) : wp (m_fits [.str k.s, .lst [a.sh]] st) QE := by
  rcases hk with rfl | rfl | rfl | rfl | rfl
  all_goals
    walk_at "run"
    walk_at "ml"
    refine z_tab rfl ?_
    walk_at "ml"
    exact q
theorem fits_fill (q : QE (.bl true) st) : wp (m_fits [.str "fill", .lst []] st) QE := by
  walk_at "run"
  walk_at "ml"
  refine z_tab rfl ?_
  walk_at "ml"
  exact q
theorem raw_no {k : Kd} {ns : List Int} {ms : List Mt} (h : ms.length ≠ k.n) : raw k ns ms = none := by
  unfold raw
  split <;> first | rfl | (exact absurd rfl h)
theorem op_end {r c : Nat} {f : Nat → Nat → Int} {x0 x1 x2 x3 x5 : Option D} (k : QE (optD (bnded (some ⟨r, c, f⟩))) st) : wp (t_operate_3 [x0, x1, x2, x3, some (mx r c f), x5] st) (runK QE) := by
  walk_at "ml"
  refine bounded_ok ?_
  walk_at "ml"
  simp only [bnded] at k
  cases h : okB r c f with
  | true =>
    rw [h, if_pos rfl] at k
    walk_at "ml"
    exact k
  | false =>
    rw [h, if_neg Bool.false_ne_true] at k
    walk_at "ml"
    exact k
theorem op_none {x0 x1 x2 x3 x5 : Option D} (k : QE .non st) : wp (t_operate_3 [x0, x1, x2, x3, some .non, x5] st) (runK QE) := by
  walk_at "ml"
  exact k
theorem len1 {α : Type} {l : List α} (h : l.length = 1) : ∃ a, l = [a] := by
  match l, h with
  | [a], _ => exact ⟨a, rfl⟩
theorem len2 {α : Type} {l : List α} (h : l.length = 2) : ∃ a b, l = [a, b] := by
  match l, h with
  | [a, b], _ => exact ⟨a, b, rfl⟩
local macro_rules | `(tactic| walk_at "op1") => `(tactic| (walk_at "run"; walk_at "ml"; (refine shape_ok (by assumption) ?_); walk_at "ml"))
local macro_rules | `(tactic| walk_at "op2") => `(tactic| (walk_at "run"; walk_at "ml"; (refine shape_ok (by assumption) ?_); walk_at "ml"; (refine shape_ok (by assumption) ?_); walk_at "ml"))
local macro_rules | `(tactic| walk_at "opc") => `(tactic| (walk_at "ml"; (refine z_tab rfl ?_); walk_at "ml"; (refine x_cv rfl rfl ?_); walk_at "ml"))
local macro_rules | `(tactic| walk_at "ope") => `(tactic| (repeat (first | with_reducible refine op_end ?_ | with_reducible refine op_none ?_ | walk_at "ml1")))
theorem operate_no {k : Kd} {ns : D} {ms : List Mt} (hm : ∀ m, m ∈ ms → m.ok) (hl2 : ms.length ≤ 1000) (hl : ms.length ≠ k.n) (q : QE .non st) : wp (m_operate [.str k.s, ns, .tup (ms.map Mt.d)] st) QE := by
  walk_at "run"
  walk_at "ml"
  refine x_mapM (G := Mt.sh) noWatch (fun m hmm => ?_) ?_
  · walk_at "ml"
    exact shape_ok (hm m hmm) ⟨rfl, rfl⟩
  walk_at "ml"
  refine fits_no (by simpa using hl) ?_
  walk_at "ml"
  exact q
theorem operate_bin {k : Kd} (hk : k = .add ∨ k = .sub ∨ k = .times ∨ k = .gate) {ns : List Int} (ha : a.ok) (hb : b.ok) (q : QE (optD (opr k ns [a, b])) st) : wp (m_operate [.str k.s, n, .tup [a.d, b.d]] st) QE := by
  walk_at "op2"
  refine fits_bin hk ?_
  by_cases hs : a.r = b.r ∧ a.c = b.c
  · rw [show decide ([(a.r : Int), (a.c : Int)] = [(b.r : Int), (b.c : Int)]) = true by rw [hs.1, hs.2]; simp]
    rcases hk with rfl | rfl | rfl | rfl
    · rw [show opr .add ns [a, b] = bnded (some ⟨a.r, a.c, fun i j => a.f i j + b.f i j⟩) by simp only [opr, raw]; rw [if_pos hs]] at q
      walk_at "opc"
      refine add_ok ha hs.1 hs.2 ?_
      walk_at "ope"
      exact q
    · rw [show opr .sub ns [a, b] = bnded (some ⟨a.r, a.c, fun i j => a.f i j - b.f i j⟩) by simp only [opr, raw]; rw [if_pos hs]] at q
      walk_at "opc"
      refine sub_ok ha hs.1 hs.2 ?_
      walk_at "ope"
      exact q
    · rw [show opr .times ns [a, b] = bnded (some ⟨a.r, a.c, fun i j => a.f i j * b.f i j⟩) by simp only [opr, raw]; rw [if_pos hs]] at q
      walk_at "opc"
      refine times_ok ha hs.1 hs.2 ?_
      walk_at "ope"
      exact q
    · rw [show opr .gate ns [a, b] = bnded (some ⟨a.r, a.c, fun i j => if 0 < a.f i j then b.f i j else 0⟩) by simp only [opr, raw]; rw [if_pos hs]] at q
      walk_at "opc"
      refine gate_ok ha hs.1 hs.2 ?_
      walk_at "ope"
      exact q
  · rw [show decide ([(a.r : Int), (a.c : Int)] = [(b.r : Int), (b.c : Int)]) = false by simp; omega]
    have e : opr k ns [a, b] = none := by
      rcases hk with rfl | rfl | rfl | rfl <;> (simp only [opr, raw]; rw [if_neg hs]; rfl)
    rw [e] at q
    walk_at "ml"
    exact q
theorem operate_product {ns : List Int} (ha : a.ok) (hb : b.ok) (q : QE (optD (opr .product ns [a, b])) st) : wp (m_operate [.str "product", n, .tup [a.d, b.d]] st) QE := by
  walk_at "op2"
  refine fits_product ?_
  simp only [opr, raw] at q
  by_cases hs : a.c = b.r
  · rw [if_pos hs] at q
    rw [show ((a.c : Int) == (b.r : Int)) = true by rw [hs]; simp]
    walk_at "opc"
    refine product_ok ha hb hs ?_
    walk_at "ope"
    exact q
  · rw [if_neg hs] at q
    rw [show ((a.c : Int) == (b.r : Int)) = false by simp; omega]
    walk_at "ml"
    exact q
theorem operate_turn {ns : List Int} (ha : a.ok) (q : QE (optD (opr .turn ns [a])) st) : wp (m_operate [.str "turn", n, .tup [a.d]] st) QE := by
  walk_at "op1"
  refine fits_one (k := .turn) (.inl rfl) ?_
  walk_at "opc"
  refine turn_ok ha ?_
  walk_at "ope"
  exact q
theorem operate_positive {ns : List Int} (ha : a.ok) (q : QE (optD (opr .positive ns [a])) st) : wp (m_operate [.str "positive", n, .tup [a.d]] st) QE := by
  walk_at "op1"
  refine fits_one (k := .positive) (.inr (.inl rfl)) ?_
  walk_at "opc"
  refine positive_ok ha ?_
  walk_at "ope"
  exact q
theorem operate_total {ns : List Int} (ha : a.ok) (q : QE (optD (opr .total ns [a])) st) : wp (m_operate [.str "total", n, .tup [a.d]] st) QE := by
  walk_at "op1"
  refine fits_one (k := .total) (.inr (.inr (.inl rfl))) ?_
  walk_at "opc"
  refine total_ok ha ?_
  walk_at "ope"
  exact q
theorem operate_stretch {x : Int} (ha : a.ok) (q : QE (optD (opr .stretch [x] [a])) st) : wp (m_operate [.str "stretch", .tup [.int x], .tup [a.d]] st) QE := by
  walk_at "op1"
  refine fits_one (k := .stretch) (.inr (.inr (.inr (.inl rfl)))) ?_
  walk_at "opc"
  refine stretch_ok ha ?_
  walk_at "ope"
  exact q
theorem operate_scale {x : Int} (ha : a.ok) (hx : 1 ≤ x ∧ x ≤ 20) (q : QE (optD (opr .scale [x] [a])) st) : wp (m_operate [.str "scale", .tup [.int x], .tup [a.d]] st) QE := by
  walk_at "op1"
  refine fits_one (k := .scale) (.inr (.inr (.inr (.inr rfl)))) ?_
  walk_at "opc"
  refine scale_ok ha hx ?_
  walk_at "ope"
  exact q
theorem operate_spread {x y : Int} (ha : a.ok) (hx : 1 ≤ x ∧ x ≤ 6) (hy : 1 ≤ y ∧ y ≤ 6) (q : QE (optD (opr .spread [x, y] [a])) st) : wp (m_operate [.str "spread", .tup [.int x, .int y], .tup [a.d]] st) QE := by
  walk_at "op1"
  refine fits_spread ?_
  simp only [opr, raw] at q
  by_cases hs : a.r = 1 ∧ a.c = 1
  · rw [if_pos hs] at q
    rw [show decide ([(a.r : Int), (a.c : Int)] = [1, 1]) = true by rw [hs.1, hs.2]; rfl]
    walk_at "opc"
    refine spread_ok ha hx hy ?_
    walk_at "ope"
    exact q
  · rw [if_neg hs] at q
    rw [show decide ([(a.r : Int), (a.c : Int)] = [1, 1]) = false by simp; omega]
    walk_at "ml"
    exact q
theorem operate_fill {x y z : Int} (hx : 1 ≤ x ∧ x ≤ 6) (hy : 1 ≤ y ∧ y ≤ 6) (q : QE (optD (opr .fill [x, y, z] [])) st) : wp (m_operate [.str "fill", .tup [.int x, .int y, .int z], .tup []] st) QE := by
  walk_at "run"
  walk_at "ml"
  refine fits_fill ?_
  walk_at "opc"
  refine fill_ok hx hy ?_
  walk_at "ope"
  exact q
theorem operate_pick {ns : List Int} (ha : a.ok) (hb : b.ok) (q : QE (optD (opr .pick ns [a, b])) st) : wp (m_operate [.str "pick", n, .tup [a.d, b.d]] st) QE := by
  walk_at "op2"
  refine fits_pick ?_
  simp only [opr, raw] at q
  by_cases hs : b.c = 1
  · rw [show ((b.c : Int) == 1) = true by rw [hs]; rfl]
    walk_at "opc"
    refine pick_ok ha hb (fun h => ?_) (fun h => ?_)
    · rw [if_pos ⟨hs, h⟩] at q
      walk_at "ope"
      exact q
    · rw [if_neg (by rw [h]; simp)] at q
      walk_at "ope"
      exact q
  · rw [if_neg (fun h => hs h.1)] at q
    rw [show ((b.c : Int) == 1) = false by simp; omega]
    walk_at "ml"
    exact q
theorem operate_place {x : Int} (ha : a.ok) (hb : b.ok) (hx : 1 ≤ x ∧ x ≤ 6) (q : QE (optD (opr .place [x] [a, b])) st) : wp (m_operate [.str "place", .tup [.int x], .tup [a.d, b.d]] st) QE := by
  walk_at "op2"
  refine fits_place ?_
  simp only [opr, raw] at q
  by_cases hs : a.r = b.r ∧ a.c = 1
  · rw [show decide ([(a.r : Int), (a.c : Int)] = [(b.r : Int), 1]) = true by rw [hs.1, hs.2]; simp]
    walk_at "opc"
    refine place_ok ha hb hs.1 hx (fun h => ?_) (fun h => ?_)
    · rw [if_pos ⟨hs, h⟩] at q
      walk_at "ope"
      exact q
    · rw [if_neg (by rw [h]; simp)] at q
      walk_at "ope"
      exact q
  · rw [if_neg (fun h => hs h.1)] at q
    rw [show decide ([(a.r : Int), (a.c : Int)] = [(b.r : Int), 1]) = false by simp; omega]
    walk_at "ml"
    exact q
theorem operate_ok {k : Kd} {ns : List Int} {ms : List Mt} (hn : numOk k ns) (hm : ∀ m, m ∈ ms → m.ok) (hl2 : ms.length ≤ 1000) (q : QE (optD (opr k ns ms)) st) : wp (m_operate [.str k.s, .tup (ns.map D.int), .tup (ms.map Mt.d)] st) QE := by
  by_cases hl : ms.length = k.n
  · cases k <;> unfold Kd.n at hl <;> simp only at hl
    case add => obtain ⟨a, b, rfl⟩ := len2 hl; exact operate_bin (.inl rfl) (hm a (by simp)) (hm b (by simp)) q
    case sub => obtain ⟨a, b, rfl⟩ := len2 hl; exact operate_bin (.inr (.inl rfl)) (hm a (by simp)) (hm b (by simp)) q
    case times => obtain ⟨a, b, rfl⟩ := len2 hl; exact operate_bin (.inr (.inr (.inl rfl))) (hm a (by simp)) (hm b (by simp)) q
    case gate => obtain ⟨a, b, rfl⟩ := len2 hl; exact operate_bin (.inr (.inr (.inr rfl))) (hm a (by simp)) (hm b (by simp)) q
    case product => obtain ⟨a, b, rfl⟩ := len2 hl; exact operate_product (hm a (by simp)) (hm b (by simp)) q
    case turn => obtain ⟨a, rfl⟩ := len1 hl; exact operate_turn (hm a (by simp)) q
    case positive => obtain ⟨a, rfl⟩ := len1 hl; exact operate_positive (hm a (by simp)) q
    case total => obtain ⟨a, rfl⟩ := len1 hl; exact operate_total (hm a (by simp)) q
    case stretch => obtain ⟨a, rfl⟩ := len1 hl; obtain ⟨x, rfl, hx⟩ := hn; exact operate_stretch (hm a (by simp)) q
    case scale => obtain ⟨a, rfl⟩ := len1 hl; obtain ⟨x, rfl, hx⟩ := hn; exact operate_scale (hm a (by simp)) hx q
    case spread => obtain ⟨a, rfl⟩ := len1 hl; obtain ⟨x, y, rfl, hx, hy⟩ := hn; exact operate_spread (hm a (by simp)) hx hy q
    case fill =>
      rw [List.length_eq_zero_iff] at hl
      subst hl
      obtain ⟨x, y, z, rfl, hx, hy, hz⟩ := hn
      exact operate_fill hx hy q
    case pick => obtain ⟨a, b, rfl⟩ := len2 hl; exact operate_pick (hm a (by simp)) (hm b (by simp)) q
    case place => obtain ⟨a, b, rfl⟩ := len2 hl; obtain ⟨x, rfl, hx⟩ := hn; exact operate_place (hm a (by simp)) (hm b (by simp)) hx q
  · have e : opr k ns ms = none := by unfold opr; rw [raw_no hl]; rfl
    rw [e] at q
    exact operate_no hm hl2 hl q
/-- what comes out fits again -/
theorem raw_sz {k : Kd} {ns : List Int} {ms : List Mt} {m : Mt} (hn : numOk k ns) (hm : ∀ m, m ∈ ms → m.ok) (hr : raw k ns ms = some m) : 0 < m.r ∧ m.r ≤ 6 ∧ 0 < m.c ∧ m.c ≤ 6 := by
  unfold raw at hr
  have h1 : ∀ (a : Mt) (l : List Mt), (∀ m, m ∈ a :: l → m.ok) → a.ok := fun a l h => h a (List.mem_cons_self ..)
  have h2 : ∀ (a b : Mt) (l : List Mt), (∀ m, m ∈ a :: b :: l → m.ok) → b.ok := fun a b l h => h b (by simp)
  split at hr
  case h_5 =>
    split at hr
    · cases hr
      have ha := h1 _ _ hm
      have hb := h2 _ _ _ hm
      exact ⟨ha.r0, ha.r1, hb.c0, hb.c1⟩
    · cases hr
  case h_6 =>
    cases hr
    have ha := h1 _ _ hm
    exact ⟨ha.c0, ha.c1, ha.r0, ha.r1⟩
  case h_8 =>
    cases hr
    exact ⟨Nat.one_pos, (by decide : 1 ≤ 6), Nat.one_pos, (by decide : 1 ≤ 6)⟩
  case h_9 =>
    split at hr
    · cases hr
      obtain ⟨x, y, e, hx, hy⟩ := hn
      cases e
      exact ⟨by show 0 < Int.toNat _; omega, by show Int.toNat _ ≤ 6; omega, by show 0 < Int.toNat _; omega, by show Int.toNat _ ≤ 6; omega⟩
    · cases hr
  case h_12 =>
    split at hr
    · cases hr
      have ha := h1 _ _ hm
      have hb := h2 _ _ _ hm
      exact ⟨hb.r0, hb.r1, ha.c0, ha.c1⟩
    · cases hr
  case h_13 =>
    split at hr
    · cases hr
      have hb := h2 _ _ _ hm
      obtain ⟨x, e, hx⟩ := hn
      cases e
      exact ⟨by show 0 < Int.toNat _; omega, by show Int.toNat _ ≤ 6; omega, hb.c0, hb.c1⟩
    · cases hr
  case h_14 =>
    cases hr
    obtain ⟨x, y, z, e, hx, hy, _⟩ := hn
    cases e
    exact ⟨by show 0 < Int.toNat _; omega, by show Int.toNat _ ≤ 6; omega, by show 0 < Int.toNat _; omega, by show Int.toNat _ ≤ 6; omega⟩
  case h_15 => cases hr
  all_goals
    have ha := h1 _ _ hm
    first
    | (split at hr
       · cases hr
         exact ⟨ha.r0, ha.r1, ha.c0, ha.c1⟩
       · cases hr)
    | (cases hr
       exact ⟨ha.r0, ha.r1, ha.c0, ha.c1⟩)
theorem opr_ok {k : Kd} {ns : List Int} {ms : List Mt} {m : Mt} (hn : numOk k ns) (hm : ∀ m, m ∈ ms → m.ok) (h : opr k ns ms = some m) : m.ok := by
  unfold opr bnded at h
  cases hr : raw k ns ms with
  | none => rw [hr] at h; cases h
  | some m' =>
    rw [hr] at h
    simp only at h
    split at h
    · rename_i hb
      cases h
      have hs := raw_sz hn hm hr
      exact ⟨hs.1, hs.2.1, hs.2.2.1, hs.2.2.2, fun i j hi hj => okB_at hb i hi j hj⟩
    · cases h
end

/-! ### lines -/
abbrev Ln := PySem.Str × D × List Int
def lnD (x : Ln) : D := .tup [.str x.1, x.2.1, .tup (x.2.2.map D.int)]
def bl (N : Nat) (B : Nat → Bool) : List D := (List.range N).map fun v => .bl (B v)
theorem bl_len {N : Nat} {B : Nat → Bool} : (bl N B).length = N := by simp [bl]
theorem bl_at {N : Nat} {B : Nat → Bool} {v : Int} (h0 : 0 ≤ v) (h1 : v < (N : Nat)) : atI (bl N B) v = some (.bl (B v.toNat)) := at_map_range h0 h1
theorem bl_set {N k : Nat} {B : Nat → Bool} {x : Bool} : (bl N B).set k (.bl x) = bl N (fun j => if j = k then x else B j) := by
  unfold bl
  rw [set_map_range]
  apply List.map_congr_left
  intro j _
  by_cases h : j = k <;> simp [h]
theorem bl_congr {N : Nat} {B C : Nat → Bool} (h : ∀ v, v < N → B v = C v) : bl N B = bl N C := by
  unfold bl
  apply List.map_congr_left
  intro j hj
  rw [h j (List.mem_range.mp hj)]
theorem bl_new (N : Nat) : (List.replicate N [D.bl false]).flatten = bl N fun _ => false := by
  unfold bl
  induction N with
  | zero => rfl
  | succ n ih => rw [List.range_succ, List.map_append, ← ih, List.replicate_succ', List.flatten_append]; rfl
theorem mark {s : Sto} {a N : Nat} {B : Nat → Bool} {vs : List Int} {x0 x1 x2 o4 x5 x6 : Option D} {QS : Fl → Sto → Prop} (hs : s[a]? = some (.lst (bl N B))) (hv : ∀ v, v ∈ vs → 0 ≤ v ∧ v < (N : Nat))
    (k : ∀ o s', s'[a]? = some (.lst (bl N fun v => B v || decide ((v : Int) ∈ vs))) → (∀ b o, b ≠ a → s[b]? = some o → s'[b]? = some o) → (∀ st : Sto, st.length ≤ a → Pre st s → Pre st s') → QS (.nx [x0, x1, x2, some (.ref a), o, x5, x6]) s') :
    wp (forL [] (.nm 4) (SsetIx (Ev 3) (Ev 4) (Ec (.bl true))) (vs.map D.int) [x0, x1, x2, some (.ref a), o4, x5, x6] s) QS := by
  refine x_loop (fun i e s' => i ≤ vs.length ∧ ∃ o, e = [x0, x1, x2, some (.ref a), o, x5, x6] ∧ s'[a]? = some (.lst (bl N fun v => B v || decide ((v : Int) ∈ vs.take i))) ∧ (∀ b o, b ≠ a → s[b]? = some o → s'[b]? = some o) ∧ (∀ st : Sto, st.length ≤ a → Pre st s → Pre st s')) ?_ (fun _ _ _ _ => noWatch) ?_ ?_
  · exact ⟨Nat.zero_le _, _, rfl, by simpa using hs, fun _ _ _ h => h, fun _ _ h => h⟩
  · rintro i x e s' hx ⟨hi, o, rfl, h1, h2, h3⟩
    rw [List.getElem?_map] at hx
    obtain ⟨v, hv1, rfl⟩ := Option.map_eq_some_iff.mp hx
    obtain ⟨b1, b2⟩ := hv v (List.mem_of_getElem? hv1)
    have hlt := (List.getElem?_eq_some_iff.mp hv1).1
    walk_at "ml"
    refine z_set h1 (by rw [bl_len]; exact ixN_ok b1 b2) rfl rfl ?_
    walk_at "ml"
    refine ⟨by omega, _, rfl, ?_, fun b o hb ho => ?_, fun st hst hp => (h3 st hst hp).set hst⟩
    · rw [set_at h1, bl_set]
      congr 2
      apply bl_congr
      intro j _
      rw [take_last hv1]
      by_cases hj : j = v.toNat
      · have hj2 : (j : Int) = v := by omega
        rw [if_pos hj, hj2]
        simp
      · have hj2 : (j : Int) ≠ v := by omega
        rw [if_neg hj]
        simp [hj2]
    · rw [List.getElem?_set_ne (fun h => hb h.symm)]
      exact h2 b o hb ho
  · rintro e s' ⟨hi, o, rfl, h1, h2, h3⟩
    rw [List.length_map, List.take_length] at h1
    exact k o s' h1 h2 h3
/-! ### what is needed -/
def vals (L : List Ln) (i : Nat) : List Int := (L.getD i ("", .non, [])).2.2
def wl (L : List Ln) (lv : Int) (outs : List Int) : Nat → List Int
  | 0 => outs
  | j + 1 => if lv + ((L.length : Int) - 1 - j) ∈ wl L lv outs j then wl L lv outs j ++ vals L (L.length - 1 - j) else wl L lv outs j
def fd (L : List Ln) (lv : Int) (outs : List Int) : Nat → List Int
  | 0 => []
  | j + 1 => if lv + ((L.length : Int) - 1 - j) ∈ wl L lv outs j then ((L.length : Int) - 1 - j) :: fd L lv outs j else fd L lv outs j
theorem vals_ok {L : List Ln} {N : Int} (h : ∀ x, x ∈ L → ∀ v, v ∈ x.2.2 → 0 ≤ v ∧ v < N) (i : Nat) : ∀ v, v ∈ vals L i → 0 ≤ v ∧ v < N := by
  intro v hv
  unfold vals at hv
  rw [List.getD_eq_getElem?_getD] at hv
  cases hl : L[i]? with
  | none => rw [hl] at hv; cases hv
  | some x => rw [hl] at hv; exact h x (List.mem_of_getElem? hl) v hv
theorem vals_len {L : List Ln} (h : ∀ x, x ∈ L → x.2.2.length ≤ 2) (i : Nat) : (vals L i).length ≤ 2 := by
  unfold vals
  rw [List.getD_eq_getElem?_getD]
  cases hl : L[i]? with
  | none => simp
  | some x => exact h x (List.mem_of_getElem? hl)
theorem wl_len {L : List Ln} {lv : Int} {outs : List Int} (h : ∀ x, x ∈ L → x.2.2.length ≤ 2) : ∀ j, (wl L lv outs j).length ≤ outs.length + 2 * j
  | 0 => Nat.le_refl _
  | j + 1 => by
    have h1 := wl_len (lv := lv) (outs := outs) h j
    have h2 := vals_len h (L.length - 1 - j)
    unfold wl
    split
    · rw [List.length_append]; omega
    · omega
theorem fd_len {L : List Ln} {lv : Int} {outs : List Int} : ∀ j, (fd L lv outs j).length ≤ j
  | 0 => Nat.le_refl _
  | j + 1 => by
    have h1 := fd_len (L := L) (lv := lv) (outs := outs) j
    unfold fd
    split
    · rw [List.length_cons]; omega
    · omega
theorem ln_at {L : List Ln} {i : Nat} {k : Int} (h : i < L.length) (hk : k = (i : Int)) : ∃ z d, atI (L.map lnD) k = some (.tup [.str z, d, .tup ((vals L i).map D.int)]) := by
  subst hk
  refine ⟨L[i].1, L[i].2.1, atI_get (by omega) ?_⟩
  simp [h, lnD, vals]
theorem needed_ok {st : Sto} {L : List Ln} {lv : Int} {outs : List Int} {Q : D → Sto → Prop} (hlv : 0 ≤ lv ∧ lv ≤ 100000) (hL : L.length ≤ 100000) (ho : ∀ v, v ∈ outs → 0 ≤ v ∧ v < lv + L.length) (hv : ∀ x, x ∈ L → ∀ v, v ∈ x.2.2 → 0 ≤ v ∧ v < lv + L.length)
    (k : Q (.tup ((fd L lv outs L.length).map D.int)) st) : wp (m_needed [.int lv, .tup (L.map lnD), .tup (outs.map D.int)] st) Q := by
  refine wp_gc ?_
  walk_at "run"
  walk_at "ml"
  refine z_mulN rfl (by rw [List.length_map]; simp; omega) ?_
  rw [bl_new, List.length_map]
  have eN : (((lv + (L.length : Int)).toNat : Nat) : Int) = lv + L.length := by omega
  generalize hN : (lv + (L.length : Int)).toNat = N at eN
  walk_at "ml"
  refine mark at_new (by rw [eN]; exact ho) fun o4 s1 h1 h2 h3 => ?_
  have pr1 := h3 st (Nat.le_refl _) Pre.refl.app
  have hb1 : (fun v : Nat => false || decide ((v : Int) ∈ outs)) = fun v : Nat => decide ((v : Int) ∈ wl L lv outs 0) := by funext v; rw [Bool.false_or]; rfl
  rw [hb1] at h1
  walk_at "ml"
  rw [List.length_map]
  have hne : s1.length ≠ st.length := by have := (List.getElem?_eq_some_iff.mp h1).1; omega
  have hle : st.length ≤ s1.length := pr1.le
  generalize hb : s1.length = b at hne hle
  have en : ((L.length : Int) - 1 - -1).toNat = L.length := by omega
  rw [en]
  refine x_loop (fun i e s' => i ≤ L.length ∧ ∃ o4 o6, e = [some (.int lv), some (.tup (L.map lnD)), some (.tup (outs.map D.int)), some (.ref st.length), o4, some (.ref b), o6] ∧ Pre st s' ∧
    s'[st.length]? = some (.lst (bl N fun v => decide ((v : Int) ∈ wl L lv outs i))) ∧ s'[b]? = some (.lst ((fd L lv outs i).reverse.map D.int))) ?_ (fun _ _ _ _ => noWatch) ?_ ?_
  · refine ⟨Nat.zero_le _, _, _, rfl, pr1.app, by rw [List.getElem?_append_left (List.getElem?_eq_some_iff.mp h1).1]; exact h1, ?_⟩
    rw [← hb]
    exact at_new
  · rintro i x e s' hx ⟨hi, o4, o6, rfl, pr, h4, h5⟩
    obtain ⟨hi2, rfl⟩ := down_at hx
    have ei : (L.length : Int) - 1 + (i : Int) * (-1) = (L.length : Int) - 1 - i := by omega
    rw [ei]
    obtain ⟨z, d, hln⟩ := ln_at (L := L) (i := L.length - 1 - i) (k := (L.length : Int) - 1 - i) (by omega) (by omega)
    have hat := bl_at (N := N) (B := fun v => decide ((v : Int) ∈ wl L lv outs i)) (v := lv + ((L.length : Int) - 1 - i)) (by omega) (by omega)
    have et : ((lv + ((L.length : Int) - 1 - i)).toNat : Int) = lv + ((L.length : Int) - 1 - i) := by omega
    rw [et] at hat
    walk_at "ml"
    refine y_d (fun h => ?_) (fun h => ?_)
    · have hw : wl L lv outs (i + 1) = wl L lv outs i ++ vals L (L.length - 1 - i) := if_pos h
      have hf : fd L lv outs (i + 1) = ((L.length : Int) - 1 - i) :: fd L lv outs i := if_pos h
      have hfl := fd_len (L := L) (lv := lv) (outs := outs) i
      walk_at "ml"
      refine z_app h5 (by rw [List.length_map, List.length_reverse]; omega) rfl ?_
      walk_at "ml"
      have h4' : (s'.set b (O.lst (List.map D.int (fd L lv outs i).reverse ++ [D.int ((L.length : Int) - 1 - i)])))[st.length]? = some (.lst (bl N fun v => decide ((v : Int) ∈ wl L lv outs i))) := by
        rw [List.getElem?_set_ne hne]; exact h4
      have h5' := set_at (x := O.lst (List.map D.int (fd L lv outs i).reverse ++ [D.int ((L.length : Int) - 1 - i)])) h5
      refine mark h4' (by rw [eN]; exact vals_ok hv _) fun o s2 g1 g2 g3 => ?_
      refine ⟨by omega, _, _, rfl, g3 st (Nat.le_refl _) (pr.set hle), ?_, ?_⟩
      · rw [g1, hw]
        congr 2
        apply bl_congr
        intro v _
        simp [List.mem_append]
      · rw [g2 b _ hne h5', hf]
        simp
    · have hw : wl L lv outs (i + 1) = wl L lv outs i := if_neg h
      have hf : fd L lv outs (i + 1) = fd L lv outs i := if_neg h
      walk_at "ml"
      exact ⟨by omega, _, _, rfl, pr, by rw [hw]; exact h4, by rw [hf]; exact h5⟩
  · rintro e s' ⟨hi, o4, o6, rfl, pr, h4, h5⟩
    rw [down_len] at h5
    walk_at "ml"
    rw [← List.map_reverse, List.reverse_reverse]
    refine ⟨pr, ?_, k⟩
    show belows _ _
    generalize fd L lv outs L.length = xs
    induction xs with
    | nil => trivial
    | cons x xs ih => exact ⟨trivial, ih⟩
/-! ### programs -/

/-! ### a run of lines -/
abbrev PL := Kd × List Int × List Int
def pln (x : PL) : Ln := (x.1.s, .tup (x.2.1.map D.int), x.2.2)
def PLok (lv : Nat) (P : List PL) : Prop := ∀ (i : Nat) (x : PL), P[i]? = some x → numOk x.1 x.2.1 ∧ x.2.2.length ≤ 2 ∧ ∀ v, v ∈ x.2.2 → 0 ≤ v ∧ v < (lv : Int) + i
def noMt : Mt := ⟨1, 1, fun _ _ => 0⟩
def valOf (V : List (Option Mt)) (v : Int) : Mt := (V.getD v.toNat none).getD noMt
def argsOf (V : List (Option Mt)) (vs : List Int) : List Mt := vs.map (valOf V)
def opD (x : PL) (ms : List Mt) : D := .tup [.str x.1.s, .tup (x.2.1.map D.int), .tup (ms.map Mt.d)]
def exec (P : List PL) (lv : Nat) : List Nat → List (Option Mt) → Option (List (Option Mt)) × List D
  | [], V => (some V, [])
  | i :: r, V => match P[i]? with
    | none => (some V, [])
    | some x => match opr x.1 x.2.1 (argsOf V x.2.2) with
      | none => (none, [opD x (argsOf V x.2.2)])
      | some m => ((exec P lv r (V.set (lv + i) (some m))).1, opD x (argsOf V x.2.2) :: (exec P lv r (V.set (lv + i) (some m))).2)
def nd (P : List PL) (lv : Nat) (outs : List Int) : List Nat := (fd (P.map pln) lv outs P.length).map Int.toNat
abbrev resD (outs : List Int) : Option (List (Option Mt)) → D
  | none => .non
  | some V => .tup (outs.map fun v => optD (V.getD v.toNat none))
section
variable {P : List PL} {lv : Nat} {outs : List Int}
theorem vals_pl {i : Nat} {x : PL} (h : P[i]? = some x) : vals (P.map pln) i = x.2.2 := by
  unfold vals
  rw [List.getD_eq_getElem?_getD, List.getElem?_map, h]
  rfl
theorem fd_mem (j : Nat) : j ≤ P.length → ∀ i : Int, (i ∈ fd (P.map pln) lv outs j ↔ ∃ k, k < j ∧ i = (P.length : Int) - 1 - k ∧ (lv : Int) + i ∈ wl (P.map pln) lv outs k) := by
  induction j with
  | zero => exact fun _ i => ⟨fun h => (nomatch h), fun ⟨k, hk, _⟩ => absurd hk (Nat.not_lt_zero _)⟩
  | succ j ih =>
    intro hj i
    have ih := ih (by omega) i
    unfold fd
    rw [List.length_map]
    split
    · rename_i hw
      rw [List.mem_cons, ih]
      constructor
      · rintro (rfl | ⟨k, hk, h1, h2⟩)
        · exact ⟨j, by omega, rfl, hw⟩
        · exact ⟨k, by omega, h1, h2⟩
      · rintro ⟨k, hk, h1, h2⟩
        by_cases e : k = j
        · subst e; exact .inl h1
        · exact .inr ⟨k, by omega, h1, h2⟩
    · rename_i hw
      rw [ih]
      constructor
      · rintro ⟨k, hk, h1, h2⟩
        exact ⟨k, by omega, h1, h2⟩
      · rintro ⟨k, hk, h1, h2⟩
        by_cases e : k = j
        · subst e; subst h1; exact absurd h2 hw
        · exact ⟨k, by omega, h1, h2⟩
theorem wl_mono {j : Nat} : ∀ k, j ≤ k → ∀ v, v ∈ wl (P.map pln) lv outs j → v ∈ wl (P.map pln) lv outs k
  | 0, h, v, hv => by
    have : j = 0 := by omega
    subst this
    exact hv
  | k + 1, h, v, hv => by
    by_cases e : j = k + 1
    · subst e; exact hv
    · have := wl_mono k (by omega) v hv
      unfold wl
      split
      · exact List.mem_append_left _ this
      · exact this
theorem fd_sorted (j : Nat) : j ≤ P.length → (fd (P.map pln) lv outs j).Pairwise (· < ·) := by
  induction j with
  | zero => exact fun _ => List.Pairwise.nil
  | succ j ih =>
    intro hj
    unfold fd
    split
    · refine List.pairwise_cons.mpr ⟨fun i hi => ?_, ih (by omega)⟩
      obtain ⟨k, hk, e, _⟩ := (fd_mem j (by omega) i).mp hi
      rw [List.length_map]
      omega
    · exact ih (by omega)
theorem nd_cast : fd (P.map pln) lv outs P.length = (nd P lv outs).map fun i : Nat => (i : Int) := by
  unfold nd
  rw [List.map_map]
  have : ∀ l : List Int, (∀ i, i ∈ l → 0 ≤ i) → l = l.map ((fun i : Nat => (i : Int)) ∘ Int.toNat) := by
    intro l
    induction l with
    | nil => exact fun _ => rfl
    | cons a l ih =>
      intro h
      rw [List.map_cons, ← ih fun i hi => h i (List.mem_cons_of_mem _ hi)]
      have := h a (List.mem_cons_self ..)
      simp only [Function.comp_apply]
      rw [Int.toNat_of_nonneg this]
  refine this _ fun i hi => ?_
  obtain ⟨k, hk, e, _⟩ := (fd_mem _ (Nat.le_refl _) i).mp hi
  omega
theorem fd_D : (fd (P.map pln) lv outs P.length).map D.int = (nd P lv outs).map fun i : Nat => D.int (i : Int) := by
  rw [nd_cast, List.map_map]
  rfl
theorem nd_mem (i : Nat) : i ∈ nd P lv outs ↔ i < P.length ∧ (lv : Int) + i ∈ wl (P.map pln) lv outs (P.length - 1 - i) := by
  have h : i ∈ nd P lv outs ↔ (i : Int) ∈ fd (P.map pln) lv outs P.length := by
    rw [nd_cast, List.mem_map]
    exact ⟨fun h => ⟨i, h, rfl⟩, fun ⟨j, hj, e⟩ => by
      have : j = i := by omega
      subst this; exact hj⟩
  rw [h, fd_mem _ (Nat.le_refl _)]
  constructor
  · rintro ⟨k, hk, e, h2⟩
    have : k = P.length - 1 - i := by omega
    subst this
    exact ⟨by omega, h2⟩
  · rintro ⟨h1, h2⟩
    exact ⟨P.length - 1 - i, by omega, by omega, h2⟩
theorem nd_sorted : (nd P lv outs).Pairwise (· < ·) := by
  have h := fd_sorted (P := P) (lv := lv) (outs := outs) _ (Nat.le_refl _)
  rw [nd_cast, List.pairwise_map] at h
  exact h.imp fun h => by omega
theorem nd_closed {i : Nat} (hi : i ∈ nd P lv outs) {x : PL} (hx : P[i]? = some x) {v : Int} (hv : v ∈ x.2.2) (h0 : 0 ≤ v) (h1 : v < (lv : Int) + i) : v < (lv : Int) ∨ ∃ j : Nat, j ∈ nd P lv outs ∧ v = (lv : Int) + j ∧ j < i := by
  by_cases h : v < (lv : Int)
  · exact .inl h
  · refine .inr ⟨(v - lv).toNat, ?_, by omega, by omega⟩
    obtain ⟨hl, hw⟩ := (nd_mem i).mp hi
    rw [nd_mem]
    refine ⟨by omega, ?_⟩
    have hm : v ∈ wl (P.map pln) lv outs (P.length - 1 - i + 1) := by
      unfold wl
      rw [List.length_map, if_pos (by
        have e : (lv : Int) + ((P.length : Int) - 1 - ((P.length - 1 - i : Nat) : Int)) = lv + i := by omega
        rw [e]; exact hw)]
      refine List.mem_append_right _ ?_
      rw [show P.length - 1 - (P.length - 1 - i) = i by omega, vals_pl hx]
      exact hv
    have e : (lv : Int) + ((v - lv).toNat : Int) = v := by omega
    rw [e]
    exact wl_mono _ (by omega) v hm
theorem nd_outs {v : Int} (hv : v ∈ outs) (h0 : 0 ≤ v) (h1 : v < (lv : Int) + P.length) : v < (lv : Int) ∨ ∃ j : Nat, j ∈ nd P lv outs ∧ v = (lv : Int) + j := by
  by_cases h : v < (lv : Int)
  · exact .inl h
  · refine .inr ⟨(v - lv).toNat, ?_, by omega⟩
    rw [nd_mem]
    refine ⟨by omega, ?_⟩
    have e : (lv : Int) + ((v - lv).toNat : Int) = v := by omega
    rw [e]
    exact wl_mono (j := 0) _ (by omega) v hv
/-- what is known behind the first n needed lines -/
structure Known (P : List PL) (lv : Nat) (outs : List Int) (V : List (Option Mt)) (n : Nat) : Prop where
  len : V.length = lv + P.length
  ok : ∀ (v : Nat) (m : Mt), V[v]? = some (some m) → m.ok
  leaf : ∀ v : Nat, v < lv → ∃ m, V[v]? = some (some m)
  line : ∀ j : Nat, j ∈ (nd P lv outs).take n → ∃ m, V[lv + j]? = some (some m)
theorem Known.val {V : List (Option Mt)} {n : Nat} (K : Known P lv outs V n) {v : Int} (h0 : 0 ≤ v) (h : v < (lv : Int) ∨ ∃ j : Nat, j ∈ (nd P lv outs).take n ∧ v = (lv : Int) + j) : ∃ m, V[v.toNat]? = some (some m) ∧ valOf V v = m ∧ m.ok := by
  have : ∃ m, V[v.toNat]? = some (some m) := by
    rcases h with h | ⟨j, hj, rfl⟩
    · exact K.leaf _ (by omega)
    · have e : ((lv : Int) + j).toNat = lv + j := by omega
      rw [e]
      exact K.line j hj
  obtain ⟨m, hm⟩ := this
  refine ⟨m, hm, ?_, K.ok _ _ hm⟩
  unfold valOf
  rw [List.getD_eq_getElem?_getD, hm]
  rfl
theorem take_of_lt {n i j : Nat} (hn : (nd P lv outs)[n]? = some i) (hj : j ∈ nd P lv outs) (h : j < i) : j ∈ (nd P lv outs).take n := by
  obtain ⟨m, hm, e⟩ := List.getElem_of_mem hj
  have hs := nd_sorted (P := P) (lv := lv) (outs := outs)
  obtain ⟨hn1, hn2⟩ := List.getElem?_eq_some_iff.mp hn
  by_cases hmn : m < n
  · rw [← e]
    rw [List.mem_iff_getElem]
    exact ⟨m, by simp; omega, by simp⟩
  · exfalso
    by_cases hq : m = n
    · subst hq; omega
    · have := List.pairwise_iff_getElem.mp hs n m hn1 hm (by omega)
      omega
theorem Known.args {V : List (Option Mt)} {n i : Nat} {x : PL} (K : Known P lv outs V n) (hP : PLok lv P) (hn : (nd P lv outs)[n]? = some i) (hx : P[i]? = some x) :
    ∀ v, v ∈ x.2.2 → 0 ≤ v ∧ ∃ m, V[v.toNat]? = some (some m) ∧ valOf V v = m ∧ m.ok := by
  intro v hv
  obtain ⟨_, _, h⟩ := hP i x hx
  obtain ⟨h0, h1⟩ := h v hv
  refine ⟨h0, K.val h0 ?_⟩
  rcases nd_closed (List.mem_of_getElem? hn) hx hv h0 h1 with h | ⟨j, hj, e, hji⟩
  · exact .inl h
  · exact .inr ⟨j, take_of_lt hn hj hji, e⟩
theorem Known.set {V : List (Option Mt)} {n i : Nat} {m : Mt} (K : Known P lv outs V n) (hn : (nd P lv outs)[n]? = some i) (hm : m.ok) : Known P lv outs (V.set (lv + i) (some m)) (n + 1) := by
  have hi := ((nd_mem i).mp (List.mem_of_getElem? hn)).1
  refine ⟨by simp [K.len], fun v m' h => ?_, fun v hv => ?_, fun j hj => ?_⟩
  · by_cases e : lv + i = v
    · subst e
      rw [List.getElem?_set_self (by rw [K.len]; omega)] at h
      cases h; exact hm
    · rw [List.getElem?_set_ne e] at h
      exact K.ok v m' h
  · rw [List.getElem?_set_ne (by omega)]
    exact K.leaf v hv
  · by_cases e : j = i
    · subst e
      exact ⟨m, List.getElem?_set_self (by rw [K.len]; omega)⟩
    · rw [List.getElem?_set_ne (by omega)]
      rw [List.take_add_one, hn] at hj
      rcases List.mem_append.mp hj with hj | hj
      · exact K.line j hj
      · exact absurd (by simpa using hj) e
theorem exec_known (hP : PLok lv P) : ∀ (k n : Nat) (V V' : List (Option Mt)), k = (nd P lv outs).length - n → Known P lv outs V n → (exec P lv ((nd P lv outs).drop n) V).1 = some V' → Known P lv outs V' (nd P lv outs).length := by
  intro k
  induction k with
  | zero =>
    intro n V V' hk K h
    rw [List.drop_of_length_le (by omega)] at h
    cases h
    refine ⟨K.len, K.ok, K.leaf, fun j hj => K.line j ?_⟩
    rw [List.take_length] at hj
    rw [List.take_of_length_le (by omega)]
    exact hj
  | succ k ih =>
    intro n V V' hk K h
    have hlt : n < (nd P lv outs).length := by omega
    have hn := List.getElem?_eq_getElem hlt
    rw [List.drop_eq_getElem_cons hlt] at h
    have hi := (nd_mem (P := P) (lv := lv) (outs := outs) _).mp (List.mem_of_getElem? hn)
    have hx := List.getElem?_eq_getElem hi.1
    unfold exec at h
    rw [hx] at h
    simp only at h
    split at h
    · cases h
    · rename_i m hm
      have hp := hP _ _ hx
      refine ih (n + 1) _ V' (by omega) (K.set hn (opr_ok hp.1 (fun a ha => ?_) hm)) h
      obtain ⟨v, hv, rfl⟩ := List.mem_map.mp ha
      obtain ⟨_, m', _, e, ho⟩ := K.args hP hn hx v hv
      rw [e]; exact ho
end
section
variable {P : List PL} {lv : Nat} {outs : List Int} {st : Sto} {Q : D → Sto → Prop}
theorem pl_at {i : Nat} {x : PL} (h : P[i]? = some x) : atI ((P.map pln).map lnD) (i : Int) = some (.tup [.str x.1.s, .tup (x.2.1.map D.int), .tup (x.2.2.map D.int)]) := by
  refine atI_get (by omega) ?_
  rw [Int.toNat_natCast, List.getElem?_map, List.getElem?_map, h]
  rfl
theorem val_at {V : List (Option Mt)} {v : Int} {m : Mt} (h0 : 0 ≤ v) (h : V[v.toNat]? = some (some m)) : atI (V.map optD) v = some m.d := by
  refine atI_get h0 ?_
  rw [List.getElem?_map, h]
  rfl
theorem out_at {V : List (Option Mt)} {v : Int} (h0 : 0 ≤ v) (h : v < (V.length : Nat)) : atI (V.map optD) v = some (optD (V.getD v.toNat none)) := by
  refine atI_get h0 ?_
  rw [List.getElem?_map, List.getD_eq_getElem?_getD, List.getElem?_eq_getElem (by omega)]
  rfl
theorem args_ok {V : List (Option Mt)} {n i : Nat} {x : PL} (K : Known P lv outs V n) (hP : PLok lv P) (hn : (nd P lv outs)[n]? = some i) (hx : P[i]? = some x) : ∀ m, m ∈ argsOf V x.2.2 → m.ok := fun a ha => by
  obtain ⟨v, hv, rfl⟩ := List.mem_map.mp ha
  obtain ⟨_, m', _, e, ho⟩ := K.args hP hn hx v hv
  rw [e]; exact ho
theorem exec_cons {n i : Nat} {x : PL} {V : List (Option Mt)} (hn : (nd P lv outs)[n]? = some i) (hx : P[i]? = some x) : exec P lv ((nd P lv outs).drop n) V = match opr x.1 x.2.1 (argsOf V x.2.2) with
      | none => (none, [opD x (argsOf V x.2.2)])
      | some m => ((exec P lv ((nd P lv outs).drop (n + 1)) (V.set (lv + i) (some m))).1, opD x (argsOf V x.2.2) :: (exec P lv ((nd P lv outs).drop (n + 1)) (V.set (lv + i) (some m))).2) := by
  obtain ⟨h1, h2⟩ := List.getElem?_eq_some_iff.mp hn
  rw [List.drop_eq_getElem_cons h1, h2]
  conv => lhs; unfold exec
  rw [hx]
theorem mts_pln {ms : List Mt} : plns (ms.map Mt.d) := plns_of fun d hd => by
  obtain ⟨m, _, rfl⟩ := List.mem_map.mp hd
  exact mx_pln
theorem ints_pln {is : List Int} : plns (is.map D.int) := plns_of fun d hd => by
  obtain ⟨m, _, rfl⟩ := List.mem_map.mp hd
  exact trivial
theorem kd_str (k : Kd) : PyData.strOk k.s = true := by cases k <;> decide +kernel
theorem opD_pln {x : PL} {ms : List Mt} : (opD x ms).pln := ⟨kd_str _, ints_pln, mts_pln, trivial⟩
theorem exec_pln : ∀ (r : List Nat) (V : List (Option Mt)), plns (exec P lv r V).2
  | [], V => trivial
  | i :: r, V => by
    unfold exec
    split
    · trivial
    · split
      · exact ⟨opD_pln, trivial⟩
      · exact ⟨opD_pln, exec_pln r _⟩
theorem optD_pln {o : Option Mt} : (optD o).pln := by
  cases o
  · trivial
  · exact mx_pln
theorem resD_pln {o : Option (List (Option Mt))} : (resD outs o).pln := by
  cases o with
  | none => trivial
  | some V =>
    refine plns_of fun d hd => ?_
    obtain ⟨v, _, rfl⟩ := List.mem_map.mp hd
    exact optD_pln
def V0 (P : List PL) (ms : List Mt) : List (Option Mt) := ms.map some ++ List.replicate P.length none
theorem V0_known {ms : List Mt} (hm : ∀ m, m ∈ ms → m.ok) : Known P ms.length outs (V0 P ms) 0 := by
  refine ⟨by simp [V0], fun v m h => ?_, fun v hv => ?_, fun j hj => (nomatch hj)⟩
  · unfold V0 at h
    by_cases hv : v < ms.length
    · rw [List.getElem?_append_left (by simpa using hv), List.getElem?_map, List.getElem?_eq_getElem hv] at h
      cases h
      exact hm _ (List.getElem_mem _)
    · rw [List.getElem?_append_right (by simpa using hv)] at h
      have := List.mem_of_getElem? h
      simp at this
  · unfold V0
    exact ⟨ms[v], by rw [List.getElem?_append_left (by simpa using hv), List.getElem?_map, List.getElem?_eq_getElem hv]; rfl⟩
theorem V0_D {ms : List Mt} : (V0 P ms).map optD = ms.map Mt.d ++ List.replicate P.length D.non := by
  unfold V0
  rw [List.map_append, List.map_map, List.map_replicate]
  rfl
theorem run_ok {ms : List Mt} (hlv : ms.length ≤ 100000) (hL : P.length ≤ 100000) (hP : PLok ms.length P) (ho : ∀ v, v ∈ outs → 0 ≤ v ∧ v < (ms.length : Int) + P.length) (hol : outs.length ≤ 1000) (hm : ∀ m, m ∈ ms → m.ok)
    (k : Q (.tup [resD outs (exec P ms.length (nd P ms.length outs) (V0 P ms)).1, .tup (exec P ms.length (nd P ms.length outs) (V0 P ms)).2]) st) :
    wp (m_run_lines [.tup (ms.map Mt.d), .tup ((P.map pln).map lnD), .tup (outs.map D.int)] st) Q := by
  have hPv : ∀ x, x ∈ P.map pln → ∀ v, v ∈ x.2.2 → 0 ≤ v ∧ v < (ms.length : Int) + (P.map pln).length := by
    intro x hx v hv
    obtain ⟨y, hy, rfl⟩ := List.mem_map.mp hx
    obtain ⟨i, hi, e⟩ := List.getElem_of_mem hy
    have := (hP i y (by rw [← e]; exact List.getElem?_eq_getElem hi)).2.2 v hv
    rw [List.length_map]
    omega
  refine wp_gc ?_
  walk_at "run"
  walk_at "ml"
  refine z_mulL1 (by simp; omega) ?_
  rw [const_R]
  refine z_addNN (a := ms.map Mt.d) rfl rfl (by simp; omega) ?_
  have e0 : ms.map Mt.d ++ List.replicate ((((P.map pln).map lnD).length : Nat) : Int).toNat D.non = (V0 P ms).map optD := by
    rw [V0_D]; simp
  rw [e0]
  walk_at "ml"
  rw [List.append_assoc, show (st ++ [O.lst ((V0 P ms).map optD)]).length = st.length + 1 by simp]
  simp only [List.cons_append, List.nil_append, List.length_map]
  refine needed_ok (L := P.map pln) ⟨by omega, by omega⟩ (by simpa using hL) (by simpa using ho) hPv ?_
  rw [List.length_map, fd_D]
  walk_at "ml"
  refine x_loop (fun n e s => ∃ (V : List (Option Mt)) (a : List D) (o6 o7 o8 o9 o10 o11 : Option D), Known P ms.length outs V n ∧ a.length = n ∧ plns a ∧ s = st ++ [.lst (V.map optD), .lst a] ∧ exec P ms.length (nd P ms.length outs) (V0 P ms) = ((exec P ms.length ((nd P ms.length outs).drop n) V).1, a ++ (exec P ms.length ((nd P ms.length outs).drop n) V).2) ∧ e = [some (.tup (ms.map Mt.d)), some (.tup ((P.map pln).map lnD)), some (.tup (outs.map D.int)), some (.int (ms.length : Int)), some (.ref st.length), some (.ref (st.length + 1)), o6, o7, o8, o9, o10, o11, none]) ?_ (fun _ _ _ _ => noWatch) ?_ ?_
  · exact ⟨V0 P ms, [], _, _, _, _, _, _, V0_known hm, rfl, trivial, rfl, rfl, rfl⟩
  · rintro n z e s hz ⟨V, a, o6, o7, o8, o9, o10, o11, K, hal, hap, rfl, he, rfl⟩
    rw [List.getElem?_map] at hz
    obtain ⟨i, hi, rfl⟩ := Option.map_eq_some_iff.mp hz
    have hil := ((nd_mem i).mp (List.mem_of_getElem? hi)).1
    have hx := List.getElem?_eq_getElem hil
    generalize P[i] = x at hx
    have hp := hP i x hx
    have hp2 := hp.2.1
    have hargs := args_ok K hP hi hx
    have hat := pl_at hx
    have hV := two_0 (st := st) (x := .lst (V.map optD)) (y := .lst a)
    have hA := two_1 (st := st) (x := .lst (V.map optD)) (y := .lst a)
    rw [exec_cons hi hx] at he
    walk_at "ml"
    refine x_mapM (F := D.int) (G := fun v => (valOf V v).d) noWatch (fun v hv => ?_) ?_
    · obtain ⟨h0, m, h1, h2, _⟩ := K.args hP hi hx v hv
      walk_at "ml"
      refine z_ixR hV (val_at h0 h1) ?_
      exact ⟨by rw [h2], rfl⟩
    · have ea : x.2.2.map (fun v => (valOf V v).d) = (argsOf V x.2.2).map Mt.d := by unfold argsOf; rw [List.map_map]; rfl
      rw [ea]
      have hnd : (nd P ms.length outs).length ≤ 100000 := by
        have := fd_len (L := P.map pln) (lv := (ms.length : Int)) (outs := outs) P.length
        unfold nd
        rw [List.length_map]
        omega
      have hnl := (List.getElem?_eq_some_iff.mp hi).1
      walk_at "ml"
      rw [two_s1]
      show wp (m_operate [.str x.1.s, .tup (x.2.1.map D.int), .tup ((argsOf V x.2.2).map Mt.d)] (st ++ [O.lst (V.map optD), O.lst (a ++ [opD x (argsOf V x.2.2)])])) _
      have hV := two_0 (st := st) (x := .lst (V.map optD)) (y := .lst (a ++ [opD x (argsOf V x.2.2)]))
      have hA := two_1 (st := st) (x := .lst (V.map optD)) (y := .lst (a ++ [opD x (argsOf V x.2.2)]))
      refine operate_ok hp.1 hargs (by unfold argsOf; rw [List.length_map]; omega) ?_
      cases hr : opr x.1 x.2.1 (argsOf V x.2.2) with
      | none =>
        rw [hr] at he
        walk_at "ml"
        rw [he] at k
        refine ⟨⟨_, rfl⟩, ⟨trivial, belows_pln _ (plns_app hap ⟨opD_pln, trivial⟩), trivial⟩, k⟩
      | some m =>
        rw [hr] at he
        walk_at "ml"
        refine z_set hV (ixN_ok (by omega) (by rw [List.length_map, K.len]; omega)) rfl rfl ?_
        rw [two_s0, show ((ms.length : Int) + (i : Int)).toNat = ms.length + i by omega]
        walk_at "ml"
        refine ⟨V.set (ms.length + i) (some m), a ++ [opD x (argsOf V x.2.2)], _, _, _, _, _, _, K.set hi (opr_ok hp.1 hargs hr), by simp [hal], plns_app hap ⟨opD_pln, trivial⟩, by rw [List.map_set], ?_, rfl⟩
        rw [he, List.append_assoc]
        rfl
  · rintro e s ⟨V, a, o6, o7, o8, o9, o10, o11, K, hal, hap, rfl, he, rfl⟩
    rw [List.length_map, List.drop_length] at he
    have hV := two_0 (st := st) (x := .lst (V.map optD)) (y := .lst a)
    have hA := two_1 (st := st) (x := .lst (V.map optD)) (y := .lst a)
    walk_at "ml"
    refine x_mapM (F := D.int) (G := fun v => optD (V.getD v.toNat none)) noWatch (fun v hv => ?_) ?_
    · have := ho v hv
      walk_at "ml"
      refine z_ixR hV (out_at this.1 (by rw [K.len]; omega)) ?_
      exact ⟨rfl, rfl⟩
    · walk_at "ml"
      rw [he] at k
      unfold exec at k
      rw [List.append_nil] at k
      exact ⟨⟨_, rfl⟩, ⟨D.blw_pln _ (resD_pln (o := some V)), belows_pln _ hap, trivial⟩, k⟩
end

/-! ### lines that are put, settings -/
section
variable {st : Sto} {Q : D → Sto → Prop} {g : Nat} {L : List PL}
abbrev lnsD (L : List PL) : List D := (L.map pln).map lnD
theorem lns_app {L : List PL} {x : PL} : lnsD L ++ [lnD (pln x)] = lnsD (L ++ [x]) := by simp
theorem lns_len {L : List PL} : (lnsD L).length = L.length := by simp
theorem putline_ok {lv : Int} {k : Kd} {nl vs : List Int} {dk dn dv : D} (ek : dk = .str k.s) (en : dn = .tup (nl.map D.int)) (ev : dv = .tup (vs.map D.int)) (hg : st[g]? = some (.lst (lnsD L))) (hl : L.length ≤ 100000) (kk : Q (.int (lv + L.length)) (st.set g (.lst (lnsD (L ++ [(k, nl, vs)]))))) :
    wp (m_put_line [.ref g, .int lv, dk, dn, dv] st) Q := by
  subst ek en ev
  walk_at "run"
  walk_at "ml"
  refine z_app hg (by rw [lns_len]; omega) rfl ?_
  have e : lnsD L ++ [D.tup [.str k.s, .tup (nl.map D.int), .tup (vs.map D.int)]] = lnsD (L ++ [(k, nl, vs)]) := lns_app (x := (k, nl, vs))
  rw [e]
  have hg2 := set_at (x := O.lst (lnsD (L ++ [(k, nl, vs)]))) hg
  walk_at "ml"
  rw [lns_len, List.length_append, List.length_singleton, show lv + ((L.length + 1 : Nat) : Int) - 1 = lv + L.length by omega]
  exact kk
def sentL (c gr re b : Int) : List PL := if c = 0 then [] else [(.add, [], [gr, re]), (.scale, [c], [b]), (.stretch, [2 ^ c.toNat], [b + 1]), (.sub, [], [b, b + 2])]
def sentV (c gr re b : Int) : Int × Int := if c = 0 then (gr, re) else (b + 2, b + 3)
/-- the lines of one param, behind b lines -/
def movL (mo vm sv b : Int) : List PL := if mo = 0 then [] else [(.stretch, [mo], [vm]), (.scale, [10], [b]), (.add, [], [b + 1, sv])]
def movV (mo sv b : Int) : Int := if mo = 0 then sv else b + 2
def newL (ra sf mv vw b : Int) : List PL := [(.stretch, [ra], [mv]), (.scale, [sf], [b]), (.sub, [], [vw, b + 1])]
def decL (de vw nv b : Int) : List PL := if de = 0 then [] else [(.stretch, [de], [vw]), (.scale, [10], [b]), (.sub, [], [nv, b + 1])]
def decV (de nv b : Int) : Int := if de = 0 then nv else b + 2
structure Sg where
  ra : Int
  sf : Int
  mo : Int
  de : Int
  co : Int
structure Sg.ok (S : Sg) : Prop where
  ra : 0 ≤ S.ra ∧ S.ra ≤ 1000
  sf : 1 ≤ S.sf ∧ S.sf ≤ 20
  mo : 0 ≤ S.mo ∧ S.mo ≤ 1000
  de : 0 ≤ S.de ∧ S.de ≤ 1000
  co : 0 ≤ S.co ∧ S.co ≤ 9
abbrev Sg.d (S : Sg) : D := .tup [.int S.ra, .int S.sf, .int S.mo, .int S.de, .int S.co]
def adv1 (S : Sg) (vr vg b : Int) : List PL := sentL S.co vg vr b
def advLen1 (S : Sg) : Int := if S.co = 0 then 0 else 4
def advLen2 (S : Sg) : Int := if S.mo = 0 then 0 else 3
def advL (S : Sg) (vw vm vr vg b : Int) : List PL :=
  let b1 := b + advLen1 S
  let sv := (sentV S.co vg vr b).1
  let b2 := b1 + advLen2 S
  let mv := movV S.mo sv b1
  sentL S.co vg vr b ++ (movL S.mo vm sv b1 ++ (newL S.ra S.sf mv vw b2 ++ decL S.de vw (b2 + 2) (b2 + 3)))
def advV (S : Sg) (vr vg b : Int) : Int × Int × Int :=
  let b1 := b + advLen1 S
  let sv := (sentV S.co vg vr b).1
  let b2 := b1 + advLen2 S
  (decV S.de (b2 + 2) (b2 + 3), movV S.mo sv b1, (sentV S.co vg vr b).2)
theorem sentL_len {c gr re b : Int} : ((sentL c gr re b).length : Int) = if c = 0 then 0 else 4 := by
  unfold sentL; split <;> rfl
theorem movL_len {mo vm sv b : Int} : ((movL mo vm sv b).length : Int) = if mo = 0 then 0 else 3 := by
  unfold movL; split <;> rfl
end

/-! ### settings, by place -/
def rnd (x k : Int) : Int := (x + 2 ^ k.toNat / 2) / 2 ^ k.toNat
def sentE (S : Sg) (r g : Int) : Int := if S.co = 0 then g else rnd (g + r) S.co * 2 ^ S.co.toNat
def leftE (S : Sg) (r g : Int) : Int := if S.co = 0 then r else g + r - sentE S r g
def movedE (S : Sg) (m r g : Int) : Int := if S.mo = 0 then sentE S r g else rnd (m * S.mo) 10 + sentE S r g
def nextE (S : Sg) (w m r g : Int) : Int := w - rnd (movedE S m r g * S.ra) S.sf
def newE (S : Sg) (w m r g : Int) : Int := if S.de = 0 then nextE S w m r g else nextE S w m r g - rnd (w * S.de) 10
def numsE (S : Sg) (w m r g : Int) : List Int :=
  (if S.co = 0 then [] else [g + r, rnd (g + r) S.co, sentE S r g, leftE S r g]) ++
  ((if S.mo = 0 then [] else [m * S.mo, rnd (m * S.mo) 10, movedE S m r g]) ++
  ([movedE S m r g * S.ra, rnd (movedE S m r g * S.ra) S.sf, nextE S w m r g] ++
  (if S.de = 0 then [] else [w * S.de, rnd (w * S.de) 10, newE S w m r g])))
def okL (r c : Nat) (Fs : List (Nat → Nat → Int)) : Bool := Fs.all fun F => okB r c F
theorem exec_nilL {P : List PL} {lv r c : Nat} {V : List (Option Mt)} : (exec P lv [] V).1 = if okL r c [] = true then some V else none := rfl
theorem exec_stepL {P : List PL} {lv r c i : Nat} {r' : List Nat} {V Vn : List (Option Mt)} {x : PL} {as : List Mt} {F : Nat → Nat → Int} {Fs : List (Nat → Nat → Int)} (hx : P[i]? = some x) (ha : argsOf V x.2.2 = as) (ho : raw x.1 x.2.1 as = some ⟨r, c, F⟩)
    (ht : (exec P lv r' (V.set (lv + i) (some ⟨r, c, F⟩))).1 = if okL r c Fs = true then some Vn else none) : (exec P lv (i :: r') V).1 = if okL r c (F :: Fs) = true then some Vn else none := by
  unfold exec
  rw [hx]
  simp only [ha]
  unfold opr
  rw [ho]
  simp only [bnded]
  have e : okL r c (F :: Fs) = (okB r c F && okL r c Fs) := rfl
  rw [e]
  cases h : okB r c F with
  | true =>
    rw [if_pos rfl]
    simpa using ht
  | false => simp
theorem raw_add {nl : List Int} {r c : Nat} {f g : Nat → Nat → Int} : raw .add nl [⟨r, c, f⟩, ⟨r, c, g⟩] = some ⟨r, c, fun i j => f i j + g i j⟩ := if_pos ⟨rfl, rfl⟩
theorem raw_sub {nl : List Int} {r c : Nat} {f g : Nat → Nat → Int} : raw .sub nl [⟨r, c, f⟩, ⟨r, c, g⟩] = some ⟨r, c, fun i j => f i j - g i j⟩ := if_pos ⟨rfl, rfl⟩
theorem raw_stretch {x : Int} {r c : Nat} {f : Nat → Nat → Int} : raw .stretch [x] [⟨r, c, f⟩] = some ⟨r, c, fun i j => f i j * x⟩ := rfl
theorem raw_scale {x : Int} {r c : Nat} {f : Nat → Nat → Int} : raw .scale [x] [⟨r, c, f⟩] = some ⟨r, c, fun i j => rnd (f i j) x⟩ := rfl
section
variable {lv : Nat} {L : List PL}
theorem PLok.put (h : PLok lv L) {k : Kd} {nl vs : List Int} (h1 : numOk k nl) (h2 : vs.length ≤ 2) (h3 : ∀ v, v ∈ vs → 0 ≤ v ∧ v < (lv : Int) + L.length) : PLok lv (L ++ [(k, nl, vs)]) := by
  intro i y hy
  by_cases hi : i < L.length
  · rw [List.getElem?_append_left hi] at hy
    exact h i y hy
  · rw [List.getElem?_append_right (by omega)] at hy
    have hi2 : i = L.length := by
      have := (List.getElem?_eq_some_iff.mp hy).1
      simp at this
      omega
    subst hi2
    rw [Nat.sub_self] at hy
    cases hy
    exact ⟨h1, h2, h3⟩
theorem in1 {P : Int → Prop} {a : Int} (h : P a) : ∀ v, v ∈ [a] → P v := fun v hv => by rw [List.mem_singleton.mp hv]; exact h
theorem in2 {P : Int → Prop} {a b : Int} (h : P a) (h' : P b) : ∀ v, v ∈ [a, b] → P v := fun v hv => by
  simp only [List.mem_cons, List.not_mem_nil, or_false] at hv
  rcases hv with rfl | rfl
  · exact h
  · exact h'
theorem PLok.sent (h : PLok lv L) {c gr re b : Int} (hb : b = (lv : Int) + L.length) (hc : 0 ≤ c ∧ c ≤ 9) (h1 : 0 ≤ gr ∧ gr < b) (h2 : 0 ≤ re ∧ re < b) : PLok lv (L ++ sentL c gr re b) := by
  unfold sentL
  split
  · rw [List.append_nil]; exact h
  · have hp : (2 : Int) ^ c.toNat ≤ 1048576 ∧ 2 ≤ (2 : Int) ^ c.toNat := by
      obtain ⟨a, b, _⟩ := pow_ok (n := c.toNat) (by omega) (by omega)
      exact ⟨b, a⟩
    have s1 := h.put (k := .add) (nl := []) (vs := [gr, re]) rfl (by simp) (in2 (by omega) (by omega))
    have s2 := s1.put (k := .scale) (nl := [c]) (vs := [b]) ⟨_, rfl, by omega, by omega⟩ (by simp) (in1 (by simp; omega))
    have s3 := s2.put (k := .stretch) (nl := [2 ^ c.toNat]) (vs := [b + 1]) ⟨_, rfl, by omega, by omega⟩ (by simp) (in1 (by simp; omega))
    have s4 := s3.put (k := .sub) (nl := []) (vs := [b, b + 2]) rfl (by simp) (in2 (by simp; omega) (by simp; omega))
    simpa [List.append_assoc] using s4
theorem PLok.mov (h : PLok lv L) {mo vm sv b : Int} (hb : b = (lv : Int) + L.length) (hc : 0 ≤ mo ∧ mo ≤ 1000) (h1 : 0 ≤ vm ∧ vm < b) (h2 : 0 ≤ sv ∧ sv < b) : PLok lv (L ++ movL mo vm sv b) := by
  unfold movL
  split
  · rw [List.append_nil]; exact h
  · have s1 := h.put (k := .stretch) (nl := [mo]) (vs := [vm]) ⟨_, rfl, by omega, by omega⟩ (by simp) (in1 (by omega))
    have s2 := s1.put (k := .scale) (nl := [10]) (vs := [b]) ⟨_, rfl, by decide, by decide⟩ (by simp) (in1 (by simp; omega))
    have s3 := s2.put (k := .add) (nl := []) (vs := [b + 1, sv]) rfl (by simp) (in2 (by simp; omega) (by simp; omega))
    simpa [List.append_assoc] using s3
theorem PLok.new (h : PLok lv L) {ra sf mv vw b : Int} (hb : b = (lv : Int) + L.length) (hr : 0 ≤ ra ∧ ra ≤ 1000) (hs : 1 ≤ sf ∧ sf ≤ 20) (h1 : 0 ≤ mv ∧ mv < b) (h2 : 0 ≤ vw ∧ vw < b) : PLok lv (L ++ newL ra sf mv vw b) := by
  unfold newL
  have s1 := h.put (k := .stretch) (nl := [ra]) (vs := [mv]) ⟨_, rfl, by omega, by omega⟩ (by simp) (in1 (by omega))
  have s2 := s1.put (k := .scale) (nl := [sf]) (vs := [b]) ⟨_, rfl, hs⟩ (by simp) (in1 (by simp; omega))
  have s3 := s2.put (k := .sub) (nl := []) (vs := [vw, b + 1]) rfl (by simp) (in2 (by simp; omega) (by simp; omega))
  simpa [List.append_assoc] using s3
theorem PLok.dec (h : PLok lv L) {de vw nv b : Int} (hb : b = (lv : Int) + L.length) (hc : 0 ≤ de ∧ de ≤ 1000) (h1 : 0 ≤ vw ∧ vw < b) (h2 : 0 ≤ nv ∧ nv < b) : PLok lv (L ++ decL de vw nv b) := by
  unfold decL
  split
  · rw [List.append_nil]; exact h
  · have s1 := h.put (k := .stretch) (nl := [de]) (vs := [vw]) ⟨_, rfl, by omega, by omega⟩ (by simp) (in1 (by omega))
    have s2 := s1.put (k := .scale) (nl := [10]) (vs := [b]) ⟨_, rfl, by decide, by decide⟩ (by simp) (in1 (by simp; omega))
    have s3 := s2.put (k := .sub) (nl := []) (vs := [nv, b + 1]) rfl (by simp) (in2 (by simp; omega) (by simp; omega))
    simpa [List.append_assoc] using s3
theorem PLok.adv (h : PLok lv L) {S : Sg} (hS : S.ok) {vw vm vr vg b : Int} (hb : b = (lv : Int) + L.length) (h1 : 0 ≤ vw ∧ vw < b) (h2 : 0 ≤ vm ∧ vm < b) (h3 : 0 ≤ vr ∧ vr < b) (h4 : 0 ≤ vg ∧ vg < b) : PLok lv (L ++ advL S vw vm vr vg b) := by
  unfold advL
  simp only
  have e1 := sentL_len (c := S.co) (gr := vg) (re := vr) (b := b)
  have s1 := h.sent hb hS.co h4 h3
  have hsv : 0 ≤ (sentV S.co vg vr b).1 ∧ (sentV S.co vg vr b).1 < b + advLen1 S := by
    unfold sentV advLen1
    split <;> simp only <;> omega
  have e2 := movL_len (mo := S.mo) (vm := vm) (sv := (sentV S.co vg vr b).1) (b := b + advLen1 S)
  have hb1 : b + advLen1 S = (lv : Int) + (L ++ sentL S.co vg vr b).length := by
    rw [List.length_append]; unfold advLen1; push_cast; omega
  have hm1 : 0 ≤ advLen1 S := by unfold advLen1; split <;> omega
  have s2 := s1.mov (vm := vm) hb1 hS.mo (by omega) hsv
  have hmv : 0 ≤ movV S.mo (sentV S.co vg vr b).1 (b + advLen1 S) ∧ movV S.mo (sentV S.co vg vr b).1 (b + advLen1 S) < b + advLen1 S + advLen2 S := by
    unfold movV advLen2
    split <;> omega
  have hm2 : 0 ≤ advLen2 S := by unfold advLen2; split <;> omega
  have hb2 : b + advLen1 S + advLen2 S = (lv : Int) + ((L ++ sentL S.co vg vr b) ++ movL S.mo vm (sentV S.co vg vr b).1 (b + advLen1 S)).length := by
    rw [List.length_append]; unfold advLen2; push_cast; omega
  have s3 := s2.new (vw := vw) hb2 hS.ra hS.sf hmv (by omega)
  have s4 := s3.dec (de := S.de) (vw := vw) (nv := b + advLen1 S + advLen2 S + 2) (b := b + advLen1 S + advLen2 S + 3) (by rw [List.length_append]; unfold newL; simp only [List.length_cons, List.length_nil]; omega) hS.de (by omega) (by omega)
  simpa [List.append_assoc] using s4
end
theorem advL_len {S : Sg} {vw vm vr vg b : Int} : (advL S vw vm vr vg b).length ≤ 13 := by
  unfold advL
  simp only [List.length_append]
  have e1 := sentL_len (c := S.co) (gr := vg) (re := vr) (b := b)
  have e2 := movL_len (mo := S.mo) (vm := vm) (sv := (sentV S.co vg vr b).1) (b := b + advLen1 S)
  have e3 : (decL S.de vw (b + advLen1 S + advLen2 S + 2) (b + advLen1 S + advLen2 S + 3)).length ≤ 3 := by unfold decL; split <;> simp
  have e4 : ((sentL S.co vg vr b).length : Int) ≤ 4 := by rw [e1]; split <;> omega
  have e5 : ((movL S.mo vm (sentV S.co vg vr b).1 (b + advLen1 S)).length : Int) ≤ 3 := by rw [e2]; split <;> omega
  have e6 : (newL S.ra S.sf (movV S.mo (sentV S.co vg vr b).1 (b + advLen1 S)) vw (b + advLen1 S + advLen2 S)).length = 3 := rfl
  omega
theorem sorted_same : ∀ {a b : List Nat}, a.Pairwise (· < ·) → b.Pairwise (· < ·) → (∀ x, x ∈ a ↔ x ∈ b) → a = b
  | [], [], _, _, _ => rfl
  | [], y :: b, _, _, h => absurd ((h y).mpr (List.mem_cons_self ..)) (by simp)
  | x :: a, [], _, _, h => absurd ((h x).mp (List.mem_cons_self ..)) (by simp)
  | x :: a, y :: b, ha, hb, h => by
    have ha' := List.pairwise_cons.mp ha
    have hb' := List.pairwise_cons.mp hb
    have e : x = y := by
      have h1 := (h x).mp (List.mem_cons_self ..)
      have h2 := (h y).mpr (List.mem_cons_self ..)
      rcases List.mem_cons.mp h1 with h1 | h1
      · exact h1
      · rcases List.mem_cons.mp h2 with h2 | h2
        · exact h2.symm
        · have := ha'.1 y h2
          have := hb'.1 x h1
          omega
    subst e
    congr 1
    refine sorted_same ha'.2 hb'.2 fun z => ⟨fun hz => ?_, fun hz => ?_⟩
    · rcases List.mem_cons.mp ((h z).mp (List.mem_cons_of_mem _ hz)) with q | q
      · subst q; exact absurd (ha'.1 z hz) (Nat.lt_irrefl _)
      · exact q
    · rcases List.mem_cons.mp ((h z).mpr (List.mem_cons_of_mem _ hz)) with q | q
      · subst q; exact absurd (hb'.1 z hz) (Nat.lt_irrefl _)
      · exact q
/-- every line is needed, if each is an output or read by a later one -/
theorem nd_full {P : List PL} {lv n : Nat} {outs : List Int} (hn : P.length = n) (h : ∀ i, i < n → (lv : Int) + i ∈ outs ∨ ∃ j x, i < j ∧ P[j]? = some x ∧ (lv : Int) + i ∈ x.2.2) : nd P lv outs = List.range n := by
  subst hn
  have key : ∀ k i, P.length - i ≤ k → i < P.length → i ∈ nd P lv outs := by
    intro k
    induction k with
    | zero => exact fun i h1 h2 => by omega
    | succ k ih =>
      intro i h1 h2
      rcases h i h2 with ho | ⟨j, x, hij, hx, hm⟩
      · rcases nd_outs (P := P) (lv := lv) ho (by omega) (by omega) with h3 | ⟨j, hj, e⟩
        · omega
        · have : j = i := by omega
          subst this; exact hj
      · have hjl := (List.getElem?_eq_some_iff.mp hx).1
        rcases nd_closed (ih j (by omega) hjl) hx hm (by omega) (by omega) with h3 | ⟨q, hq, e, _⟩
        · omega
        · have : q = i := by omega
          subst this; exact hq
  refine sorted_same nd_sorted List.pairwise_lt_range fun i => ⟨fun hi => List.mem_range.mpr ((nd_mem i).mp hi).1, fun hi => key _ i (Nat.le_refl _) (List.mem_range.mp hi)⟩
theorem fin_exec {P : List PL} {r c lv : Nat} {l : List Nat} {V Vn : List (Option Mt)} {Fs : List (Nat → Nat → Int)} {outs : List Int} {B : Bool} {R : D} (e : (exec P lv l V).1 = if okL r c Fs = true then some Vn else none) (hnd : nd P lv outs = l) (hk : okL r c Fs = B) (hr : resD outs (some Vn) = R) : resD outs (exec P lv (nd P lv outs) V).1 = if B = true then R else .non := by
  rw [hnd, e, hk]
  split
  · exact hr
  · rfl
/-- what the lines of one param give -/
theorem adv_exec {S : Sg} {r c : Nat} {w m q g : Nat → Nat → Int} :
    resD [(advV S 2 3 4).1, (advV S 2 3 4).2.1, (advV S 2 3 4).2.2] (exec (advL S 0 1 2 3 4) 4 (nd (advL S 0 1 2 3 4) 4 [(advV S 2 3 4).1, (advV S 2 3 4).2.1, (advV S 2 3 4).2.2]) (V0 (advL S 0 1 2 3 4) [⟨r, c, w⟩, ⟨r, c, m⟩, ⟨r, c, q⟩, ⟨r, c, g⟩])).1 =
    if ((List.range r).all fun i => (List.range c).all fun j => (numsE S (w i j) (m i j) (q i j) (g i j)).all fun n => decide (inB n)) = true then
      .tup [mx r c fun i j => newE S (w i j) (m i j) (q i j) (g i j), mx r c fun i j => movedE S (m i j) (q i j) (g i j), mx r c fun i j => leftE S (q i j) (g i j)] else .non := by
  obtain ⟨ra, sf, mo, de, co⟩ := S
  have key : ∀ (Fs : List (Nat → Nat → Int)) (ns : Nat → Nat → List Int), (∀ i j, ns i j = Fs.map fun F => F i j) → okL r c Fs = (List.range r).all fun i => (List.range c).all fun j => (ns i j).all fun n => decide (inB n) := by
    intro Fs ns h
    unfold okL okB
    rw [Bool.eq_iff_iff]
    simp only [List.all_eq_true, List.mem_range, decide_eq_true_eq, h, List.mem_map, forall_exists_index, and_imp, forall_apply_eq_imp_iff₂]
    exact ⟨fun a i hi j hj F hF => a F hF i hi j hj, fun a F hF i hi j hj => a i hi j hj F hF⟩
  by_cases hc : co = 0 <;> by_cases hm : mo = 0 <;> by_cases hd : de = 0
  · simp only [advL, advV, sentL, sentV, movL, movV, newL, decL, decV, advLen1, advLen2, numsE, newE, nextE, movedE, leftE, sentE, hc, hm, hd, if_true, if_false, List.nil_append, List.append_nil, List.cons_append, Int.reduceAdd]
    refine' fin_exec (l := [0, 1, 2]) ?e ?hnd ?hk ?hr
    case hnd => exact nd_full (n := 3) rfl fun i hi => match i, hi with
      | 0, _ => .inr ⟨1, _, by decide, rfl, by simp⟩
      | 1, _ => .inr ⟨2, _, by decide, rfl, by simp⟩
      | 2, _ => .inl (by simp)
    case e => exact (exec_stepL rfl rfl raw_stretch (exec_stepL rfl rfl raw_scale (exec_stepL rfl rfl raw_sub exec_nilL)))
    case hk => exact key _ _ fun i j => rfl
    case hr => rfl
  · simp only [advL, advV, sentL, sentV, movL, movV, newL, decL, decV, advLen1, advLen2, numsE, newE, nextE, movedE, leftE, sentE, hc, hm, hd, if_true, if_false, List.nil_append, List.append_nil, List.cons_append, Int.reduceAdd]
    refine' fin_exec (l := [0, 1, 2, 3, 4, 5]) ?e ?hnd ?hk ?hr
    case hnd => exact nd_full (n := 6) rfl fun i hi => match i, hi with
      | 0, _ => .inr ⟨1, _, by decide, rfl, by simp⟩
      | 1, _ => .inr ⟨2, _, by decide, rfl, by simp⟩
      | 2, _ => .inr ⟨5, _, by decide, rfl, by simp⟩
      | 3, _ => .inr ⟨4, _, by decide, rfl, by simp⟩
      | 4, _ => .inr ⟨5, _, by decide, rfl, by simp⟩
      | 5, _ => .inl (by simp)
    case e => exact (exec_stepL rfl rfl raw_stretch (exec_stepL rfl rfl raw_scale (exec_stepL rfl rfl raw_sub (exec_stepL rfl rfl raw_stretch (exec_stepL rfl rfl raw_scale (exec_stepL rfl rfl raw_sub exec_nilL))))))
    case hk => exact key _ _ fun i j => rfl
    case hr => rfl
  · simp only [advL, advV, sentL, sentV, movL, movV, newL, decL, decV, advLen1, advLen2, numsE, newE, nextE, movedE, leftE, sentE, hc, hm, hd, if_true, if_false, List.nil_append, List.append_nil, List.cons_append, Int.reduceAdd]
    refine' fin_exec (l := [0, 1, 2, 3, 4, 5]) ?e ?hnd ?hk ?hr
    case hnd => exact nd_full (n := 6) rfl fun i hi => match i, hi with
      | 0, _ => .inr ⟨1, _, by decide, rfl, by simp⟩
      | 1, _ => .inr ⟨2, _, by decide, rfl, by simp⟩
      | 2, _ => .inl (by simp)
      | 3, _ => .inr ⟨4, _, by decide, rfl, by simp⟩
      | 4, _ => .inr ⟨5, _, by decide, rfl, by simp⟩
      | 5, _ => .inl (by simp)
    case e => exact (exec_stepL rfl rfl raw_stretch (exec_stepL rfl rfl raw_scale (exec_stepL rfl rfl raw_add (exec_stepL rfl rfl raw_stretch (exec_stepL rfl rfl raw_scale (exec_stepL rfl rfl raw_sub exec_nilL))))))
    case hk => exact key _ _ fun i j => rfl
    case hr => rfl
  · simp only [advL, advV, sentL, sentV, movL, movV, newL, decL, decV, advLen1, advLen2, numsE, newE, nextE, movedE, leftE, sentE, hc, hm, hd, if_true, if_false, List.nil_append, List.append_nil, List.cons_append, Int.reduceAdd]
    refine' fin_exec (l := [0, 1, 2, 3, 4, 5, 6, 7, 8]) ?e ?hnd ?hk ?hr
    case hnd => exact nd_full (n := 9) rfl fun i hi => match i, hi with
      | 0, _ => .inr ⟨1, _, by decide, rfl, by simp⟩
      | 1, _ => .inr ⟨2, _, by decide, rfl, by simp⟩
      | 2, _ => .inl (by simp)
      | 3, _ => .inr ⟨4, _, by decide, rfl, by simp⟩
      | 4, _ => .inr ⟨5, _, by decide, rfl, by simp⟩
      | 5, _ => .inr ⟨8, _, by decide, rfl, by simp⟩
      | 6, _ => .inr ⟨7, _, by decide, rfl, by simp⟩
      | 7, _ => .inr ⟨8, _, by decide, rfl, by simp⟩
      | 8, _ => .inl (by simp)
    case e => exact (exec_stepL rfl rfl raw_stretch (exec_stepL rfl rfl raw_scale (exec_stepL rfl rfl raw_add (exec_stepL rfl rfl raw_stretch (exec_stepL rfl rfl raw_scale (exec_stepL rfl rfl raw_sub (exec_stepL rfl rfl raw_stretch (exec_stepL rfl rfl raw_scale (exec_stepL rfl rfl raw_sub exec_nilL)))))))))
    case hk => exact key _ _ fun i j => rfl
    case hr => rfl
  · simp only [advL, advV, sentL, sentV, movL, movV, newL, decL, decV, advLen1, advLen2, numsE, newE, nextE, movedE, leftE, sentE, hc, hm, hd, if_true, if_false, List.nil_append, List.append_nil, List.cons_append, Int.reduceAdd]
    refine' fin_exec (l := [0, 1, 2, 3, 4, 5, 6]) ?e ?hnd ?hk ?hr
    case hnd => exact nd_full (n := 7) rfl fun i hi => match i, hi with
      | 0, _ => .inr ⟨1, _, by decide, rfl, by simp⟩
      | 1, _ => .inr ⟨2, _, by decide, rfl, by simp⟩
      | 2, _ => .inl (by simp)
      | 3, _ => .inl (by simp)
      | 4, _ => .inr ⟨5, _, by decide, rfl, by simp⟩
      | 5, _ => .inr ⟨6, _, by decide, rfl, by simp⟩
      | 6, _ => .inl (by simp)
    case e => exact (exec_stepL rfl rfl raw_add (exec_stepL rfl rfl raw_scale (exec_stepL rfl rfl raw_stretch (exec_stepL rfl rfl raw_sub (exec_stepL rfl rfl raw_stretch (exec_stepL rfl rfl raw_scale (exec_stepL rfl rfl raw_sub exec_nilL)))))))
    case hk => exact key _ _ fun i j => rfl
    case hr => rfl
  · simp only [advL, advV, sentL, sentV, movL, movV, newL, decL, decV, advLen1, advLen2, numsE, newE, nextE, movedE, leftE, sentE, hc, hm, hd, if_true, if_false, List.nil_append, List.append_nil, List.cons_append, Int.reduceAdd]
    refine' fin_exec (l := [0, 1, 2, 3, 4, 5, 6, 7, 8, 9]) ?e ?hnd ?hk ?hr
    case hnd => exact nd_full (n := 10) rfl fun i hi => match i, hi with
      | 0, _ => .inr ⟨1, _, by decide, rfl, by simp⟩
      | 1, _ => .inr ⟨2, _, by decide, rfl, by simp⟩
      | 2, _ => .inl (by simp)
      | 3, _ => .inl (by simp)
      | 4, _ => .inr ⟨5, _, by decide, rfl, by simp⟩
      | 5, _ => .inr ⟨6, _, by decide, rfl, by simp⟩
      | 6, _ => .inr ⟨9, _, by decide, rfl, by simp⟩
      | 7, _ => .inr ⟨8, _, by decide, rfl, by simp⟩
      | 8, _ => .inr ⟨9, _, by decide, rfl, by simp⟩
      | 9, _ => .inl (by simp)
    case e => exact (exec_stepL rfl rfl raw_add (exec_stepL rfl rfl raw_scale (exec_stepL rfl rfl raw_stretch (exec_stepL rfl rfl raw_sub (exec_stepL rfl rfl raw_stretch (exec_stepL rfl rfl raw_scale (exec_stepL rfl rfl raw_sub (exec_stepL rfl rfl raw_stretch (exec_stepL rfl rfl raw_scale (exec_stepL rfl rfl raw_sub exec_nilL))))))))))
    case hk => exact key _ _ fun i j => rfl
    case hr => rfl
  · simp only [advL, advV, sentL, sentV, movL, movV, newL, decL, decV, advLen1, advLen2, numsE, newE, nextE, movedE, leftE, sentE, hc, hm, hd, if_true, if_false, List.nil_append, List.append_nil, List.cons_append, Int.reduceAdd]
    refine' fin_exec (l := [0, 1, 2, 3, 4, 5, 6, 7, 8, 9]) ?e ?hnd ?hk ?hr
    case hnd => exact nd_full (n := 10) rfl fun i hi => match i, hi with
      | 0, _ => .inr ⟨1, _, by decide, rfl, by simp⟩
      | 1, _ => .inr ⟨2, _, by decide, rfl, by simp⟩
      | 2, _ => .inr ⟨3, _, by decide, rfl, by simp⟩
      | 3, _ => .inl (by simp)
      | 4, _ => .inr ⟨5, _, by decide, rfl, by simp⟩
      | 5, _ => .inr ⟨6, _, by decide, rfl, by simp⟩
      | 6, _ => .inl (by simp)
      | 7, _ => .inr ⟨8, _, by decide, rfl, by simp⟩
      | 8, _ => .inr ⟨9, _, by decide, rfl, by simp⟩
      | 9, _ => .inl (by simp)
    case e => exact (exec_stepL rfl rfl raw_add (exec_stepL rfl rfl raw_scale (exec_stepL rfl rfl raw_stretch (exec_stepL rfl rfl raw_sub (exec_stepL rfl rfl raw_stretch (exec_stepL rfl rfl raw_scale (exec_stepL rfl rfl raw_add (exec_stepL rfl rfl raw_stretch (exec_stepL rfl rfl raw_scale (exec_stepL rfl rfl raw_sub exec_nilL))))))))))
    case hk => exact key _ _ fun i j => rfl
    case hr => rfl
  · simp only [advL, advV, sentL, sentV, movL, movV, newL, decL, decV, advLen1, advLen2, numsE, newE, nextE, movedE, leftE, sentE, hc, hm, hd, if_true, if_false, List.nil_append, List.append_nil, List.cons_append, Int.reduceAdd]
    refine' fin_exec (l := [0, 1, 2, 3, 4, 5, 6, 7, 8, 9, 10, 11, 12]) ?e ?hnd ?hk ?hr
    case hnd => exact nd_full (n := 13) rfl fun i hi => match i, hi with
      | 0, _ => .inr ⟨1, _, by decide, rfl, by simp⟩
      | 1, _ => .inr ⟨2, _, by decide, rfl, by simp⟩
      | 2, _ => .inr ⟨3, _, by decide, rfl, by simp⟩
      | 3, _ => .inl (by simp)
      | 4, _ => .inr ⟨5, _, by decide, rfl, by simp⟩
      | 5, _ => .inr ⟨6, _, by decide, rfl, by simp⟩
      | 6, _ => .inl (by simp)
      | 7, _ => .inr ⟨8, _, by decide, rfl, by simp⟩
      | 8, _ => .inr ⟨9, _, by decide, rfl, by simp⟩
      | 9, _ => .inr ⟨12, _, by decide, rfl, by simp⟩
      | 10, _ => .inr ⟨11, _, by decide, rfl, by simp⟩
      | 11, _ => .inr ⟨12, _, by decide, rfl, by simp⟩
      | 12, _ => .inl (by simp)
    case e => exact (exec_stepL rfl rfl raw_add (exec_stepL rfl rfl raw_scale (exec_stepL rfl rfl raw_stretch (exec_stepL rfl rfl raw_sub (exec_stepL rfl rfl raw_stretch (exec_stepL rfl rfl raw_scale (exec_stepL rfl rfl raw_add (exec_stepL rfl rfl raw_stretch (exec_stepL rfl rfl raw_scale (exec_stepL rfl rfl raw_sub (exec_stepL rfl rfl raw_stretch (exec_stepL rfl rfl raw_scale (exec_stepL rfl rfl raw_sub exec_nilL)))))))))))))
    case hk => exact key _ _ fun i j => rfl
    case hr => rfl

/-! ### rows and matrices of what was drawn -/
theorem row_of {c : Nat} {p : Int → Prop} {xs : List D} (hl : xs.length = c) (h : ∀ x, x ∈ xs → ∃ i, x = .int i ∧ p i) : ∃ f : Nat → Int, xs = ix c f ∧ ∀ j, j < c → p (f j) := by
  subst hl
  induction xs with
  | nil => exact ⟨fun _ => 0, rfl, fun j hj => absurd hj (Nat.not_lt_zero _)⟩
  | cons x xs ih =>
    obtain ⟨f, e, hf⟩ := ih fun y hy => h y (List.mem_cons_of_mem _ hy)
    obtain ⟨i, rfl, hi⟩ := h x (List.mem_cons_self ..)
    refine ⟨fun j => match j with | 0 => i | j + 1 => f j, ?_, ?_⟩
    · rw [List.length_cons]
      unfold ix at e ⊢
      rw [List.range_succ_eq_map, List.map_cons, List.map_map]
      refine congrArg (D.int i :: ·) (e.trans ?_)
      rfl
    · intro j hj
      cases j with
      | zero => exact hi
      | succ j => exact hf j (by simpa using hj)
theorem mat_of {r c : Nat} {p : Int → Prop} {xs : List D} (hl : xs.length = r) (h : ∀ x, x ∈ xs → ∃ f, x = .tup (ix c f) ∧ ∀ j, j < c → p (f j)) : ∃ f : Nat → Nat → Int, .tup xs = mx r c f ∧ ∀ i j, i < r → j < c → p (f i j) := by
  suffices hh : ∃ f : Nat → Nat → Int, xs = (List.range r).map (fun i => .tup (ix c (f i))) ∧ ∀ i j, i < r → j < c → p (f i j) by
    obtain ⟨f, e, hf⟩ := hh
    exact ⟨f, by rw [e], hf⟩
  subst hl
  induction xs with
  | nil => exact ⟨fun _ _ => 0, rfl, fun i j hj => absurd hj (Nat.not_lt_zero _)⟩
  | cons x xs ih =>
    obtain ⟨f, e, hf⟩ := ih fun y hy => h y (List.mem_cons_of_mem _ hy)
    obtain ⟨g, rfl, hg⟩ := h x (List.mem_cons_self ..)
    refine ⟨fun i => match i with | 0 => g | i + 1 => f i, ?_, ?_⟩
    · rw [List.length_cons, List.range_succ_eq_map, List.map_cons, List.map_map]
      refine congrArg (D.tup (ix c g) :: ·) (e.trans ?_)
      rfl
    · intro i j hi hj
      cases i with
      | zero => exact hg j hj
      | succ i => exact hf i j (by simpa using hi) hj

/-! ### a tree of sums -/
def treeL : Nat → Int → List Int → List PL × Int
  | 0, _, _ => ([], 0)
  | n + 1, b, vs => if vs.length = 1 then ([], vs.headD 0) else
    ((treeL n b (vs.take ((vs.length + 1) / 2))).1 ++ (treeL n (b + (treeL n b (vs.take ((vs.length + 1) / 2))).1.length) (vs.drop ((vs.length + 1) / 2))).1 ++
      [(.add, [], [(treeL n b (vs.take ((vs.length + 1) / 2))).2, (treeL n (b + (treeL n b (vs.take ((vs.length + 1) / 2))).1.length) (vs.drop ((vs.length + 1) / 2))).2])],
     b + (treeL n b (vs.take ((vs.length + 1) / 2))).1.length + (treeL n (b + (treeL n b (vs.take ((vs.length + 1) / 2))).1.length) (vs.drop ((vs.length + 1) / 2))).1.length)
def sumT : Nat → List Mt → Option Mt × Nat
  | 0, _ => (none, 0)
  | n + 1, ms => if ms.length = 1 then (some (ms.headD noMt), 0) else
    match sumT n (ms.take ((ms.length + 1) / 2)) with
    | (none, c) => (none, c)
    | (some a, c) => match sumT n (ms.drop ((ms.length + 1) / 2)) with
      | (none, d) => (none, c + d)
      | (some b, d) => (opr .add [] [a, b], c + d + 1)
/-- the lines of a tree: each but the last is taken by a later one; values below their line -/
structure TreeOk (b : Int) (m : Nat) (T : List PL × Int) : Prop where
  len : T.1.length + 1 = m
  v0 : 0 ≤ T.2
  v1 : T.2 < b + T.1.length
  ok : ∀ (i : Nat) (x : PL), T.1[i]? = some x → x.1 = .add ∧ x.2.1 = [] ∧ x.2.2.length ≤ 2 ∧ ∀ v, v ∈ x.2.2 → 0 ≤ v ∧ v < b + (i : Int)
  use : ∀ i : Nat, i < T.1.length → b + (i : Int) = T.2 ∨ ∃ (j : Nat) (x : PL), i < j ∧ T.1[j]? = some x ∧ b + (i : Int) ∈ x.2.2
theorem TreeOk.join {b : Int} {m1 m2 : Nat} {A B : List PL × Int} (hb : 0 ≤ b) (hA : TreeOk b m1 A) (hB : TreeOk (b + A.1.length) m2 B) : TreeOk b (m1 + m2) (A.1 ++ B.1 ++ [(.add, [], [A.2, B.2])], b + A.1.length + B.1.length) := by
  have a1 := hA.len
  have b1 := hB.len
  have a2 := hA.v0
  have a3 := hA.v1
  have b2 := hB.v0
  have b3 := hB.v1
  have hl : (A.1 ++ B.1 ++ [((.add, [], [A.2, B.2]) : PL)]).length = A.1.length + B.1.length + 1 := by rw [List.length_append, List.length_append, List.length_singleton]
  have hlast : (A.1 ++ B.1 ++ [((.add, [], [A.2, B.2]) : PL)])[A.1.length + B.1.length]? = some (.add, [], [A.2, B.2]) := by
    rw [List.getElem?_append_right (by simp)]
    simp
  have hleft : ∀ i : Nat, i < A.1.length → (A.1 ++ B.1 ++ [((.add, [], [A.2, B.2]) : PL)])[i]? = A.1[i]? := fun i hi => by
    rw [List.getElem?_append_left (by simp; omega), List.getElem?_append_left hi]
  have hright : ∀ i : Nat, i < B.1.length → (A.1 ++ B.1 ++ [((.add, [], [A.2, B.2]) : PL)])[A.1.length + i]? = B.1[i]? := fun i hi => by
    rw [List.getElem?_append_left (by simp; omega), List.getElem?_append_right (by omega), Nat.add_sub_cancel_left]
  refine ⟨by show (A.1 ++ B.1 ++ _).length + 1 = _; rw [hl]; omega, by show 0 ≤ b + _ + _; omega, by show b + _ + _ < b + ((A.1 ++ B.1 ++ _).length : Int); rw [hl]; omega, ?_, ?_⟩
  · intro i x hx
    have hx : (A.1 ++ B.1 ++ [((.add, [], [A.2, B.2]) : PL)])[i]? = some x := hx
    have hi := (List.getElem?_eq_some_iff.mp hx).1
    rw [hl] at hi
    by_cases h1 : i < A.1.length
    · rw [hleft i h1] at hx
      exact hA.ok i x hx
    · by_cases h2 : i < A.1.length + B.1.length
      · obtain ⟨k, rfl⟩ : ∃ k, i = A.1.length + k := ⟨i - A.1.length, by omega⟩
        rw [hright k (by omega)] at hx
        obtain ⟨e1, e2, e3, e4⟩ := hB.ok k x hx
        exact ⟨e1, e2, e3, fun v hv => by have := e4 v hv; omega⟩
      · have : i = A.1.length + B.1.length := by omega
        subst this
        rw [hlast] at hx
        cases hx
        refine ⟨rfl, rfl, Nat.le_refl 2, fun v hv => ?_⟩
        simp only [List.mem_cons, List.not_mem_nil, or_false] at hv
        rcases hv with rfl | rfl <;> omega
  · intro i hi
    have hi : i < (A.1 ++ B.1 ++ [((.add, [], [A.2, B.2]) : PL)]).length := hi
    rw [hl] at hi
    show b + (i : Int) = b + _ + _ ∨ ∃ (j : Nat) (x : PL), i < j ∧ (A.1 ++ B.1 ++ [((.add, [], [A.2, B.2]) : PL)])[j]? = some x ∧ _
    by_cases h1 : i < A.1.length
    · rcases hA.use i h1 with e | ⟨j, x, hj, hx, hm⟩
      · exact .inr ⟨_, _, by omega, hlast, by rw [e]; simp⟩
      · have := (List.getElem?_eq_some_iff.mp hx).1
        exact .inr ⟨j, x, hj, by rw [hleft j this]; exact hx, hm⟩
    · by_cases h2 : i < A.1.length + B.1.length
      · obtain ⟨k, rfl⟩ : ∃ k, i = A.1.length + k := ⟨i - A.1.length, by omega⟩
        have e0 : b + ((A.1.length + k : Nat) : Int) = b + (A.1.length : Int) + (k : Int) := by omega
        rw [e0]
        rcases hB.use k (by omega) with e | ⟨j, x, hj, hx, hm⟩
        · exact .inr ⟨_, _, h2, hlast, by rw [e]; simp⟩
        · have := (List.getElem?_eq_some_iff.mp hx).1
          exact .inr ⟨A.1.length + j, x, by omega, by rw [hright j this]; exact hx, hm⟩
      · exact .inl (by omega)
theorem tree_ok : ∀ (n : Nat) (b : Int) (vs : List Int), 0 ≤ b → 1 ≤ vs.length → vs.length ≤ 2 ^ n → (∀ v, v ∈ vs → 0 ≤ v ∧ v < b) → TreeOk b vs.length (treeL (n + 1) b vs) := by
  have one : ∀ (n : Nat) (b : Int) (vs : List Int), 0 ≤ b → vs.length = 1 → (∀ v, v ∈ vs → 0 ≤ v ∧ v < b) → TreeOk b vs.length (treeL (n + 1) b vs) := by
    intro n b vs hb h hv
    unfold treeL
    rw [if_pos h]
    have h1 := hv (vs.headD 0) (by match vs, h with | [x], _ => simp)
    exact ⟨by rw [h]; rfl, h1.1, by show vs.headD 0 < b + 0; omega, fun i x hx => (nomatch hx), fun i hi => absurd hi (Nat.not_lt_zero _)⟩
  intro n
  induction n with
  | zero => exact fun b vs hb h1 h2 hv => one 0 b vs hb (by simp at h2; omega) hv
  | succ n ih =>
    intro b vs hb h1 h2 hv
    by_cases h : vs.length = 1
    · exact one _ b vs hb h hv
    · unfold treeL
      rw [if_neg h]
      rw [Nat.pow_succ] at h2
      have l1 : (vs.take ((vs.length + 1) / 2)).length = (vs.length + 1) / 2 := by rw [List.length_take]; omega
      have l2 : (vs.drop ((vs.length + 1) / 2)).length = vs.length - (vs.length + 1) / 2 := List.length_drop
      have hA := ih b (vs.take ((vs.length + 1) / 2)) hb (by omega) (by omega) fun v hm => hv v (List.mem_of_mem_take hm)
      have hB := ih (b + (treeL (n + 1) b (vs.take ((vs.length + 1) / 2))).1.length) (vs.drop ((vs.length + 1) / 2)) (by omega) (by omega) (by omega) fun v hm => by
        have := hv v (List.mem_of_mem_drop hm)
        omega
      have hJ := hA.join hb hB
      rw [l1, l2, show (vs.length + 1) / 2 + (vs.length - (vs.length + 1) / 2) = vs.length by omega] at hJ
      exact hJ
theorem val_of {V : List (Option Mt)} {v : Int} {m : Mt} (h : V[v.toNat]? = some (some m)) : valOf V v = m := by
  unfold valOf
  rw [List.getD_eq_getElem?_getD, h]
  rfl
def RunT (P : List PL) (lv : Nat) (V : List (Option Mt)) (l rest : List Nat) (v : Int) (b : Nat) : Option Mt × Nat → Prop
  | (none, c) => (exec P lv l V).1 = none ∧ (exec P lv l V).2.length = c
  | (some m, c) => ∃ V', (exec P lv l V).1 = (exec P lv rest V').1 ∧ (exec P lv l V).2.length = c + (exec P lv rest V').2.length ∧ V'.length = V.length ∧ V'[v.toNat]? = some (some m) ∧ ∀ i, i < b → V'[i]? = V[i]?
theorem exec_tree {P : List PL} {lv : Nat} : ∀ (n : Nat) (vs : List Int) (p : Nat) (V : List (Option Mt)) (rest : List Nat), 1 ≤ vs.length → vs.length ≤ 2 ^ n →
    (∀ v, v ∈ vs → 0 ≤ v ∧ v < (lv : Int) + p ∧ V[v.toNat]? = some (some (valOf V v))) → (∀ (i : Nat) (x : PL), (treeL (n + 1) ((lv : Int) + p) vs).1[i]? = some x → P[p + i]? = some x) → V.length = lv + P.length →
    RunT P lv V (List.range' p (treeL (n + 1) ((lv : Int) + p) vs).1.length ++ rest) rest (treeL (n + 1) ((lv : Int) + p) vs).2 (lv + p) (sumT (n + 1) (vs.map (valOf V))) := by
  have one : ∀ (n : Nat) (vs : List Int) (p : Nat) (V : List (Option Mt)) (rest : List Nat), vs.length = 1 → (∀ v, v ∈ vs → 0 ≤ v ∧ v < (lv : Int) + p ∧ V[v.toNat]? = some (some (valOf V v))) → RunT P lv V (List.range' p (treeL (n + 1) ((lv : Int) + p) vs).1.length ++ rest) rest (treeL (n + 1) ((lv : Int) + p) vs).2 (lv + p) (sumT (n + 1) (vs.map (valOf V))) := by
    intro n vs p V rest h hv
    unfold treeL sumT
    rw [if_pos h, if_pos (by rw [List.length_map]; exact h)]
    match vs, h with
    | [x], _ =>
      refine ⟨V, rfl, (Nat.zero_add _).symm, rfl, ?_, fun _ _ => rfl⟩
      exact (hv x (by simp)).2.2
  intro n
  induction n with
  | zero => exact fun vs p V rest h1 h2 hv hP hl => one 0 vs p V rest (by simp at h2; omega) hv
  | succ n ih =>
    intro vs p V rest h1 h2 hv hP hl
    by_cases h : vs.length = 1
    · exact one _ vs p V rest h hv
    · rw [Nat.pow_succ] at h2
      have l1 : (vs.take ((vs.length + 1) / 2)).length = (vs.length + 1) / 2 := by rw [List.length_take]; omega
      have l2 : (vs.drop ((vs.length + 1) / 2)).length = vs.length - (vs.length + 1) / 2 := List.length_drop
      have hv1 : ∀ v, v ∈ vs.take ((vs.length + 1) / 2) → v ∈ vs := fun v hm => List.mem_of_mem_take hm
      have hv2 : ∀ v, v ∈ vs.drop ((vs.length + 1) / 2) → v ∈ vs := fun v hm => List.mem_of_mem_drop hm
      have hA := tree_ok n ((lv : Int) + p) (vs.take ((vs.length + 1) / 2)) (by omega) (by omega) (by omega) fun v hm => ⟨(hv v (hv1 v hm)).1, (hv v (hv1 v hm)).2.1⟩
      unfold treeL at hP ⊢
      unfold sumT
      rw [if_neg h] at hP ⊢
      rw [if_neg (by rw [List.length_map]; exact h), List.length_map, ← List.map_take, ← List.map_drop]
      have iA := ih (vs.take ((vs.length + 1) / 2)) p V
      generalize hTA : treeL (n + 1) ((lv : Int) + p) (vs.take ((vs.length + 1) / 2)) = A at *
      have hB := tree_ok n ((lv : Int) + p + A.1.length) (vs.drop ((vs.length + 1) / 2)) (by omega) (by omega) (by omega) fun v hm => by
        have := hv v (hv2 v hm)
        omega
      have iB := ih (vs.drop ((vs.length + 1) / 2)) (p + A.1.length)
      rw [show (lv : Int) + ((p + A.1.length : Nat) : Int) = (lv : Int) + p + A.1.length by omega] at iB
      generalize treeL (n + 1) ((lv : Int) + p + A.1.length) (vs.drop ((vs.length + 1) / 2)) = B at *
      have hPl : ∀ i : Nat, i < A.1.length → P[p + i]? = A.1[i]? := fun i hi => by
        have := hP i A.1[i] (by
          show (A.1 ++ B.1 ++ _)[i]? = _
          rw [List.getElem?_append_left (by simp; omega), List.getElem?_append_left hi, List.getElem?_eq_getElem hi])
        rw [this, List.getElem?_eq_getElem hi]
      have hPr : ∀ i : Nat, i < B.1.length → P[p + A.1.length + i]? = B.1[i]? := fun i hi => by
        have := hP (A.1.length + i) B.1[i] (by
          show (A.1 ++ B.1 ++ _)[_]? = _
          rw [List.getElem?_append_left (by simp; omega), List.getElem?_append_right (by omega), Nat.add_sub_cancel_left, List.getElem?_eq_getElem hi])
        rw [Nat.add_assoc, this, List.getElem?_eq_getElem hi]
      have hPx : P[p + A.1.length + B.1.length]? = some (.add, [], [A.2, B.2]) := by
        have := hP (A.1.length + B.1.length) (.add, [], [A.2, B.2]) (by
          show (A.1 ++ B.1 ++ _)[_]? = _
          rw [List.getElem?_append_right (by simp)]
          simp)
        rw [Nat.add_assoc]; exact this
      have hpl := (List.getElem?_eq_some_iff.mp hPx).1
      have hr : List.range' p (A.1 ++ B.1 ++ [((.add, [], [A.2, B.2]) : PL)]).length ++ rest = List.range' p A.1.length ++ (List.range' (p + A.1.length) B.1.length ++ (p + A.1.length + B.1.length) :: rest) := by
        rw [List.length_append, List.length_append, List.length_singleton, ← List.range'_append_1 (m := A.1.length + B.1.length) (n := 1), ← List.range'_append_1 (m := A.1.length) (n := B.1.length)]
        simp only [List.append_assoc, List.range'_one, List.singleton_append, Nat.add_assoc]
      show RunT P lv V (List.range' p (A.1 ++ B.1 ++ [((.add, [], [A.2, B.2]) : PL)]).length ++ rest) rest ((lv : Int) + p + A.1.length + B.1.length) (lv + p) _
      rw [hr]
      generalize hl0 : List.range' p A.1.length ++ (List.range' (p + A.1.length) B.1.length ++ (p + A.1.length + B.1.length) :: rest) = l0
      have rA := iA (List.range' (p + A.1.length) B.1.length ++ (p + A.1.length + B.1.length) :: rest) (by omega) (by omega) (fun v hm => hv v (hv1 v hm)) (fun i x hx => by
        rw [hPl i (List.getElem?_eq_some_iff.mp hx).1]; exact hx) hl
      rw [hl0] at rA
      cases hsA : sumT (n + 1) ((vs.take ((vs.length + 1) / 2)).map (valOf V)) with
      | mk ra ca =>
        rw [hsA] at rA
        cases ra with
        | none => exact rA
        | some a =>
          obtain ⟨V1, e1, c1, q1, g1, k1⟩ := rA
          have hk : ∀ v, v ∈ vs → V1[v.toNat]? = some (some (valOf V v)) ∧ valOf V1 v = valOf V v := fun v hm => by
            obtain ⟨a1, a2, a3⟩ := hv v hm
            have : V1[v.toNat]? = some (some (valOf V v)) := by rw [k1 _ (by omega)]; exact a3
            exact ⟨this, val_of this⟩
          have rB := iB V1 ((p + A.1.length + B.1.length) :: rest) (by omega) (by omega) (fun v hm => by
            obtain ⟨a1, a2, a3⟩ := hv v (hv2 v hm)
            obtain ⟨b1, b2⟩ := hk v (hv2 v hm)
            exact ⟨a1, by omega, by rw [b2]; exact b1⟩) (fun i x hx => by
            rw [hPr i (List.getElem?_eq_some_iff.mp hx).1]; exact hx) (by rw [q1, hl])
          rw [show (vs.drop ((vs.length + 1) / 2)).map (valOf V1) = (vs.drop ((vs.length + 1) / 2)).map (valOf V) from List.map_congr_left fun v hm => (hk v (hv2 v hm)).2] at rB
          cases hsB : sumT (n + 1) ((vs.drop ((vs.length + 1) / 2)).map (valOf V)) with
          | mk rb cb =>
            rw [hsB] at rB
            cases rb with
            | none =>
              obtain ⟨e2, c2⟩ := rB
              exact ⟨by rw [e1, e2], by rw [c1, c2]⟩
            | some b =>
              obtain ⟨V2, e2, c2, q2, g2, k2⟩ := rB
              have g1' : V2[A.2.toNat]? = some (some a) := by
                rw [k2 _ (by have := hA.v0; have := hA.v1; omega)]; exact g1
              have hargs : argsOf V2 [A.2, B.2] = [a, b] := by
                unfold argsOf
                rw [List.map_cons, List.map_cons, List.map_nil, val_of g1', val_of g2]
              have hx : exec P lv ((p + A.1.length + B.1.length) :: rest) V2 = match opr .add [] [a, b] with
                  | none => (none, [opD (.add, [], [A.2, B.2]) [a, b]])
                  | some m => ((exec P lv rest (V2.set (lv + (p + A.1.length + B.1.length)) (some m))).1, opD (.add, [], [A.2, B.2]) [a, b] :: (exec P lv rest (V2.set (lv + (p + A.1.length + B.1.length)) (some m))).2) := by
                rw [exec, hPx]
                simp only [hargs]
                all_goals (cases opr .add [] [a, b] <;> rfl)
              rw [hx] at e2 c2
              show RunT P lv V l0 rest _ _ (opr .add [] [a, b], ca + cb + 1)
              cases ho : opr .add [] [a, b] with
              | none =>
                rw [ho] at e2 c2
                exact ⟨by rw [e1, e2], by rw [c1, c2]; simp; omega⟩
              | some m =>
                rw [ho] at e2 c2
                refine ⟨V2.set (lv + (p + A.1.length + B.1.length)) (some m), by rw [e1, e2], by rw [c1, c2]; simp; omega, by rw [List.length_set, q2, q1], ?_, fun i hi => ?_⟩
                · rw [show ((lv : Int) + p + A.1.length + B.1.length).toNat = lv + (p + A.1.length + B.1.length) by omega, List.getElem?_set_self (by omega)]
                · rw [List.getElem?_set_ne (by omega), k2 _ (by omega), k1 _ hi]
/-- what the tree of a run gives -/
theorem exec_sum {ms : List Mt} (h1 : 1 ≤ ms.length) (h2 : ms.length ≤ 128) :
    resD [(treeL 8 (ms.length : Int) ((List.range ms.length).map fun i : Nat => (i : Int))).2] (exec (treeL 8 (ms.length : Int) ((List.range ms.length).map fun i : Nat => (i : Int))).1 ms.length (nd (treeL 8 (ms.length : Int) ((List.range ms.length).map fun i : Nat => (i : Int))).1 ms.length [(treeL 8 (ms.length : Int) ((List.range ms.length).map fun i : Nat => (i : Int))).2]) (V0 (treeL 8 (ms.length : Int) ((List.range ms.length).map fun i : Nat => (i : Int))).1 ms)).1 =
      (match (sumT 8 ms).1 with
      | none => .non
      | some m => .tup [m.d]) ∧
    (exec (treeL 8 (ms.length : Int) ((List.range ms.length).map fun i : Nat => (i : Int))).1 ms.length (nd (treeL 8 (ms.length : Int) ((List.range ms.length).map fun i : Nat => (i : Int))).1 ms.length [(treeL 8 (ms.length : Int) ((List.range ms.length).map fun i : Nat => (i : Int))).2]) (V0 (treeL 8 (ms.length : Int) ((List.range ms.length).map fun i : Nat => (i : Int))).1 ms)).2.length = (sumT 8 ms).2 := by
  have hvs : ∀ v, v ∈ ((List.range ms.length).map fun i : Nat => (i : Int)) → ∃ i : Nat, i < ms.length ∧ v = (i : Int) := fun v hv => by
    obtain ⟨i, hi, rfl⟩ := List.mem_map.mp hv
    exact ⟨i, List.mem_range.mp hi, rfl⟩
  have hl : ((List.range ms.length).map fun i : Nat => (i : Int)).length = ms.length := by simp
  have T := tree_ok 7 (ms.length : Int) ((List.range ms.length).map fun i : Nat => (i : Int)) (by omega) (by omega) (by omega) fun v hv => by
    obtain ⟨i, hi, rfl⟩ := hvs v hv
    omega
  have X := exec_tree (P := (treeL 8 (ms.length : Int) ((List.range ms.length).map fun i : Nat => (i : Int))).1) (lv := ms.length) 7 ((List.range ms.length).map fun i : Nat => (i : Int)) 0 (V0 (treeL 8 (ms.length : Int) ((List.range ms.length).map fun i : Nat => (i : Int))).1 ms) [] (by omega) (by omega)
  rw [show (ms.length : Int) + ((0 : Nat) : Int) = ms.length from Int.add_zero _] at X
  generalize treeL 8 (ms.length : Int) ((List.range ms.length).map fun i : Nat => (i : Int)) = P at *
  have hV : ∀ i : Nat, i < ms.length → (V0 P.1 ms)[i]? = some (some (ms.getD i noMt)) := fun i hi => by
    unfold V0
    rw [List.getElem?_append_left (by simpa using hi), List.getElem?_map, List.getD_eq_getElem?_getD, List.getElem?_eq_getElem hi]
    rfl
  have X := X (fun v hv => by
    obtain ⟨i, hi, rfl⟩ := hvs v hv
    have h := hV i hi
    refine ⟨by omega, by omega, ?_⟩
    rw [Int.toNat_natCast, h, val_of (v := (i : Int)) (by rw [Int.toNat_natCast]; exact h)]) (fun i x hx => by rw [Nat.zero_add]; exact hx) (by unfold V0; simp)
  have hms : (((List.range ms.length).map fun i : Nat => (i : Int)).map (valOf (V0 P.1 ms))) = ms := by
    rw [List.map_map]
    refine List.ext_getElem (by simp) fun i hi hi2 => ?_
    rw [List.getElem_map, List.getElem_range]
    show valOf _ (i : Int) = _
    rw [val_of (v := (i : Int)) (by rw [Int.toNat_natCast]; exact hV i hi2), List.getD_eq_getElem?_getD, List.getElem?_eq_getElem hi2]
    rfl
  rw [hms, List.append_nil] at X
  have hnd : nd P.1 ms.length [P.2] = List.range' 0 P.1.length := by
    rw [← List.range_eq_range']
    refine nd_full rfl fun i hi => ?_
    rcases T.use i hi with e | ⟨j, x, hj, hx, hm⟩
    · exact .inl (by rw [e]; simp)
    · exact .inr ⟨j, x, hj, hx, hm⟩
  rw [hnd]

  cases hs : sumT 8 ms with
  | mk o c =>
    rw [hs] at X
    cases o with
    | none =>
      obtain ⟨e1, e2⟩ := X
      exact ⟨by rw [e1], e2⟩
    | some m =>
      obtain ⟨V', e1, e2, e3, e4, e5⟩ := X
      refine ⟨?_, by rw [e2]; rfl⟩
      rw [e1]
      show D.tup [optD (V'.getD P.2.toNat none)] = _
      rw [List.getD_eq_getElem?_getD, e4]
      rfl
theorem set_same {α : Type} {l : List α} {g : Nat} {x : α} (h : l[g]? = some x) : l.set g x = l := by
  have hg := (List.getElem?_eq_some_iff.mp h).1
  refine List.ext_getElem? fun i => ?_
  by_cases e : i = g
  · subst e; rw [List.getElem?_set_self hg, h]
  · rw [List.getElem?_set_ne (fun q => e q.symm)]
section
variable {g : Nat}
theorem addtree_ok {lv : Int} : ∀ (n : Nat) (vs : List Int) (L : List PL) (st : Sto) (Q : D → Sto → Prop), 1 ≤ vs.length → vs.length ≤ 2 ^ n → L.length + vs.length ≤ 90000 → 0 ≤ lv → (∀ v, v ∈ vs → 0 ≤ v ∧ v < lv + L.length) → st[g]? = some (.lst (lnsD L)) →
    Q (.int (treeL (n + 1) (lv + L.length) vs).2) (st.set g (.lst (lnsD (L ++ (treeL (n + 1) (lv + L.length) vs).1)))) → wp (m_add_tree (n + 1) [.ref g, .int lv, .tup (vs.map D.int)] st) Q := by
  have one : ∀ (n : Nat) (vs : List Int) (L : List PL) (st : Sto) (Q : D → Sto → Prop), vs.length = 1 → st[g]? = some (.lst (lnsD L)) → Q (.int (treeL (n + 1) (lv + L.length) vs).2) (st.set g (.lst (lnsD (L ++ (treeL (n + 1) (lv + L.length) vs).1)))) → wp (m_add_tree (n + 1) [.ref g, .int lv, .tup (vs.map D.int)] st) Q := by
    intro n vs L st Q h hg k
    show wp (runF 6 (b_add_tree (m_add_tree n)) [.ref g, .int lv, .tup (vs.map D.int)] st) Q
    unfold treeL at k
    rw [if_pos h, List.append_nil, set_same hg] at k
    match vs, h with
    | [x], _ =>
      walk_at "run"
      walk_at "ml"
      exact k
  intro n
  induction n with
  | zero => exact fun vs L st Q h1 h2 _ _ _ hg k => one 0 vs L st Q (by simp at h2; omega) hg k
  | succ n ih =>
    intro vs L st Q h1 h2 h3 h0 hv hg k
    by_cases h : vs.length = 1
    · exact one _ vs L st Q h hg k
    · rw [Nat.pow_succ] at h2
      have l1 : (vs.take ((vs.length + 1) / 2)).length = (vs.length + 1) / 2 := by rw [List.length_take]; omega
      have l2 : (vs.drop ((vs.length + 1) / 2)).length = vs.length - (vs.length + 1) / 2 := List.length_drop
      have hv1 : ∀ v, v ∈ vs.take ((vs.length + 1) / 2) → v ∈ vs := fun v hm => List.mem_of_mem_take hm
      have hv2 : ∀ v, v ∈ vs.drop ((vs.length + 1) / 2) → v ∈ vs := fun v hm => List.mem_of_mem_drop hm
      have hA := tree_ok n (lv + L.length) (vs.take ((vs.length + 1) / 2)) (by omega) (by omega) (by omega) fun v hm => hv v (hv1 v hm)
      have iA := ih (vs.take ((vs.length + 1) / 2)) L
      unfold treeL at k
      rw [if_neg h] at k
      generalize treeL (n + 1) (lv + L.length) (vs.take ((vs.length + 1) / 2)) = A at *
      have hB := tree_ok n (lv + L.length + A.1.length) (vs.drop ((vs.length + 1) / 2)) (by omega) (by omega) (by omega) fun v hm => by
        have := hv v (hv2 v hm)
        omega
      have iB := ih (vs.drop ((vs.length + 1) / 2)) (L ++ A.1)
      rw [show lv + ((L ++ A.1).length : Int) = lv + L.length + A.1.length by rw [List.length_append]; omega] at iB
      generalize treeL (n + 1) (lv + L.length + A.1.length) (vs.drop ((vs.length + 1) / 2)) = B at *
      have a1 := hA.len
      have b1 := hB.len
      show wp (runF 6 (b_add_tree (m_add_tree (n + 1))) [.ref g, .int lv, .tup (vs.map D.int)] st) Q
      have hlm : (vs.map D.int).length = vs.length := List.length_map _
      have hcut : ((((vs.map D.int).length : Nat) : Int) + 1) / 2 = (((vs.length + 1) / 2 : Nat) : Int) := by omega
      walk_at "run"
      walk_at "ml"
      rw [hcut, cut_hi (by omega), Int.toNat_natCast, ← List.map_take]
      refine iA st _ (by omega) (by omega) (by omega) h0 (fun v hm => hv v (hv1 v hm)) hg ?_
      have hg2 := set_at (x := O.lst (lnsD (L ++ A.1))) hg
      walk_at "ml"
      rw [cut_lo (by omega), Int.toNat_natCast, ← List.map_drop]
      refine iB (st.set g (.lst (lnsD (L ++ A.1)))) _ (by omega) (by omega) (by rw [List.length_append]; omega) h0 (fun v hm => by
        have := hv v (hv2 v hm)
        omega) hg2 ?_
      rw [List.set_set]
      have hg3 := set_at (x := O.lst (lnsD (L ++ A.1 ++ B.1))) hg
      walk_at "ml"
      refine putline_ok (k := .add) (nl := []) (vs := [A.2, B.2]) rfl rfl rfl hg3 (by rw [List.length_append, List.length_append]; omega) ?_
      rw [List.set_set, List.length_append, List.length_append, show lv + ((L.length + A.1.length + B.1.length : Nat) : Int) = lv + L.length + A.1.length + B.1.length by omega]
      walk_at "ml"
      rw [List.append_assoc, List.append_assoc, ← List.append_assoc A.1]
      exact k
theorem sumtree_ok {ms : List Mt} {st : Sto} {Q : D → Sto → Prop} (h1 : 1 ≤ ms.length) (h2 : ms.length ≤ 100) (hm : ∀ m, m ∈ ms → m.ok)
    (k : Q (.tup [match (sumT 8 ms).1 with | none => D.non | some m => m.d, .int ((sumT 8 ms).2 : Nat)]) st) : wp (m_sum_tree [.tup (ms.map Mt.d)] st) Q := by
  refine wp_gc ?_
  walk_at "run"
  walk_at "ml"
  have hln : (ms.map Mt.d).length = ms.length := List.length_map _
  have er : rangeL 0 ((ms.length : Nat) : Int).toNat = ((List.range ms.length).map fun i : Nat => (i : Int)).map D.int := by
    rw [Int.toNat_natCast, rngL0, List.map_map]; rfl
  have hvs : ∀ v, v ∈ ((List.range ms.length).map fun i : Nat => (i : Int)) → 0 ≤ v ∧ v < (ms.length : Int) := fun v hv => by
    obtain ⟨i, hi, rfl⟩ := List.mem_map.mp hv
    have := List.mem_range.mp hi
    omega
  have hl : ((List.range ms.length).map fun i : Nat => (i : Int)).length = ms.length := by simp
  rw [hln]
  refine z_lrg (by omega) ?_
  rw [er]
  walk_at "ml"
  have T := tree_ok 7 (ms.length : Int) ((List.range ms.length).map fun i : Nat => (i : Int)) (by omega) (by omega) (by omega) hvs
  obtain ⟨X1, X2⟩ := exec_sum (ms := ms) h1 (by omega)
  have hcell := one_0 (st := st) (x := .lst (lnsD []))
  refine addtree_ok (lv := (ms.length : Int)) 7 _ [] _ _ (by omega) (by omega) (by rw [hl]; show 0 + ms.length ≤ 90000; omega) (by omega) (fun v hv => by have := hvs v hv; show 0 ≤ v ∧ v < (ms.length : Int) + 0; omega) hcell ?_
  rw [one_s, List.nil_append, show (ms.length : Int) + (([] : List PL).length : Int) = ms.length from Int.add_zero _]
  generalize treeL (7 + 1) (ms.length : Int) ((List.range ms.length).map fun i : Nat => (i : Int)) = P at *
  have hcell2 := one_0 (st := st) (x := .lst (lnsD P.1))
  have tl := T.len
  have t0 := T.v0
  have t1 := T.v1
  walk_at "ml"
  refine run_ok (ms := ms) (P := P.1) (outs := [P.2]) (by omega) (by omega) (fun i x hx => by
    obtain ⟨e1, e2, e3, e4⟩ := T.ok i x hx
    refine ⟨?_, e3, e4⟩
    rw [e1, e2]; exact rfl) (fun v hv => by rw [List.mem_singleton.mp hv]; exact ⟨t0, t1⟩) (by simp) hm ?_
  rw [X1]
  generalize exec P.1 ms.length (nd P.1 ms.length [P.2]) (V0 P.1 ms) = E at *
  rw [← X2] at k
  cases hs : (sumT 8 ms).1 with
  | none =>
    rw [hs] at k
    walk_at "ml"
    exact ⟨⟨_, rfl⟩, ⟨trivial, trivial, trivial⟩, k⟩
  | some m =>
    rw [hs] at k
    walk_at "ml"
    exact ⟨⟨_, rfl⟩, ⟨blw_mx, trivial, trivial⟩, k⟩
end
section
variable {st : Sto} {Q : D → Sto → Prop}
theorem ladded_ok {a b : Mt} (ha : a.ok) (hb : b.ok) (k : Q (optD (opr .add [] [a, b])) st) : wp (m__law_added [a.d, b.d] st) Q := by
  obtain ⟨r, c, f⟩ := a
  obtain ⟨r', c', f'⟩ := b
  obtain ⟨r0, r1, c0, c1, hf⟩ := ha
  obtain ⟨r0', r1', c0', c1', hf'⟩ := hb
  simp only at r0 r1 c0 c1 hf r0' r1' c0' c1' hf'
  unfold opr raw at k
  simp only at k
  show wp (m__law_added [mx r c f, mx r' c' f'] st) Q
  refine wp_gc ?_
  walk_at "run"
  walk_at "ml"
  refine y_eq (fun h => ?_) (fun h => ?_)
  · have e : r' = r := by omega
    subst e
    walk_at "ml"
    refine y_eq (fun h2 => ?_) (fun h2 => ?_)
    · have e : c' = c := by omega
      subst e
      rw [if_pos ⟨rfl, rfl⟩] at k
      unfold bnded at k
      simp only at k
      have hbad : ∀ i j, i < r' → j < c' → ¬ inB (f i j + f' i j) → okB r' c' (fun i j => f i j + f' i j) = false := fun i j hi hj hx => by
        unfold okB
        rw [List.all_eq_false]
        refine ⟨i, List.mem_range.mpr hi, fun q => hx ?_⟩
        rw [List.all_eq_true] at q
        simpa using q j (List.mem_range.mpr hj)
      walk_at "ml"
      refine x_loop (fun i e s => i ≤ r' ∧ (∀ i' j, i' < i → j < c' → inB (f i' j + f' i' j)) ∧ s = st ++ [.lst ((List.range i).map fun i => .tup (ix c' fun j => f i j + f' i j))] ∧ ∃ o3 o4 o5, e = [some (mx r' c' f), some (mx r' c' f'), some (.ref st.length), o3, o4, o5, none]) ⟨Nat.zero_le _, fun i j hh => absurd hh (Nat.not_lt_zero _), rfl, _, _, _, rfl⟩ (fun _ _ _ _ => noWatch) ?_ ?_
      · rintro i x e s hx ⟨hi, hall, rfl, o3, o4, o5, rfl⟩
        obtain ⟨hi2, rfl⟩ := range_at hx
        rw [Int.toNat_natCast] at hi2
        rw [Int.zero_add]
        walk_at "ml"
        refine x_loop (fun j e s => s = st ++ [.lst ((List.range i).map fun i => .tup (ix c' fun j => f i j + f' i j))] ∧ (∀ j', j' < j → inB (f i j' + f' i j')) ∧ ∃ o5, e = [some (mx r' c' f), some (mx r' c' f'), some (.ref st.length), some (.int (i : Int)), some (.lst (ix c' fun j => f i j + f' i j)), o5, none]) ⟨rfl, fun j hh => absurd hh (Nat.not_lt_zero _), _, rfl⟩ (fun _ _ _ _ => noWatch) ?_ ?_
        · rintro j x e s hx ⟨rfl, hrow, o5, rfl⟩
          have hj := (List.getElem?_eq_some_iff.mp hx).1
          simp at hj
          have ez : x = .int (f i j + f' i j) := by simpa [hj] using hx.symm
          subst ez
          walk_at "ml"
          refine y_d (fun h3 => ?_) (fun h3 => ?_)
          · walk_at "ml"
            rw [hbad i j hi2 hj (fun q => by have := q.1; omega), if_neg Bool.false_ne_true] at k
            exact ⟨⟨_, rfl⟩, trivial, k⟩
          · walk_at "ml"
            refine y_d (fun h4 => ?_) (fun h4 => ?_)
            · walk_at "ml"
              rw [hbad i j hi2 hj (fun q => by have := q.2; omega), if_neg Bool.false_ne_true] at k
              exact ⟨⟨_, rfl⟩, trivial, k⟩
            · walk_at "ml"
              refine ⟨rfl, fun j' hj' => ?_, _, rfl⟩
              by_cases ee : j' = j
              · subst ee; exact ⟨by omega, by omega⟩
              · exact hrow j' (by omega)
        · rintro e s ⟨rfl, hrow, o5, rfl⟩
          rw [len_R] at hrow
          have hcell := one_0 (st := st) (x := .lst ((List.range i).map fun i => .tup (ix c' fun j => f i j + f' i j)))
          have l0 : ((List.range i).map fun i => D.tup (ix c' fun j => f i j + f' i j)).length < 16777216 := by simp; omega
          walk_at "ml"
          refine ⟨by omega, fun i' j h5 h6 => ?_, ?_, _, _, _, rfl⟩
          · by_cases ee : i' = i
            · subst ee; exact hrow j h6
            · exact hall i' j (by omega) h6
          · rw [one_s, List.range_succ, List.map_append]; rfl
      · rintro e s ⟨hi, hall, rfl, o3, o4, o5, rfl⟩
        rw [range_len, Int.toNat_natCast] at hall ⊢
        have hcell := one_0 (st := st) (x := .lst ((List.range r').map fun i => .tup (ix c' fun j => f i j + f' i j)))
        walk_at "ml"
        have : okB r' c' (fun i j => f i j + f' i j) = true := by
          unfold okB
          simp only [List.all_eq_true, List.mem_range, decide_eq_true_eq]
          exact fun i hi j hj => hall i j hi hj
        rw [this, if_pos rfl] at k
        exact ⟨⟨_, rfl⟩, blw_mx, k⟩
    · walk_at "ml"
      rw [if_neg (fun q => h2 (by rw [q.2]))] at k
      exact ⟨⟨[], (List.append_nil _).symm⟩, trivial, k⟩
  · walk_at "ml"
    rw [if_neg (fun q => h (by rw [q.1]))] at k
    exact ⟨⟨[], (List.append_nil _).symm⟩, trivial, k⟩
end
theorem opr_add_ok {a b m : Mt} (ha : a.ok) (h : opr .add [] [a, b] = some m) : m.ok := by
  unfold opr raw at h
  simp only at h
  split at h
  · unfold bnded at h
    simp only at h
    split at h
    · rename_i e
      cases h
      refine ⟨ha.r0, ha.r1, ha.c0, ha.c1, fun i j hi hj => ?_⟩
      unfold okB at e
      simp only [List.all_eq_true, List.mem_range, decide_eq_true_eq] at e
      exact e i hi j hj
    · cases h
  · cases h
theorem sumT_ok : ∀ (n : Nat) (ms : List Mt), 1 ≤ ms.length → ms.length ≤ 2 ^ n → (∀ m, m ∈ ms → m.ok) → ∀ m, (sumT (n + 1) ms).1 = some m → m.ok := by
  intro n
  have one : ∀ n (ms : List Mt), ms.length = 1 → (∀ m, m ∈ ms → m.ok) → ∀ m, (sumT (n + 1) ms).1 = some m → m.ok := by
    intro n ms h hm m e
    unfold sumT at e
    rw [if_pos h] at e
    match ms, h with
    | [x], _ => cases e; exact hm _ (by simp)
  induction n with
  | zero => exact fun ms h1 h2 hm => one 0 ms (by simp at h2; omega) hm
  | succ n ih =>
    intro ms h1 h2 hm m e
    by_cases h : ms.length = 1
    · exact one _ ms h hm m e
    · rw [Nat.pow_succ] at h2
      unfold sumT at e
      rw [if_neg h] at e
      have hA := ih (ms.take ((ms.length + 1) / 2)) (by rw [List.length_take]; omega) (by rw [List.length_take]; omega) fun m q => hm m (List.mem_of_mem_take q)
      cases hs : sumT (n + 1) (ms.take ((ms.length + 1) / 2)) with
      | mk ra ca =>
        rw [hs] at e hA
        cases ra with
        | none => cases e
        | some a =>
          simp only at e
          cases hs2 : sumT (n + 1) (ms.drop ((ms.length + 1) / 2)) with
          | mk rb cb =>
            rw [hs2] at e
            cases rb with
            | none => cases e
            | some b => exact opr_add_ok (hA a rfl) e
theorem ltree_ok : ∀ (n : Nat) (ms : List Mt) (st : Sto) (Q : D → Sto → Prop), 1 ≤ ms.length → ms.length ≤ 2 ^ n → ms.length ≤ 1000 → (∀ m, m ∈ ms → m.ok) → Q (.lst [optD (sumT (n + 1) ms).1, .int ((sumT (n + 1) ms).2 : Nat)]) st →
    wp (m__law_tree (n + 1) [.lst (ms.map Mt.d)] st) Q := by
  have one : ∀ (n : Nat) (ms : List Mt) (st : Sto) (Q : D → Sto → Prop), ms.length = 1 → Q (.lst [optD (sumT (n + 1) ms).1, .int ((sumT (n + 1) ms).2 : Nat)]) st → wp (m__law_tree (n + 1) [.lst (ms.map Mt.d)] st) Q := by
    intro n ms st Q h k
    show wp (runF 4 (b__law_tree (m__law_tree n)) [.lst (ms.map Mt.d)] st) Q
    unfold sumT at k
    rw [if_pos h] at k
    match ms, h with
    | [x], _ =>
      walk_at "run"
      walk_at "ml"
      exact k
  intro n
  induction n with
  | zero => exact fun ms st Q h1 h2 _ _ k => one 0 ms st Q (by simp at h2; omega) k
  | succ n ih =>
    intro ms st Q h1 h2 h3 hm k
    by_cases h : ms.length = 1
    · exact one _ ms st Q h k
    · rw [Nat.pow_succ] at h2
      unfold sumT at k
      rw [if_neg h] at k
      have lA : (ms.take ((ms.length + 1) / 2)).length = (ms.length + 1) / 2 := by rw [List.length_take]; omega
      have lB : (ms.drop ((ms.length + 1) / 2)).length = ms.length - (ms.length + 1) / 2 := List.length_drop
      have mA : ∀ m, m ∈ ms.take ((ms.length + 1) / 2) → m.ok := fun m q => hm m (List.mem_of_mem_take q)
      have mB : ∀ m, m ∈ ms.drop ((ms.length + 1) / 2) → m.ok := fun m q => hm m (List.mem_of_mem_drop q)
      have oA := sumT_ok n _ (by omega) (by omega) mA
      have oB := sumT_ok n _ (by omega) (by omega) mB
      show wp (runF 4 (b__law_tree (m__law_tree (n + 1))) [.lst (ms.map Mt.d)] st) Q
      have hlm : (ms.map Mt.d).length = ms.length := List.length_map _
      have hcut : ((((ms.map Mt.d).length : Nat) : Int) + 1) / 2 = (((ms.length + 1) / 2 : Nat) : Int) := by omega
      walk_at "run"
      walk_at "ml"
      rw [hcut, cut_hi (by omega), Int.toNat_natCast, ← List.map_take]
      refine ih _ st _ (by omega) (by omega) (by omega) mA ?_
      generalize sumT (n + 1) (ms.take ((ms.length + 1) / 2)) = A at *
      obtain ⟨ra, ca⟩ := A
      cases ra with
      | none =>
        walk_at "ml"
        exact k
      | some a =>
        walk_at "ml"
        rw [cut_lo (by omega), Int.toNat_natCast, ← List.map_drop]
        refine ih _ st _ (by omega) (by omega) (by omega) mB ?_
        simp only at k
        generalize sumT (n + 1) (ms.drop ((ms.length + 1) / 2)) = B at *
        obtain ⟨rb, cb⟩ := B
        cases rb with
        | none =>
          walk_at "ml"
          exact k
        | some b =>
          walk_at "ml"
          refine ladded_ok (oA a rfl) (oB b rfl) ?_
          walk_at "ml"
          exact k
theorem ltree_ref {g : Nat} {ms : List Mt} {st : Sto} {Q : D → Sto → Prop} (hg : st[g]? = some (.lst (ms.map Mt.d))) (h1 : 1 ≤ ms.length) (h2 : ms.length ≤ 24) (hm : ∀ m, m ∈ ms → m.ok) (k : Q (.lst [optD (sumT 8 ms).1, .int ((sumT 8 ms).2 : Nat)]) st) : wp (m__law_tree 8 [.ref g] st) Q := by
  show wp (runF 4 (b__law_tree (m__law_tree 7)) [.ref g] st) Q
  have hlm : (ms.map Mt.d).length = ms.length := List.length_map _
  by_cases h : ms.length = 1
  · unfold sumT at k
    rw [if_pos h] at k
    match ms, h with
    | [x], _ =>
      walk_at "run"
      walk_at "ml"
      exact k
  · unfold sumT at k
    rw [if_neg h] at k
    have lA : (ms.take ((ms.length + 1) / 2)).length = (ms.length + 1) / 2 := by rw [List.length_take]; omega
    have lB : (ms.drop ((ms.length + 1) / 2)).length = ms.length - (ms.length + 1) / 2 := List.length_drop
    have mA : ∀ m, m ∈ ms.take ((ms.length + 1) / 2) → m.ok := fun m q => hm m (List.mem_of_mem_take q)
    have mB : ∀ m, m ∈ ms.drop ((ms.length + 1) / 2) → m.ok := fun m q => hm m (List.mem_of_mem_drop q)
    have oA := sumT_ok 6 _ (by omega) (by omega) mA
    have oB := sumT_ok 6 _ (by omega) (by omega) mB
    have hcut : ((((ms.map Mt.d).length : Nat) : Int) + 1) / 2 = (((ms.length + 1) / 2 : Nat) : Int) := by omega
    walk_at "run"
    walk_at "ml"
    refine z_slR hg ?_
    walk_at "ml"
    rw [hcut, cut_hi (by omega), Int.toNat_natCast, ← List.map_take]
    refine ltree_ok 6 _ st _ (by omega) (by omega) (by omega) mA ?_
    rw [show 6 + 1 = 7 from rfl] at *
    generalize sumT 7 (ms.take ((ms.length + 1) / 2)) = A at *
    obtain ⟨ra, ca⟩ := A
    cases ra with
    | none =>
      walk_at "ml"
      exact k
    | some a =>
      walk_at "ml"
      refine z_slR hg ?_
      walk_at "ml"
      rw [cut_lo (by omega), Int.toNat_natCast, ← List.map_drop]
      refine ltree_ok 6 _ st _ (by omega) (by omega) (by omega) mB ?_
      simp only at k
      rw [show 6 + 1 = 7 from rfl] at *
      generalize sumT 7 (ms.drop ((ms.length + 1) / 2)) = B at *
      obtain ⟨rb, cb⟩ := B
      cases rb with
      | none =>
        walk_at "ml"
        exact k
      | some b =>
        walk_at "ml"
        refine ladded_ok (oA a rfl) (oB b rfl) ?_
        walk_at "ml"
        exact k
theorem law_true (ns : List Int) (hn : ns.length ≤ 63) : ∃ st, m_law [.sq (ns.map D.int)] [] = some (.bl true, st) := by
  suffices h : wp (m_law [.sq (ns.map D.int)] []) fun d _ => d = .bl true by
    obtain ⟨d, s, e, rfl⟩ := h
    exact ⟨s, e⟩
  walk_at "run"
  walk_at "ml"
  refine tape_ok hn fun st T hl => ?_
  walk_at "ml"
  refine next_ok T (by decide) fun r' s1 r0 r1 T1 o1 => ?_
  walk_at "ml"
  refine next_ok T1 (by decide) fun c' s2 c0 c1 T2 o2 => ?_
  walk_at "ml"
  refine next_ok T2 (by decide) fun b' s3 b0 b1 T3 o3 => ?_
  have hl3 : s3.length = 2 := by rw [o3.1, o2.1, o1.1, hl]
  walk_at "ml"
  generalize (b' == 2) = big
  obtain ⟨r, hr⟩ : ∃ r : Nat, 1 + r' = (r : Int) := ⟨(1 + r').toNat, by omega⟩
  obtain ⟨c, hcc⟩ : ∃ c : Nat, 1 + c' = (c : Int) := ⟨(1 + c').toNat, by omega⟩
  rw [hr, hcc, hl3]
  have T4 := T3.app (l := [.lst []])
  refine next_ok T4 (by decide) fun m' s4 m0 m1 T5 o5 => ?_
  walk_at "ml"
  obtain ⟨N, hN⟩ : ∃ N : Nat, 1 + m' = (N : Int) := ⟨(1 + m').toNat, by omega⟩
  rw [hN, Int.toNat_natCast]
  have hc4 : s4[2]? = some (.lst []) := by
    rw [o5.2 2 (by decide)]
    have := one_0 (st := s3) (x := O.lst [])
    rw [hl3] at this; exact this
  have hr4 : 1 ≤ r ∧ r ≤ 3 := ⟨by omega, by omega⟩
  have hc4' : 1 ≤ c ∧ c ≤ 3 := ⟨by omega, by omega⟩
  have hN24 : 1 ≤ N ∧ N ≤ 24 := ⟨by omega, by omega⟩
  have hl4 : 3 ≤ s4.length := at_lt hc4
  refine x_loop (fun n e s => TapeE s ∧ (∃ ms : List Mt, ms.length = n ∧ (∀ m, m ∈ ms → m.ok) ∧ s[2]? = some (.lst (ms.map Mt.d))) ∧ ∃ o6 o7 o8 o9 o10 o11, e = [some (.sq (ns.map D.int)), some (.ref 1), some (.int (r : Int)), some (.int (c : Int)), some (.bl big), some (.ref 2), o6, o7, o8, o9, o10, o11, none, none]) ⟨T5, ⟨[], rfl, (fun _ h => nomatch h), hc4⟩, _, _, _, _, _, _, rfl⟩ (fun _ _ _ _ => noWatch) ?_ ?_
  · rintro n z e s hx ⟨T6, ⟨ms, hml, hms, hc6⟩, o6', o7, o8, o9, o10, o11, rfl⟩
    obtain ⟨hn2, rfl⟩ := range_at hx
    have hg : 3 ≤ s.length := at_lt hc6
    walk_at "ml"
    have T7 := T6.app (l := [.lst []])
    have hc7 := at_app (l := [.lst []]) hc6
    have hcg := one_0 (st := s) (x := .lst (([] : List D)))
    generalize s ++ [O.lst []] = s7 at T7 hc7 hcg ⊢
    generalize s.length = g at hcg hg ⊢
    refine x_loop (fun i e s => TapeE s ∧ s[2]? = some (.lst (ms.map Mt.d)) ∧ (∃ xs : List D, xs.length = i ∧ (∀ x, x ∈ xs → ∃ f, x = .tup (ix c f) ∧ ∀ j, j < c → (-10000000 < f j ∧ f j < 10000000)) ∧ s[g]? = some (.lst xs)) ∧ ∃ o8 o9 o10 o11, e = [some (.sq (ns.map D.int)), some (.ref 1), some (.int (r : Int)), some (.int (c : Int)), some (.bl big), some (.ref 2), some (.int (0 + (n : Int))), some (.ref g), o8, o9, o10, o11, none, none]) ⟨T7, hc7, ⟨[], rfl, (fun _ h => nomatch h), hcg⟩, _, _, _, _, rfl⟩ (fun _ _ _ _ => noWatch) ?_ ?_
    · rintro i x e s hx ⟨T8, hc8, ⟨xs, hxl, hxs, hcg8⟩, o8, o9, o10, o11, rfl⟩
      obtain ⟨hi, rfl⟩ := range_at hx
      rw [Int.toNat_natCast] at hi
      walk_at "ml"
      have T9 := T8.app (l := [.lst []])
      have hc9 := at_app (l := [.lst []]) hc8
      have hcg9 := at_app (l := [.lst []]) hcg8
      have hch := one_0 (st := s) (x := .lst (([] : List D)))
      have hgl := at_lt hcg8
      have hgh : g ≠ s.length := by omega
      have hh : 3 ≤ s.length := at_lt hc8
      generalize s ++ [O.lst []] = s9 at T9 hc9 hcg9 hch ⊢
      generalize s.length = h at hch hgh hh ⊢
      refine x_loop (fun j e s => TapeE s ∧ s[2]? = some (.lst (ms.map Mt.d)) ∧ s[g]? = some (.lst xs) ∧ (∃ ys : List D, ys.length = j ∧ (∀ x, x ∈ ys → ∃ i, x = .int i ∧ (-10000000 < i ∧ i < 10000000)) ∧ s[h]? = some (.lst ys)) ∧ ∃ o10 o11, e = [some (.sq (ns.map D.int)), some (.ref 1), some (.int (r : Int)), some (.int (c : Int)), some (.bl big), some (.ref 2), some (.int (0 + (n : Int))), some (.ref g), some (.int (0 + (i : Int))), some (.ref h), o10, o11, none, none]) ⟨T9, hc9, hcg9, ⟨[], rfl, (fun _ h => nomatch h), hch⟩, _, _, rfl⟩ (fun _ _ _ _ => noWatch) ?_ ?_
      · rintro j x e s hx ⟨T10, hc10, hcg10, ⟨ys, hyl, hys, hch10⟩, o10, o11, rfl⟩
        obtain ⟨hj, rfl⟩ := range_at hx
        rw [Int.toNat_natCast] at hj
        walk_at "ml"
        refine next_ok T10 (by decide) fun a s11 a0 a1 T11 q11 => ?_
        have hc11 : s11[2]? = some (.lst (ms.map Mt.d)) := by rw [q11.2 2 (by decide)]; exact hc10
        have hcg11 : s11[g]? = some (.lst xs) := by rw [q11.2 g (by omega)]; exact hcg10
        have hch11 : s11[h]? = some (.lst ys) := by rw [q11.2 h (by omega)]; exact hch10
        have hyl2 : ys.length < 16777216 := by omega
        have put : ∀ (v : Int), (-10000000 < v ∧ v < 10000000) → TapeE (s11.set h (.lst (ys ++ [.int v]))) ∧ (s11.set h (.lst (ys ++ [.int v])))[2]? = some (.lst (ms.map Mt.d)) ∧ (s11.set h (.lst (ys ++ [.int v])))[g]? = some (.lst xs) ∧ (∃ ys' : List D, ys'.length = j + 1 ∧ (∀ x, x ∈ ys' → ∃ i, x = .int i ∧ (-10000000 < i ∧ i < 10000000)) ∧ (s11.set h (.lst (ys ++ [.int v])))[h]? = some (.lst ys')) := fun v hv =>
          ⟨T11.set (by omega), at_ne hc11 (by omega), at_ne hcg11 (Ne.symm hgh), ys ++ [.int v], by simp [hyl], fun x hx => by
            rcases List.mem_append.mp hx with h | h
            · exact hys x h
            · exact ⟨v, List.mem_singleton.mp h, hv⟩, set_at hch11⟩
        cases big with
        | true =>
          walk_at "ml"
          refine y_d (fun h3 => ?_) (fun h3 => ?_)
          · walk_at "ml"
            have hp := put ((a - 30) * 300000) ⟨by omega, by omega⟩
            exact ⟨hp.1, hp.2.1, hp.2.2.1, hp.2.2.2, _, _, rfl⟩
          · walk_at "ml"
            have hp := put (a - 30) ⟨by omega, by omega⟩
            exact ⟨hp.1, hp.2.1, hp.2.2.1, hp.2.2.2, _, _, rfl⟩
        | false =>
          walk_at "ml"
          have hp := put (a - 30) ⟨by omega, by omega⟩
          exact ⟨hp.1, hp.2.1, hp.2.2.1, hp.2.2.2, _, _, rfl⟩
      · rintro e s ⟨T10, hc10, hcg10, ⟨ys, hyl, hys, hch10⟩, o10, o11, rfl⟩
        rw [range_len, Int.toNat_natCast] at hyl
        obtain ⟨f, e, hf⟩ := row_of (c := c) (p := fun x => -10000000 < x ∧ x < 10000000) hyl hys
        subst e
        have hxl2 : xs.length < 16777216 := by omega
        walk_at "ml"
        exact ⟨T10.set (by omega), at_ne hc10 (by omega), ⟨xs ++ [.tup (ix c f)], by simp [hxl], fun x hx => by
          rcases List.mem_append.mp hx with h | h
          · exact hxs x h
          · exact ⟨f, List.mem_singleton.mp h, hf⟩, set_at hcg10⟩, _, _, _, _, rfl⟩
    · rintro e s ⟨T8, hc8, ⟨xs, hxl, hxs, hcg8⟩, o8, o9, o10, o11, rfl⟩
      rw [range_len, Int.toNat_natCast] at hxl
      have hml2 : (ms.map Mt.d).length < 16777216 := by rw [List.length_map]; omega
      have fin : ∀ (r2 : Nat) (xs2 : List D), 0 < r2 → r2 ≤ 6 → xs2.length = r2 → (∀ x, x ∈ xs2 → ∃ f, x = .tup (ix c f) ∧ ∀ j, j < c → (-10000000 < f j ∧ f j < 10000000)) → ∃ ms2 : List Mt, ms2.length = n + 1 ∧ (∀ m, m ∈ ms2 → m.ok) ∧ ms.map Mt.d ++ [.tup xs2] = ms2.map Mt.d := fun r2 xs2 q0 q1 q2 q3 => by
        obtain ⟨f, e, hf⟩ := mat_of (r := r2) (c := c) (p := fun x => -10000000 < x ∧ x < 10000000) q2 q3
        refine ⟨ms ++ [⟨r2, c, f⟩], by simp [hml], fun m hm => ?_, by rw [List.map_append, e]; rfl⟩
        rcases List.mem_append.mp hm with h | h
        · exact hms m h
        · rw [List.mem_singleton.mp h]
          exact ⟨q0, q1, (by show 0 < c; omega), (by show c ≤ 6; omega), hf⟩
      walk_at "ml"
      refine next_ok T8 (by decide) fun v s12 v0 v1 T12 q12 => ?_
      have hc12 : s12[2]? = some (.lst (ms.map Mt.d)) := by rw [q12.2 2 (by decide)]; exact hc8
      have hcg12 : s12[g]? = some (.lst xs) := by rw [q12.2 g (by omega)]; exact hcg8
      walk_at "ml"
      refine y_eq (fun h3 => ?_) (fun h3 => ?_)
      · obtain ⟨x0, xs', rfl⟩ : ∃ x0 xs', xs = x0 :: xs' := by
          match xs, hxl with
          | x0 :: xs', _ => exact ⟨x0, xs', rfl⟩
          | [], q => simp at q; omega
        have hxl2 : (x0 :: xs').length < 16777216 := by omega
        have hat : atI (x0 :: xs') 0 = some x0 := by
          show (ixN (xs'.length + 1) 0).bind _ = _
          rw [show ixN (xs'.length + 1) 0 = some 0 by unfold ixN; simp]
          rfl
        have hcg13 := set_at (x := O.lst (x0 :: xs' ++ [x0])) hcg12
        have hc13 := at_ne (x := O.lst (x0 :: xs' ++ [x0])) hc12 (show g ≠ 2 by omega)
        walk_at "ml"
        obtain ⟨ms2, w1, w2, w3⟩ := fin (r + 1) (x0 :: xs' ++ [x0]) (by omega) (by omega) (by simp at hxl ⊢; omega) (fun x hx => by
          rcases List.mem_append.mp hx with h | h
          · exact hxs x h
          · rw [List.mem_singleton.mp h]; exact hxs x0 (by simp))
        rw [w3]
        exact ⟨(T12.set (by omega)).set (by decide), ⟨ms2, w1, w2, set_at hc13⟩, _, _, _, _, _, _, rfl⟩
      · walk_at "ml"
        obtain ⟨ms2, w1, w2, w3⟩ := fin r xs (by omega) (by omega) hxl hxs
        rw [w3]
        exact ⟨T12.set (by decide), ⟨ms2, w1, w2, set_at hc12⟩, _, _, _, _, _, _, rfl⟩
  · rintro e s ⟨T6, ⟨ms, hml, hms, hc6⟩, o6', o7, o8, o9, o10, o11, rfl⟩
    rw [range_len] at hml
    walk_at "ml"
    have hln : (ms.map Mt.d).length = ms.length := List.length_map _
    have h1 : 1 ≤ ms.length := by omega
    have h2 : ms.length ≤ 24 := by omega
    refine ltree_ref hc6 h1 h2 hms ?_
    walk_at "ml"
    refine sumtree_ok h1 (by omega) hms ?_
    generalize sumT 8 ms = E
    obtain ⟨o, cnt⟩ := E
    have hcnt : ((cnt : Int) == (cnt : Int)) = true := beq_self_eq_true _
    cases o with
    | none =>
      walk_at "ml"
      refine z_eqD (b := true) trivial trivial (Nat.zero_le _) (Nat.zero_le _) (iff_of_true rfl rfl) ?_
      walk_at "ml"
      exact congrArg D.bl hcnt
    | some m =>
      walk_at "ml"
      refine z_eqD (b := true) (mx_pln (r := m.r) (c := m.c) (f := m.f)) (mx_pln (r := m.r) (c := m.c) (f := m.f)) (Nat.le_trans (mx_dep (r := m.r) (c := m.c) (f := m.f)) (by decide)) (Nat.le_trans (mx_dep (r := m.r) (c := m.c) (f := m.f)) (by decide)) (iff_of_true rfl rfl) ?_
      walk_at "ml"
      exact congrArg D.bl hcnt

structure TX (K : Frag) (w : World) (mg : PySem.Str → Option Value) (f_shape_of f_is_bounded f_add f_sub f_times f_turn f_product f_inner f_positive f_gate f_total f_spread f_stretch f_scale f_pick f_place f_fill f_fits f_operate f_needed f_run_lines f_put_line f_add_tree f_sum_tree f__law_tape f__law_next f__law_added f__law_tree f_law : Addr) (d_shape_of d_is_bounded d_add d_sub d_times d_turn d_product d_inner d_positive d_gate d_total d_spread d_stretch d_scale d_pick d_place d_fill d_fits d_operate d_needed d_run_lines d_put_line d_add_tree d_sum_tree d__law_tape d__law_next d__law_added d__law_tree d_law : FuncData) : Prop where
  F_shape_of : Fun K "shape_of" "shape_of" s_shape_of f_shape_of d_shape_of
  g_shape_of : mg "shape_of" = some (.ref f_shape_of)
  b_shape_of : Binds K d_shape_of ["matrix"] []
  F_is_bounded : Fun K "is_bounded" "is_bounded" s_is_bounded f_is_bounded d_is_bounded
  g_is_bounded : mg "is_bounded" = some (.ref f_is_bounded)
  b_is_bounded : Binds K d_is_bounded ["matrix"] []
  F_add : Fun K "add" "add" s_add f_add d_add
  g_add : mg "add" = some (.ref f_add)
  b_add : Binds K d_add ["numbers", "matrices"] []
  F_sub : Fun K "sub" "sub" s_sub f_sub d_sub
  g_sub : mg "sub" = some (.ref f_sub)
  b_sub : Binds K d_sub ["numbers", "matrices"] []
  F_times : Fun K "times" "times" s_times f_times d_times
  g_times : mg "times" = some (.ref f_times)
  b_times : Binds K d_times ["numbers", "matrices"] []
  F_turn : Fun K "turn" "turn" s_turn f_turn d_turn
  g_turn : mg "turn" = some (.ref f_turn)
  b_turn : Binds K d_turn ["numbers", "matrices"] []
  F_product : Fun K "product" "product" s_product f_product d_product
  g_product : mg "product" = some (.ref f_product)
  b_product : Binds K d_product ["numbers", "matrices"] []
  F_inner : Fun K "inner" "inner" s_inner f_inner d_inner
  g_inner : mg "inner" = some (.ref f_inner)
  b_inner : Binds K d_inner ["row", "column"] []
  F_positive : Fun K "positive" "positive" s_positive f_positive d_positive
  g_positive : mg "positive" = some (.ref f_positive)
  b_positive : Binds K d_positive ["numbers", "matrices"] []
  F_gate : Fun K "gate" "gate" s_gate f_gate d_gate
  g_gate : mg "gate" = some (.ref f_gate)
  b_gate : Binds K d_gate ["numbers", "matrices"] []
  F_total : Fun K "total" "total" s_total f_total d_total
  g_total : mg "total" = some (.ref f_total)
  b_total : Binds K d_total ["numbers", "matrices"] []
  F_spread : Fun K "spread" "spread" s_spread f_spread d_spread
  g_spread : mg "spread" = some (.ref f_spread)
  b_spread : Binds K d_spread ["numbers", "matrices"] []
  F_stretch : Fun K "stretch" "stretch" s_stretch f_stretch d_stretch
  g_stretch : mg "stretch" = some (.ref f_stretch)
  b_stretch : Binds K d_stretch ["numbers", "matrices"] []
  F_scale : Fun K "scale" "scale" s_scale f_scale d_scale
  g_scale : mg "scale" = some (.ref f_scale)
  b_scale : Binds K d_scale ["numbers", "matrices"] []
  F_pick : Fun K "pick" "pick" s_pick f_pick d_pick
  g_pick : mg "pick" = some (.ref f_pick)
  b_pick : Binds K d_pick ["numbers", "matrices"] []
  F_place : Fun K "place" "place" s_place f_place d_place
  g_place : mg "place" = some (.ref f_place)
  b_place : Binds K d_place ["numbers", "matrices"] []
  F_fill : Fun K "fill" "fill" s_fill f_fill d_fill
  g_fill : mg "fill" = some (.ref f_fill)
  b_fill : Binds K d_fill ["numbers", "matrices"] []
  F_fits : Fun K "fits" "fits" s_fits f_fits d_fits
  g_fits : mg "fits" = some (.ref f_fits)
  b_fits : Binds K d_fits ["kind", "found"] []
  F_operate : Fun K "operate" "operate" s_operate f_operate d_operate
  g_operate : mg "operate" = some (.ref f_operate)
  b_operate : Binds K d_operate ["kind", "numbers", "matrices"] []
  F_needed : Fun K "needed" "needed" s_needed f_needed d_needed
  g_needed : mg "needed" = some (.ref f_needed)
  b_needed : Binds K d_needed ["leaves", "lines", "outputs"] []
  F_run_lines : Fun K "run_lines" "run_lines" s_run_lines f_run_lines d_run_lines
  g_run_lines : mg "run_lines" = some (.ref f_run_lines)
  b_run_lines : Binds K d_run_lines ["matrices", "lines", "outputs"] []
  F_put_line : Fun K "put_line" "put_line" s_put_line f_put_line d_put_line
  g_put_line : mg "put_line" = some (.ref f_put_line)
  b_put_line : Binds K d_put_line ["lines", "leaves", "kind", "numbers", "values"] []
  F_add_tree : Fun K "add_tree" "add_tree" s_add_tree f_add_tree d_add_tree
  g_add_tree : mg "add_tree" = some (.ref f_add_tree)
  b_add_tree : Binds K d_add_tree ["lines", "leaves", "values"] []
  F_sum_tree : Fun K "sum_tree" "sum_tree" s_sum_tree f_sum_tree d_sum_tree
  g_sum_tree : mg "sum_tree" = some (.ref f_sum_tree)
  b_sum_tree : Binds K d_sum_tree ["matrices"] []
  F__law_tape : Fun K "_law_tape" "_law_tape" s__law_tape f__law_tape d__law_tape
  g__law_tape : mg "_law_tape" = some (.ref f__law_tape)
  b__law_tape : Binds K d__law_tape ["_law_script"] []
  F__law_next : Fun K "_law_next" "_law_next" s__law_next f__law_next d__law_next
  g__law_next : mg "_law_next" = some (.ref f__law_next)
  b__law_next : Binds K d__law_next ["_law_tape_here", "_law_many"] []
  F__law_added : Fun K "_law_added" "_law_added" s__law_added f__law_added d__law_added
  g__law_added : mg "_law_added" = some (.ref f__law_added)
  b__law_added : Binds K d__law_added ["_law_a", "_law_b"] []
  F__law_tree : Fun K "_law_tree" "_law_tree" s__law_tree f__law_tree d__law_tree
  g__law_tree : mg "_law_tree" = some (.ref f__law_tree)
  b__law_tree : Binds K d__law_tree ["_law_parts"] []
  F_law : Fun K "law" "law" s_law f_law d_law
  g_law : mg "law" = some (.ref f_law)
  b_law : Binds K d_law ["_law_script"] []
  a_add : PySem.W.nsIn K mainGlobals "add" = some (some (.ref f_add))
  a_fill : PySem.W.nsIn K mainGlobals "fill" = some (some (.ref f_fill))
  a_gate : PySem.W.nsIn K mainGlobals "gate" = some (some (.ref f_gate))
  a_pick : PySem.W.nsIn K mainGlobals "pick" = some (some (.ref f_pick))
  a_place : PySem.W.nsIn K mainGlobals "place" = some (some (.ref f_place))
  a_positive : PySem.W.nsIn K mainGlobals "positive" = some (some (.ref f_positive))
  a_product : PySem.W.nsIn K mainGlobals "product" = some (some (.ref f_product))
  a_scale : PySem.W.nsIn K mainGlobals "scale" = some (some (.ref f_scale))
  a_spread : PySem.W.nsIn K mainGlobals "spread" = some (some (.ref f_spread))
  a_stretch : PySem.W.nsIn K mainGlobals "stretch" = some (some (.ref f_stretch))
  a_sub : PySem.W.nsIn K mainGlobals "sub" = some (some (.ref f_sub))
  a_times : PySem.W.nsIn K mainGlobals "times" = some (some (.ref f_times))
  a_total : PySem.W.nsIn K mainGlobals "total" = some (some (.ref f_total))
  a_turn : PySem.W.nsIn K mainGlobals "turn" = some (some (.ref f_turn))
  t_COUNTS : ∃ a, mg "COUNTS" = some (.ref a) ∧ DctOk K w a tab_COUNTS
  t_OPERATIONS : ∃ a, mg "OPERATIONS" = some (.ref a) ∧ DctOk K w a tab_OPERATIONS
  n_abs : mg "abs" = none
  n_bool : mg "bool" = none
  n_int : mg "int" = none
  n_isinstance : mg "isinstance" = none
  n_len : mg "len" = none
  n_list : mg "list" = none
  n_max : mg "max" = none
  n_range : mg "range" = none
  n_sum : mg "sum" = none
  n_tuple : mg "tuple" = none
  n_zip : mg "zip" = none
  k_LIMIT : ∃ t, mg "LIMIT" = some (.int 10000000 t)
section
variable {P : Program} {w : World} {K : Frag} {mg : PySem.Str → Option Value} {base : Heap} {f_shape_of f_is_bounded f_add f_sub f_times f_turn f_product f_inner f_positive f_gate f_total f_spread f_stretch f_scale f_pick f_place f_fill f_fits f_operate f_needed f_run_lines f_put_line f_add_tree f_sum_tree f__law_tape f__law_next f__law_added f__law_tree f_law : Addr} {d_shape_of d_is_bounded d_add d_sub d_times d_turn d_product d_inner d_positive d_gate d_total d_spread d_stretch d_scale d_pick d_place d_fill d_fits d_operate d_needed d_run_lines d_put_line d_add_tree d_sum_tree d__law_tape d__law_next d__law_added d__law_tree d_law : FuncData}
theorem ok_shape_of (T : TX K w mg f_shape_of f_is_bounded f_add f_sub f_times f_turn f_product f_inner f_positive f_gate f_total f_spread f_stretch f_scale f_pick f_place f_fill f_fits f_operate f_needed f_run_lines f_put_line f_add_tree f_sum_tree f__law_tape f__law_next f__law_added f__law_tree f_law d_shape_of d_is_bounded d_add d_sub d_times d_turn d_product d_inner d_positive d_gate d_total d_spread d_stretch d_scale d_pick d_place d_fill d_fits d_operate d_needed d_run_lines d_put_line d_add_tree d_sum_tree d__law_tape d__law_next d__law_added d__law_tree d_law) : FnOk P w K mg base CX0 1 f_shape_of d_shape_of ["matrix"] (spF K 1 m_shape_of) := by
  refine (fn_ok (k := 0) T.F_shape_of sc_shape_of fun cdv A outer s H E hr => ?_)
  exact (k_one (k_ret (c_tup (a_cons (c_len rfl T.n_len (a_cons (c_v 0) a_nil)) (a_cons (c_len rfl T.n_len (a_cons (c_ix (c_v 0) c_int) a_nil)) a_nil)))))
theorem ok_is_bounded (T : TX K w mg f_shape_of f_is_bounded f_add f_sub f_times f_turn f_product f_inner f_positive f_gate f_total f_spread f_stretch f_scale f_pick f_place f_fill f_fits f_operate f_needed f_run_lines f_put_line f_add_tree f_sum_tree f__law_tape f__law_next f__law_added f__law_tree f_law d_shape_of d_is_bounded d_add d_sub d_times d_turn d_product d_inner d_positive d_gate d_total d_spread d_stretch d_scale d_pick d_place d_fill d_fits d_operate d_needed d_run_lines d_put_line d_add_tree d_sum_tree d__law_tape d__law_next d__law_added d__law_tree d_law) : FnOk P w K mg base CX0 1 f_is_bounded d_is_bounded ["matrix"] (spF K 1 m_is_bounded) := by
  refine (fn_ok (k := 0) T.F_is_bounded sc_is_bounded fun cdv A outer s H E hr => ?_)
  exact (k_cons (k_for PassesOwn.never rfl (i_seq (c_v 0)) (g_nm (i := 1) sc_is_bounded.nd)
    (k_one (k_for PassesOwn.never rfl (i_seq (c_v 1)) (g_nm (i := 2) sc_is_bounded.nd)
    (k_one (k_if (t_not (t_chain op_lt s_cmp op_lt s_cmp (c_neg (c_gintE rfl T.k_LIMIT)) (c_v 2) (c_gintE rfl T.k_LIMIT)))
    (k_one (k_ret c_bl))
    k_nil)))))
    (k_one (k_ret c_bl)))
theorem ok_add (T : TX K w mg f_shape_of f_is_bounded f_add f_sub f_times f_turn f_product f_inner f_positive f_gate f_total f_spread f_stretch f_scale f_pick f_place f_fill f_fits f_operate f_needed f_run_lines f_put_line f_add_tree f_sum_tree f__law_tape f__law_next f__law_added f__law_tree f_law d_shape_of d_is_bounded d_add d_sub d_times d_turn d_product d_inner d_positive d_gate d_total d_spread d_stretch d_scale d_pick d_place d_fill d_fits d_operate d_needed d_run_lines d_put_line d_add_tree d_sum_tree d__law_tape d__law_next d__law_added d__law_tree d_law) : FnOk P w K mg base CX0 1 f_add d_add ["numbers", "matrices"] (spF K 2 m_add) := by
  refine (fn_ok (k := 0) T.F_add sc_add fun cdv A outer s H E hr => ?_)
  exact (k_cons (k_bind (c_v 1) (g_tp (g_cons (g_nm (i := 2) sc_add.nd) (g_cons (g_nm (i := 3) sc_add.nd) g_nil))))
    (k_one (k_ret (c_tupc rfl T.n_tuple (a_cons (c_cmp_ (own := [("left", 4), ("right", 5)]) rfl sc_add.nd (i_zip rfl T.n_zip (a_cons (c_v 2) (a_cons (c_v 3) a_nil))) (blkOk_by (own := [("left", 4), ("right", 5)]) (N := N_add) (sc := defScope s_add) (by decide +kernel)) rfl (fun _ _ _ _ _ => (g_tp (g_cons (g_nm (i := 4) sc_add.nd) (g_cons (g_nm (i := 5) sc_add.nd) g_nil)))) (fun _ _ _ _ _ => l_nil) (fun _ _ _ _ _ => (c_tupc rfl T.n_tuple (a_cons (c_cmp_ (own := [("a", 6), ("b", 7)]) rfl sc_add.nd (i_zip rfl T.n_zip (a_cons (c_v 4) (a_cons (c_v 5) a_nil))) (blkOk_by (N := N_add) (by first | kernel_rfl | rfl)) rfl (fun _ _ _ _ _ => (g_tp (g_cons (g_nm (i := 6) sc_add.nd) (g_cons (g_nm (i := 7) sc_add.nd) g_nil)))) (fun _ _ _ _ _ => l_nil) (fun _ _ _ _ _ => (c_add (c_v 6) (c_v 7)))) a_nil)))) a_nil)))))
theorem ok_sub (T : TX K w mg f_shape_of f_is_bounded f_add f_sub f_times f_turn f_product f_inner f_positive f_gate f_total f_spread f_stretch f_scale f_pick f_place f_fill f_fits f_operate f_needed f_run_lines f_put_line f_add_tree f_sum_tree f__law_tape f__law_next f__law_added f__law_tree f_law d_shape_of d_is_bounded d_add d_sub d_times d_turn d_product d_inner d_positive d_gate d_total d_spread d_stretch d_scale d_pick d_place d_fill d_fits d_operate d_needed d_run_lines d_put_line d_add_tree d_sum_tree d__law_tape d__law_next d__law_added d__law_tree d_law) : FnOk P w K mg base CX0 1 f_sub d_sub ["numbers", "matrices"] (spF K 2 m_sub) := by
  refine (fn_ok (k := 0) T.F_sub sc_sub fun cdv A outer s H E hr => ?_)
  exact (k_cons (k_bind (c_v 1) (g_tp (g_cons (g_nm (i := 2) sc_sub.nd) (g_cons (g_nm (i := 3) sc_sub.nd) g_nil))))
    (k_one (k_ret (c_tupc rfl T.n_tuple (a_cons (c_cmp_ (own := [("left", 4), ("right", 5)]) rfl sc_sub.nd (i_zip rfl T.n_zip (a_cons (c_v 2) (a_cons (c_v 3) a_nil))) (blkOk_by (own := [("left", 4), ("right", 5)]) (N := N_sub) (sc := defScope s_sub) (by decide +kernel)) rfl (fun _ _ _ _ _ => (g_tp (g_cons (g_nm (i := 4) sc_sub.nd) (g_cons (g_nm (i := 5) sc_sub.nd) g_nil)))) (fun _ _ _ _ _ => l_nil) (fun _ _ _ _ _ => (c_tupc rfl T.n_tuple (a_cons (c_cmp_ (own := [("a", 6), ("b", 7)]) rfl sc_sub.nd (i_zip rfl T.n_zip (a_cons (c_v 4) (a_cons (c_v 5) a_nil))) (blkOk_by (N := N_sub) (by first | kernel_rfl | rfl)) rfl (fun _ _ _ _ _ => (g_tp (g_cons (g_nm (i := 6) sc_sub.nd) (g_cons (g_nm (i := 7) sc_sub.nd) g_nil)))) (fun _ _ _ _ _ => l_nil) (fun _ _ _ _ _ => (c_sub (c_v 6) (c_v 7)))) a_nil)))) a_nil)))))
theorem ok_times (T : TX K w mg f_shape_of f_is_bounded f_add f_sub f_times f_turn f_product f_inner f_positive f_gate f_total f_spread f_stretch f_scale f_pick f_place f_fill f_fits f_operate f_needed f_run_lines f_put_line f_add_tree f_sum_tree f__law_tape f__law_next f__law_added f__law_tree f_law d_shape_of d_is_bounded d_add d_sub d_times d_turn d_product d_inner d_positive d_gate d_total d_spread d_stretch d_scale d_pick d_place d_fill d_fits d_operate d_needed d_run_lines d_put_line d_add_tree d_sum_tree d__law_tape d__law_next d__law_added d__law_tree d_law) : FnOk P w K mg base CX0 1 f_times d_times ["numbers", "matrices"] (spF K 2 m_times) := by
  refine (fn_ok (k := 0) T.F_times sc_times fun cdv A outer s H E hr => ?_)
  exact (k_cons (k_bind (c_v 1) (g_tp (g_cons (g_nm (i := 2) sc_times.nd) (g_cons (g_nm (i := 3) sc_times.nd) g_nil))))
    (k_one (k_ret (c_tupc rfl T.n_tuple (a_cons (c_cmp_ (own := [("left", 4), ("right", 5)]) rfl sc_times.nd (i_zip rfl T.n_zip (a_cons (c_v 2) (a_cons (c_v 3) a_nil))) (blkOk_by (own := [("left", 4), ("right", 5)]) (N := N_times) (sc := defScope s_times) (by decide +kernel)) rfl (fun _ _ _ _ _ => (g_tp (g_cons (g_nm (i := 4) sc_times.nd) (g_cons (g_nm (i := 5) sc_times.nd) g_nil)))) (fun _ _ _ _ _ => l_nil) (fun _ _ _ _ _ => (c_tupc rfl T.n_tuple (a_cons (c_cmp_ (own := [("a", 6), ("b", 7)]) rfl sc_times.nd (i_zip rfl T.n_zip (a_cons (c_v 4) (a_cons (c_v 5) a_nil))) (blkOk_by (N := N_times) (by first | kernel_rfl | rfl)) rfl (fun _ _ _ _ _ => (g_tp (g_cons (g_nm (i := 6) sc_times.nd) (g_cons (g_nm (i := 7) sc_times.nd) g_nil)))) (fun _ _ _ _ _ => l_nil) (fun _ _ _ _ _ => (c_mul (c_v 6) (c_v 7)))) a_nil)))) a_nil)))))
theorem ok_turn (T : TX K w mg f_shape_of f_is_bounded f_add f_sub f_times f_turn f_product f_inner f_positive f_gate f_total f_spread f_stretch f_scale f_pick f_place f_fill f_fits f_operate f_needed f_run_lines f_put_line f_add_tree f_sum_tree f__law_tape f__law_next f__law_added f__law_tree f_law d_shape_of d_is_bounded d_add d_sub d_times d_turn d_product d_inner d_positive d_gate d_total d_spread d_stretch d_scale d_pick d_place d_fill d_fits d_operate d_needed d_run_lines d_put_line d_add_tree d_sum_tree d__law_tape d__law_next d__law_added d__law_tree d_law) : FnOk P w K mg base CX0 1 f_turn d_turn ["numbers", "matrices"] (spF K 2 m_turn) := by
  refine (fn_ok (k := 0) T.F_turn sc_turn fun cdv A outer s H E hr => ?_)
  exact (k_cons (k_set (i := 2) sc_turn.nd (c_ix (c_v 1) c_int))
    (k_one (k_ret (c_tupc rfl T.n_tuple (a_cons (c_cmp_ (own := [("at", 3)]) rfl sc_turn.nd (i_rng1 rfl T.n_range (a_cons (c_len rfl T.n_len (a_cons (c_ix (c_v 2) c_int) a_nil)) a_nil)) (blkOk_by (own := [("at", 3)]) (N := N_turn) (sc := defScope s_turn) (by decide +kernel)) rfl (fun _ _ _ _ _ => (g_nm (i := 3) sc_turn.nd)) (fun _ _ _ _ _ => l_nil) (fun _ _ _ _ _ => (c_tupc rfl T.n_tuple (a_cons (c_cmp_ (own := [("row", 4)]) rfl sc_turn.nd (i_seq (c_v 2)) (blkOk_by (N := N_turn) (by first | kernel_rfl | rfl)) rfl (fun _ _ _ _ _ => (g_nm (i := 4) sc_turn.nd)) (fun _ _ _ _ _ => l_nil) (fun _ _ _ _ _ => (c_ix (c_v 4) (c_v 3)))) a_nil)))) a_nil)))))
theorem ok_inner (T : TX K w mg f_shape_of f_is_bounded f_add f_sub f_times f_turn f_product f_inner f_positive f_gate f_total f_spread f_stretch f_scale f_pick f_place f_fill f_fits f_operate f_needed f_run_lines f_put_line f_add_tree f_sum_tree f__law_tape f__law_next f__law_added f__law_tree f_law d_shape_of d_is_bounded d_add d_sub d_times d_turn d_product d_inner d_positive d_gate d_total d_spread d_stretch d_scale d_pick d_place d_fill d_fits d_operate d_needed d_run_lines d_put_line d_add_tree d_sum_tree d__law_tape d__law_next d__law_added d__law_tree d_law) : FnOk P w K mg base CX0 1 f_inner d_inner ["row", "column"] (spF K 2 m_inner) := by
  refine (fn_ok (k := 0) T.F_inner sc_inner fun cdv A outer s H E hr => ?_)
  exact (k_one (k_ret (c_sum rfl rfl T.n_sum (a_cons (c_cmp_ (own := [("a", 2), ("b", 3)]) rfl sc_inner.nd (i_zip rfl T.n_zip (a_cons (c_v 0) (a_cons (c_v 1) a_nil))) (blkOk_by (own := [("a", 2), ("b", 3)]) (N := N_inner) (sc := defScope s_inner) (by decide +kernel)) rfl (fun _ _ _ _ _ => (g_tp (g_cons (g_nm (i := 2) sc_inner.nd) (g_cons (g_nm (i := 3) sc_inner.nd) g_nil)))) (fun _ _ _ _ _ => l_nil) (fun _ _ _ _ _ => (c_mul (c_v 2) (c_v 3)))) a_nil))))
theorem ok_product (T : TX K w mg f_shape_of f_is_bounded f_add f_sub f_times f_turn f_product f_inner f_positive f_gate f_total f_spread f_stretch f_scale f_pick f_place f_fill f_fits f_operate f_needed f_run_lines f_put_line f_add_tree f_sum_tree f__law_tape f__law_next f__law_added f__law_tree f_law d_shape_of d_is_bounded d_add d_sub d_times d_turn d_product d_inner d_positive d_gate d_total d_spread d_stretch d_scale d_pick d_place d_fill d_fits d_operate d_needed d_run_lines d_put_line d_add_tree d_sum_tree d__law_tape d__law_next d__law_added d__law_tree d_law) : FnOk P w K mg base CX0 2 f_product d_product ["numbers", "matrices"] (spF K 2 m_product) := by
  refine (fn_ok (k := 1) T.F_product sc_product fun cdv A outer s H E hr => ?_)
  exact (k_cons (k_set (i := 2) sc_product.nd (c_call (ok_turn T) (hr.mono (by omega)) rfl T.g_turn T.F_turn.kp T.b_turn (a_cons (c_tup a_nil) (a_cons (c_sl (c_v 1) (o_some c_int) o_none) a_nil))))
    (k_one (k_ret (c_tupc rfl T.n_tuple (a_cons (c_cmp_ (own := [("row", 3)]) rfl sc_product.nd (i_seq (c_ix (c_v 1) c_int)) (blkOk_by (own := [("row", 3)]) (N := N_product) (sc := defScope s_product) (by decide +kernel)) rfl (fun _ _ _ _ _ => (g_nm (i := 3) sc_product.nd)) (fun _ _ _ _ _ => l_nil) (fun _ _ _ _ _ => (c_tupc rfl T.n_tuple (a_cons (c_cmp_ (own := [("column", 4)]) rfl sc_product.nd (i_seq (c_v 2)) (blkOk_by (N := N_product) (by first | kernel_rfl | rfl)) rfl (fun _ _ _ _ _ => (g_nm (i := 4) sc_product.nd)) (fun _ _ _ _ _ => l_nil) (fun _ _ _ _ _ => (c_call (ok_inner T) (hr.mono (by omega)) rfl T.g_inner T.F_inner.kp T.b_inner (a_cons (c_v 3) (a_cons (c_v 4) a_nil))))) a_nil)))) a_nil)))))
theorem ok_positive (T : TX K w mg f_shape_of f_is_bounded f_add f_sub f_times f_turn f_product f_inner f_positive f_gate f_total f_spread f_stretch f_scale f_pick f_place f_fill f_fits f_operate f_needed f_run_lines f_put_line f_add_tree f_sum_tree f__law_tape f__law_next f__law_added f__law_tree f_law d_shape_of d_is_bounded d_add d_sub d_times d_turn d_product d_inner d_positive d_gate d_total d_spread d_stretch d_scale d_pick d_place d_fill d_fits d_operate d_needed d_run_lines d_put_line d_add_tree d_sum_tree d__law_tape d__law_next d__law_added d__law_tree d_law) : FnOk P w K mg base CX0 1 f_positive d_positive ["numbers", "matrices"] (spF K 2 m_positive) := by
  refine (fn_ok (k := 0) T.F_positive sc_positive fun cdv A outer s H E hr => ?_)
  exact (k_one (k_ret (c_tupc rfl T.n_tuple (a_cons (c_cmp_ (own := [("row", 2)]) rfl sc_positive.nd (i_seq (c_ix (c_v 1) c_int)) (blkOk_by (own := [("row", 2)]) (N := N_positive) (sc := defScope s_positive) (by decide +kernel)) rfl (fun _ _ _ _ _ => (g_nm (i := 2) sc_positive.nd)) (fun _ _ _ _ _ => l_nil) (fun _ _ _ _ _ => (c_tupc rfl T.n_tuple (a_cons (c_cmp_ (own := [("entry", 3)]) rfl sc_positive.nd (i_seq (c_v 2)) (blkOk_by (N := N_positive) (by first | kernel_rfl | rfl)) rfl (fun _ _ _ _ _ => (g_nm (i := 3) sc_positive.nd)) (fun _ _ _ _ _ => l_nil) (fun _ _ _ _ _ => (c_max2 rfl rfl T.n_max (a_cons (c_v 3) (a_cons c_int a_nil))))) a_nil)))) a_nil))))
theorem ok_gate (T : TX K w mg f_shape_of f_is_bounded f_add f_sub f_times f_turn f_product f_inner f_positive f_gate f_total f_spread f_stretch f_scale f_pick f_place f_fill f_fits f_operate f_needed f_run_lines f_put_line f_add_tree f_sum_tree f__law_tape f__law_next f__law_added f__law_tree f_law d_shape_of d_is_bounded d_add d_sub d_times d_turn d_product d_inner d_positive d_gate d_total d_spread d_stretch d_scale d_pick d_place d_fill d_fits d_operate d_needed d_run_lines d_put_line d_add_tree d_sum_tree d__law_tape d__law_next d__law_added d__law_tree d_law) : FnOk P w K mg base CX0 1 f_gate d_gate ["numbers", "matrices"] (spF K 2 m_gate) := by
  refine (fn_ok (k := 0) T.F_gate sc_gate fun cdv A outer s H E hr => ?_)
  exact (k_cons (k_bind (c_v 1) (g_tp (g_cons (g_nm (i := 2) sc_gate.nd) (g_cons (g_nm (i := 3) sc_gate.nd) g_nil))))
    (k_one (k_ret (c_tupc rfl T.n_tuple (a_cons (c_cmp_ (own := [("left", 4), ("right", 5)]) rfl sc_gate.nd (i_zip rfl T.n_zip (a_cons (c_v 2) (a_cons (c_v 3) a_nil))) (blkOk_by (own := [("left", 4), ("right", 5)]) (N := N_gate) (sc := defScope s_gate) (by decide +kernel)) rfl (fun _ _ _ _ _ => (g_tp (g_cons (g_nm (i := 4) sc_gate.nd) (g_cons (g_nm (i := 5) sc_gate.nd) g_nil)))) (fun _ _ _ _ _ => l_nil) (fun _ _ _ _ _ => (c_tupc rfl T.n_tuple (a_cons (c_cmp_ (own := [("a", 6), ("b", 7)]) rfl sc_gate.nd (i_zip rfl T.n_zip (a_cons (c_v 4) (a_cons (c_v 5) a_nil))) (blkOk_by (N := N_gate) (by first | kernel_rfl | rfl)) rfl (fun _ _ _ _ _ => (g_tp (g_cons (g_nm (i := 6) sc_gate.nd) (g_cons (g_nm (i := 7) sc_gate.nd) g_nil)))) (fun _ _ _ _ _ => l_nil) (fun _ _ _ _ _ => (c_if (t_gt (c_v 6) c_int) (c_v 7) c_int))) a_nil)))) a_nil)))))
theorem ok_total (T : TX K w mg f_shape_of f_is_bounded f_add f_sub f_times f_turn f_product f_inner f_positive f_gate f_total f_spread f_stretch f_scale f_pick f_place f_fill f_fits f_operate f_needed f_run_lines f_put_line f_add_tree f_sum_tree f__law_tape f__law_next f__law_added f__law_tree f_law d_shape_of d_is_bounded d_add d_sub d_times d_turn d_product d_inner d_positive d_gate d_total d_spread d_stretch d_scale d_pick d_place d_fill d_fits d_operate d_needed d_run_lines d_put_line d_add_tree d_sum_tree d__law_tape d__law_next d__law_added d__law_tree d_law) : FnOk P w K mg base CX0 1 f_total d_total ["numbers", "matrices"] (spF K 2 m_total) := by
  refine (fn_ok (k := 0) T.F_total sc_total fun cdv A outer s H E hr => ?_)
  exact (k_one (k_ret (c_tup (a_cons (c_tup (a_cons (c_sum rfl rfl T.n_sum (a_cons (c_cmp_ (own := [("row", 2)]) rfl sc_total.nd (i_seq (c_ix (c_v 1) c_int)) (blkOk_by (own := [("row", 2)]) (N := N_total) (sc := defScope s_total) (by decide +kernel)) rfl (fun _ _ _ _ _ => (g_nm (i := 2) sc_total.nd)) (fun _ _ _ _ _ => l_nil) (fun _ _ _ _ _ => (c_sum rfl rfl T.n_sum (a_cons (c_v 2) a_nil)))) a_nil)) a_nil)) a_nil))))
theorem ok_fill (T : TX K w mg f_shape_of f_is_bounded f_add f_sub f_times f_turn f_product f_inner f_positive f_gate f_total f_spread f_stretch f_scale f_pick f_place f_fill f_fits f_operate f_needed f_run_lines f_put_line f_add_tree f_sum_tree f__law_tape f__law_next f__law_added f__law_tree f_law d_shape_of d_is_bounded d_add d_sub d_times d_turn d_product d_inner d_positive d_gate d_total d_spread d_stretch d_scale d_pick d_place d_fill d_fits d_operate d_needed d_run_lines d_put_line d_add_tree d_sum_tree d__law_tape d__law_next d__law_added d__law_tree d_law) : FnOk P w K mg base CX0 1 f_fill d_fill ["numbers", "matrices"] (spF K 2 m_fill) := by
  refine (fn_ok (k := 0) T.F_fill sc_fill fun cdv A outer s H E hr => ?_)
  exact (k_one (k_ret (c_tupc rfl T.n_tuple (a_cons (c_mul (c_lst (a_cons (c_mul (c_tup (a_cons (c_ix (c_v 0) c_int) a_nil)) (c_ix (c_v 0) c_int)) a_nil)) (c_ix (c_v 0) c_int)) a_nil))))
theorem ok_spread (T : TX K w mg f_shape_of f_is_bounded f_add f_sub f_times f_turn f_product f_inner f_positive f_gate f_total f_spread f_stretch f_scale f_pick f_place f_fill f_fits f_operate f_needed f_run_lines f_put_line f_add_tree f_sum_tree f__law_tape f__law_next f__law_added f__law_tree f_law d_shape_of d_is_bounded d_add d_sub d_times d_turn d_product d_inner d_positive d_gate d_total d_spread d_stretch d_scale d_pick d_place d_fill d_fits d_operate d_needed d_run_lines d_put_line d_add_tree d_sum_tree d__law_tape d__law_next d__law_added d__law_tree d_law) : FnOk P w K mg base CX0 2 f_spread d_spread ["numbers", "matrices"] (spF K 2 m_spread) := by
  refine (fn_ok (k := 1) T.F_spread sc_spread fun cdv A outer s H E hr => ?_)
  exact (k_one (k_ret (c_call (ok_fill T) (hr.mono (by omega)) rfl T.g_fill T.F_fill.kp T.b_fill (a_cons (c_tup (a_cons (c_ix (c_v 0) c_int) (a_cons (c_ix (c_v 0) c_int) (a_cons (c_ix (c_ix (c_ix (c_v 1) c_int) c_int) c_int) a_nil)))) (a_cons (c_tup a_nil) a_nil)))))
theorem ok_stretch (T : TX K w mg f_shape_of f_is_bounded f_add f_sub f_times f_turn f_product f_inner f_positive f_gate f_total f_spread f_stretch f_scale f_pick f_place f_fill f_fits f_operate f_needed f_run_lines f_put_line f_add_tree f_sum_tree f__law_tape f__law_next f__law_added f__law_tree f_law d_shape_of d_is_bounded d_add d_sub d_times d_turn d_product d_inner d_positive d_gate d_total d_spread d_stretch d_scale d_pick d_place d_fill d_fits d_operate d_needed d_run_lines d_put_line d_add_tree d_sum_tree d__law_tape d__law_next d__law_added d__law_tree d_law) : FnOk P w K mg base CX0 1 f_stretch d_stretch ["numbers", "matrices"] (spF K 2 m_stretch) := by
  refine (fn_ok (k := 0) T.F_stretch sc_stretch fun cdv A outer s H E hr => ?_)
  exact (k_one (k_ret (c_tupc rfl T.n_tuple (a_cons (c_cmp_ (own := [("row", 2)]) rfl sc_stretch.nd (i_seq (c_ix (c_v 1) c_int)) (blkOk_by (own := [("row", 2)]) (N := N_stretch) (sc := defScope s_stretch) (by decide +kernel)) rfl (fun _ _ _ _ _ => (g_nm (i := 2) sc_stretch.nd)) (fun _ _ _ _ _ => l_nil) (fun _ _ _ _ _ => (c_tupc rfl T.n_tuple (a_cons (c_cmp_ (own := [("entry", 3)]) rfl sc_stretch.nd (i_seq (c_v 2)) (blkOk_by (N := N_stretch) (by first | kernel_rfl | rfl)) rfl (fun _ _ _ _ _ => (g_nm (i := 3) sc_stretch.nd)) (fun _ _ _ _ _ => l_nil) (fun _ _ _ _ _ => (c_mul (c_v 3) (c_ix (c_v 0) c_int)))) a_nil)))) a_nil))))
theorem ok_scale (T : TX K w mg f_shape_of f_is_bounded f_add f_sub f_times f_turn f_product f_inner f_positive f_gate f_total f_spread f_stretch f_scale f_pick f_place f_fill f_fits f_operate f_needed f_run_lines f_put_line f_add_tree f_sum_tree f__law_tape f__law_next f__law_added f__law_tree f_law d_shape_of d_is_bounded d_add d_sub d_times d_turn d_product d_inner d_positive d_gate d_total d_spread d_stretch d_scale d_pick d_place d_fill d_fits d_operate d_needed d_run_lines d_put_line d_add_tree d_sum_tree d__law_tape d__law_next d__law_added d__law_tree d_law) : FnOk P w K mg base CX0 1 f_scale d_scale ["numbers", "matrices"] (spF K 2 m_scale) := by
  refine (fn_ok (k := 0) T.F_scale sc_scale fun cdv A outer s H E hr => ?_)
  exact (k_cons (k_set (i := 2) sc_scale.nd (c_shl c_int (c_ix (c_v 0) c_int)))
    (k_cons (k_set (i := 3) sc_scale.nd (c_fdiv (c_v 2) c_int))
    (k_one (k_ret (c_tupc rfl T.n_tuple (a_cons (c_cmp_ (own := [("row", 4)]) rfl sc_scale.nd (i_seq (c_ix (c_v 1) c_int)) (blkOk_by (own := [("row", 4)]) (N := N_scale) (sc := defScope s_scale) (by decide +kernel)) rfl (fun _ _ _ _ _ => (g_nm (i := 4) sc_scale.nd)) (fun _ _ _ _ _ => l_nil) (fun _ _ _ _ _ => (c_tupc rfl T.n_tuple (a_cons (c_cmp_ (own := [("entry", 5)]) rfl sc_scale.nd (i_seq (c_v 4)) (blkOk_by (N := N_scale) (by first | kernel_rfl | rfl)) rfl (fun _ _ _ _ _ => (g_nm (i := 5) sc_scale.nd)) (fun _ _ _ _ _ => l_nil) (fun _ _ _ _ _ => (c_fdiv (c_add (c_v 5) (c_v 3)) (c_v 2)))) a_nil)))) a_nil))))))
theorem ok_pick (T : TX K w mg f_shape_of f_is_bounded f_add f_sub f_times f_turn f_product f_inner f_positive f_gate f_total f_spread f_stretch f_scale f_pick f_place f_fill f_fits f_operate f_needed f_run_lines f_put_line f_add_tree f_sum_tree f__law_tape f__law_next f__law_added f__law_tree f_law d_shape_of d_is_bounded d_add d_sub d_times d_turn d_product d_inner d_positive d_gate d_total d_spread d_stretch d_scale d_pick d_place d_fill d_fits d_operate d_needed d_run_lines d_put_line d_add_tree d_sum_tree d__law_tape d__law_next d__law_added d__law_tree d_law) : FnOk P w K mg base CX0 1 f_pick d_pick ["numbers", "matrices"] (spF K 2 m_pick) := by
  refine sp_gc (fn_ok (k := 0) T.F_pick sc_pick fun cdv A outer s H E hr => ?_)
  exact (k_cons (k_bind (c_v 1) (g_tp (g_cons (g_nm (i := 2) sc_pick.nd) (g_cons (g_nm (i := 3) sc_pick.nd) g_nil))))
    (k_cons (k_set (i := 4) sc_pick.nd (c_new a_nil))
    (k_cons (k_for PassesOwn.never rfl (i_seq (c_v 3)) (g_nm (i := 5) sc_pick.nd)
    (k_cons (k_if (t_not (t_chain op_le s_cmp op_lt s_cmp c_int (c_ix (c_v 5) c_int) (c_len rfl T.n_len (a_cons (c_v 2) a_nil))))
    (k_one (k_ret c_non))
    k_nil)
    (k_one (k_exp (c_bm PySem.F.plainAttrs_list PySem.F.slot_list_append PySem.F.type_list_append mt_append s_app (c_v 4) (a_cons (c_ix (c_v 2) (c_ix (c_v 5) c_int)) a_nil))))))
    (k_one (k_ret (c_tupc rfl T.n_tuple (a_cons (c_v 4) a_nil)))))))
theorem ok_place (T : TX K w mg f_shape_of f_is_bounded f_add f_sub f_times f_turn f_product f_inner f_positive f_gate f_total f_spread f_stretch f_scale f_pick f_place f_fill f_fits f_operate f_needed f_run_lines f_put_line f_add_tree f_sum_tree f__law_tape f__law_next f__law_added f__law_tree f_law d_shape_of d_is_bounded d_add d_sub d_times d_turn d_product d_inner d_positive d_gate d_total d_spread d_stretch d_scale d_pick d_place d_fill d_fits d_operate d_needed d_run_lines d_put_line d_add_tree d_sum_tree d__law_tape d__law_next d__law_added d__law_tree d_law) : FnOk P w K mg base CX0 1 f_place d_place ["numbers", "matrices"] (spF K 2 m_place) := by
  refine sp_gc (fn_ok (k := 0) T.F_place sc_place fun cdv A outer s H E hr => ?_)
  exact (k_cons (k_bind (c_v 1) (g_tp (g_cons (g_nm (i := 2) sc_place.nd) (g_cons (g_nm (i := 3) sc_place.nd) g_nil))))
    (k_cons (k_setC (i := 4) (own := [("_", 7)]) rfl sc_place.nd (fun _ _ _ h => goCmpN (by decide) h) (i_rng1 rfl T.n_range (a_cons (c_ix (c_v 0) c_int) a_nil)) (blkOk_by (own := [("_", 7)]) (N := N_place) (sc := defScope s_place) (by decide +kernel)) (fun _ _ _ _ _ => (g_nm (i := 7) sc_place.nd)) (fun _ _ _ _ _ => l_nil) (fun _ _ _ _ _ => (c_mul (c_lst (a_cons c_int a_nil)) (c_len rfl T.n_len (a_cons (c_ix (c_v 3) c_int) a_nil)))) (sw_true rfl rfl rfl (by decide +kernel)))
    (k_cons (k_for PassesOwn.never rfl (i_zip rfl T.n_zip (a_cons (c_v 2) (a_cons (c_v 3) a_nil))) (g_tp (g_cons (g_nm (i := 5) sc_place.nd) (g_cons (g_nm (i := 6) sc_place.nd) g_nil)))
    (k_cons (k_if (t_not (t_chain op_le s_cmp op_lt s_cmp c_int (c_ix (c_v 5) c_int) (c_ix (c_v 0) c_int)))
    (k_one (k_ret c_non))
    k_nil)
    (k_one (k_setIx (c_cmp_ (own := [("a", 8), ("b", 9)]) rfl sc_place.nd (i_zip rfl T.n_zip (a_cons (c_ix (c_v 4) (c_ix (c_v 5) c_int)) (a_cons (c_v 6) a_nil))) (blkOk_by (own := [("a", 8), ("b", 9)]) (N := N_place) (sc := defScope s_place) (by decide +kernel)) rfl (fun _ _ _ _ _ => (g_tp (g_cons (g_nm (i := 8) sc_place.nd) (g_cons (g_nm (i := 9) sc_place.nd) g_nil)))) (fun _ _ _ _ _ => l_nil) (fun _ _ _ _ _ => (c_add (c_v 8) (c_v 9)))) (c_v 4) (c_ix (c_v 5) c_int)))))
    (k_one (k_ret (c_tupc rfl T.n_tuple (a_cons (c_cmp_ (own := [("row", 6)]) rfl sc_place.nd (i_seq (c_v 4)) (blkOk_by (own := [("row", 6)]) (N := N_place) (sc := defScope s_place) (by decide +kernel)) rfl (fun _ _ _ _ _ => (g_nm (i := 6) sc_place.nd)) (fun _ _ _ _ _ => l_nil) (fun _ _ _ _ _ => (c_tupc rfl T.n_tuple (a_cons (c_v 6) a_nil)))) a_nil)))))))
theorem ok_fits (T : TX K w mg f_shape_of f_is_bounded f_add f_sub f_times f_turn f_product f_inner f_positive f_gate f_total f_spread f_stretch f_scale f_pick f_place f_fill f_fits f_operate f_needed f_run_lines f_put_line f_add_tree f_sum_tree f__law_tape f__law_next f__law_added f__law_tree f_law d_shape_of d_is_bounded d_add d_sub d_times d_turn d_product d_inner d_positive d_gate d_total d_spread d_stretch d_scale d_pick d_place d_fill d_fits d_operate d_needed d_run_lines d_put_line d_add_tree d_sum_tree d__law_tape d__law_next d__law_added d__law_tree d_law) : FnOk P w K mg base CX0 1 f_fits d_fits ["kind", "found"] (spF K 2 m_fits) := by
  refine (fn_ok (k := 0) T.F_fits sc_fits fun cdv A outer s H E hr => ?_)
  exact (k_cons (k_if (t_ne hr (c_len rfl T.n_len (a_cons (c_v 1) a_nil)) (c_tab rfl T.t_COUNTS (c_v 0)))
    (k_one (k_ret c_bl))
    k_nil)
    (k_cons (k_if (t_in hr (c_v 0) (c_tup (a_cons c_str (a_cons c_str (a_cons c_str (a_cons c_str a_nil))))))
    (k_one (k_ret (c_eq hr (c_ix (c_v 1) c_int) (c_ix (c_v 1) c_int))))
    k_nil)
    (k_cons (k_if (t_eq hr (c_v 0) c_str)
    (k_one (k_ret (c_eq hr (c_ix (c_ix (c_v 1) c_int) c_int) (c_ix (c_ix (c_v 1) c_int) c_int))))
    k_nil)
    (k_cons (k_if (t_eq hr (c_v 0) c_str)
    (k_one (k_ret (c_eq hr (c_ix (c_v 1) c_int) (c_tup (a_cons c_int (a_cons c_int a_nil))))))
    k_nil)
    (k_cons (k_if (t_eq hr (c_v 0) c_str)
    (k_one (k_ret (c_eq hr (c_ix (c_ix (c_v 1) c_int) c_int) c_int)))
    k_nil)
    (k_cons (k_if (t_eq hr (c_v 0) c_str)
    (k_one (k_ret (c_eq hr (c_ix (c_v 1) c_int) (c_tup (a_cons (c_ix (c_ix (c_v 1) c_int) c_int) (a_cons c_int a_nil))))))
    k_nil)
    (k_one (k_ret c_bl))))))))
theorem ok_operate (T : TX K w mg f_shape_of f_is_bounded f_add f_sub f_times f_turn f_product f_inner f_positive f_gate f_total f_spread f_stretch f_scale f_pick f_place f_fill f_fits f_operate f_needed f_run_lines f_put_line f_add_tree f_sum_tree f__law_tape f__law_next f__law_added f__law_tree f_law d_shape_of d_is_bounded d_add d_sub d_times d_turn d_product d_inner d_positive d_gate d_total d_spread d_stretch d_scale d_pick d_place d_fill d_fits d_operate d_needed d_run_lines d_put_line d_add_tree d_sum_tree d__law_tape d__law_next d__law_added d__law_tree d_law) : FnOk P w K mg base CX0 3 f_operate d_operate ["kind", "numbers", "matrices"] (spF K 3 m_operate) := by
  refine (fn_ok (k := 2) T.F_operate sc_operate fun cdv A outer s H E hr => ?_)
  exact (k_cons (k_if (t_not (t_tru (c_call (ok_fits T) (hr.mono (by omega)) rfl T.g_fits T.F_fits.kp T.b_fits (a_cons (c_v 0) (a_cons (c_cmp_ (own := [("matrix", 5)]) rfl sc_operate.nd (i_seq (c_v 2)) (blkOk_by (own := [("matrix", 5)]) (N := N_operate) (sc := defScope s_operate) (by decide +kernel)) rfl (fun _ _ _ _ _ => (g_nm (i := 5) sc_operate.nd)) (fun _ _ _ _ _ => l_nil) (fun _ _ _ _ _ => (c_call (ok_shape_of T) (hr.mono (by omega)) rfl T.g_shape_of T.F_shape_of.kp T.b_shape_of (a_cons (c_v 5) a_nil)))) a_nil)))))
    (k_one (k_ret c_non))
    k_nil)
    (k_cons (k_set (i := 3) sc_operate.nd (c_tab rfl T.t_OPERATIONS (c_v 0)))
    (k_cons (k_set (i := 4) sc_operate.nd (c_callv 3 (CallOk.cons (z := "add") (ok_add T) (hr.mono (by omega)) T.a_add T.F_add.kp T.b_add (CallOk.cons (z := "sub") (ok_sub T) (hr.mono (by omega)) T.a_sub T.F_sub.kp T.b_sub (CallOk.cons (z := "times") (ok_times T) (hr.mono (by omega)) T.a_times T.F_times.kp T.b_times (CallOk.cons (z := "product") (ok_product T) (hr.mono (by omega)) T.a_product T.F_product.kp T.b_product (CallOk.cons (z := "turn") (ok_turn T) (hr.mono (by omega)) T.a_turn T.F_turn.kp T.b_turn (CallOk.cons (z := "positive") (ok_positive T) (hr.mono (by omega)) T.a_positive T.F_positive.kp T.b_positive (CallOk.cons (z := "gate") (ok_gate T) (hr.mono (by omega)) T.a_gate T.F_gate.kp T.b_gate (CallOk.cons (z := "total") (ok_total T) (hr.mono (by omega)) T.a_total T.F_total.kp T.b_total (CallOk.cons (z := "spread") (ok_spread T) (hr.mono (by omega)) T.a_spread T.F_spread.kp T.b_spread (CallOk.cons (z := "stretch") (ok_stretch T) (hr.mono (by omega)) T.a_stretch T.F_stretch.kp T.b_stretch (CallOk.cons (z := "scale") (ok_scale T) (hr.mono (by omega)) T.a_scale T.F_scale.kp T.b_scale (CallOk.cons (z := "pick") (ok_pick T) (hr.mono (by omega)) T.a_pick T.F_pick.kp T.b_pick (CallOk.cons (z := "place") (ok_place T) (hr.mono (by omega)) T.a_place T.F_place.kp T.b_place (CallOk.cons (z := "fill") (ok_fill T) (hr.mono (by omega)) T.a_fill T.F_fill.kp T.b_fill CallOk.nil)))))))))))))) (a_cons (c_v 1) (a_cons (c_v 2) a_nil))))
    (k_cons (k_if (PW.pt (w_or (t_isN (c_v 4) c_non) (w_or1 (t_not (t_tru (c_call (ok_is_bounded T) (hr.mono (by omega)) rfl T.g_is_bounded T.F_is_bounded.kp T.b_is_bounded (a_cons (c_v 4) a_nil)))))))
    (k_one (k_ret c_non))
    k_nil)
    (k_one (k_ret (c_v 4)))))))
theorem ok_needed (T : TX K w mg f_shape_of f_is_bounded f_add f_sub f_times f_turn f_product f_inner f_positive f_gate f_total f_spread f_stretch f_scale f_pick f_place f_fill f_fits f_operate f_needed f_run_lines f_put_line f_add_tree f_sum_tree f__law_tape f__law_next f__law_added f__law_tree f_law d_shape_of d_is_bounded d_add d_sub d_times d_turn d_product d_inner d_positive d_gate d_total d_spread d_stretch d_scale d_pick d_place d_fill d_fits d_operate d_needed d_run_lines d_put_line d_add_tree d_sum_tree d__law_tape d__law_next d__law_added d__law_tree d_law) : FnOk P w K mg base CX0 1 f_needed d_needed ["leaves", "lines", "outputs"] (spF K 3 m_needed) := by
  refine sp_gc (fn_ok (k := 0) T.F_needed sc_needed fun cdv A outer s H E hr => ?_)
  exact (k_cons (k_set (i := 3) sc_needed.nd (c_mulN (c_lst (a_cons c_bl a_nil)) (c_add (c_v 0) (c_len rfl T.n_len (a_cons (c_v 1) a_nil)))))
    (k_cons (k_for PassesOwn.never rfl (i_seq (c_v 2)) (g_nm (i := 4) sc_needed.nd)
    (k_one (k_setIx c_bl (c_v 3) (c_v 4))))
    (k_cons (k_set (i := 5) sc_needed.nd (c_new a_nil))
    (k_cons (k_for PassesOwn.never rfl (i_rng3 rfl T.n_range (a_cons (c_sub (c_len rfl T.n_len (a_cons (c_v 1) a_nil)) c_int) (a_cons (c_neg c_int) (a_cons (c_neg c_int) a_nil))) (pi_range3 rfl T.n_range (a_cons (c_sub (c_len rfl T.n_len (a_cons (c_v 1) a_nil)) c_int) (a_cons (c_neg c_int) (a_cons (c_neg c_int) a_nil))))) (g_nm (i := 6) sc_needed.nd)
    (k_one (k_if (t_tru (c_ix (c_v 3) (c_add (c_v 0) (c_v 6))))
    (k_cons (k_exp (c_bm PySem.F.plainAttrs_list PySem.F.slot_list_append PySem.F.type_list_append mt_append s_app (c_v 5) (a_cons (c_v 6) a_nil)))
    (k_one (k_for PassesOwn.never rfl (i_seq (c_ix (c_ix (c_v 1) (c_v 6)) c_int)) (g_nm (i := 4) sc_needed.nd)
    (k_one (k_setIx c_bl (c_v 3) (c_v 4))))))
    k_nil)))
    (k_one (k_ret (c_tupc rfl T.n_tuple (a_cons (c_rev (c_v 5)) a_nil))))))))
theorem ok_run_lines (T : TX K w mg f_shape_of f_is_bounded f_add f_sub f_times f_turn f_product f_inner f_positive f_gate f_total f_spread f_stretch f_scale f_pick f_place f_fill f_fits f_operate f_needed f_run_lines f_put_line f_add_tree f_sum_tree f__law_tape f__law_next f__law_added f__law_tree f_law d_shape_of d_is_bounded d_add d_sub d_times d_turn d_product d_inner d_positive d_gate d_total d_spread d_stretch d_scale d_pick d_place d_fill d_fits d_operate d_needed d_run_lines d_put_line d_add_tree d_sum_tree d__law_tape d__law_next d__law_added d__law_tree d_law) : FnOk P w K mg base CX0 4 f_run_lines d_run_lines ["matrices", "lines", "outputs"] (spF K 3 m_run_lines) := by
  refine sp_gc (fn_ok (k := 3) T.F_run_lines sc_run_lines fun cdv A outer s H E hr => ?_)
  exact (k_cons (k_set (i := 3) sc_run_lines.nd (c_len rfl T.n_len (a_cons (c_v 0) a_nil)))
    (k_cons (k_set (i := 4) sc_run_lines.nd (c_addN (c_listc rfl T.n_list (a_cons (c_v 0) a_nil)) (c_mul (c_lst (a_cons c_non a_nil)) (c_len rfl T.n_len (a_cons (c_v 1) a_nil)))))
    (k_cons (k_set (i := 5) sc_run_lines.nd (c_new a_nil))
    (k_cons (k_for PassesOwn.never rfl (i_seq (c_call (ok_needed T) (hr.mono (by omega)) rfl T.g_needed T.F_needed.kp T.b_needed (a_cons (c_v 3) (a_cons (c_v 1) (a_cons (c_v 2) a_nil))))) (g_nm (i := 6) sc_run_lines.nd)
    (k_cons (k_bind (c_ix (c_v 1) (c_v 6)) (g_tp (g_cons (g_nm (i := 7) sc_run_lines.nd) (g_cons (g_nm (i := 8) sc_run_lines.nd) (g_cons (g_nm (i := 9) sc_run_lines.nd) g_nil)))))
    (k_cons (k_set (i := 10) sc_run_lines.nd (c_tup (a_cons (c_v 7) (a_cons (c_v 8) (a_cons (c_tupc rfl T.n_tuple (a_cons (c_cmp_ (own := [("value", 12)]) rfl sc_run_lines.nd (i_seq (c_v 9)) (blkOk_by (own := [("value", 12)]) (N := N_run_lines) (sc := defScope s_run_lines) (by decide +kernel)) rfl (fun _ _ _ _ _ => (g_nm (i := 12) sc_run_lines.nd)) (fun _ _ _ _ _ => l_nil) (fun _ _ _ _ _ => (c_ix (c_v 4) (c_v 12)))) a_nil)) a_nil)))))
    (k_cons (k_exp (c_bm PySem.F.plainAttrs_list PySem.F.slot_list_append PySem.F.type_list_append mt_append s_app (c_v 5) (a_cons (c_v 10) a_nil)))
    (k_cons (k_set (i := 11) sc_run_lines.nd (c_call (ok_operate T) (hr.mono (by omega)) rfl T.g_operate T.F_operate.kp T.b_operate (a_cons (c_v 7) (a_cons (c_v 8) (a_cons (c_ix (c_v 10) c_int) a_nil)))))
    (k_cons (k_if (t_isN (c_v 11) c_non)
    (k_one (k_ret (c_tup (a_cons c_non (a_cons (c_tupc rfl T.n_tuple (a_cons (c_v 5) a_nil)) a_nil)))))
    k_nil)
    (k_one (k_setIx (c_v 11) (c_v 4) (c_add (c_v 3) (c_v 6))))))))))
    (k_one (k_ret (c_tup (a_cons (c_tupc rfl T.n_tuple (a_cons (c_cmp_ (own := [("value", 12)]) rfl sc_run_lines.nd (i_seq (c_v 2)) (blkOk_by (own := [("value", 12)]) (N := N_run_lines) (sc := defScope s_run_lines) (by decide +kernel)) rfl (fun _ _ _ _ _ => (g_nm (i := 12) sc_run_lines.nd)) (fun _ _ _ _ _ => l_nil) (fun _ _ _ _ _ => (c_ix (c_v 4) (c_v 12)))) a_nil)) (a_cons (c_tupc rfl T.n_tuple (a_cons (c_v 5) a_nil)) a_nil)))))))))
theorem ok_put_line (T : TX K w mg f_shape_of f_is_bounded f_add f_sub f_times f_turn f_product f_inner f_positive f_gate f_total f_spread f_stretch f_scale f_pick f_place f_fill f_fits f_operate f_needed f_run_lines f_put_line f_add_tree f_sum_tree f__law_tape f__law_next f__law_added f__law_tree f_law d_shape_of d_is_bounded d_add d_sub d_times d_turn d_product d_inner d_positive d_gate d_total d_spread d_stretch d_scale d_pick d_place d_fill d_fits d_operate d_needed d_run_lines d_put_line d_add_tree d_sum_tree d__law_tape d__law_next d__law_added d__law_tree d_law) : FnOk P w K mg base CX0 1 f_put_line d_put_line ["lines", "leaves", "kind", "numbers", "values"] (spF K 5 m_put_line) := by
  refine (fn_ok (k := 0) T.F_put_line sc_put_line fun cdv A outer s H E hr => ?_)
  exact (k_cons (k_exp (c_bm PySem.F.plainAttrs_list PySem.F.slot_list_append PySem.F.type_list_append mt_append s_app (c_v 0) (a_cons (c_tup (a_cons (c_v 2) (a_cons (c_v 3) (a_cons (c_v 4) a_nil)))) a_nil)))
    (k_one (k_ret (c_sub (c_add (c_v 1) (c_len rfl T.n_len (a_cons (c_v 0) a_nil))) c_int))))
theorem ok_add_tree (T : TX K w mg f_shape_of f_is_bounded f_add f_sub f_times f_turn f_product f_inner f_positive f_gate f_total f_spread f_stretch f_scale f_pick f_place f_fill f_fits f_operate f_needed f_run_lines f_put_line f_add_tree f_sum_tree f__law_tape f__law_next f__law_added f__law_tree f_law d_shape_of d_is_bounded d_add d_sub d_times d_turn d_product d_inner d_positive d_gate d_total d_spread d_stretch d_scale d_pick d_place d_fill d_fits d_operate d_needed d_run_lines d_put_line d_add_tree d_sum_tree d__law_tape d__law_next d__law_added d__law_tree d_law) : ∀ n : Nat, FnOk P w K mg base CX0 (n + 1) f_add_tree d_add_tree ["lines", "leaves", "values"] (spF K 3 (m_add_tree n))
  | 0 => ⟨fun vs H Q E h => h.1, fun A outer s H args us vs Q E hr he hb hv hs => by
    obtain ⟨_, _, _, _, _, _, _, _, _, hf, _⟩ := hs
    cases hf⟩
  | n + 1 => by
    have IH := ok_add_tree T n
    show FnOk P w K mg base CX0 ((n + 1) + 1) _ _ _ _
    refine (fn_ok (k := n + 1) T.F_add_tree sc_add_tree fun cdv A outer s H E hr => ?_)
    exact (k_cons (k_if (t_eq hr (c_len rfl T.n_len (a_cons (c_v 2) a_nil)) c_int)
    (k_one (k_ret (c_ix (c_v 2) c_int)))
    k_nil)
    (k_cons (k_set (i := 3) sc_add_tree.nd (c_fdiv (c_add (c_len rfl T.n_len (a_cons (c_v 2) a_nil)) c_int) c_int))
    (k_cons (k_set (i := 4) sc_add_tree.nd (c_call IH (hr.mono (by omega)) rfl T.g_add_tree T.F_add_tree.kp T.b_add_tree (a_cons (c_v 0) (a_cons (c_v 1) (a_cons (c_sl (c_v 2) o_none (o_some (c_v 3))) a_nil)))))
    (k_cons (k_set (i := 5) sc_add_tree.nd (c_call IH (hr.mono (by omega)) rfl T.g_add_tree T.F_add_tree.kp T.b_add_tree (a_cons (c_v 0) (a_cons (c_v 1) (a_cons (c_sl (c_v 2) (o_some (c_v 3)) o_none) a_nil)))))
    (k_one (k_ret (c_call (ok_put_line T) (hr.mono (by omega)) rfl T.g_put_line T.F_put_line.kp T.b_put_line (a_cons (c_v 0) (a_cons (c_v 1) (a_cons c_str (a_cons (c_tup a_nil) (a_cons (c_tup (a_cons (c_v 4) (a_cons (c_v 5) a_nil))) a_nil))))))))))))
theorem ok_sum_tree (T : TX K w mg f_shape_of f_is_bounded f_add f_sub f_times f_turn f_product f_inner f_positive f_gate f_total f_spread f_stretch f_scale f_pick f_place f_fill f_fits f_operate f_needed f_run_lines f_put_line f_add_tree f_sum_tree f__law_tape f__law_next f__law_added f__law_tree f_law d_shape_of d_is_bounded d_add d_sub d_times d_turn d_product d_inner d_positive d_gate d_total d_spread d_stretch d_scale d_pick d_place d_fill d_fits d_operate d_needed d_run_lines d_put_line d_add_tree d_sum_tree d__law_tape d__law_next d__law_added d__law_tree d_law) : FnOk P w K mg base CX0 10 f_sum_tree d_sum_tree ["matrices"] (spF K 1 m_sum_tree) := by
  refine sp_gc (fn_ok (k := 9) T.F_sum_tree sc_sum_tree fun cdv A outer s H E hr => ?_)
  exact (k_cons (k_set (i := 1) sc_sum_tree.nd (c_new a_nil))
    (k_cons (k_set (i := 2) sc_sum_tree.nd (c_call (ok_add_tree T 8) (hr.mono (by omega)) rfl T.g_add_tree T.F_add_tree.kp T.b_add_tree (a_cons (c_v 1) (a_cons (c_len rfl T.n_len (a_cons (c_v 0) a_nil)) (a_cons (c_tupc rfl T.n_tuple (a_cons (c_lrg rfl rfl T.n_list rfl T.n_range (c_len rfl T.n_len (a_cons (c_v 0) a_nil))) a_nil)) a_nil)))))
    (k_cons (k_bind (c_call (ok_run_lines T) (hr.mono (by omega)) rfl T.g_run_lines T.F_run_lines.kp T.b_run_lines (a_cons (c_v 0) (a_cons (c_tupc rfl T.n_tuple (a_cons (c_v 1) a_nil)) (a_cons (c_tup (a_cons (c_v 2) a_nil)) a_nil)))) (g_tp (g_cons (g_nm (i := 3) sc_sum_tree.nd) (g_cons (g_nm (i := 4) sc_sum_tree.nd) g_nil))))
    (k_cons (k_if (t_isN (c_v 3) c_non)
    (k_one (k_ret (c_tup (a_cons c_non (a_cons (c_len rfl T.n_len (a_cons (c_v 4) a_nil)) a_nil)))))
    k_nil)
    (k_one (k_ret (c_tup (a_cons (c_ix (c_v 3) c_int) (a_cons (c_len rfl T.n_len (a_cons (c_v 4) a_nil)) a_nil)))))))))
theorem ok__law_tape (T : TX K w mg f_shape_of f_is_bounded f_add f_sub f_times f_turn f_product f_inner f_positive f_gate f_total f_spread f_stretch f_scale f_pick f_place f_fill f_fits f_operate f_needed f_run_lines f_put_line f_add_tree f_sum_tree f__law_tape f__law_next f__law_added f__law_tree f_law d_shape_of d_is_bounded d_add d_sub d_times d_turn d_product d_inner d_positive d_gate d_total d_spread d_stretch d_scale d_pick d_place d_fill d_fits d_operate d_needed d_run_lines d_put_line d_add_tree d_sum_tree d__law_tape d__law_next d__law_added d__law_tree d_law) : FnOk P w K mg base CX0 1 f__law_tape d__law_tape ["_law_script"] (spF K 1 m__law_tape) := by
  refine (fn_ok (k := 0) T.F__law_tape sc__law_tape fun cdv A outer s H E hr => ?_)
  exact (k_cons (k_set (i := 1) sc__law_tape.nd (c_new a_nil))
    (k_cons (k_set (i := 2) sc__law_tape.nd c_int)
    (k_cons (k_for PassesOwn.never rfl (i_seq (c_sl (c_v 0) o_none (o_some c_int))) (g_nm (i := 3) sc__law_tape.nd)
    (k_cons (k_set (i := 4) sc__law_tape.nd (c_abs rfl T.n_abs (a_cons (c_intc rfl T.n_int (a_cons (c_v 3) a_nil)) a_nil)))
    (k_cons (k_set (i := 2) sc__law_tape.nd (c_add (c_v 2) (c_v 4)))
    (k_one (k_for PassesOwn.never rfl (i_rng1 rfl T.n_range (a_cons c_int a_nil)) (g_nm (i := 5) sc__law_tape.nd)
    (k_cons (k_exp (c_bm PySem.F.plainAttrs_list PySem.F.slot_list_append PySem.F.type_list_append mt_append s_app (c_v 1) (a_cons (c_mod (c_intc rfl T.n_int (a_cons (c_v 4) a_nil)) c_int) a_nil)))
    (k_cons (k_set (i := 4) sc__law_tape.nd (c_fdiv (c_v 4) c_int))
    (k_one (k_if (t_eq hr (c_v 4) c_int)
    (k_one k_brk)
    k_nil)))))))))
    (k_one (k_ret (c_new (a_cons c_int (a_cons (c_v 1) (a_cons (c_mod (c_intc rfl T.n_int (a_cons (c_v 2) a_nil)) c_int) a_nil)))))))))
theorem ok__law_next (T : TX K w mg f_shape_of f_is_bounded f_add f_sub f_times f_turn f_product f_inner f_positive f_gate f_total f_spread f_stretch f_scale f_pick f_place f_fill f_fits f_operate f_needed f_run_lines f_put_line f_add_tree f_sum_tree f__law_tape f__law_next f__law_added f__law_tree f_law d_shape_of d_is_bounded d_add d_sub d_times d_turn d_product d_inner d_positive d_gate d_total d_spread d_stretch d_scale d_pick d_place d_fill d_fits d_operate d_needed d_run_lines d_put_line d_add_tree d_sum_tree d__law_tape d__law_next d__law_added d__law_tree d_law) : FnOk P w K mg base CX0 1 f__law_next d__law_next ["_law_tape_here", "_law_many"] (spF K 2 m__law_next) := by
  refine (fn_ok (k := 0) T.F__law_next sc__law_next fun cdv A outer s H E hr => ?_)
  exact (k_cons (k_set (i := 2) sc__law_next.nd (c_ix (c_v 0) c_int))
    (k_cons (k_setIx (c_add (c_v 2) c_int) (c_v 0) c_int)
    (k_cons (k_if (t_lt (c_v 2) (c_len rfl T.n_len (a_cons (c_ix (c_v 0) c_int) a_nil)))
    (k_one (k_ret (c_mod (c_intc rfl T.n_int (a_cons (c_ix (c_ix (c_v 0) c_int) (c_v 2)) a_nil)) (c_v 1))))
    k_nil)
    (k_one (k_ret (c_mod (c_fdiv (c_mod (c_intc rfl T.n_int (a_cons (c_add (c_mul (c_add (c_v 2) c_int) c_int) (c_mul (c_ix (c_v 0) c_int) c_int)) a_nil)) c_int) c_int) (c_v 1)))))))
theorem ok__law_added (T : TX K w mg f_shape_of f_is_bounded f_add f_sub f_times f_turn f_product f_inner f_positive f_gate f_total f_spread f_stretch f_scale f_pick f_place f_fill f_fits f_operate f_needed f_run_lines f_put_line f_add_tree f_sum_tree f__law_tape f__law_next f__law_added f__law_tree f_law d_shape_of d_is_bounded d_add d_sub d_times d_turn d_product d_inner d_positive d_gate d_total d_spread d_stretch d_scale d_pick d_place d_fill d_fits d_operate d_needed d_run_lines d_put_line d_add_tree d_sum_tree d__law_tape d__law_next d__law_added d__law_tree d_law) : FnOk P w K mg base CX0 1 f__law_added d__law_added ["_law_a", "_law_b"] (spF K 2 m__law_added) := by
  refine sp_gc (fn_ok (k := 0) T.F__law_added sc__law_added fun cdv A outer s H E hr => ?_)
  exact (k_cons (k_if (PW.pt (w_or (t_ne hr (c_len rfl T.n_len (a_cons (c_v 0) a_nil)) (c_len rfl T.n_len (a_cons (c_v 1) a_nil))) (w_or1 (t_ne hr (c_len rfl T.n_len (a_cons (c_ix (c_v 0) c_int) a_nil)) (c_len rfl T.n_len (a_cons (c_ix (c_v 1) c_int) a_nil))))))
    (k_one (k_ret c_non))
    k_nil)
    (k_cons (k_set (i := 2) sc__law_added.nd (c_new a_nil))
    (k_cons (k_for PassesOwn.never rfl (i_rng1 rfl T.n_range (a_cons (c_len rfl T.n_len (a_cons (c_v 0) a_nil)) a_nil)) (g_nm (i := 3) sc__law_added.nd)
    (k_cons (k_setC (i := 4) (own := [("_law_j", 6)]) rfl sc__law_added.nd (fun _ _ _ h => goCmp (by decide) h) (i_rng1 rfl T.n_range (a_cons (c_len rfl T.n_len (a_cons (c_ix (c_v 0) c_int) a_nil)) a_nil)) (blkOk_by (own := [("_law_j", 6)]) (N := N__law_added) (sc := defScope s__law_added) (by decide +kernel)) (fun _ _ _ _ _ => (g_nm (i := 6) sc__law_added.nd)) (fun _ _ _ _ _ => l_nil) (fun _ _ _ _ _ => (c_add (c_ix (c_ix (c_v 0) (c_v 3)) (c_v 6)) (c_ix (c_ix (c_v 1) (c_v 3)) (c_v 6)))) (sw_true rfl rfl rfl (by decide +kernel)))
    (k_cons (k_for PassesOwn.never rfl (i_seq (c_v 4)) (g_nm (i := 5) sc__law_added.nd)
    (k_one (k_if (PW.pt (w_or (t_le (c_v 5) (c_sub c_int c_int)) (w_or1 (t_ge (c_v 5) c_int))))
    (k_one (k_ret c_non))
    k_nil)))
    (k_one (k_exp (c_bm PySem.F.plainAttrs_list PySem.F.slot_list_append PySem.F.type_list_append mt_append s_app (c_v 2) (a_cons (c_tupc rfl T.n_tuple (a_cons (c_v 4) a_nil)) a_nil)))))))
    (k_one (k_ret (c_tupc rfl T.n_tuple (a_cons (c_v 2) a_nil)))))))
theorem ok__law_tree (T : TX K w mg f_shape_of f_is_bounded f_add f_sub f_times f_turn f_product f_inner f_positive f_gate f_total f_spread f_stretch f_scale f_pick f_place f_fill f_fits f_operate f_needed f_run_lines f_put_line f_add_tree f_sum_tree f__law_tape f__law_next f__law_added f__law_tree f_law d_shape_of d_is_bounded d_add d_sub d_times d_turn d_product d_inner d_positive d_gate d_total d_spread d_stretch d_scale d_pick d_place d_fill d_fits d_operate d_needed d_run_lines d_put_line d_add_tree d_sum_tree d__law_tape d__law_next d__law_added d__law_tree d_law) : ∀ n : Nat, FnOk P w K mg base CX0 (n + 1) f__law_tree d__law_tree ["_law_parts"] (spF K 1 (m__law_tree n))
  | 0 => ⟨fun vs H Q E h => h.1, fun A outer s H args us vs Q E hr he hb hv hs => by
    obtain ⟨_, _, _, _, _, _, _, _, _, hf, _⟩ := hs
    cases hf⟩
  | n + 1 => by
    have IH := ok__law_tree T n
    show FnOk P w K mg base CX0 ((n + 1) + 1) _ _ _ _
    refine (fn_ok (k := n + 1) T.F__law_tree sc__law_tree fun cdv A outer s H E hr => ?_)
    exact (k_cons (k_if (t_eq hr (c_len rfl T.n_len (a_cons (c_v 0) a_nil)) c_int)
    (k_one (k_ret (c_lst (a_cons (c_ix (c_v 0) c_int) (a_cons c_int a_nil)))))
    k_nil)
    (k_cons (k_set (i := 1) sc__law_tree.nd (c_fdiv (c_add (c_len rfl T.n_len (a_cons (c_v 0) a_nil)) c_int) c_int))
    (k_cons (k_set (i := 2) sc__law_tree.nd (c_call IH (hr.mono (by omega)) rfl T.g__law_tree T.F__law_tree.kp T.b__law_tree (a_cons (c_sl (c_v 0) o_none (o_some (c_v 1))) a_nil)))
    (k_cons (k_if (t_isN (c_ix (c_v 2) c_int) c_non)
    (k_one (k_ret (c_v 2)))
    k_nil)
    (k_cons (k_set (i := 3) sc__law_tree.nd (c_call IH (hr.mono (by omega)) rfl T.g__law_tree T.F__law_tree.kp T.b__law_tree (a_cons (c_sl (c_v 0) (o_some (c_v 1)) o_none) a_nil)))
    (k_cons (k_if (t_isN (c_ix (c_v 3) c_int) c_non)
    (k_one (k_ret (c_lst (a_cons c_non (a_cons (c_add (c_ix (c_v 2) c_int) (c_ix (c_v 3) c_int)) a_nil)))))
    k_nil)
    (k_one (k_ret (c_lst (a_cons (c_call (ok__law_added T) (hr.mono (by omega)) rfl T.g__law_added T.F__law_added.kp T.b__law_added (a_cons (c_ix (c_v 2) c_int) (a_cons (c_ix (c_v 3) c_int) a_nil))) (a_cons (c_add (c_add (c_ix (c_v 2) c_int) (c_ix (c_v 3) c_int)) c_int) a_nil)))))))))))
theorem ok_law (T : TX K w mg f_shape_of f_is_bounded f_add f_sub f_times f_turn f_product f_inner f_positive f_gate f_total f_spread f_stretch f_scale f_pick f_place f_fill f_fits f_operate f_needed f_run_lines f_put_line f_add_tree f_sum_tree f__law_tape f__law_next f__law_added f__law_tree f_law d_shape_of d_is_bounded d_add d_sub d_times d_turn d_product d_inner d_positive d_gate d_total d_spread d_stretch d_scale d_pick d_place d_fill d_fits d_operate d_needed d_run_lines d_put_line d_add_tree d_sum_tree d__law_tape d__law_next d__law_added d__law_tree d_law) : FnOk P w K mg base CX0 11 f_law d_law ["_law_script"] (spF K 1 m_law) := by
  refine (fn_ok (k := 10) T.F_law sc_law fun cdv A outer s H E hr => ?_)
  exact (k_cons (k_set (i := 1) sc_law.nd (c_call (ok__law_tape T) (hr.mono (by omega)) rfl T.g__law_tape T.F__law_tape.kp T.b__law_tape (a_cons (c_v 0) a_nil)))
    (k_cons (k_set (i := 2) sc_law.nd (c_add c_int (c_call (ok__law_next T) (hr.mono (by omega)) rfl T.g__law_next T.F__law_next.kp T.b__law_next (a_cons (c_v 1) (a_cons c_int a_nil)))))
    (k_cons (k_set (i := 3) sc_law.nd (c_add c_int (c_call (ok__law_next T) (hr.mono (by omega)) rfl T.g__law_next T.F__law_next.kp T.b__law_next (a_cons (c_v 1) (a_cons c_int a_nil)))))
    (k_cons (k_set (i := 4) sc_law.nd (c_eq hr (c_call (ok__law_next T) (hr.mono (by omega)) rfl T.g__law_next T.F__law_next.kp T.b__law_next (a_cons (c_v 1) (a_cons c_int a_nil))) c_int))
    (k_cons (k_set (i := 5) sc_law.nd (c_new a_nil))
    (k_cons (k_for PassesOwn.never rfl (i_rng1 rfl T.n_range (a_cons (c_add c_int (c_call (ok__law_next T) (hr.mono (by omega)) rfl T.g__law_next T.F__law_next.kp T.b__law_next (a_cons (c_v 1) (a_cons c_int a_nil)))) a_nil)) (g_nm (i := 6) sc_law.nd)
    (k_cons (k_set (i := 7) sc_law.nd (c_new a_nil))
    (k_cons (k_for PassesOwn.never rfl (i_rng1 rfl T.n_range (a_cons (c_v 2) a_nil)) (g_nm (i := 8) sc_law.nd)
    (k_cons (k_set (i := 9) sc_law.nd (c_new a_nil))
    (k_cons (k_for PassesOwn.never rfl (i_rng1 rfl T.n_range (a_cons (c_v 3) a_nil)) (g_nm (i := 10) sc_law.nd)
    (k_cons (k_set (i := 11) sc_law.nd (c_sub (c_call (ok__law_next T) (hr.mono (by omega)) rfl T.g__law_next T.F__law_next.kp T.b__law_next (a_cons (c_v 1) (a_cons c_int a_nil))) c_int))
    (k_cons (k_if (PW.pt (w_and (t_tru (c_v 4)) (w_and1 (t_gt (c_v 11) c_int))))
    (k_one (k_set (i := 11) sc_law.nd (c_mul (c_v 11) c_int)))
    k_nil)
    (k_one (k_exp (c_bm PySem.F.plainAttrs_list PySem.F.slot_list_append PySem.F.type_list_append mt_append s_app (c_v 9) (a_cons (c_v 11) a_nil)))))))
    (k_one (k_exp (c_bm PySem.F.plainAttrs_list PySem.F.slot_list_append PySem.F.type_list_append mt_append s_app (c_v 7) (a_cons (c_tupc rfl T.n_tuple (a_cons (c_v 9) a_nil)) a_nil)))))))
    (k_cons (k_if (t_eq hr (c_call (ok__law_next T) (hr.mono (by omega)) rfl T.g__law_next T.F__law_next.kp T.b__law_next (a_cons (c_v 1) (a_cons c_int a_nil))) c_int)
    (k_one (k_exp (c_bm PySem.F.plainAttrs_list PySem.F.slot_list_append PySem.F.type_list_append mt_append s_app (c_v 7) (a_cons (c_ix (c_v 7) c_int) a_nil))))
    k_nil)
    (k_one (k_exp (c_bm PySem.F.plainAttrs_list PySem.F.slot_list_append PySem.F.type_list_append mt_append s_app (c_v 5) (a_cons (c_tupc rfl T.n_tuple (a_cons (c_v 7) a_nil)) a_nil))))))))
    (k_cons (k_set (i := 12) sc_law.nd (c_call (ok__law_tree T 8) (hr.mono (by omega)) rfl T.g__law_tree T.F__law_tree.kp T.b__law_tree (a_cons (c_v 5) a_nil)))
    (k_cons (k_set (i := 13) sc_law.nd (c_call (ok_sum_tree T) (hr.mono (by omega)) rfl T.g_sum_tree T.F_sum_tree.kp T.b_sum_tree (a_cons (c_tupc rfl T.n_tuple (a_cons (c_v 5) a_nil)) a_nil)))
    (k_cons (k_if (PW.pt (w_or (t_not (t_tru (c_isi rfl T.n_isinstance (a_cons (c_v 13) (a_cons (c_bty rfl T.n_tuple (by decide +kernel)) a_nil))))) (w_or (t_ne hr (c_len rfl T.n_len (a_cons (c_v 13) a_nil)) c_int) (w_or1 (t_tru (c_isi rfl T.n_isinstance (a_cons (c_ix (c_v 13) c_int) (a_cons (c_bty rfl T.n_bool (by decide +kernel)) a_nil))))))))
    (k_one (k_ret c_bl))
    k_nil)
    (k_one (k_ret (c_and (c_eq hr (c_ix (c_v 13) c_int) (c_ix (c_v 12) c_int)) (c_one (c_eq hr (c_ix (c_v 13) c_int) (c_ix (c_v 12) c_int)))))))))))))))
end
theorem all_mk {l : PySem.W.OpenLaw} {w : World} {K : Frag} {h : Heap} {mg : PySem.Str → Option Value} {fa f_shape_of f_is_bounded f_add f_sub f_times f_turn f_product f_inner f_positive f_gate f_total f_spread f_stretch f_scale f_pick f_place f_fill f_fits f_operate f_needed f_run_lines f_put_line f_add_tree f_sum_tree f__law_tape f__law_next f__law_added f__law_tree f_law : Addr} (X : K.In h) (G : h.Ns mainGlobals mg) (hfa : mg "law" = some (.ref fa))
    {od0 an0 od1 an1 od2 an2 od3 an3 od4 an4 od5 an5 od6 an6 od7 an7 od8 an8 od9 an9 od10 an10 od11 an11 od12 an12 od13 an13 od14 an14 od15 an15 od16 an16 od17 an17 od18 an18 od19 an19 od20 an20 od21 an21 od22 an22 od23 an23 od24 an24 od25 an25 od26 an26 od27 an27 od28 an28 : Option Addr} {sl0 sl1 sl2 sl3 sl4 sl5 sl6 sl7 sl8 sl9 sl10 sl11 sl12 sl13 sl14 sl15 sl16 sl17 sl18 sl19 sl20 sl21 sl22 sl23 sl24 sl25 sl26 sl27 sl28 : Array (Option Value)} {oc0 kV0 dc0 pm0 cd0 ct0 oc1 kV1 dc1 pm1 cd1 ct1 oc2 kV2 dc2 pm2 cd2 ct2 oc3 kV3 dc3 pm3 cd3 ct3 oc4 kV4 dc4 pm4 cd4 ct4 oc5 kV5 dc5 pm5 cd5 ct5 oc6 kV6 dc6 pm6 cd6 ct6 oc7 kV7 dc7 pm7 cd7 ct7 oc8 kV8 dc8 pm8 cd8 ct8 oc9 kV9 dc9 pm9 cd9 ct9 oc10 kV10 dc10 pm10 cd10 ct10 oc11 kV11 dc11 pm11 cd11 ct11 oc12 kV12 dc12 pm12 cd12 ct12 oc13 kV13 dc13 pm13 cd13 ct13 oc14 kV14 dc14 pm14 cd14 ct14 oc15 kV15 dc15 pm15 cd15 ct15 oc16 kV16 dc16 pm16 cd16 ct16 oc17 kV17 dc17 pm17 cd17 ct17 oc18 kV18 dc18 pm18 cd18 ct18 oc19 kV19 dc19 pm19 cd19 ct19 oc20 kV20 dc20 pm20 cd20 ct20 oc21 kV21 dc21 pm21 cd21 ct21 oc22 kV22 dc22 pm22 cd22 ct22 oc23 kV23 dc23 pm23 cd23 ct23 oc24 kV24 dc24 pm24 cd24 ct24 oc25 kV25 dc25 pm25 cd25 ct25 oc26 kV26 dc26 pm26 cd26 ct26 oc27 kV27 dc27 pm27 cd27 ct27 oc28 kV28 dc28 pm28 cd28 ct28 : Value} {t_LIMIT : Tok}
    (a0 : PySem.W.nsIn K mainGlobals "shape_of" = some (some (.ref f_shape_of))) (l0 : K.lookup f_shape_of = some ⟨oc0, od0, .func (PySem.W.fnOf "shape_of" "shape_of" (defArgs s_shape_of) (defBody s_shape_of) (defScope s_shape_of) .none kV0 dc0 pm0 an0 cd0 ct0), sl0⟩) (c0 : PySem.W.codeIn K cd0 "shape_of" = true) (k0 : PySem.W.keepIn K (.ref f_shape_of) = true)
    (a1 : PySem.W.nsIn K mainGlobals "is_bounded" = some (some (.ref f_is_bounded))) (l1 : K.lookup f_is_bounded = some ⟨oc1, od1, .func (PySem.W.fnOf "is_bounded" "is_bounded" (defArgs s_is_bounded) (defBody s_is_bounded) (defScope s_is_bounded) .none kV1 dc1 pm1 an1 cd1 ct1), sl1⟩) (c1 : PySem.W.codeIn K cd1 "is_bounded" = true) (k1 : PySem.W.keepIn K (.ref f_is_bounded) = true)
    (a2 : PySem.W.nsIn K mainGlobals "add" = some (some (.ref f_add))) (l2 : K.lookup f_add = some ⟨oc2, od2, .func (PySem.W.fnOf "add" "add" (defArgs s_add) (defBody s_add) (defScope s_add) .none kV2 dc2 pm2 an2 cd2 ct2), sl2⟩) (c2 : PySem.W.codeIn K cd2 "add" = true) (k2 : PySem.W.keepIn K (.ref f_add) = true)
    (a3 : PySem.W.nsIn K mainGlobals "sub" = some (some (.ref f_sub))) (l3 : K.lookup f_sub = some ⟨oc3, od3, .func (PySem.W.fnOf "sub" "sub" (defArgs s_sub) (defBody s_sub) (defScope s_sub) .none kV3 dc3 pm3 an3 cd3 ct3), sl3⟩) (c3 : PySem.W.codeIn K cd3 "sub" = true) (k3 : PySem.W.keepIn K (.ref f_sub) = true)
    (a4 : PySem.W.nsIn K mainGlobals "times" = some (some (.ref f_times))) (l4 : K.lookup f_times = some ⟨oc4, od4, .func (PySem.W.fnOf "times" "times" (defArgs s_times) (defBody s_times) (defScope s_times) .none kV4 dc4 pm4 an4 cd4 ct4), sl4⟩) (c4 : PySem.W.codeIn K cd4 "times" = true) (k4 : PySem.W.keepIn K (.ref f_times) = true)
    (a5 : PySem.W.nsIn K mainGlobals "turn" = some (some (.ref f_turn))) (l5 : K.lookup f_turn = some ⟨oc5, od5, .func (PySem.W.fnOf "turn" "turn" (defArgs s_turn) (defBody s_turn) (defScope s_turn) .none kV5 dc5 pm5 an5 cd5 ct5), sl5⟩) (c5 : PySem.W.codeIn K cd5 "turn" = true) (k5 : PySem.W.keepIn K (.ref f_turn) = true)
    (a6 : PySem.W.nsIn K mainGlobals "product" = some (some (.ref f_product))) (l6 : K.lookup f_product = some ⟨oc6, od6, .func (PySem.W.fnOf "product" "product" (defArgs s_product) (defBody s_product) (defScope s_product) .none kV6 dc6 pm6 an6 cd6 ct6), sl6⟩) (c6 : PySem.W.codeIn K cd6 "product" = true) (k6 : PySem.W.keepIn K (.ref f_product) = true)
    (a7 : PySem.W.nsIn K mainGlobals "inner" = some (some (.ref f_inner))) (l7 : K.lookup f_inner = some ⟨oc7, od7, .func (PySem.W.fnOf "inner" "inner" (defArgs s_inner) (defBody s_inner) (defScope s_inner) .none kV7 dc7 pm7 an7 cd7 ct7), sl7⟩) (c7 : PySem.W.codeIn K cd7 "inner" = true) (k7 : PySem.W.keepIn K (.ref f_inner) = true)
    (a8 : PySem.W.nsIn K mainGlobals "positive" = some (some (.ref f_positive))) (l8 : K.lookup f_positive = some ⟨oc8, od8, .func (PySem.W.fnOf "positive" "positive" (defArgs s_positive) (defBody s_positive) (defScope s_positive) .none kV8 dc8 pm8 an8 cd8 ct8), sl8⟩) (c8 : PySem.W.codeIn K cd8 "positive" = true) (k8 : PySem.W.keepIn K (.ref f_positive) = true)
    (a9 : PySem.W.nsIn K mainGlobals "gate" = some (some (.ref f_gate))) (l9 : K.lookup f_gate = some ⟨oc9, od9, .func (PySem.W.fnOf "gate" "gate" (defArgs s_gate) (defBody s_gate) (defScope s_gate) .none kV9 dc9 pm9 an9 cd9 ct9), sl9⟩) (c9 : PySem.W.codeIn K cd9 "gate" = true) (k9 : PySem.W.keepIn K (.ref f_gate) = true)
    (a10 : PySem.W.nsIn K mainGlobals "total" = some (some (.ref f_total))) (l10 : K.lookup f_total = some ⟨oc10, od10, .func (PySem.W.fnOf "total" "total" (defArgs s_total) (defBody s_total) (defScope s_total) .none kV10 dc10 pm10 an10 cd10 ct10), sl10⟩) (c10 : PySem.W.codeIn K cd10 "total" = true) (k10 : PySem.W.keepIn K (.ref f_total) = true)
    (a11 : PySem.W.nsIn K mainGlobals "spread" = some (some (.ref f_spread))) (l11 : K.lookup f_spread = some ⟨oc11, od11, .func (PySem.W.fnOf "spread" "spread" (defArgs s_spread) (defBody s_spread) (defScope s_spread) .none kV11 dc11 pm11 an11 cd11 ct11), sl11⟩) (c11 : PySem.W.codeIn K cd11 "spread" = true) (k11 : PySem.W.keepIn K (.ref f_spread) = true)
    (a12 : PySem.W.nsIn K mainGlobals "stretch" = some (some (.ref f_stretch))) (l12 : K.lookup f_stretch = some ⟨oc12, od12, .func (PySem.W.fnOf "stretch" "stretch" (defArgs s_stretch) (defBody s_stretch) (defScope s_stretch) .none kV12 dc12 pm12 an12 cd12 ct12), sl12⟩) (c12 : PySem.W.codeIn K cd12 "stretch" = true) (k12 : PySem.W.keepIn K (.ref f_stretch) = true)
    (a13 : PySem.W.nsIn K mainGlobals "scale" = some (some (.ref f_scale))) (l13 : K.lookup f_scale = some ⟨oc13, od13, .func (PySem.W.fnOf "scale" "scale" (defArgs s_scale) (defBody s_scale) (defScope s_scale) .none kV13 dc13 pm13 an13 cd13 ct13), sl13⟩) (c13 : PySem.W.codeIn K cd13 "scale" = true) (k13 : PySem.W.keepIn K (.ref f_scale) = true)
    (a14 : PySem.W.nsIn K mainGlobals "pick" = some (some (.ref f_pick))) (l14 : K.lookup f_pick = some ⟨oc14, od14, .func (PySem.W.fnOf "pick" "pick" (defArgs s_pick) (defBody s_pick) (defScope s_pick) .none kV14 dc14 pm14 an14 cd14 ct14), sl14⟩) (c14 : PySem.W.codeIn K cd14 "pick" = true) (k14 : PySem.W.keepIn K (.ref f_pick) = true)
    (a15 : PySem.W.nsIn K mainGlobals "place" = some (some (.ref f_place))) (l15 : K.lookup f_place = some ⟨oc15, od15, .func (PySem.W.fnOf "place" "place" (defArgs s_place) (defBody s_place) (defScope s_place) .none kV15 dc15 pm15 an15 cd15 ct15), sl15⟩) (c15 : PySem.W.codeIn K cd15 "place" = true) (k15 : PySem.W.keepIn K (.ref f_place) = true)
    (a16 : PySem.W.nsIn K mainGlobals "fill" = some (some (.ref f_fill))) (l16 : K.lookup f_fill = some ⟨oc16, od16, .func (PySem.W.fnOf "fill" "fill" (defArgs s_fill) (defBody s_fill) (defScope s_fill) .none kV16 dc16 pm16 an16 cd16 ct16), sl16⟩) (c16 : PySem.W.codeIn K cd16 "fill" = true) (k16 : PySem.W.keepIn K (.ref f_fill) = true)
    (a17 : PySem.W.nsIn K mainGlobals "fits" = some (some (.ref f_fits))) (l17 : K.lookup f_fits = some ⟨oc17, od17, .func (PySem.W.fnOf "fits" "fits" (defArgs s_fits) (defBody s_fits) (defScope s_fits) .none kV17 dc17 pm17 an17 cd17 ct17), sl17⟩) (c17 : PySem.W.codeIn K cd17 "fits" = true) (k17 : PySem.W.keepIn K (.ref f_fits) = true)
    (a18 : PySem.W.nsIn K mainGlobals "operate" = some (some (.ref f_operate))) (l18 : K.lookup f_operate = some ⟨oc18, od18, .func (PySem.W.fnOf "operate" "operate" (defArgs s_operate) (defBody s_operate) (defScope s_operate) .none kV18 dc18 pm18 an18 cd18 ct18), sl18⟩) (c18 : PySem.W.codeIn K cd18 "operate" = true) (k18 : PySem.W.keepIn K (.ref f_operate) = true)
    (a19 : PySem.W.nsIn K mainGlobals "needed" = some (some (.ref f_needed))) (l19 : K.lookup f_needed = some ⟨oc19, od19, .func (PySem.W.fnOf "needed" "needed" (defArgs s_needed) (defBody s_needed) (defScope s_needed) .none kV19 dc19 pm19 an19 cd19 ct19), sl19⟩) (c19 : PySem.W.codeIn K cd19 "needed" = true) (k19 : PySem.W.keepIn K (.ref f_needed) = true)
    (a20 : PySem.W.nsIn K mainGlobals "run_lines" = some (some (.ref f_run_lines))) (l20 : K.lookup f_run_lines = some ⟨oc20, od20, .func (PySem.W.fnOf "run_lines" "run_lines" (defArgs s_run_lines) (defBody s_run_lines) (defScope s_run_lines) .none kV20 dc20 pm20 an20 cd20 ct20), sl20⟩) (c20 : PySem.W.codeIn K cd20 "run_lines" = true) (k20 : PySem.W.keepIn K (.ref f_run_lines) = true)
    (a21 : PySem.W.nsIn K mainGlobals "put_line" = some (some (.ref f_put_line))) (l21 : K.lookup f_put_line = some ⟨oc21, od21, .func (PySem.W.fnOf "put_line" "put_line" (defArgs s_put_line) (defBody s_put_line) (defScope s_put_line) .none kV21 dc21 pm21 an21 cd21 ct21), sl21⟩) (c21 : PySem.W.codeIn K cd21 "put_line" = true) (k21 : PySem.W.keepIn K (.ref f_put_line) = true)
    (a22 : PySem.W.nsIn K mainGlobals "add_tree" = some (some (.ref f_add_tree))) (l22 : K.lookup f_add_tree = some ⟨oc22, od22, .func (PySem.W.fnOf "add_tree" "add_tree" (defArgs s_add_tree) (defBody s_add_tree) (defScope s_add_tree) .none kV22 dc22 pm22 an22 cd22 ct22), sl22⟩) (c22 : PySem.W.codeIn K cd22 "add_tree" = true) (k22 : PySem.W.keepIn K (.ref f_add_tree) = true)
    (a23 : PySem.W.nsIn K mainGlobals "sum_tree" = some (some (.ref f_sum_tree))) (l23 : K.lookup f_sum_tree = some ⟨oc23, od23, .func (PySem.W.fnOf "sum_tree" "sum_tree" (defArgs s_sum_tree) (defBody s_sum_tree) (defScope s_sum_tree) .none kV23 dc23 pm23 an23 cd23 ct23), sl23⟩) (c23 : PySem.W.codeIn K cd23 "sum_tree" = true) (k23 : PySem.W.keepIn K (.ref f_sum_tree) = true)
    (a24 : PySem.W.nsIn K mainGlobals "_law_tape" = some (some (.ref f__law_tape))) (l24 : K.lookup f__law_tape = some ⟨oc24, od24, .func (PySem.W.fnOf "_law_tape" "_law_tape" (defArgs s__law_tape) (defBody s__law_tape) (defScope s__law_tape) .none kV24 dc24 pm24 an24 cd24 ct24), sl24⟩) (c24 : PySem.W.codeIn K cd24 "_law_tape" = true) (k24 : PySem.W.keepIn K (.ref f__law_tape) = true)
    (a25 : PySem.W.nsIn K mainGlobals "_law_next" = some (some (.ref f__law_next))) (l25 : K.lookup f__law_next = some ⟨oc25, od25, .func (PySem.W.fnOf "_law_next" "_law_next" (defArgs s__law_next) (defBody s__law_next) (defScope s__law_next) .none kV25 dc25 pm25 an25 cd25 ct25), sl25⟩) (c25 : PySem.W.codeIn K cd25 "_law_next" = true) (k25 : PySem.W.keepIn K (.ref f__law_next) = true)
    (a26 : PySem.W.nsIn K mainGlobals "_law_added" = some (some (.ref f__law_added))) (l26 : K.lookup f__law_added = some ⟨oc26, od26, .func (PySem.W.fnOf "_law_added" "_law_added" (defArgs s__law_added) (defBody s__law_added) (defScope s__law_added) .none kV26 dc26 pm26 an26 cd26 ct26), sl26⟩) (c26 : PySem.W.codeIn K cd26 "_law_added" = true) (k26 : PySem.W.keepIn K (.ref f__law_added) = true)
    (a27 : PySem.W.nsIn K mainGlobals "_law_tree" = some (some (.ref f__law_tree))) (l27 : K.lookup f__law_tree = some ⟨oc27, od27, .func (PySem.W.fnOf "_law_tree" "_law_tree" (defArgs s__law_tree) (defBody s__law_tree) (defScope s__law_tree) .none kV27 dc27 pm27 an27 cd27 ct27), sl27⟩) (c27 : PySem.W.codeIn K cd27 "_law_tree" = true) (k27 : PySem.W.keepIn K (.ref f__law_tree) = true)
    (a28 : PySem.W.nsIn K mainGlobals "law" = some (some (.ref f_law))) (l28 : K.lookup f_law = some ⟨oc28, od28, .func (PySem.W.fnOf "law" "law" (defArgs s_law) (defBody s_law) (defScope s_law) .none kV28 dc28 pm28 an28 cd28 ct28), sl28⟩) (c28 : PySem.W.codeIn K cd28 "law" = true) (k28 : PySem.W.keepIn K (.ref f_law) = true)
    (z_abs : PySem.W.nsIn K mainGlobals "abs" = some none)
    (z_bool : PySem.W.nsIn K mainGlobals "bool" = some none)
    (z_int : PySem.W.nsIn K mainGlobals "int" = some none)
    (z_isinstance : PySem.W.nsIn K mainGlobals "isinstance" = some none)
    (z_len : PySem.W.nsIn K mainGlobals "len" = some none)
    (z_list : PySem.W.nsIn K mainGlobals "list" = some none)
    (z_max : PySem.W.nsIn K mainGlobals "max" = some none)
    (z_range : PySem.W.nsIn K mainGlobals "range" = some none)
    (z_sum : PySem.W.nsIn K mainGlobals "sum" = some none)
    (z_tuple : PySem.W.nsIn K mainGlobals "tuple" = some none)
    (z_zip : PySem.W.nsIn K mainGlobals "zip" = some none)
    (y_LIMIT : PySem.W.nsIn K mainGlobals "LIMIT" = some (some (.int 10000000 t_LIMIT)))
    {d_COUNTS : Addr} {es_COUNTS : Array DictEntry} {n_COUNTS : Nat} {tk_COUNTS_0 tk_COUNTS_1 tk_COUNTS_2 tk_COUNTS_3 tk_COUNTS_4 tk_COUNTS_5 tk_COUNTS_6 tk_COUNTS_7 tk_COUNTS_8 tk_COUNTS_9 tk_COUNTS_10 tk_COUNTS_11 tk_COUNTS_12 tk_COUNTS_13 : Tok}
    (w_COUNTS : PySem.W.nsIn K mainGlobals "COUNTS" = some (some (.ref d_COUNTS))) (x_COUNTS : K.lookup d_COUNTS = some ⟨.type "dict", none, .dict es_COUNTS n_COUNTS, #[]⟩) (u_COUNTS : PySem.W.KeysLit w.params es_COUNTS.toList)
    (v_COUNTS_0 : PySem.W.nsIn K d_COUNTS "add" = some (some (.int 2 tk_COUNTS_0)))
    (v_COUNTS_1 : PySem.W.nsIn K d_COUNTS "sub" = some (some (.int 2 tk_COUNTS_1)))
    (v_COUNTS_2 : PySem.W.nsIn K d_COUNTS "times" = some (some (.int 2 tk_COUNTS_2)))
    (v_COUNTS_3 : PySem.W.nsIn K d_COUNTS "product" = some (some (.int 2 tk_COUNTS_3)))
    (v_COUNTS_4 : PySem.W.nsIn K d_COUNTS "turn" = some (some (.int 1 tk_COUNTS_4)))
    (v_COUNTS_5 : PySem.W.nsIn K d_COUNTS "positive" = some (some (.int 1 tk_COUNTS_5)))
    (v_COUNTS_6 : PySem.W.nsIn K d_COUNTS "gate" = some (some (.int 2 tk_COUNTS_6)))
    (v_COUNTS_7 : PySem.W.nsIn K d_COUNTS "total" = some (some (.int 1 tk_COUNTS_7)))
    (v_COUNTS_8 : PySem.W.nsIn K d_COUNTS "spread" = some (some (.int 1 tk_COUNTS_8)))
    (v_COUNTS_9 : PySem.W.nsIn K d_COUNTS "stretch" = some (some (.int 1 tk_COUNTS_9)))
    (v_COUNTS_10 : PySem.W.nsIn K d_COUNTS "scale" = some (some (.int 1 tk_COUNTS_10)))
    (v_COUNTS_11 : PySem.W.nsIn K d_COUNTS "pick" = some (some (.int 2 tk_COUNTS_11)))
    (v_COUNTS_12 : PySem.W.nsIn K d_COUNTS "place" = some (some (.int 2 tk_COUNTS_12)))
    (v_COUNTS_13 : PySem.W.nsIn K d_COUNTS "fill" = some (some (.int 0 tk_COUNTS_13)))
    {d_OPERATIONS : Addr} {es_OPERATIONS : Array DictEntry} {n_OPERATIONS : Nat}
    (w_OPERATIONS : PySem.W.nsIn K mainGlobals "OPERATIONS" = some (some (.ref d_OPERATIONS))) (x_OPERATIONS : K.lookup d_OPERATIONS = some ⟨.type "dict", none, .dict es_OPERATIONS n_OPERATIONS, #[]⟩) (u_OPERATIONS : PySem.W.KeysLit w.params es_OPERATIONS.toList)
    (v_OPERATIONS_0 : PySem.W.nsIn K d_OPERATIONS "add" = some (some (.ref f_add)))
    (v_OPERATIONS_1 : PySem.W.nsIn K d_OPERATIONS "sub" = some (some (.ref f_sub)))
    (v_OPERATIONS_2 : PySem.W.nsIn K d_OPERATIONS "times" = some (some (.ref f_times)))
    (v_OPERATIONS_3 : PySem.W.nsIn K d_OPERATIONS "product" = some (some (.ref f_product)))
    (v_OPERATIONS_4 : PySem.W.nsIn K d_OPERATIONS "turn" = some (some (.ref f_turn)))
    (v_OPERATIONS_5 : PySem.W.nsIn K d_OPERATIONS "positive" = some (some (.ref f_positive)))
    (v_OPERATIONS_6 : PySem.W.nsIn K d_OPERATIONS "gate" = some (some (.ref f_gate)))
    (v_OPERATIONS_7 : PySem.W.nsIn K d_OPERATIONS "total" = some (some (.ref f_total)))
    (v_OPERATIONS_8 : PySem.W.nsIn K d_OPERATIONS "spread" = some (some (.ref f_spread)))
    (v_OPERATIONS_9 : PySem.W.nsIn K d_OPERATIONS "stretch" = some (some (.ref f_stretch)))
    (v_OPERATIONS_10 : PySem.W.nsIn K d_OPERATIONS "scale" = some (some (.ref f_scale)))
    (v_OPERATIONS_11 : PySem.W.nsIn K d_OPERATIONS "pick" = some (some (.ref f_pick)))
    (v_OPERATIONS_12 : PySem.W.nsIn K d_OPERATIONS "place" = some (some (.ref f_place)))
    (v_OPERATIONS_13 : PySem.W.nsIn K d_OPERATIONS "fill" = some (some (.ref f_fill)))
    : ∃ fd : FuncData, (∀ (s : Shared) (v : Value), BindsTo s fd ⟨[v], []⟩ [("_law_script", v)]) ∧ ∀ base : Heap, K.In base → base.Ns mainGlobals mg → FnOk l.prog w K mg base CX0 11 fa fd ["_law_script"] (spLaw K) := by
  have e := hfa.symm.trans (PySem.W.mg_of X G a28)
  cases e
  have F0 := fun_mk (st := s_shape_of) l0 c0 k0
  have b0 := F0.binds (ps := ["matrix"]) fun _ _ _ _ _ _ us hl => match us, hl with | [_], _ => rfl
  have F1 := fun_mk (st := s_is_bounded) l1 c1 k1
  have b1 := F1.binds (ps := ["matrix"]) fun _ _ _ _ _ _ us hl => match us, hl with | [_], _ => rfl
  have F2 := fun_mk (st := s_add) l2 c2 k2
  have b2 := F2.binds (ps := ["numbers", "matrices"]) fun _ _ _ _ _ _ us hl => match us, hl with | [_, _], _ => rfl
  have F3 := fun_mk (st := s_sub) l3 c3 k3
  have b3 := F3.binds (ps := ["numbers", "matrices"]) fun _ _ _ _ _ _ us hl => match us, hl with | [_, _], _ => rfl
  have F4 := fun_mk (st := s_times) l4 c4 k4
  have b4 := F4.binds (ps := ["numbers", "matrices"]) fun _ _ _ _ _ _ us hl => match us, hl with | [_, _], _ => rfl
  have F5 := fun_mk (st := s_turn) l5 c5 k5
  have b5 := F5.binds (ps := ["numbers", "matrices"]) fun _ _ _ _ _ _ us hl => match us, hl with | [_, _], _ => rfl
  have F6 := fun_mk (st := s_product) l6 c6 k6
  have b6 := F6.binds (ps := ["numbers", "matrices"]) fun _ _ _ _ _ _ us hl => match us, hl with | [_, _], _ => rfl
  have F7 := fun_mk (st := s_inner) l7 c7 k7
  have b7 := F7.binds (ps := ["row", "column"]) fun _ _ _ _ _ _ us hl => match us, hl with | [_, _], _ => rfl
  have F8 := fun_mk (st := s_positive) l8 c8 k8
  have b8 := F8.binds (ps := ["numbers", "matrices"]) fun _ _ _ _ _ _ us hl => match us, hl with | [_, _], _ => rfl
  have F9 := fun_mk (st := s_gate) l9 c9 k9
  have b9 := F9.binds (ps := ["numbers", "matrices"]) fun _ _ _ _ _ _ us hl => match us, hl with | [_, _], _ => rfl
  have F10 := fun_mk (st := s_total) l10 c10 k10
  have b10 := F10.binds (ps := ["numbers", "matrices"]) fun _ _ _ _ _ _ us hl => match us, hl with | [_, _], _ => rfl
  have F11 := fun_mk (st := s_spread) l11 c11 k11
  have b11 := F11.binds (ps := ["numbers", "matrices"]) fun _ _ _ _ _ _ us hl => match us, hl with | [_, _], _ => rfl
  have F12 := fun_mk (st := s_stretch) l12 c12 k12
  have b12 := F12.binds (ps := ["numbers", "matrices"]) fun _ _ _ _ _ _ us hl => match us, hl with | [_, _], _ => rfl
  have F13 := fun_mk (st := s_scale) l13 c13 k13
  have b13 := F13.binds (ps := ["numbers", "matrices"]) fun _ _ _ _ _ _ us hl => match us, hl with | [_, _], _ => rfl
  have F14 := fun_mk (st := s_pick) l14 c14 k14
  have b14 := F14.binds (ps := ["numbers", "matrices"]) fun _ _ _ _ _ _ us hl => match us, hl with | [_, _], _ => rfl
  have F15 := fun_mk (st := s_place) l15 c15 k15
  have b15 := F15.binds (ps := ["numbers", "matrices"]) fun _ _ _ _ _ _ us hl => match us, hl with | [_, _], _ => rfl
  have F16 := fun_mk (st := s_fill) l16 c16 k16
  have b16 := F16.binds (ps := ["numbers", "matrices"]) fun _ _ _ _ _ _ us hl => match us, hl with | [_, _], _ => rfl
  have F17 := fun_mk (st := s_fits) l17 c17 k17
  have b17 := F17.binds (ps := ["kind", "found"]) fun _ _ _ _ _ _ us hl => match us, hl with | [_, _], _ => rfl
  have F18 := fun_mk (st := s_operate) l18 c18 k18
  have b18 := F18.binds (ps := ["kind", "numbers", "matrices"]) fun _ _ _ _ _ _ us hl => match us, hl with | [_, _, _], _ => rfl
  have F19 := fun_mk (st := s_needed) l19 c19 k19
  have b19 := F19.binds (ps := ["leaves", "lines", "outputs"]) fun _ _ _ _ _ _ us hl => match us, hl with | [_, _, _], _ => rfl
  have F20 := fun_mk (st := s_run_lines) l20 c20 k20
  have b20 := F20.binds (ps := ["matrices", "lines", "outputs"]) fun _ _ _ _ _ _ us hl => match us, hl with | [_, _, _], _ => rfl
  have F21 := fun_mk (st := s_put_line) l21 c21 k21
  have b21 := F21.binds (ps := ["lines", "leaves", "kind", "numbers", "values"]) fun _ _ _ _ _ _ us hl => match us, hl with | [_, _, _, _, _], _ => rfl
  have F22 := fun_mk (st := s_add_tree) l22 c22 k22
  have b22 := F22.binds (ps := ["lines", "leaves", "values"]) fun _ _ _ _ _ _ us hl => match us, hl with | [_, _, _], _ => rfl
  have F23 := fun_mk (st := s_sum_tree) l23 c23 k23
  have b23 := F23.binds (ps := ["matrices"]) fun _ _ _ _ _ _ us hl => match us, hl with | [_], _ => rfl
  have F24 := fun_mk (st := s__law_tape) l24 c24 k24
  have b24 := F24.binds (ps := ["_law_script"]) fun _ _ _ _ _ _ us hl => match us, hl with | [_], _ => rfl
  have F25 := fun_mk (st := s__law_next) l25 c25 k25
  have b25 := F25.binds (ps := ["_law_tape_here", "_law_many"]) fun _ _ _ _ _ _ us hl => match us, hl with | [_, _], _ => rfl
  have F26 := fun_mk (st := s__law_added) l26 c26 k26
  have b26 := F26.binds (ps := ["_law_a", "_law_b"]) fun _ _ _ _ _ _ us hl => match us, hl with | [_, _], _ => rfl
  have F27 := fun_mk (st := s__law_tree) l27 c27 k27
  have b27 := F27.binds (ps := ["_law_parts"]) fun _ _ _ _ _ _ us hl => match us, hl with | [_], _ => rfl
  have F28 := fun_mk (st := s_law) l28 c28 k28
  have b28 := F28.binds (ps := ["_law_script"]) fun _ _ _ _ _ _ us hl => match us, hl with | [_], _ => rfl
  have T : TX K w mg _ _ _ _ _ _ _ _ _ _ _ _ _ _ _ _ _ _ _ _ _ _ _ _ _ _ _ _ _ _ _ _ _ _ _ _ _ _ _ _ _ _ _ _ _ _ _ _ _ _ _ _ _ _ _ _ _ _ := ⟨F0, PySem.W.mg_of X G a0, b0, F1, PySem.W.mg_of X G a1, b1, F2, PySem.W.mg_of X G a2, b2, F3, PySem.W.mg_of X G a3, b3, F4, PySem.W.mg_of X G a4, b4, F5, PySem.W.mg_of X G a5, b5, F6, PySem.W.mg_of X G a6, b6, F7, PySem.W.mg_of X G a7, b7, F8, PySem.W.mg_of X G a8, b8, F9, PySem.W.mg_of X G a9, b9, F10, PySem.W.mg_of X G a10, b10, F11, PySem.W.mg_of X G a11, b11, F12, PySem.W.mg_of X G a12, b12, F13, PySem.W.mg_of X G a13, b13, F14, PySem.W.mg_of X G a14, b14, F15, PySem.W.mg_of X G a15, b15, F16, PySem.W.mg_of X G a16, b16, F17, PySem.W.mg_of X G a17, b17, F18, PySem.W.mg_of X G a18, b18, F19, PySem.W.mg_of X G a19, b19, F20, PySem.W.mg_of X G a20, b20, F21, PySem.W.mg_of X G a21, b21, F22, PySem.W.mg_of X G a22, b22, F23, PySem.W.mg_of X G a23, b23, F24, PySem.W.mg_of X G a24, b24, F25, PySem.W.mg_of X G a25, b25, F26, PySem.W.mg_of X G a26, b26, F27, PySem.W.mg_of X G a27, b27, F28, PySem.W.mg_of X G a28, b28, a2, a16, a9, a14, a15, a8, a6, a13, a11, a12, a3, a4, a10, a5, ⟨d_COUNTS, PySem.W.mg_of X G w_COUNTS, (DctOk.cons x_COUNTS u_COUNTS v_COUNTS_0 (v := .int 2) ⟨_, rfl⟩ (fun _ _ => .int _) (DctOk.cons x_COUNTS u_COUNTS v_COUNTS_1 (v := .int 2) ⟨_, rfl⟩ (fun _ _ => .int _) (DctOk.cons x_COUNTS u_COUNTS v_COUNTS_2 (v := .int 2) ⟨_, rfl⟩ (fun _ _ => .int _) (DctOk.cons x_COUNTS u_COUNTS v_COUNTS_3 (v := .int 2) ⟨_, rfl⟩ (fun _ _ => .int _) (DctOk.cons x_COUNTS u_COUNTS v_COUNTS_4 (v := .int 1) ⟨_, rfl⟩ (fun _ _ => .int _) (DctOk.cons x_COUNTS u_COUNTS v_COUNTS_5 (v := .int 1) ⟨_, rfl⟩ (fun _ _ => .int _) (DctOk.cons x_COUNTS u_COUNTS v_COUNTS_6 (v := .int 2) ⟨_, rfl⟩ (fun _ _ => .int _) (DctOk.cons x_COUNTS u_COUNTS v_COUNTS_7 (v := .int 1) ⟨_, rfl⟩ (fun _ _ => .int _) (DctOk.cons x_COUNTS u_COUNTS v_COUNTS_8 (v := .int 1) ⟨_, rfl⟩ (fun _ _ => .int _) (DctOk.cons x_COUNTS u_COUNTS v_COUNTS_9 (v := .int 1) ⟨_, rfl⟩ (fun _ _ => .int _) (DctOk.cons x_COUNTS u_COUNTS v_COUNTS_10 (v := .int 1) ⟨_, rfl⟩ (fun _ _ => .int _) (DctOk.cons x_COUNTS u_COUNTS v_COUNTS_11 (v := .int 2) ⟨_, rfl⟩ (fun _ _ => .int _) (DctOk.cons x_COUNTS u_COUNTS v_COUNTS_12 (v := .int 2) ⟨_, rfl⟩ (fun _ _ => .int _) (DctOk.cons x_COUNTS u_COUNTS v_COUNTS_13 (v := .int 0) ⟨_, rfl⟩ (fun _ _ => .int _) DctOk.nil))))))))))))))⟩, ⟨d_OPERATIONS, PySem.W.mg_of X G w_OPERATIONS, (DctOk.cons (v := .ref f_add) x_OPERATIONS u_OPERATIONS v_OPERATIONS_0 rfl (fun _ _ => .adr a2) (DctOk.cons (v := .ref f_sub) x_OPERATIONS u_OPERATIONS v_OPERATIONS_1 rfl (fun _ _ => .adr a3) (DctOk.cons (v := .ref f_times) x_OPERATIONS u_OPERATIONS v_OPERATIONS_2 rfl (fun _ _ => .adr a4) (DctOk.cons (v := .ref f_product) x_OPERATIONS u_OPERATIONS v_OPERATIONS_3 rfl (fun _ _ => .adr a6) (DctOk.cons (v := .ref f_turn) x_OPERATIONS u_OPERATIONS v_OPERATIONS_4 rfl (fun _ _ => .adr a5) (DctOk.cons (v := .ref f_positive) x_OPERATIONS u_OPERATIONS v_OPERATIONS_5 rfl (fun _ _ => .adr a8) (DctOk.cons (v := .ref f_gate) x_OPERATIONS u_OPERATIONS v_OPERATIONS_6 rfl (fun _ _ => .adr a9) (DctOk.cons (v := .ref f_total) x_OPERATIONS u_OPERATIONS v_OPERATIONS_7 rfl (fun _ _ => .adr a10) (DctOk.cons (v := .ref f_spread) x_OPERATIONS u_OPERATIONS v_OPERATIONS_8 rfl (fun _ _ => .adr a11) (DctOk.cons (v := .ref f_stretch) x_OPERATIONS u_OPERATIONS v_OPERATIONS_9 rfl (fun _ _ => .adr a12) (DctOk.cons (v := .ref f_scale) x_OPERATIONS u_OPERATIONS v_OPERATIONS_10 rfl (fun _ _ => .adr a13) (DctOk.cons (v := .ref f_pick) x_OPERATIONS u_OPERATIONS v_OPERATIONS_11 rfl (fun _ _ => .adr a14) (DctOk.cons (v := .ref f_place) x_OPERATIONS u_OPERATIONS v_OPERATIONS_12 rfl (fun _ _ => .adr a15) (DctOk.cons (v := .ref f_fill) x_OPERATIONS u_OPERATIONS v_OPERATIONS_13 rfl (fun _ _ => .adr a16) DctOk.nil))))))))))))))⟩, PySem.W.mg_none_of X G z_abs, PySem.W.mg_none_of X G z_bool, PySem.W.mg_none_of X G z_int, PySem.W.mg_none_of X G z_isinstance, PySem.W.mg_none_of X G z_len, PySem.W.mg_none_of X G z_list, PySem.W.mg_none_of X G z_max, PySem.W.mg_none_of X G z_range, PySem.W.mg_none_of X G z_sum, PySem.W.mg_none_of X G z_tuple, PySem.W.mg_none_of X G z_zip, ⟨t_LIMIT, PySem.W.mg_of X G y_LIMIT⟩⟩
  exact ⟨_, fun s v => .of_eq rfl, fun base _ _ => law_of (ok_law T) law_true⟩
end LW
open PySem PySem.W PyProof.Rows
set_option maxRecDepth 100000 in
set_option maxHeartbeats 0 in
theorem PySem.Challenge.cw_lasttext_k30_tree_sums_holds : PySem.Challenge.rw_lasttext_k30_tree_sums.Holds := by
  w_on; o_law; k_head; (case hw => w_witness2)
  k_fill
  refine L2.walk_ofK (l := PySem.Challenge.rw_lasttext_k30_tree_sums) (n := 63) (k := 11) (x := "_law_script") (CX := L2.CX0) (sp := ML.spLaw) rfl (by decide) rfl ⟨rfl, by decide, by decide⟩ (fun w h Y => PySem.W.kIn_of Y) ?F (fun _ _ a ns hl _ hS => ⟨a, ns, rfl, hS, hl, fun _ => rfl⟩) (fun _ _ _ _ h => h)
  case F =>
    intro w mg fa h KX G hmg
    refine' LW.all_mk KX G hmg ?a0 ?l0 ?c0 ?k0 ?a1 ?l1 ?c1 ?k1 ?a2 ?l2 ?c2 ?k2 ?a3 ?l3 ?c3 ?k3 ?a4 ?l4 ?c4 ?k4 ?a5 ?l5 ?c5 ?k5 ?a6 ?l6 ?c6 ?k6 ?a7 ?l7 ?c7 ?k7 ?a8 ?l8 ?c8 ?k8 ?a9 ?l9 ?c9 ?k9 ?a10 ?l10 ?c10 ?k10 ?a11 ?l11 ?c11 ?k11 ?a12 ?l12 ?c12 ?k12 ?a13 ?l13 ?c13 ?k13 ?a14 ?l14 ?c14 ?k14 ?a15 ?l15 ?c15 ?k15 ?a16 ?l16 ?c16 ?k16 ?a17 ?l17 ?c17 ?k17 ?a18 ?l18 ?c18 ?k18 ?a19 ?l19 ?c19 ?k19 ?a20 ?l20 ?c20 ?k20 ?a21 ?l21 ?c21 ?k21 ?a22 ?l22 ?c22 ?k22 ?a23 ?l23 ?c23 ?k23 ?a24 ?l24 ?c24 ?k24 ?a25 ?l25 ?c25 ?k25 ?a26 ?l26 ?c26 ?k26 ?a27 ?l27 ?c27 ?k27 ?a28 ?l28 ?c28 ?k28 ?z_abs ?z_bool ?z_int ?z_isinstance ?z_len ?z_list ?z_max ?z_range ?z_sum ?z_tuple ?z_zip ?y_LIMIT ?w_COUNTS ?x_COUNTS ?u_COUNTS ?v_COUNTS_0 ?v_COUNTS_1 ?v_COUNTS_2 ?v_COUNTS_3 ?v_COUNTS_4 ?v_COUNTS_5 ?v_COUNTS_6 ?v_COUNTS_7 ?v_COUNTS_8 ?v_COUNTS_9 ?v_COUNTS_10 ?v_COUNTS_11 ?v_COUNTS_12 ?v_COUNTS_13 ?w_OPERATIONS ?x_OPERATIONS ?u_OPERATIONS ?v_OPERATIONS_0 ?v_OPERATIONS_1 ?v_OPERATIONS_2 ?v_OPERATIONS_3 ?v_OPERATIONS_4 ?v_OPERATIONS_5 ?v_OPERATIONS_6 ?v_OPERATIONS_7 ?v_OPERATIONS_8 ?v_OPERATIONS_9 ?v_OPERATIONS_10 ?v_OPERATIONS_11 ?v_OPERATIONS_12 ?v_OPERATIONS_13
    (case a0 => k_is)
    (case l0 => k_is)
    (case c0 => k_is)
    (case k0 => k_is)
    (case a1 => k_is)
    (case l1 => k_is)
    (case c1 => k_is)
    (case k1 => k_is)
    (case a2 => k_is)
    (case l2 => k_is)
    (case c2 => k_is)
    (case k2 => k_is)
    (case a3 => k_is)
    (case l3 => k_is)
    (case c3 => k_is)
    (case k3 => k_is)
    (case a4 => k_is)
    (case l4 => k_is)
    (case c4 => k_is)
    (case k4 => k_is)
    (case a5 => k_is)
    (case l5 => k_is)
    (case c5 => k_is)
    (case k5 => k_is)
    (case a6 => k_is)
    (case l6 => k_is)
    (case c6 => k_is)
    (case k6 => k_is)
    (case a7 => k_is)
    (case l7 => k_is)
    (case c7 => k_is)
    (case k7 => k_is)
    (case a8 => k_is)
    (case l8 => k_is)
    (case c8 => k_is)
    (case k8 => k_is)
    (case a9 => k_is)
    (case l9 => k_is)
    (case c9 => k_is)
    (case k9 => k_is)
    (case a10 => k_is)
    (case l10 => k_is)
    (case c10 => k_is)
    (case k10 => k_is)
    (case a11 => k_is)
    (case l11 => k_is)
    (case c11 => k_is)
    (case k11 => k_is)
    (case a12 => k_is)
    (case l12 => k_is)
    (case c12 => k_is)
    (case k12 => k_is)
    (case a13 => k_is)
    (case l13 => k_is)
    (case c13 => k_is)
    (case k13 => k_is)
    (case a14 => k_is)
    (case l14 => k_is)
    (case c14 => k_is)
    (case k14 => k_is)
    (case a15 => k_is)
    (case l15 => k_is)
    (case c15 => k_is)
    (case k15 => k_is)
    (case a16 => k_is)
    (case l16 => k_is)
    (case c16 => k_is)
    (case k16 => k_is)
    (case a17 => k_is)
    (case l17 => k_is)
    (case c17 => k_is)
    (case k17 => k_is)
    (case a18 => k_is)
    (case l18 => k_is)
    (case c18 => k_is)
    (case k18 => k_is)
    (case a19 => k_is)
    (case l19 => k_is)
    (case c19 => k_is)
    (case k19 => k_is)
    (case a20 => k_is)
    (case l20 => k_is)
    (case c20 => k_is)
    (case k20 => k_is)
    (case a21 => k_is)
    (case l21 => k_is)
    (case c21 => k_is)
    (case k21 => k_is)
    (case a22 => k_is)
    (case l22 => k_is)
    (case c22 => k_is)
    (case k22 => k_is)
    (case a23 => k_is)
    (case l23 => k_is)
    (case c23 => k_is)
    (case k23 => k_is)
    (case a24 => k_is)
    (case l24 => k_is)
    (case c24 => k_is)
    (case k24 => k_is)
    (case a25 => k_is)
    (case l25 => k_is)
    (case c25 => k_is)
    (case k25 => k_is)
    (case a26 => k_is)
    (case l26 => k_is)
    (case c26 => k_is)
    (case k26 => k_is)
    (case a27 => k_is)
    (case l27 => k_is)
    (case c27 => k_is)
    (case k27 => k_is)
    (case a28 => k_is)
    (case l28 => k_is)
    (case c28 => k_is)
    (case k28 => k_is)
    (case z_abs => k_is)
    (case z_bool => k_is)
    (case z_int => k_is)
    (case z_isinstance => k_is)
    (case z_len => k_is)
    (case z_list => k_is)
    (case z_max => k_is)
    (case z_range => k_is)
    (case z_sum => k_is)
    (case z_tuple => k_is)
    (case z_zip => k_is)
    (case y_LIMIT => k_is)
    (case w_COUNTS => k_is)
    (case x_COUNTS => k_is)
    (case u_COUNTS => (repeat (first | exact trivial | refine ⟨⟨_, _, rfl, rfl⟩, ?_⟩)))
    (case v_COUNTS_0 => k_is)
    (case v_COUNTS_1 => k_is)
    (case v_COUNTS_2 => k_is)
    (case v_COUNTS_3 => k_is)
    (case v_COUNTS_4 => k_is)
    (case v_COUNTS_5 => k_is)
    (case v_COUNTS_6 => k_is)
    (case v_COUNTS_7 => k_is)
    (case v_COUNTS_8 => k_is)
    (case v_COUNTS_9 => k_is)
    (case v_COUNTS_10 => k_is)
    (case v_COUNTS_11 => k_is)
    (case v_COUNTS_12 => k_is)
    (case v_COUNTS_13 => k_is)
    (case w_OPERATIONS => k_is)
    (case x_OPERATIONS => k_is)
    (case u_OPERATIONS => (repeat (first | exact trivial | refine ⟨⟨_, _, rfl, rfl⟩, ?_⟩)))
    (case v_OPERATIONS_0 => k_is)
    (case v_OPERATIONS_1 => k_is)
    (case v_OPERATIONS_2 => k_is)
    (case v_OPERATIONS_3 => k_is)
    (case v_OPERATIONS_4 => k_is)
    (case v_OPERATIONS_5 => k_is)
    (case v_OPERATIONS_6 => k_is)
    (case v_OPERATIONS_7 => k_is)
    (case v_OPERATIONS_8 => k_is)
    (case v_OPERATIONS_9 => k_is)
    (case v_OPERATIONS_10 => k_is)
    (case v_OPERATIONS_11 => k_is)
    (case v_OPERATIONS_12 => k_is)
    (case v_OPERATIONS_13 => k_is)
